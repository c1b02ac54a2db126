import PyProof.Rows.All
import Wide.All
import OpenK.AllK
import Wide.FinOn
import HandS.ForMost
import HandS.ForExc
import HandS.IsInst
import HandS.Wide
import HandS.Flow
import HandS.ExcOwn
import HandS.Zip
import HandS.TupAny
import KE.GoesEnum
import KE.GoesMore
import HandS.StrMore
import HandS.ExcIs
import HandS.TryOnly
import PySem.Challenge.RW_cardhouse_k03_cutting_and_rounding
set_option Elab.async false
/-! CdCore: a small functional reading of the Python that the laws use: values, a heap of lists, results, combinators. No program in sight. -/
namespace Cd
noncomputable section
open Classical

/-- a value: tuples lie inline, a list (a dict, an instance) is a place of the heap -/
inductive Val where
  | non | bl (b : Bool) | int (i : Int) | str (s : List Nat) | tup (l : List Val) | fl (l : List Val) | ref (n : Nat) | exo (a : Nat)

/-- what stands at a place: a list, a dict, an instance; a list that is only read lies inline (fl) -/
inductive Obj where
  | lst (l : List Val)
  | dct (l : List (Val × Val))
  | ins (c : String) (fs : List (String × Val))

abbrev Hep := List Obj
/-- a written text -/
def S (s : String) : List Nat := s.toList.map Char.toNat
/-- an exception: its class, its arguments (fields) -/
structure Exc where
  cls : String
  args : List Val

inductive Res (α : Type) where
  | ok (a : α) (h : Hep)
  | exc (e : Exc) (h : Hep)
  | stuck

def Res.bind {α β : Type} (r : Res α) (f : α → Hep → Res β) : Res β :=
  match r with
  | .ok a h => f a h
  | .exc e h => .exc e h
  | .stuck => .stuck
@[simp] theorem Res.bind_ok {α β : Type} (a : α) (h : Hep) (f : α → Hep → Res β) : (Res.ok a h).bind f = f a h := id rfl
@[simp] theorem Res.bind_exc {α β : Type} (e : Exc) (h : Hep) (f : α → Hep → Res β) : (Res.exc e h : Res α).bind f = .exc e h := id rfl
@[simp] theorem Res.bind_stuck {α β : Type} (f : α → Hep → Res β) : (Res.stuck : Res α).bind f = .stuck := id rfl

abbrev Env := List (Option Val)
abbrev EM := Env → Hep → Res Val
abbrev TM := Env → Hep → Res Bool
abbrev AM := Env → Hep → Res (List Val)
abbrev Fn := List Val → Hep → Res Val

/-- how a statement ends -/
inductive SR where
  | nx (η : Env) (h : Hep)
  | brk (η : Env) (h : Hep)
  | cont (η : Env) (h : Hep)
  | ret (v : Val) (h : Hep)
  | exc (e : Exc) (η : Env) (h : Hep)
  | stuck
abbrev SM := Env → Hep → SR
def SR.bind (r : SR) (f : Env → Hep → SR) : SR :=
  match r with
  | .nx η h => f η h
  | r => r
@[simp] theorem SR.bind_nx (η : Env) (h : Hep) (f : Env → Hep → SR) : (SR.nx η h).bind f = f η h := id rfl
@[simp] theorem SR.bind_brk (η : Env) (h : Hep) (f : Env → Hep → SR) : (SR.brk η h).bind f = .brk η h := id rfl
@[simp] theorem SR.bind_cont (η : Env) (h : Hep) (f : Env → Hep → SR) : (SR.cont η h).bind f = .cont η h := id rfl
@[simp] theorem SR.bind_ret (v : Val) (h : Hep) (f : Env → Hep → SR) : (SR.ret v h).bind f = .ret v h := id rfl
@[simp] theorem SR.bind_exc (e : Exc) (η : Env) (h : Hep) (f : Env → Hep → SR) : (SR.exc e η h).bind f = .exc e η h := id rfl
@[simp] theorem SR.bind_stuck (f : Env → Hep → SR) : SR.stuck.bind f = .stuck := id rfl
/-- an expression's result within a statement -/
def Res.thn {α : Type} (r : Res α) (η : Env) (f : α → Hep → SR) : SR :=
  match r with
  | .ok a h => f a h
  | .exc e h => .exc e η h
  | .stuck => .stuck
@[simp] theorem Res.thn_ok {α : Type} (a : α) (h : Hep) (η : Env) (f : α → Hep → SR) : (Res.ok a h).thn η f = f a h := id rfl
@[simp] theorem Res.thn_exc {α : Type} (e : Exc) (h : Hep) (η : Env) (f : α → Hep → SR) : (Res.exc e h : Res α).thn η f = .exc e η h := id rfl
@[simp] theorem Res.thn_stuck {α : Type} (η : Env) (f : α → Hep → SR) : (Res.stuck : Res α).thn η f = .stuck := id rfl

/-- a choice that may be missing -/
def ofO {α : Type} (o : Option α) (h : Hep) : Res α :=
  match o with
  | some a => .ok a h
  | none => .stuck
@[simp] theorem ofO_some {α : Type} (a : α) (h : Hep) : ofO (some a) h = .ok a h := id rfl
@[simp] theorem ofO_none {α : Type} (h : Hep) : ofO (none : Option α) h = .stuck := id rfl

/-! ### expressions -/
def eVar (i : Nat) : EM := fun η h => match η[i]? with | some (some v) => .ok v h | _ => .stuck
def eC (v : Val) : EM := fun _ h => .ok v h
/-- an operator on two values that makes no object -/
def eBin (f : Hep → Val → Val → Option Val) (a b : EM) : EM := fun η h => (a η h).bind fun x h1 => (b η h1).bind fun y h2 => ofO (f h2 x y) h2
def eUn (f : Hep → Val → Option Val) (a : EM) : EM := fun η h => (a η h).bind fun x h1 => ofO (f h1 x) h1
def aNil : AM := fun _ h => .ok [] h
def aCons (a : EM) (r : AM) : AM := fun η h => (a η h).bind fun x h1 => (r η h1).bind fun xs h2 => .ok (x :: xs) h2
/-- the largest size of a list, a tuple, a text -/
def line : Nat := Classical.choose (⟨16777216, rfl⟩ : ∃ n : Nat, n = 16777216)
theorem line_is : line = 16777216 := Classical.choose_spec (⟨16777216, rfl⟩ : ∃ n : Nat, n = 16777216)
def szOk (n : Nat) : Prop := n ≤ line
def eTup (a : AM) : EM := fun η h => (a η h).bind fun xs h1 => if szOk xs.length then .ok (.tup xs) h1 else .stuck
def eLst (a : AM) : EM := fun η h => (a η h).bind fun xs h1 => if szOk xs.length then .ok (.ref h1.length) (h1 ++ [.lst xs]) else .stuck
/-- a def, or a built-in function, of the argument list -/
def eCall (F : Fn) (a : AM) : EM := fun η h => (a η h).bind fun xs h1 => F xs h1
def eIf (c : TM) (a b : EM) : EM := fun η h => (c η h).bind fun k h1 => if k then a η h1 else b η h1
/-- x and y, x or y, as values: all but the last are truths -/
def eAnd (a b : EM) : EM := fun η h => (a η h).bind fun x h1 => match x with | .bl true => b η h1 | .bl false => .ok (.bl false) h1 | _ => .stuck
def eOr (a b : EM) : EM := fun η h => (a η h).bind fun x h1 => match x with | .bl true => .ok (.bl true) h1 | .bl false => b η h1 | _ => .stuck
def eNot (a : EM) : EM := fun η h => (a η h).bind fun x h1 => match x with | .bl k => .ok (.bl (!k)) h1 | _ => .stuck

/-! ### tests -/
def tVal (a : EM) : TM := fun η h => (a η h).bind fun x h1 => match x with | .bl k => .ok k h1 | _ => .stuck
def tAnd (a b : TM) : TM := fun η h => (a η h).bind fun k h1 => if k then b η h1 else .ok false h1
def tOr (a b : TM) : TM := fun η h => (a η h).bind fun k h1 => if k then .ok true h1 else b η h1
def tNot (a : TM) : TM := fun η h => (a η h).bind fun k h1 => .ok (!k) h1
/-- the truth of a value -/
def truth (h : Hep) : Val → Option Bool
  | .non => some false
  | .bl k => some k
  | .int i => some (i != 0)
  | .str s => if szOk s.length then some (s.length != 0) else none
  | .tup l => some (!l.isEmpty)
  | .fl l => some (!l.isEmpty)
  | .ref n => match h[n]? with
    | some (.lst l) => some (!l.isEmpty)
    | some (.dct l) => some (!l.isEmpty)
    | _ => none
  | .exo _ => none
def tTru (a : EM) : TM := fun η h => (a η h).bind fun x h1 => ofO (truth h1 x) h1

/-! ### operators -/
def mulOk (i j : Int) : Prop := (-(2 ^ 64) < i ∧ i < 2 ^ 64) ∨ (-(2 ^ 64) < j ∧ j < 2 ^ 64) ∨ i.natAbs.log2 + j.natAbs.log2 < 1000000
def divOk (j : Int) : Prop := 0 < j ∧ j.natAbs.log2 < 9000
def powOk (i j : Int) : Prop := 0 ≤ j ∧ j ≤ 1000000 ∧ i.natAbs < 2 ^ 64
def mdOk (j : Int) : Prop := 0 < j
def oAdd (_ : Hep) : Val → Val → Option Val
  | .int i, .int j => some (.int (i + j))
  | .str s, .str t => if szOk (s.length + t.length) then some (.str (s ++ t)) else none
  | .tup l, .tup m => if l.isEmpty then none else if szOk (l.length + m.length) then some (.tup (l ++ m)) else none
  | _, _ => none
/-- += of integers, of texts -/
def oIAdd (_ : Hep) : Val → Val → Option Val
  | .int i, .int j => some (.int (i + j))
  | .str s, .str t => if szOk (s.length + t.length) then some (.str (s ++ t)) else none
  | _, _ => none
def oSub (_ : Hep) : Val → Val → Option Val
  | .int i, .int j => some (.int (i - j))
  | _, _ => none
def oMul (_ : Hep) : Val → Val → Option Val
  | .int i, .int j => if mulOk i j then some (.int (i * j)) else none
  | _, _ => none
def oDiv (_ : Hep) : Val → Val → Option Val
  | .int i, .int j => if divOk j then some (.int (i / j)) else none
  | _, _ => none
def oMod (_ : Hep) : Val → Val → Option Val
  | .int i, .int j => if mdOk j then some (.int (i % j)) else none
  | _, _ => none
def oPow (_ : Hep) : Val → Val → Option Val
  | .int i, .int j => if powOk i j then some (.int (i ^ j.toNat)) else none
  | _, _ => none
def oNeg (_ : Hep) : Val → Option Val
  | .int i => some (.int (-i))
  | _ => none
def oLt (_ : Hep) : Val → Val → Option Val
  | .int i, .int j => some (.bl (decide (i < j)))
  | .str s, .str t => some (.bl (decide (s < t)))
  | _, _ => none
def oLe (_ : Hep) : Val → Val → Option Val
  | .int i, .int j => some (.bl (decide (i ≤ j)))
  | .str s, .str t => some (.bl (!decide (t < s)))
  | _, _ => none
def oGt (_ : Hep) : Val → Val → Option Val
  | .int i, .int j => some (.bl (decide (j < i)))
  | .str s, .str t => some (.bl (decide (t < s)))
  | _, _ => none
def oGe (_ : Hep) : Val → Val → Option Val
  | .int i, .int j => some (.bl (decide (j ≤ i)))
  | .str s, .str t => some (.bl (!decide (s < t)))
  | _, _ => none
/-- data: a value with all that lies in it -/
inductive Dat where
  | non | bl (b : Bool) | int (i : Int) | str (s : List Nat) | lst (l : List Dat) | tup (l : List Dat)
mutual
def Dat.eqv : Dat → Dat → Bool
  | .non, .non => true
  | .bl a, .bl b => a == b
  | .bl a, .int j => (if a then 1 else 0) == j
  | .int i, .bl b => i == (if b then 1 else 0)
  | .int i, .int j => i == j
  | .str s, .str t => s == t
  | .lst l, .lst m => Dat.eqvs l m
  | .tup l, .tup m => Dat.eqvs l m
  | _, _ => false
def Dat.eqvs : List Dat → List Dat → Bool
  | [], [] => true
  | a :: l, b :: m => Dat.eqv a b && Dat.eqvs l m
  | _, _ => false
end
/-- characters that there are -/
def chOk (s : List Nat) : Prop := ∀ c ∈ s, c < 1114112
mutual
/-- the data of a value, at most n deep -/
def rsl (h : Hep) : Nat → Val → Option Dat
  | _, .non => some .non
  | _, .bl b => some (.bl b)
  | _, .int i => some (.int i)
  | _, .str s => if chOk s then some (.str s) else none
  | 0, _ => none
  | n + 1, .tup l => (rsls h n l).map .tup
  | n + 1, .fl l => (rsls h n l).map .lst
  | n + 1, .ref a => match h[a]? with
    | some (.lst l) => (rsls h n l).map .lst
    | _ => none
  | _ + 1, .exo _ => none
def rsls (h : Hep) (n : Nat) : List Val → Option (List Dat)
  | [] => some []
  | v :: l => match rsl h n v with
    | some d => (rsls h n l).map (d :: ·)
    | none => none
end

/-- == of data -/
def scl : Val → Val → Option Bool
  | .int i, .int j => some (i == j)
  | .str s, .str t => some (s == t)
  | .bl a, .bl b => some (a == b)
  | .non, .non => some true
  | .non, .int _ => some false
  | .non, .bl _ => some false
  | .non, .str _ => some false
  | .int _, .non => some false
  | .bl _, .non => some false
  | .str _, .non => some false
  | .int _, .str _ => some false
  | .str _, .int _ => some false
  | .bl _, .str _ => some false
  | .str _, .bl _ => some false
  | _, _ => none
def vEq (h : Hep) (a b : Val) : Option Bool :=
  match scl a b with
  | some k => some k
  | none => match rsl h 40 a, rsl h 40 b with
    | some x, some y => some (x.eqv y)
    | _, _ => none
def oEq (h : Hep) (a b : Val) : Option Val := (vEq h a b).map .bl
def oNe (h : Hep) (a b : Val) : Option Val := (vEq h a b).map fun k => .bl (!k)
def isNon : Val → Bool
  | .non => true
  | _ => false
def oIsN (_ : Hep) (a b : Val) : Option Val := match b with | .non => some (.bl (isNon a)) | _ => none
def oNotN (_ : Hep) (a b : Val) : Option Val := match b with | .non => some (.bl (!isNon a)) | _ => none
/-- the place of a subscript -/
def ixN (n : Nat) (i : Int) : Option Nat := if 0 ≤ i then (if i < n then some i.toNat else none) else if -(n : Int) ≤ i then some (i + n).toNat else none
def atI {α : Type} (xs : List α) (i : Int) : Option α := (ixN xs.length i).bind fun j => xs[j]?
def oIdx (h : Hep) : Val → Val → Option Val
  | .tup l, .int i => atI l i
  | .fl l, .int i => atI l i
  | .str s, .int i => if szOk s.length then (atI s i).map fun c => .str [c] else none
  | .ref n, .int i => match h[n]? with
    | some (.lst l) => atI l i
    | _ => none
  | _, _ => none
/-! ### statements -/
def sNop : SM := fun η h => .nx η h
def sBrk : SM := fun η h => .brk η h
def sCont : SM := fun η h => .cont η h
def sSeq (a b : SM) : SM := fun η h => (a η h).bind fun η1 h1 => b η1 h1
def sSet (i : Nat) (e : EM) : SM := fun η h => (e η h).thn η fun v h1 => .nx (η.set i (some v)) h1
def sExpr (e : EM) : SM := fun η h => (e η h).thn η fun _ h1 => .nx η h1
def sRet (e : EM) : SM := fun η h => (e η h).thn η fun v h1 => .ret v h1
def sRetN : SM := fun _ h => .ret .non h
def sIf (c : TM) (a b : SM) : SM := fun η h => (c η h).thn η fun k h1 => if k then a η h1 else b η h1
def sAug (i : Nat) (f : Hep → Val → Val → Option Val) (e : EM) : SM := fun η h => match η[i]? with
  | some (some x) => (e η h).thn η fun y h1 => (ofO (f h1 x y) h1).thn η fun z h2 => .nx (η.set i (some z)) h2
  | _ => .stuck
/-- n turns of a while at most -/
def whileN (c : TM) (b : SM) : Nat → Env → Hep → SR
  | 0, _, _ => .stuck
  | n + 1, η, h => (c η h).thn η fun k h1 => if k then
      match b η h1 with
      | .nx η' h' => whileN c b n η' h'
      | .cont η' h' => whileN c b n η' h'
      | .brk η' h' => .nx η' h'
      | r => r
    else .nx η h1
def sWhile (c : TM) (b : SM) : SM := fun η h => if q : ∃ n, whileN c b n η h ≠ .stuck then whileN c b q.choose η h else .stuck
theorem whileN_mono {c : TM} {b : SM} : ∀ (n : Nat) (η : Env) (h : Hep), whileN c b n η h ≠ .stuck → whileN c b (n + 1) η h = whileN c b n η h
  | 0, η, h, q => absurd rfl q
  | n + 1, η, h, q => by
    rw [whileN] at q ⊢
    rw [whileN]
    cases ec : c η h with
    | ok k h1 =>
      rw [ec] at q
      simp only [Res.thn_ok] at q ⊢
      cases k with
      | false => rfl
      | true =>
        simp only [if_true] at q ⊢
        cases eb : b η h1 with
        | nx η' h' => rw [eb] at q; simp only at q ⊢; exact whileN_mono n η' h' q
        | cont η' h' => rw [eb] at q; simp only at q ⊢; exact whileN_mono n η' h' q
        | brk η' h' => rfl
        | ret v h' => rfl
        | exc e η' h' => rfl
        | stuck => rfl
    | exc e h1 => rfl
    | stuck => rfl
theorem whileN_le {c : TM} {b : SM} {η : Env} {h : Hep} {n m : Nat} (q : whileN c b n η h ≠ .stuck) (l : n ≤ m) : whileN c b m η h = whileN c b n η h := by
  induction l with
  | refl => rfl
  | step l ih => rw [whileN_mono _ _ _ (by rw [ih]; exact q), ih]
theorem sWhile_of {c : TM} {b : SM} {η : Env} {h : Hep} {n : Nat} (q : whileN c b n η h ≠ .stuck) : sWhile c b η h = whileN c b n η h := by
  have e : ∃ n, whileN c b n η h ≠ .stuck := ⟨n, q⟩
  unfold sWhile
  rw [dif_pos e]
  rcases Nat.le_total n e.choose with l | l
  · exact whileN_le q l
  · exact (whileN_le e.choose_spec l).symm
theorem sWhile_stuck {c : TM} {b : SM} {η : Env} {h : Hep} (q : ¬ ∃ n, whileN c b n η h ≠ .stuck) : sWhile c b η h = .stuck := by
  unfold sWhile
  rw [dif_neg q]
/-- one turn of a while -/
theorem sWhile_eq (c : TM) (b : SM) (η : Env) (h : Hep) : sWhile c b η h = (c η h).thn η fun k h1 => if k then
      match b η h1 with
      | .nx η' h' => sWhile c b η' h'
      | .cont η' h' => sWhile c b η' h'
      | .brk η' h' => .nx η' h'
      | r => r
    else .nx η h1 := by
  by_cases q : ∃ n, whileN c b n η h ≠ .stuck
  · obtain ⟨n, q⟩ := q
    rw [sWhile_of q]
    cases n with
    | zero => exact absurd rfl q
    | succ n =>
      rw [whileN] at q ⊢
      cases ec : c η h with
      | ok k h1 =>
        rw [ec] at q
        simp only [Res.thn_ok] at q ⊢
        cases k with
        | false => rfl
        | true =>
          simp only [if_true] at q ⊢
          cases eb : b η h1 with
          | nx η' h' => rw [eb] at q; simp only at q ⊢; exact (sWhile_of q).symm
          | cont η' h' => rw [eb] at q; simp only at q ⊢; exact (sWhile_of q).symm
          | brk η' h' => rfl
          | ret v h' => rfl
          | exc e η' h' => rfl
          | stuck => rfl
      | exc e h1 => rfl
      | stuck => rfl
  · have all : ∀ n, whileN c b n η h = .stuck := fun n => Classical.byContradiction fun z => q ⟨n, z⟩
    rw [sWhile_stuck q]
    have q1 : ∀ n, whileN c b (n + 1) η h = .stuck := fun n => all (n + 1)
    simp only [whileN] at q1
    cases ec : c η h with
    | ok k h1 =>
      rw [ec] at q1
      simp only [Res.thn_ok] at q1 ⊢
      cases k with
      | false => exact absurd (q1 0) (by simp)
      | true =>
        simp only [if_true] at q1 ⊢
        cases eb : b η h1 with
        | nx η' h' =>
          rw [eb] at q1
          exact (sWhile_stuck fun ⟨n, z⟩ => z (q1 n)).symm
        | cont η' h' =>
          rw [eb] at q1
          exact (sWhile_stuck fun ⟨n, z⟩ => z (q1 n)).symm
        | brk η' h' => rw [eb] at q1; exact absurd (q1 0) (by simp)
        | ret v h' => rw [eb] at q1; exact absurd (q1 0) (by simp)
        | exc e η' h' => rw [eb] at q1; exact absurd (q1 0) (by simp)
        | stuck => rfl
    | exc e h1 => rw [ec] at q1; exact absurd (q1 0) (by simp)
    | stuck => rfl
/-- the targets of a store -/
abbrev GM := Val → Env → Option Env
def gNam (i : Nat) : GM := fun v η => some (η.set i (some v))
abbrev GMs := List Val → Env → Option Env
def gsNil : GMs := fun vs η => match vs with | [] => some η | _ => none
def gsCons (g : GM) (r : GMs) : GMs := fun vs η => match vs with | v :: t => (g v η).bind fun η1 => r t η1 | [] => none
def gTpl (gs : GMs) : GM := fun v η => match v with | .tup l => gs l η | _ => none
def sAsg (g : GM) (e : EM) : SM := fun η h => (e η h).thn η fun v h1 => match g v η with | some η1 => .nx η1 h1 | none => .stuck
/-- what a for walks: the items, and whether what they come from still stands -/
abbrev IM := Env → Hep → Res (List Val × (Hep → Bool))
def forL (g : GM) (chk : Hep → Bool) (b : SM) : List Val → Env → Hep → SR
  | [], η, h => if chk h then .nx η h else .stuck
  | x :: xs, η, h => if chk h then
      match g x η with
      | some η1 => match b η1 h with
        | .nx η' h' => forL g chk b xs η' h'
        | .cont η' h' => forL g chk b xs η' h'
        | .brk η' h' => .nx η' h'
        | r => r
      | none => .stuck
    else .stuck
def sFor (it : IM) (g : GM) (b : SM) : SM := fun η h => (it η h).thn η fun p h1 => forL g p.2 b p.1 η h1
def isLst (n : Nat) (l : List Val) (h : Hep) : Prop := h[n]? = some (.lst l)
/-- the items of a value -/
def items (h : Hep) : Val → Option (List Val × (Hep → Bool))
  | .tup l => some (l, fun _ => true)
  | .fl l => some (l, fun _ => true)
  | .str s => some (s.map fun c => .str [c], fun _ => true)
  | .ref n => match h[n]? with
    | some (.lst l) => some (l, fun h' => decide (isLst n l h'))
    | _ => none
  | _ => none
def iVal (e : EM) : IM := fun η h => (e η h).bind fun v h1 => ofO (items h1 v) h1
def rng (lo : Int) (n : Nat) : List Val := (List.range n).map fun (i : Nat) => .int (lo + (i : Int))
def i62 (i : Int) : Prop := -(2 ^ 62) ≤ i ∧ i < 2 ^ 62
/-- what a call of a built-in walks, by its arguments -/
def iArgs (f : Hep → List Val → Option (List Val × (Hep → Bool))) (a : AM) : IM := fun η h => (a η h).bind fun vs h1 => ofO (f h1 vs) h1
def fRng1 (_ : Hep) : List Val → Option (List Val × (Hep → Bool))
  | [.int j] => if i62 j then some (rng 0 j.toNat, fun _ => true) else none
  | _ => none
def fRng2 (_ : Hep) : List Val → Option (List Val × (Hep → Bool))
  | [.int i, .int j] => if i62 i ∧ i62 j then some (rng i (j - i).toNat, fun _ => true) else none
  | _ => none
/-- a def: n parameters, all names' slots, the body -/
def fn (n N : Nat) (b : SM) : Fn := fun vs h => if vs.length = n then
    match b (vs.map some ++ List.replicate (N - n) none) h with
    | .nx _ h' => .ok .non h'
    | .ret v h' => .ok v h'
    | .exc e _ h' => .exc e h'
    | _ => .stuck
  else .stuck
/-- a built-in function -/
abbrev BFn := List Val → Hep → Option (Val × Hep)
def eCallB (F : BFn) (a : AM) : EM := fun η h => (a η h).bind fun xs h1 => match F xs h1 with | some (v, h2) => .ok v h2 | none => .stuck
/-! ### exceptions -/
def sRaise (c : String) : SM := fun η h => .exc ⟨c, []⟩ η h
/-- behind a suite: the name of the exception is gone; a suite that raises is not told -/
def SR.forget (i : Nat) : SR → SR
  | .nx η h => .nx (η.set i none) h
  | .brk η h => .brk (η.set i none) h
  | .cont η h => .cont (η.set i none) h
  | .exc _ _ _ => .stuck
  | r => r
/-- try .. except C as e: tbl tells of each class whether C names it -/
def sTry (tbl : List (String × Bool)) (i : Nat) (b : SM) (hd : Exc → Nat → SM) : SM := fun η h => match b η h with
  | .exc x η' h' => match tbl.lookup x.cls with
    | some true => if ∀ a, (hd x a (η'.set i (some (.exo a))) h').forget i = (hd x 0 (η'.set i (some (.exo 0))) h').forget i then (hd x 0 (η'.set i (some (.exo 0))) h').forget i else .stuck
    | some false => .exc x η' h'
    | none => .stuck
  | r => r
def SR.quiet : SR → SR
  | .exc _ _ _ => .stuck
  | r => r
/-- try .. except C -/
def sTryO (tbl : List (String × Bool)) (b : SM) (hd : SM) : SM := fun η h => match b η h with
  | .exc x η' h' => match tbl.lookup x.cls with
    | some true => (hd η' h').quiet
    | some false => .exc x η' h'
    | none => .stuck
  | r => r
/-- isinstance(e, D), e the exception that the suite holds -/
def eIsE (tbl : List (String × Bool)) (x : Exc) (a : Nat) (m : EM) : EM := fun η h => (m η h).bind fun v h1 => match v with
  | .exo b => if b = a then (if x.args = [] then (match tbl.lookup x.cls with | some k => .ok (.bl k) h1 | none => .stuck) else .stuck) else .stuck
  | _ => .stuck
/-! ### built-in functions -/
def bLen : BFn := fun vs h => match vs with
  | [.str s] => if szOk s.length then some (.int s.length, h) else none
  | [.tup l] => some (.int l.length, h)
  | [.fl l] => some (.int l.length, h)
  | [.ref n] => match h[n]? with
    | some (.lst l) => some (.int l.length, h)
    | _ => none
  | _ => none
def bAbs : BFn := fun vs h => match vs with
  | [.int i] => some (.int (if i < 0 then -i else i), h)
  | _ => none
def bMax2 : BFn := fun vs h => match vs with
  | [.int i, .int j] => some (.int (if j > i then j else i), h)
  | _ => none
def bMin2 : BFn := fun vs h => match vs with
  | [.int i, .int j] => some (.int (if j < i then j else i), h)
  | _ => none
def bInt : BFn := fun vs h => match vs with
  | [.int i] => some (.int i, h)
  | [.bl k] => some (.int (if k then 1 else 0), h)
  | _ => none
/-- list(..) of a list or a tuple; tuple(..) -/
def bList : BFn := fun vs h => match vs with
  | [.tup l] => some (.ref h.length, h ++ [.lst l])
  | [.fl l] => some (.ref h.length, h ++ [.lst l])
  | [.ref n] => match h[n]? with
    | some (.lst l) => some (.ref h.length, h ++ [.lst l])
    | _ => none
  | _ => none
def bTuple : BFn := fun vs h => match vs with
  | [.tup l] => some (.tup l, h)
  | [.fl l] => some (.tup l, h)
  | [.ref n] => match h[n]? with
    | some (.lst l) => some (.tup l, h)
    | _ => none
  | _ => none
def bls : List Val → Option (List Bool)
  | [] => some []
  | .bl b :: l => (bls l).map (b :: ·)
  | _ :: _ => none
def itsL (h : Hep) : Val → Option (List Val)
  | .fl l => some l
  | .ref n => match h[n]? with
    | some (.lst l) => some l
    | _ => none
  | _ => none
def bAll : BFn := fun vs h => match vs with
  | [v] => match (itsL h v).bind bls with
    | some bs => some (.bl (bs.all id), h)
    | none => none
  | _ => none
def bAny : BFn := fun vs h => match vs with
  | [v] => match (itsL h v).bind bls with
    | some bs => some (.bl (bs.any id), h)
    | none => none
  | _ => none
/-! ### isinstance -/
/-- the name of a value's built-in type -/
def typ (h : Hep) : Val → Option String
  | .non => some "NoneType"
  | .bl _ => some "bool"
  | .int _ => some "int"
  | .str _ => some "str"
  | .tup _ => some "tuple"
  | .fl _ => some "list"
  | .ref n => match h[n]? with
    | some (.lst _) => some "list"
    | some (.dct _) => some "dict"
    | _ => none
  | .exo _ => none
def isT (t n : String) : Bool := t == n || (t == "bool" && n == "int")
def oIsi (n : String) (h : Hep) (v : Val) : Option Val := (typ h v).map fun t => .bl (isT t n)
/-! ### lists that change -/
def setIx (h : Hep) : Val → Val → Val → Option Hep
  | .ref n, .int k, v => match h[n]? with
    | some (.lst l) => match ixN l.length k with
      | some j => some (h.set n (.lst (l.set j v)))
      | none => none
    | _ => none
  | _, _, _ => none
/-- o[i] = e: the value first -/
def sSetIx (o i e : EM) : SM := fun η h => (e η h).thn η fun v h1 => (o η h1).thn η fun x h2 => (i η h2).thn η fun k h3 => match setIx h3 x k v with
  | some h4 => .nx η h4
  | none => .stuck
/-- an item of a list that may change -/
def oIdxL (h : Hep) : Val → Val → Option Val
  | .ref n, .int i => match h[n]? with
    | some (.lst l) => atI l i
    | _ => none
  | _, _ => none
/-- o[i] op= e -/
def sAugIx (f : Hep → Val → Val → Option Val) (o i e : EM) : SM := fun η h => (o η h).thn η fun x h1 => (i η h1).thn η fun k h2 => (ofO (oIdxL h2 x k) h2).thn η fun y h3 => (e η h3).thn η fun z h4 => (ofO (f h4 y z) h4).thn η fun v h5 =>
  match setIx h5 x k v with
  | some h6 => .nx η h6
  | none => .stuck
/-- o.m(..), a method of a built-in type T -/
def eMth (T : String) (F : Val → BFn) (o : EM) (a : AM) : EM := fun η h => (o η h).bind fun x h1 => if typ h1 x = some T then (a η h1).bind fun xs h2 => (match F x xs h2 with | some (v, h3) => .ok v h3 | none => .stuck) else .stuck
def mAppend : Val → BFn := fun x vs h => match x, vs with
  | .ref n, [v] => match h[n]? with
    | some (.lst l) => if szOk (l.length + 1) then some (.non, h.set n (.lst (l ++ [v]))) else none
    | _ => none
  | _, _ => none
def mExtend : Val → BFn := fun x vs h => match x, vs with
  | .ref n, [.ref m] => match h[n]?, h[m]? with
    | some (.lst l), some (.lst k) => if szOk (l.length + k.length) then some (.non, h.set n (.lst (l ++ k))) else none
    | _, _ => none
  | _, _ => none
def mPop : Val → BFn := fun x vs h => match x, vs with
  | .ref n, [] => match h[n]? with
    | some (.lst l) => match l[l.length - 1]? with
      | some v => some (v, h.set n (.lst l.dropLast))
      | none => none
    | _ => none
  | _, _ => none
/-! ### slices -/
def sIx (n d : Nat) : Option Int → Nat
  | none => d
  | some v => if v < 0 then (v + (n : Int)).toNat else min v.toNat n
def cut {α : Type} (l : List α) (lo hi : Option Int) : List α := (l.drop (sIx l.length 0 lo)).take (sIx l.length l.length hi - sIx l.length 0 lo)
abbrev PM := Env → Hep → Res (Option Int)
def pNo : PM := fun _ h => .ok none h
def pSome (e : EM) : PM := fun η h => (e η h).bind fun x h1 => match x with | .int i => .ok (some i) h1 | _ => .stuck
def oSl (h : Hep) (x : Val) (lo hi : Option Int) : Option (Val × Hep) := match x with
  | .str s => if szOk s.length then some (.str (cut s lo hi), h) else none
  | .tup l => some (.tup (cut l lo hi), h)
  | .fl l => some (.ref h.length, h ++ [.lst (cut l lo hi)])
  | .ref n => match h[n]? with
    | some (.lst l) => some (.ref h.length, h ++ [.lst (cut l lo hi)])
    | _ => none
  | _ => none
def eSl (o : EM) (lo hi : PM) : EM := fun η h => (o η h).bind fun x h1 => (lo η h1).bind fun l h2 => (hi η h2).bind fun u h3 => match oSl h3 x l u with | some (v, h4) => .ok v h4 | none => .stuck
/-! ### comprehensions -/
/-- the block's own slots forgotten -/
def wipe (η : Env) : List Nat → Env
  | [] => η
  | v :: vs => (wipe η vs).set v none
def compL (g : GM) (chk : Hep → Bool) (c : TM) (e : EM) (η : Env) : List Val → Hep → Res (List Val)
  | [], h => if chk h then .ok [] h else .stuck
  | x :: xs, h => if chk h then
      match g x η with
      | some η1 => match c η1 h with
        | .ok k h1 => if k then
            match e η1 h1 with
            | .ok y h2 => (compL g chk c e η xs h2).bind fun ys h3 => .ok (y :: ys) h3
            | _ => .stuck
          else compL g chk c e η xs h1
        | _ => .stuck
      | none => .stuck
    else .stuck
def tTrue : TM := fun _ h => .ok true h
def eComp (vs : List Nat) (it : IM) (g : GM) (c : TM) (e : EM) : EM := fun η h => (it η h).bind fun p h1 => (compL g p.2 c e (wipe η vs) p.1 h1).bind fun ys h2 => if szOk ys.length then .ok (.ref h2.length) (h2 ++ [.lst ys]) else .stuck
/-! ### in -/
def flat : Val → Bool
  | .non => true
  | .bl _ => true
  | .int _ => true
  | .str _ => true
  | _ => false
def eqF : Val → Val → Bool
  | .non, .non => true
  | .bl a, .bl b => a == b
  | .bl a, .int b => (if a then 1 else 0) == b
  | .int a, .bl b => a == (if b then 1 else 0)
  | .int a, .int b => a == b
  | .str a, .str b => a == b
  | _, _ => false
def seqOf (h : Hep) : Val → Option (List Val)
  | .tup l => some l
  | .fl l => some l
  | .ref n => match h[n]? with
    | some (.lst l) => some l
    | _ => none
  | _ => none
def isIn (h : Hep) (a b : Val) : Option Bool :=
  match a, b with
  | .str [c], .str s => some (decide (c ∈ s))
  | _, .str _ => none
  | _, _ => match seqOf h b with
    | some l => if flat a && l.all flat then some (l.any fun y => eqF y a) else none
    | none => none
def oIn (h : Hep) (a b : Val) : Option Val := (isIn h a b).map .bl
def oNin (h : Hep) (a b : Val) : Option Val := (isIn h a b).map fun k => .bl (!k)
/-! ### what a for walks, more -/
/-- the items of a list or tuple, and whether it stands -/
def itemsS (h : Hep) : Val → Option (List Val × (Hep → Bool))
  | .tup l => some (l, fun _ => true)
  | .fl l => some (l, fun _ => true)
  | .ref n => match h[n]? with
    | some (.lst l) => some (l, fun h' => decide (isLst n l h'))
    | _ => none
  | _ => none
def enumL (l : List Val) : List Val := l.zipIdx.map fun p => .tup [.int (p.2 : Nat), p.1]
def fEnum (h : Hep) : List Val → Option (List Val × (Hep → Bool))
  | [v] => (itemsS h v).map fun p => (enumL p.1, p.2)
  | _ => none
def zipL (l m : List Val) : List Val := (l.zip m).map fun p => .tup [p.1, p.2]
def isT2 : Val → Val → Bool
  | .tup _, .tup _ => true
  | .tup _, _ => false
  | _, .tup _ => false
  | _, _ => true
def fZip (h : Hep) : List Val → Option (List Val × (Hep → Bool))
  | [v, w] => match itemsS h v, itemsS h w with
    | some p, some q => if isT2 v w then some (zipL p.1 q.1, fun h' => p.2 h' && q.2 h') else none
    | _, _ => none
  | _ => none
/-! ### texts -/
def bOrd : BFn := fun vs h => match vs with
  | [.str [c]] => some (.int (c : Nat), h)
  | _ => none
/-- a text cut at a sign -/
def cutAt (s : Nat) : List Nat → List Nat → List (List Nat)
  | acc, [] => [acc]
  | acc, c :: r => if c = s then acc :: cutAt s [] r else cutAt s (acc ++ [c]) r
def splitOk (c n : Nat) : Prop := c < 256 ∧ n + 2 ≤ line
def mSplit : Val → BFn := fun x vs h => match x, vs with
  | .str s, [.str [c]] => if splitOk c s.length then some (.ref h.length, h ++ [.lst ((cutAt c [] s).map .str)]) else none
  | _, _ => none
end
end Cd

set_option Elab.async false
set_option linter.all false
set_option maxRecDepth 100000
set_option maxHeartbeats 4000000
/-! CdB1: the bridge: the functional reading over the hand layer: relations. -/
namespace Cb
open PySem PySem.Spec PyProof.Rows L2

def toS (l : List Nat) : Str := ⟨l.toArray⟩
/-- a list that is only read -/
def FzL (K : PySem.W.Frag) (H : Hp) (a : Addr) (xs : List V) : Prop :=
  (∃ o, H a = some (.frz o (.lst xs))) ∨
    ∃ (o : Obj) (its : Array Value) (n : Nat), K.lookup a = some o ∧ o.cls = .type "list" ∧ o.dict = none ∧ o.data = .seq its n ∧ its.size ≤ sizeLine ∧ Vals xs its.toList
theorem FzL.sq {K : PySem.W.Frag} {H : Hp} {a : Addr} {xs : List V} (h : FzL K H a xs) : SqL K H a xs := by
  rcases h with ⟨o, h⟩ | h
  · exact .inl (.inr ⟨o, h⟩)
  · exact .inr h
section
variable (K : PySem.W.Frag) (ρ : List Addr) (H : Hp)
mutual
inductive RV : Cd.Val → V → Prop
  | non : RV .non .non
  | bl (b : Bool) : RV (.bl b) (.bl b)
  | int (i : Int) : RV (.int i) (.int i)
  | str (s : List Nat) : RV (.str s) (.str (toS s))
  | tup {a : Addr} {ds : List Cd.Val} {vs : List V} (h : SqT K H a vs) (r : RVs ds vs) : RV (.tup ds) (.ref a)
  | fl {a : Addr} {ds : List Cd.Val} {vs : List V} (h : FzL K H a vs) (r : RVs ds vs) : RV (.fl ds) (.ref a)
  | ref {n : Nat} {a : Addr} (h : ρ[n]? = some a) : RV (.ref n) (.ref a)
  | exo (a : Addr) : RV (.exo a) (.ref a)
inductive RVs : List Cd.Val → List V → Prop
  | nil : RVs [] []
  | cons {d : Cd.Val} {v : V} {ds : List Cd.Val} {vs : List V} (h : RV d v) (t : RVs ds vs) : RVs (d :: ds) (v :: vs)
end
/-- what stands at a place -/
def RO : Cd.Obj → Addr → Prop
  | .lst l, a => ∃ vs, H a = some (.lst vs) ∧ RVs K ρ H l vs
  | .dct _, _ => False
  | .ins _ _, _ => False
end
structure Sim (K : PySem.W.Frag) (ρ : List Addr) (h : Cd.Hep) (H : Hp) : Prop where
  len : ρ.length = h.length
  nd : ρ.Nodup
  obj : ∀ (n : Nat) (o : Cd.Obj) (a : Addr), h[n]? = some o → ρ[n]? = some a → RO K ρ H o a
structure Step (ρ : List Addr) (H : Hp) (ρ' : List Addr) (H' : Hp) : Prop where
  pre : ρ <+: ρ'
  fr : ∀ a o, a ∉ ρ → H a = some o → H' a = some o
  new : ∀ a, a ∈ ρ' → a ∉ ρ → H a = none
theorem Step.refl (ρ : List Addr) (H : Hp) : Step ρ H ρ H := ⟨List.prefix_rfl, fun _ _ _ h => h, fun _ h n => absurd h n⟩
theorem Step.trans {ρ ρ1 ρ2 : List Addr} {H H1 H2 : Hp} (a : Step ρ H ρ1 H1) (b : Step ρ1 H1 ρ2 H2) : Step ρ H ρ2 H2 := by
  have f : ∀ x o, x ∉ ρ → H x = some o → x ∉ ρ1 ∧ H1 x = some o := by
    intro x o n e
    refine ⟨fun m => ?_, a.fr x o n e⟩
    have q := a.new x m n
    rw [q] at e
    cases e
  refine ⟨a.pre.trans b.pre, fun x o n e => b.fr x o (f x o n e).1 (f x o n e).2, fun x m n => ?_⟩
  by_cases h1 : x ∈ ρ1
  · exact a.new x h1 n
  · cases q : H x with
    | none => rfl
    | some o =>
      have := b.new x m h1
      rw [(f x o n q).2] at this; cases this
section
variable {K : PySem.W.Frag} {ρ ρ' : List Addr} {H H' : Hp} {h h' : Cd.Hep}
/-- what stands at a place is no tuple, nothing locked -/
theorem Sim.kind (S : Sim K ρ h H) {a : Addr} (m : a ∈ ρ) : ∃ o, H a = some o ∧ (∀ xs, o ≠ .tup xs) ∧ ∀ ob u, o ≠ .frz ob u := by
  obtain ⟨n, hn⟩ := List.mem_iff_getElem?.mp m
  have hl : n < h.length := by rw [← S.len]; exact (List.getElem?_eq_some_iff.mp hn).1
  have q := S.obj n h[n] a (List.getElem?_eq_getElem hl) hn
  cases e : h[n] with
  | lst l =>
    rw [e] at q
    obtain ⟨vs, e1, _⟩ := q
    exact ⟨_, e1, (fun xs z => by cases z), (fun o u z => by cases z)⟩
  | dct l => rw [e] at q; exact q.elim
  | ins c fs => rw [e] at q; exact q.elim
theorem Sim.some_of (S : Sim K ρ h H) {a : Addr} (m : a ∈ ρ) : H a ≠ none := fun z => by
  obtain ⟨o, e, _⟩ := S.kind m
  rw [z] at e; cases e
theorem Step.sqT (st : Step ρ H ρ' H') (S : Sim K ρ h H) {a : Addr} {vs : List V} (q : SqT K H a vs) : SqT K H' a vs := by
  rcases q with (q | ⟨o, q⟩) | q
  · refine .inl (.inl (st.fr a _ (fun m => ?_) q))
    obtain ⟨o, e, n1, _⟩ := S.kind m
    rw [q] at e; cases e
    exact n1 _ rfl
  · refine .inl (.inr ⟨o, st.fr a _ (fun m => ?_) q⟩)
    obtain ⟨o', e, _, n2⟩ := S.kind m
    rw [q] at e; cases e
    exact n2 _ _ rfl
  · exact .inr q
theorem Step.fzL (st : Step ρ H ρ' H') (S : Sim K ρ h H) {a : Addr} {vs : List V} (q : FzL K H a vs) : FzL K H' a vs := by
  rcases q with ⟨o, q⟩ | q
  · refine .inl ⟨o, st.fr a _ (fun m => ?_) q⟩
    obtain ⟨o', e, _, n2⟩ := S.kind m
    rw [q] at e; cases e
    exact n2 _ _ rfl
  · exact .inr q
theorem Step.ix (st : Step ρ H ρ' H') {n : Nat} {a : Addr} (e : ρ[n]? = some a) : ρ'[n]? = some a := by
  obtain ⟨t, rfl⟩ := st.pre
  rw [List.getElem?_append_left (List.getElem?_eq_some_iff.mp e).1]
  exact e
mutual
theorem RV.mono (st : Step ρ H ρ' H') (S : Sim K ρ h H) : ∀ {d : Cd.Val} {v : V}, RV K ρ H d v → RV K ρ' H' d v
  | _, _, .non => .non
  | _, _, .bl b => .bl b
  | _, _, .int i => .int i
  | _, _, .str s => .str s
  | _, _, .tup h r => .tup (st.sqT S h) (RVs.mono st S r)
  | _, _, .fl h r => .fl (st.fzL S h) (RVs.mono st S r)
  | _, _, .ref h => .ref (st.ix h)
  | _, _, .exo a => .exo a
theorem RVs.mono (st : Step ρ H ρ' H') (S : Sim K ρ h H) : ∀ {ds : List Cd.Val} {vs : List V}, RVs K ρ H ds vs → RVs K ρ' H' ds vs
  | _, _, .nil => .nil
  | _, _, .cons h t => .cons (RV.mono st S h) (RVs.mono st S t)
end
theorem RVs.length : ∀ {ds : List Cd.Val} {vs : List V}, RVs K ρ H ds vs → ds.length = vs.length
  | _, _, .nil => rfl
  | _, _, .cons _ t => by rw [List.length_cons, List.length_cons, RVs.length t]
theorem RVs.get : ∀ {ds : List Cd.Val} {vs : List V} {i : Nat} {d : Cd.Val}, RVs K ρ H ds vs → ds[i]? = some d → ∃ v, vs[i]? = some v ∧ RV K ρ H d v
  | _, _, _, _, .nil, e => by simp at e
  | _, _, 0, d, .cons h t, e => by simp at e; subst e; exact ⟨_, rfl, h⟩
  | _, _, i + 1, d, .cons h t, e => by
    obtain ⟨v, h1, h2⟩ := RVs.get (i := i) (d := d) t (by simpa using e)
    exact ⟨v, by simpa using h1, h2⟩
theorem RVs.append : ∀ {ds es : List Cd.Val} {vs ws : List V}, RVs K ρ H ds vs → RVs K ρ H es ws → RVs K ρ H (ds ++ es) (vs ++ ws)
  | _, _, _, _, .nil, s => s
  | _, _, _, _, .cons h t, s => .cons h (RVs.append t s)
theorem RVs.set {d : Cd.Val} {v : V} (r : RV K ρ H d v) : ∀ {ds : List Cd.Val} {vs : List V} (i : Nat), RVs K ρ H ds vs → RVs K ρ H (ds.set i d) (vs.set i v)
  | _, _, _, .nil => .nil
  | _, _, 0, .cons _ t => .cons r t
  | _, _, i + 1, .cons q t => .cons q (RVs.set r i t)
theorem RVs.take : ∀ {ds : List Cd.Val} {vs : List V} (n : Nat), RVs K ρ H ds vs → RVs K ρ H (ds.take n) (vs.take n)
  | _, _, 0, _ => .nil
  | _, _, _ + 1, .nil => .nil
  | _, _, n + 1, .cons h t => .cons h (RVs.take n t)
theorem RVs.drop : ∀ {ds : List Cd.Val} {vs : List V} (n : Nat), RVs K ρ H ds vs → RVs K ρ H (ds.drop n) (vs.drop n)
  | _, _, 0, r => r
  | _, _, _ + 1, .nil => .nil
  | _, _, n + 1, .cons _ t => RVs.drop n t
theorem RVs.reverse : ∀ {ds : List Cd.Val} {vs : List V}, RVs K ρ H ds vs → RVs K ρ H ds.reverse vs.reverse
  | _, _, .nil => .nil
  | _, _, .cons h t => by
    rw [List.reverse_cons, List.reverse_cons]
    exact RVs.append (RVs.reverse t) (.cons h .nil)
theorem RO.mono (st : Step ρ H ρ' H') (S : Sim K ρ h H) {o : Cd.Obj} {a : Addr} (e : H' a = H a) (r : RO K ρ H o a) : RO K ρ' H' o a := by
  cases o with
  | lst l =>
    obtain ⟨vs, e1, q⟩ := r
    exact ⟨vs, by rw [e]; exact e1, q.mono st S⟩
  | dct l => exact r.elim
  | ins c fs => exact r.elim
/-- a new thing that is no place: a tuple -/
theorem Step.out (p : Addr) (o : HO) (n : H p = none) : Step ρ H ρ (upd H p o) :=
  ⟨List.prefix_rfl, fun a u _ e => by rw [upd_ne (ne_of_none e n)]; exact e, fun _ m z => absurd m z⟩
theorem Sim.out (S : Sim K ρ h H) {p : Addr} {o : HO} (n : H p = none) : Sim K ρ h (upd H p o) := by
  refine ⟨S.len, S.nd, fun i u a hi ha => ?_⟩
  have q := S.obj i u a hi ha
  have ne : a ≠ p := fun z => S.some_of (List.mem_iff_getElem?.mpr ⟨i, ha⟩) (z ▸ n)
  exact q.mono (Step.out p o n) S (upd_ne ne)
/-- a new place -/
theorem Step.lay (p : Addr) (o : HO) (n : H p = none) : Step ρ H (ρ ++ [p]) (upd H p o) :=
  ⟨⟨[p], rfl⟩, fun a u _ e => by rw [upd_ne (ne_of_none e n)]; exact e, fun a m z => by
    rcases List.mem_append.mp m with m | m
    · exact absurd m z
    · rw [List.mem_singleton.mp m]; exact n⟩
theorem Sim.lay (S : Sim K ρ h H) {p : Addr} {o : HO} {u : Cd.Obj} (n : H p = none) (r : RO K (ρ ++ [p]) (upd H p o) u p) : Sim K (ρ ++ [p]) (h ++ [u]) (upd H p o) := by
  have np : p ∉ ρ := fun m => S.some_of m n
  refine ⟨by rw [List.length_append, List.length_append, S.len]; rfl, List.nodup_append.mpr ⟨S.nd, by simp, fun a ha b hb => by
    rw [List.mem_singleton.mp hb]
    rintro rfl
    exact np ha⟩, fun i w a hi ha => ?_⟩
  by_cases hl : i < h.length
  · rw [List.getElem?_append_left hl] at hi
    rw [List.getElem?_append_left (by rw [S.len]; exact hl)] at ha
    have q := S.obj i w a hi ha
    have ne : a ≠ p := fun z => np (z ▸ List.mem_iff_getElem?.mpr ⟨i, ha⟩)
    exact q.mono (Step.lay p o n) S (upd_ne ne)
  · have e : i = h.length := by
      have := (List.getElem?_eq_some_iff.mp hi).1
      rw [List.length_append] at this
      simp at this
      omega
    subst e
    rw [List.getElem?_append_right (Nat.le_refl _), Nat.sub_self] at hi
    rw [List.getElem?_append_right (by rw [S.len]; exact Nat.le_refl _), S.len, Nat.sub_self] at ha
    cases hi
    cases ha
    exact r
/-- a place is written -/
theorem Step.put {i : Nat} {a : Addr} {o : HO} (ha : ρ[i]? = some a) : Step ρ H ρ (upd H a o) :=
  ⟨List.prefix_rfl, fun b u n e => by
    have q : b ≠ a := by
      rintro rfl
      exact n (List.mem_iff_getElem?.mpr ⟨i, ha⟩)
    rw [upd_ne q]; exact e, fun _ m z => absurd m z⟩
theorem Sim.put (S : Sim K ρ h H) {i : Nat} {a : Addr} {o : HO} {u : Cd.Obj} (ha : ρ[i]? = some a) (r : RO K ρ (upd H a o) u a) : Sim K ρ (h.set i u) (upd H a o) := by
  refine ⟨by rw [List.length_set, S.len], S.nd, fun j w b hj hb => ?_⟩
  by_cases e : j = i
  · subst e
    rw [ha] at hb; cases hb
    have hl : j < h.length := by rw [← S.len]; exact (List.getElem?_eq_some_iff.mp ha).1
    rw [List.getElem?_set_self hl] at hj
    cases hj
    exact r
  · rw [List.getElem?_set_ne (Ne.symm e)] at hj
    have q := S.obj j w b hj hb
    have ne : b ≠ a := fun z => by
      obtain ⟨h1, e1⟩ := List.getElem?_eq_some_iff.mp hb
      obtain ⟨h2, e2⟩ := List.getElem?_eq_some_iff.mp ha
      exact e ((List.getElem_inj S.nd).mp (e1.trans (z.trans e2.symm)))
    exact q.mono (Step.put ha) S (upd_ne ne)
end
/-- the slots: what the reading knows of them -/
structure RE (K : PySem.W.Frag) (ρ : List Addr) (H : Hp) (η : Cd.Env) (σ : L2.St) : Prop where
  len : η.length = σ.length
  at_ : ∀ (i : Nat) (d : Cd.Val), η[i]? = some (some d) → ∃ v, σ[i]? = some (some v) ∧ RV K ρ H d v
section
variable {K : PySem.W.Frag} {ρ ρ' : List Addr} {H H' : Hp} {h h' : Cd.Hep} {η : Cd.Env} {σ : L2.St}
theorem RE.mono (st : Step ρ H ρ' H') (S : Sim K ρ h H) (r : RE K ρ H η σ) : RE K ρ' H' η σ := ⟨r.len, fun i d e => by
  obtain ⟨v, h1, h2⟩ := r.at_ i d e
  exact ⟨v, h1, h2.mono st S⟩⟩
theorem RE.set {d : Cd.Val} {v : V} (r : RE K ρ H η σ) (q : RV K ρ H d v) (i : Nat) : RE K ρ H (η.set i (some d)) (σ.set i (some v)) := by
  refine ⟨by rw [List.length_set, List.length_set, r.len], fun j e hj => ?_⟩
  by_cases z : j = i
  · subst z
    have hl : j < η.length := by
      have := (List.getElem?_eq_some_iff.mp hj).1
      rwa [List.length_set] at this
    rw [List.getElem?_set_self hl] at hj
    cases hj
    exact ⟨v, List.getElem?_set_self (by rw [← r.len]; exact hl), q⟩
  · rw [List.getElem?_set_ne (Ne.symm z)] at hj
    obtain ⟨u, h1, h2⟩ := r.at_ j e hj
    exact ⟨u, by rw [List.getElem?_set_ne (Ne.symm z)]; exact h1, h2⟩
end
end Cb

set_option Elab.async false
set_option linter.all false
set_option maxRecDepth 100000
set_option maxHeartbeats 4000000
/-! CdB2: the bridge: expressions, tests, arguments. -/
namespace Cb
open PySem PySem.Spec PyProof.Rows L2

/-- an exception as the hand layer tells it -/
def RX (K : PySem.W.Frag) (ca : String → Value) (ρ : List Addr) (H : Hp) (e : Cd.Exc) (cls : Value) (d : Option Addr) : Prop :=
  cls = ca e.cls ∧ ((e.args = [] ∧ d = none) ∨ ∃ dx fs, e.args ≠ [] ∧ d = some dx ∧ H dx = some (.xd fs) ∧ RVs K ρ H e.args (fs.map (·.2)))

section
variable (K : PySem.W.Frag) (ca : String → Value) (W : WX)
/-- what is wanted behind a reading -/
def postG {α β : Type} (R : List Addr → Hp → α → β → Prop) (ρ : List Addr) (H : Hp) (σ : L2.St) (r : Cd.Res α) (Q : β → Hp → Prop) : Prop :=
  match r with
  | .ok v h' => ∀ ρ' H' x, Step ρ H ρ' H' → Sim K ρ' h' H' → R ρ' H' v x → Q x H'
  | .exc e h' => ∀ ρ' H' cls d, Step ρ H ρ' H' → Sim K ρ' h' H' → RX K ca ρ' H' e cls d → W cls d σ H'
  | .stuck => False
def RB : List Addr → Hp → Bool → Bool → Prop := fun _ _ a b => a = b
def tE (m : Cd.EM) : TE := fun σ H Q => ∃ ρ h η, Sim K ρ h H ∧ RE K ρ H η σ ∧ postG K ca W (RV K) ρ H σ (m η h) Q
def tT (m : Cd.TM) : TT := fun σ H Q => ∃ ρ h η, Sim K ρ h H ∧ RE K ρ H η σ ∧ postG K ca W RB ρ H σ (m η h) Q
def tA (m : Cd.AM) : TA := fun σ H Q => ∃ ρ h η, Sim K ρ h H ∧ RE K ρ H η σ ∧ postG K ca W (RVs K) ρ H σ (m η h) Q
end

section
variable {K : PySem.W.Frag} {ca : String → Value} {W : WX} {α β γ δ : Type} {R : List Addr → Hp → α → β → Prop} {ρ ρ1 : List Addr} {H H1 : Hp} {σ : L2.St} {h : Cd.Hep} {η : Cd.Env}
theorem postG.mono {r : Cd.Res α} {Q : β → Hp → Prop} (st : Step ρ H ρ1 H1) (p : postG K ca W R ρ H σ r Q) : postG K ca W R ρ1 H1 σ r Q := by
  cases r with
  | ok v h' => exact fun ρ' H' x s2 S q => p ρ' H' x (st.trans s2) S q
  | exc e h' => exact fun ρ' H' cls d s2 S q => p ρ' H' cls d (st.trans s2) S q
  | stuck => exact p
theorem postG.imp {r : Cd.Res α} {Q Q' : β → Hp → Prop} (p : postG K ca W R ρ H σ r Q) (f : ∀ x H, Q x H → Q' x H) : postG K ca W R ρ H σ r Q' := by
  cases r with
  | ok v h' => exact fun ρ' H' x s2 S q => f _ _ (p ρ' H' x s2 S q)
  | exc e h' => exact p
  | stuck => exact p
/-- the first part's reading, from that of the whole -/
theorem postG.first {S' : List Addr → Hp → γ → δ → Prop} {r : Cd.Res α} {f : α → Cd.Hep → Cd.Res γ} {Q : δ → Hp → Prop} {C : β → Hp → Prop} (p : postG K ca W S' ρ H σ (r.bind f) Q)
    (c : ∀ ρ1 H1 h1 v x, Step ρ H ρ1 H1 → Sim K ρ1 h1 H1 → R ρ1 H1 v x → postG K ca W S' ρ1 H1 σ (f v h1) Q → C x H1) : postG K ca W R ρ H σ r C := by
  cases r with
  | ok v h' => exact fun ρ' H' x st S q => c ρ' H' h' v x st S q (postG.mono st p)
  | exc e h' => exact p
  | stuck => exact p.elim
theorem postG.ofO {o : Option α} {h : Cd.Hep} {Q : β → Hp → Prop} (p : postG K ca W R ρ H σ (Cd.ofO o h) Q) : ∃ v, o = some v ∧ ∀ ρ' H' x, Step ρ H ρ' H' → Sim K ρ' h H' → R ρ' H' v x → Q x H' := by
  cases o with
  | none => exact p.elim
  | some v => exact ⟨v, rfl, p⟩
end

theorem PE.wk {X : Cx} {e : Expr} {t t' : TE} (h : PE X e t) (k : ∀ σ H Q, t' σ H Q → t σ H Q) : PE X e t' := ⟨fun pins s σ H Q I hw => h.run pins s σ H Q I (k _ _ _ hw)⟩
theorem PT.wk {X : Cx} {e : Expr} {t t' : TT} (h : PT X e t) (k : ∀ σ H Q, t' σ H Q → t σ H Q) : PT X e t' := ⟨fun pins s σ H Q I hw => h.run pins s σ H Q I (k _ _ _ hw)⟩
theorem PW.wk {X : Cx} {e : Expr} {t t' : TT} (h : PW X e t) (k : ∀ σ H Q, t' σ H Q → t σ H Q) : PW X e t' := ⟨fun whole pins s σ H Q I hw => h.run whole pins s σ H Q I (k _ _ _ hw)⟩
theorem PA.wk {X : Cx} {es : List Expr} {t t' : TA} (h : PA X es t) (k : ∀ σ H Q, t' σ H Q → t σ H Q) : PA X es t' := ⟨fun pos pins s σ H Q I hw => h.run pos pins s σ H Q I (k _ _ _ hw)⟩
theorem PS.wk {X : Cx} {st : Stmt} {t t' : TS} (h : PS X st t) (k : ∀ D σ H, t' D σ H → t D σ H) : PS X st t' := ⟨fun pins s σ H D I hw => h.run pins s σ H D I (k _ _ _ hw)⟩
theorem PSs.wk {X : Cx} {st : List Stmt} {t t' : TS} (h : PSs X st t) (k : ∀ D σ H, t' D σ H → t D σ H) : PSs X st t' := ⟨fun pins s σ H D I hw => h.run pins s σ H D I (k _ _ _ hw)⟩

/-- the judgements over the functional reading -/
abbrev KE (X : Cx) (ca : String → Value) (W : WX) (e : Expr) (m : Cd.EM) : Prop := PE X e (tE X.K ca W m)
abbrev KT (X : Cx) (ca : String → Value) (W : WX) (e : Expr) (m : Cd.TM) : Prop := PT X e (tT X.K ca W m)
abbrev KW (X : Cx) (ca : String → Value) (W : WX) (e : Expr) (m : Cd.TM) : Prop := PW X e (tT X.K ca W m)
abbrev KA (X : Cx) (ca : String → Value) (W : WX) (es : List Expr) (m : Cd.AM) : Prop := PA X es (tA X.K ca W m)

section
variable {X : Cx} {ca : String → Value} {W : WX} {a b c : Expr} {ma mb : Cd.EM} {pos : Pos}

theorem k_var (i : Nat) {x : Str} {pos : Pos} (hN : X.N[i]? = some x := by rfl) (hv : Vis X.env.scope x := by first | exact Or.inl rfl | exact Or.inr (Or.inl rfl) | exact Or.inr (Or.inr rfl)) (hd : (x == ("__debug__" : Str)) = false := by decide)
    (hcd : (x == ("__classdict__" : Str)) = false := by decide) : KE X ca W (.Name x pos) (Cd.eVar i) := by
  refine PE.wk (pv i hN hv hd hcd) fun σ H Q ⟨ρ, h, η, S, r, p⟩ => ?_
  unfold Cd.eVar at p
  split at p
  · rename_i d e
    obtain ⟨v, h1, h2⟩ := r.at_ i d e
    exact ⟨v, h1, p ρ H v (Step.refl _ _) S h2⟩
  · exact p.elim
theorem k_const {e : Expr} {d : Cd.Val} {v : V} (h : PE X e (tC v)) (r : ∀ ρ H, RV X.K ρ H d v) : KE X ca W e (Cd.eC d) := by
  refine PE.wk h fun σ H Q ⟨ρ, h, η, S, _, p⟩ => ?_
  exact p ρ H v (Step.refl _ _) S (r ρ H)
theorem k_int {i : Int} {j pos} : KE X ca W (.Constant (.int i) j pos) (Cd.eC (.int i)) := k_const pe_int fun _ _ => .int i
theorem k_bl {b : Bool} {j pos} : KE X ca W (.Constant (.bool b) j pos) (Cd.eC (.bl b)) := k_const pe_bl fun _ _ => .bl b
theorem k_non {j pos} : KE X ca W (.Constant .none j pos) (Cd.eC .non) := k_const pe_non fun _ _ => .non
theorem toS_S (s : String) : toS (Cd.S s) = Str.ofString s := by
  unfold toS Cd.S Str.ofString
  rw [PySem.cpsOfBytes_string]
theorem k_str {s : String} {j pos} : KE X ca W (.Constant (.str (Str.ofString s)) j pos) (Cd.eC (.str (Cd.S s))) := k_const pe_str fun ρ H => by
  rw [← toS_S s]
  exact .str _
/-- a constant of the module -/
theorem k_glob {x : Str} {d : Cd.Val} {v : V} {u : Value} {pos : Pos} (hg : Gl X x) (hm : X.mg x = some u) (r : RelV v u) (q : ∀ ρ H, RV X.K ρ H d v) (hd : (x == ("__debug__" : Str)) = false := by decide) : KE X ca W (.Name x pos) (Cd.eC d) :=
  k_const (pe_glob hg hm r hd) q

/-- what an operator's reading must be worth -/
def BinF (K : PySem.W.Frag) (f : Cd.Hep → Cd.Val → Cd.Val → Option Cd.Val) (r : R2) : Prop := ∀ (ρ : List Addr) (h : Cd.Hep) (H : Hp) (d e u : Cd.Val) (x y : V) (Q : VK), Sim K ρ h H → RV K ρ H d x → RV K ρ H e y → f h d e = some u →
  (∀ ρ' H' w, Step ρ H ρ' H' → Sim K ρ' h H' → RV K ρ' H' u w → Q w H') → r x y H Q
def UnF (K : PySem.W.Frag) (f : Cd.Hep → Cd.Val → Option Cd.Val) (r : V → Hp → VK → Prop) : Prop := ∀ (ρ : List Addr) (h : Cd.Hep) (H : Hp) (d u : Cd.Val) (x : V) (Q : VK), Sim K ρ h H → RV K ρ H d x → f h d = some u →
  (∀ ρ' H' w, Step ρ H ρ' H' → Sim K ρ' h H' → RV K ρ' H' u w → Q w H') → r x H Q
theorem tOp_of {f : Cd.Hep → Cd.Val → Cd.Val → Option Cd.Val} {r : R2} (hf : BinF X.K f r) : ∀ σ H Q, tE X.K ca W (Cd.eBin f ma mb) σ H Q → tOp r (tE X.K ca W ma) (tE X.K ca W mb) σ H Q := by
  rintro σ H Q ⟨ρ, h, η, S, re, p⟩
  refine ⟨ρ, h, η, S, re, postG.first p fun ρ1 H1 h1 d x st1 S1 r1 p1 => ?_⟩
  refine ⟨ρ1, h1, η, S1, re.mono st1 S, postG.first p1 fun ρ2 H2 h2 e y st2 S2 r2 p2 => ?_⟩
  obtain ⟨u, hu, k⟩ := p2.ofO
  exact hf ρ2 h2 H2 d e u x y Q S2 (r1.mono st2 S1) r2 hu k
theorem k_bin {op : Operator} {f : Cd.Hep → Cd.Val → Cd.Val → Option Cd.Val} {r : R2} (ho : OpR X (binaryOp op) r) (hf : BinF X.K f r) (ha : KE X ca W a ma) (hb : KE X ca W b mb) : KE X ca W (.BinOp a op b pos) (Cd.eBin f ma mb) :=
  PE.wk (pe_op ho ha hb) (tOp_of hf)
theorem k_cmp {op : CmpOp} {f : Cd.Hep → Cd.Val → Cd.Val → Option Cd.Val} {r : R2} (ho : OpR X (compareOp op) r) (hf : BinF X.K f r) (ha : KE X ca W a ma) (hb : KE X ca W b mb) (hm : behindInMarks op b = false) : KE X ca W (.Compare a [op] [b] pos) (Cd.eBin f ma mb) :=
  PE.wk (pe_cmpR ho ha hb hm) (tOp_of hf)
theorem k_un {op : UnaryOp} {f : Cd.Hep → Cd.Val → Option Cd.Val} {r : V → Hp → VK → Prop} (ho : UnR X (unaryOp op) r) (hf : UnF X.K f r) (ha : KE X ca W a ma) : KE X ca W (.UnaryOp op a pos) (Cd.eUn f ma) := by
  refine PE.wk (pe_un ho ha) fun σ H Q ⟨ρ, h, η, S, re, p⟩ => ?_
  refine ⟨ρ, h, η, S, re, postG.first p fun ρ1 H1 h1 d x st1 S1 r1 p1 => ?_⟩
  obtain ⟨u, hu, k⟩ := p1.ofO
  exact hf ρ1 h1 H1 d u x Q S1 r1 hu k

/-! ### tests -/
theorem bl_of {ρ : List Addr} {H : Hp} {k : Bool} {x : V} (r : RV X.K ρ H (.bl k) x) : x = .bl k := by cases r; rfl
/-- an expression's truth value as a test -/
theorem tB_of : ∀ σ H Q, tT X.K ca W (Cd.tVal ma) σ H Q → tTest (tE X.K ca W ma) σ H Q := by
  rintro σ H Q ⟨ρ, h, η, S, re, p⟩
  refine ⟨ρ, h, η, S, re, postG.first p fun ρ1 H1 h1 d x st1 S1 r1 p1 => ?_⟩
  cases d with
  | bl k => exact ⟨k, bl_of r1, p1 ρ1 H1 k (Step.refl _ _) S1 rfl⟩
  | _ => exact p1.elim
theorem kt_cmp {op : CmpOp} {f : Cd.Hep → Cd.Val → Cd.Val → Option Cd.Val} {r : R2} (ho : OpR X (compareOp op) r) (hf : BinF X.K f r) (ha : KE X ca W a ma) (hb : KE X ca W b mb) (hm : behindInMarks op b = false) :
    KT X ca W (.Compare a [op] [b] pos) (Cd.tVal (Cd.eBin f ma mb)) := by
  refine PT.wk (pt_cmpR ho ha hb hm) fun σ H Q p => ?_
  obtain ⟨ρ, h, η, S, re, p⟩ := tB_of σ H Q p
  exact tOp_of hf σ H _ ⟨ρ, h, η, S, re, p⟩
theorem kt_val {e : Expr} {m : Cd.EM} (h : KE X ca W e m) (he : ∀ whole, isTrue e X.env whole = (do let v ← whole; standAt e.pos; holding [v] (truthy v)) := by intro _; rfl) : KT X ca W e (Cd.tVal m) :=
  PT.wk (pt_val h he) fun σ H Q p => tB_of σ H Q p
theorem isE_map (f : α → β) (l : List α) : (l.map f).isEmpty = l.isEmpty := by cases l <;> rfl
theorem RVs.isEmpty {K : PySem.W.Frag} {ρ : List Addr} {H : Hp} {ds : List Cd.Val} {vs : List V} (r : RVs K ρ H ds vs) : vs.isEmpty = ds.isEmpty := by cases r <;> rfl
theorem line_eq {n : Nat} : Cd.szOk n ↔ n ≤ sizeLine := by
  unfold Cd.szOk
  rw [Cd.line_is, sizeLine_eq]
theorem tru_of {K : PySem.W.Frag} {ρ : List Addr} {h : Cd.Hep} {H : Hp} {d : Cd.Val} {x : V} {k : Bool} (S : Sim K ρ h H) (r : RV K ρ H d x) (e : Cd.truth h d = some k) : TruV K x H k := by
  cases r with
  | non => simp only [Cd.truth, Option.some.injEq] at e; subst e; rfl
  | bl b => simp only [Cd.truth, Option.some.injEq] at e; subst e; rfl
  | int i => simp only [Cd.truth, Option.some.injEq] at e; subst e; rfl
  | str s =>
    simp only [Cd.truth] at e
    split at e
    · rename_i hl
      simp only [Option.some.injEq] at e
      subst e
      rw [line_eq] at hl
      refine ⟨hl, ?_⟩
      show (s.length != 0) = (((s.length : Nat) : Int) != 0)
      rw [Bool.eq_iff_iff, bne_iff_ne, bne_iff_ne]
      omega
    · cases e
  | @tup a ds vs q t =>
    simp only [Cd.truth, Option.some.injEq] at e; subst e
    exact .inr (.inl ⟨vs, q, by rw [t.isEmpty]⟩)
  | @fl a ds vs q t =>
    simp only [Cd.truth, Option.some.injEq] at e; subst e
    exact .inl ⟨vs, q.sq, by rw [t.isEmpty]⟩
  | exo a => cases e
  | @ref n a q =>
    simp only [Cd.truth] at e
    split at e
    · rename_i l hl
      simp only [Option.some.injEq] at e; subst e
      obtain ⟨vs, e1, t⟩ := S.obj n _ a hl q
      exact .inl ⟨vs, SqL.of e1, by rw [t.isEmpty]⟩
    · rename_i l hl
      exact (S.obj n _ a hl q).elim
    · cases e
theorem kt_tru (ha : KE X ca W a ma) (he : ∀ whole, isTrue a X.env whole = (do let v ← whole; standAt a.pos; holding [v] (truthy v)) := by intro _; rfl) : KT X ca W a (Cd.tTru ma) := by
  refine PT.wk (pt_truth ha he) fun σ H Q ⟨ρ, h, η, S, re, p⟩ => ?_
  refine ⟨ρ, h, η, S, re, postG.first p fun ρ1 H1 h1 d x st1 S1 r1 p1 => ?_⟩
  obtain ⟨k, hk, q⟩ := p1.ofO
  exact ⟨k, tru_of S1 r1 hk, q ρ1 H1 k (Step.refl _ _) S1 rfl⟩
variable {ta tb tc : Cd.TM}
theorem kt_pw {e : Expr} {m : Cd.TM} (h : KW X ca W e m) : KT X ca W e m := h.pt
theorem kw_and1 (ha : KT X ca W a ta) : KW X ca W (.BoolOp .And [a] pos) ta := pw_and1 ha
theorem kw_or1 (ha : KT X ca W a ta) : KW X ca W (.BoolOp .Or [a] pos) ta := pw_or1 ha
variable {rest : List Expr}
theorem kw_and (ha : KT X ca W a ta) (hb : KW X ca W (.BoolOp .And (b :: rest) pos) tb) : KW X ca W (.BoolOp .And (a :: b :: rest) pos) (Cd.tAnd ta tb) := by
  refine PW.wk (pw_and ha hb) fun σ H Q ⟨ρ, h, η, S, re, p⟩ => ?_
  refine ⟨ρ, h, η, S, re, postG.first p fun ρ1 H1 h1 k x st1 S1 r1 p1 => ?_⟩
  cases (show k = x from r1)
  cases k with
  | true => exact ⟨ρ1, h1, η, S1, re.mono st1 S, p1⟩
  | false => exact p1 ρ1 H1 false (Step.refl _ _) S1 rfl
theorem kw_or (ha : KT X ca W a ta) (hb : KW X ca W (.BoolOp .Or (b :: rest) pos) tb) : KW X ca W (.BoolOp .Or (a :: b :: rest) pos) (Cd.tOr ta tb) := by
  refine PW.wk (pw_or ha hb) fun σ H Q ⟨ρ, h, η, S, re, p⟩ => ?_
  refine ⟨ρ, h, η, S, re, postG.first p fun ρ1 H1 h1 k x st1 S1 r1 p1 => ?_⟩
  cases (show k = x from r1)
  cases k with
  | true => exact p1 ρ1 H1 true (Step.refl _ _) S1 rfl
  | false => exact ⟨ρ1, h1, η, S1, re.mono st1 S, p1⟩
theorem kt_not (ha : KT X ca W a ta) : KT X ca W (.UnaryOp .Not a pos) (Cd.tNot ta) := by
  refine PT.wk (pt_not ha) fun σ H Q ⟨ρ, h, η, S, re, p⟩ => ?_
  refine ⟨ρ, h, η, S, re, postG.first p fun ρ1 H1 h1 k x st1 S1 r1 p1 => ?_⟩
  cases (show k = x from r1)
  exact p1 ρ1 H1 (!k) (Step.refl _ _) S1 rfl
theorem k_ifE (hc : KT X ca W c tc) (ha : KE X ca W a ma) (hb : KE X ca W b mb) : KE X ca W (.IfExp c a b pos) (Cd.eIf tc ma mb) := by
  refine PE.wk (pe_ifExp hc ha hb) fun σ H Q ⟨ρ, h, η, S, re, p⟩ => ?_
  refine ⟨ρ, h, η, S, re, postG.first p fun ρ1 H1 h1 k x st1 S1 r1 p1 => ?_⟩
  cases (show k = x from r1)
  cases k with
  | true => exact ⟨ρ1, h1, η, S1, re.mono st1 S, p1⟩
  | false => exact ⟨ρ1, h1, η, S1, re.mono st1 S, p1⟩
theorem k_one {op : BoolOp} {m : Cd.EM} (h : KE X ca W a m) : KE X ca W (.BoolOp op [a] pos) m := pe_one h
theorem k_and (ha : KE X ca W a ma) (hb : KE X ca W (.BoolOp .And (b :: rest) pos) mb) : KE X ca W (.BoolOp .And (a :: b :: rest) pos) (Cd.eAnd ma mb) := by
  refine PE.wk (pe_and ha hb) fun σ H Q ⟨ρ, h, η, S, re, p⟩ => ?_
  refine ⟨ρ, h, η, S, re, postG.first p fun ρ1 H1 h1 d x st1 S1 r1 p1 => ?_⟩
  cases d with
  | bl k =>
    refine ⟨k, bl_of r1, ?_⟩
    cases k with
    | true => exact ⟨ρ1, h1, η, S1, re.mono st1 S, p1⟩
    | false => exact p1 ρ1 H1 _ (Step.refl _ _) S1 (.bl false)
  | _ => exact p1.elim
theorem k_or (ha : KE X ca W a ma) (hb : KE X ca W (.BoolOp .Or (b :: rest) pos) mb) : KE X ca W (.BoolOp .Or (a :: b :: rest) pos) (Cd.eOr ma mb) := by
  refine PE.wk (pe_or ha hb) fun σ H Q ⟨ρ, h, η, S, re, p⟩ => ?_
  refine ⟨ρ, h, η, S, re, postG.first p fun ρ1 H1 h1 d x st1 S1 r1 p1 => ?_⟩
  cases d with
  | bl k =>
    refine ⟨k, bl_of r1, ?_⟩
    cases k with
    | true => exact p1 ρ1 H1 _ (Step.refl _ _) S1 (.bl true)
    | false => exact ⟨ρ1, h1, η, S1, re.mono st1 S, p1⟩
  | _ => exact p1.elim
theorem k_not (ha : KE X ca W a ma) : KE X ca W (.UnaryOp .Not a pos) (Cd.eNot ma) := by
  refine PE.wk (pe_not ha) fun σ H Q ⟨ρ, h, η, S, re, p⟩ => ?_
  refine ⟨ρ, h, η, S, re, postG.first p fun ρ1 H1 h1 d x st1 S1 r1 p1 => ?_⟩
  cases d with
  | bl k => exact ⟨k, bl_of r1, p1 ρ1 H1 _ (Step.refl _ _) S1 (.bl _)⟩
  | _ => exact p1.elim

/-! ### arguments, displays -/
theorem ka_nil : KA X ca W [] Cd.aNil := PA.wk pa_nil fun σ H Q ⟨ρ, h, η, S, re, p⟩ => p ρ H [] (Step.refl _ _) S .nil
variable {es : List Expr} {e : Expr} {me : Cd.EM} {ms : Cd.AM}
theorem ka_cons (ha : KE X ca W e me) (hr : KA X ca W es ms) (hs : starEach (e :: es) X.env = (false, eval e X.env) :: starEach es X.env := by rfl) : KA X ca W (e :: es) (Cd.aCons me ms) := by
  refine PA.wk (pa_cons ha hr hs) fun σ H Q ⟨ρ, h, η, S, re, p⟩ => ?_
  refine ⟨ρ, h, η, S, re, postG.first p fun ρ1 H1 h1 d x st1 S1 r1 p1 => ?_⟩
  refine ⟨ρ1, h1, η, S1, re.mono st1 S, postG.first p1 fun ρ2 H2 h2 ds xs st2 S2 r2 p2 => ?_⟩
  exact p2 ρ2 H2 _ (Step.refl _ _) S2 (.cons (r1.mono st2 S1) r2)
theorem k_tup {x1} (h : KA X ca W es ms) : KE X ca W (.Tuple es x1 pos) (Cd.eTup ms) := by
  refine PE.wk (pe_tup h) fun σ H Q ⟨ρ, h, η, S, re, p⟩ => ?_
  refine ⟨ρ, h, η, S, re, postG.first p fun ρ1 H1 h1 ds xs st1 S1 r1 p1 => ?_⟩
  split at p1
  · rename_i hl
    rw [line_eq, r1.length] at hl
    refine ⟨hl, fun q nq => ?_⟩
    exact p1 ρ1 _ _ (Step.out q _ nq) (S1.out nq) (.tup (SqT.of upd_same) (r1.mono (Step.out q _ nq) S1))
  · exact p1.elim
theorem k_lst (h : KA X ca W es ms) : KE X ca W (.List es pos) (Cd.eLst ms) := by
  refine PE.wk (pe_lst h) fun σ H Q ⟨ρ, h, η, S, re, p⟩ => ?_
  refine ⟨ρ, h, η, S, re, postG.first p fun ρ1 H1 h1 ds xs st1 S1 r1 p1 => ?_⟩
  split at p1
  · rename_i hl
    rw [line_eq, r1.length] at hl
    refine ⟨hl, fun q nq => ?_⟩
    have st := Step.lay (ρ := ρ1) q (.lst xs) nq
    exact p1 _ _ _ st (S1.lay nq ⟨xs, upd_same, r1.mono st S1⟩) (.ref (by rw [← S1.len, List.getElem?_append_right (Nat.le_refl _), Nat.sub_self]; rfl))
  · exact p1.elim
end
end Cb

set_option Elab.async false
set_option linter.all false
set_option maxRecDepth 100000
set_option maxHeartbeats 4000000
/-! CdB3: the bridge: operators, subscripts. -/
namespace Cb
open PySem PySem.Spec PyProof.Rows L2

theorem toS_app (s t : List Nat) : toS (s ++ t) = toS s ++ toS t := by
  show (⟨(s ++ t).toArray⟩ : Str) = ⟨s.toArray ++ t.toArray⟩
  simp
theorem toS_len (s : List Nat) : (toS s).length = s.length := rfl
theorem toS_inj {s t : List Nat} : (toS s = toS t) ↔ s = t := by
  constructor
  · intro e
    have := congrArg (fun z : Str => z.cps.toList) e
    simpa [toS] using this
  · rintro rfl; rfl

section
variable {X : Cx} {K : PySem.W.Frag}
/-- the ways of oAdd -/
theorem bf_add : BinF K Cd.oAdd (fun x y H Q => (rI0 fun i j => .int (i + j)) x y H Q ∨ (fun x y H Q => ∃ i j, x = V.str i ∧ y = V.str j ∧ i.length + j.length ≤ sizeLine ∧ Q (V.str (i ++ j)) H) x y H Q ∨ rCatT K x y H Q) := by
  intro ρ h H d e u x y Q S r1 r2 hu k
  unfold Cd.oAdd at hu
  split at hu
  · cases hu
    cases r1
    cases r2
    exact .inl ⟨_, _, rfl, rfl, k ρ H _ (Step.refl _ _) S (.int _)⟩
  · rename_i s t
    split at hu
    · rename_i hl
      cases hu
      cases r1
      cases r2
      rw [line_eq] at hl
      exact .inr (.inl ⟨_, _, rfl, rfl, hl, by rw [← toS_app]; exact k ρ H _ (Step.refl _ _) S (.str _)⟩)
    · cases hu
  · rename_i l m
    split at hu
    · cases hu
    · rename_i hn
      split at hu
      · rename_i hl
        cases hu
        cases r1 with
        | @tup a _ vs q1 t1 =>
          cases r2 with
          | @tup b _ ws q2 t2 =>
            rw [line_eq, t1.length, t2.length] at hl
            refine .inr (.inr ⟨a, b, vs, ws, rfl, rfl, q1, q2, ?_, hl, ?_, ?_⟩)
            · intro z
              subst z
              cases t1
              exact hn rfl
            · intro z
              subst z
              cases t2
              rw [List.append_nil] at k
              exact k ρ H _ (Step.refl _ _) S (.tup q1 t1)
            · intro _ p np
              have st := Step.out (ρ := ρ) p (.tup (vs ++ ws)) np
              exact k ρ _ _ st (S.out np) (.tup (SqT.of upd_same) (RVs.append (t1.mono st S) (t2.mono st S)))
      · cases hu
  · cases hu
theorem op_addA : OpR X (binaryOp .Add) (fun x y H Q => (rI0 fun i j => .int (i + j)) x y H Q ∨ (fun x y H Q => ∃ i j, x = V.str i ∧ y = V.str j ∧ i.length + j.length ≤ sizeLine ∧ Q (V.str (i ++ j)) H) x y H Q ∨ rCatT X.K x y H Q) :=
  op_add.or (op_add_str.or op_catT)
theorem bf_sub : BinF K Cd.oSub (rI0 fun i j => .int (i - j)) := by
  intro ρ h H d e u x y Q S r1 r2 hu k
  unfold Cd.oSub at hu
  split at hu
  · cases hu; cases r1; cases r2
    exact ⟨_, _, rfl, rfl, k ρ H _ (Step.refl _ _) S (.int _)⟩
  · cases hu
def CMulA (i j : Int) : Prop := CMul i j ∨ CMulW i j
theorem op_mulA : OpR X (binaryOp .Mult) (rI CMulA fun i j => .int (i * j)) := opI fun _ _ _ _ _ _ _ hc q => mul_int q (by rcases hc with hc | hc; exact hc.ok; exact hc.ok)
theorem iop_mulA : OpR X (inplaceOp .Mult) (rI CMulA fun i j => .int (i * j)) := opI fun _ _ _ _ _ _ _ hc q => imul_int q (by rcases hc with hc | hc; exact hc.ok; exact hc.ok)
theorem mulA_of {i j : Int} (h : Cd.mulOk i j) : CMulA i j := by
  rcases h with h | h | h
  · exact .inl (.inl h)
  · exact .inl (.inr h)
  · exact .inr h
theorem bf_mul : BinF K Cd.oMul (rI CMulA fun i j => .int (i * j)) := by
  intro ρ h H d e u x y Q S r1 r2 hu k
  unfold Cd.oMul at hu
  split at hu
  · split at hu
    · rename_i hm
      cases hu; cases r1; cases r2
      exact ⟨_, _, rfl, rfl, mulA_of hm, k ρ H _ (Step.refl _ _) S (.int _)⟩
    · cases hu
  · cases hu
theorem bf_div : BinF K Cd.oDiv (rI CDivW fun i j => .int (i / j)) := by
  intro ρ h H d e u x y Q S r1 r2 hu k
  unfold Cd.oDiv at hu
  split at hu
  · split at hu
    · rename_i hm
      cases hu; cases r1; cases r2
      exact ⟨_, _, rfl, rfl, hm, k ρ H _ (Step.refl _ _) S (.int _)⟩
    · cases hu
  · cases hu
theorem bf_mod : BinF K Cd.oMod (rI (fun _ j => 0 < j) fun i j => .int (i % j)) := by
  intro ρ h H d e u x y Q S r1 r2 hu k
  unfold Cd.oMod at hu
  split at hu
  · split at hu
    · rename_i hm
      cases hu; cases r1; cases r2
      exact ⟨_, _, rfl, rfl, hm, k ρ H _ (Step.refl _ _) S (.int _)⟩
    · cases hu
  · cases hu
theorem bf_pow : BinF K Cd.oPow (rI CPow fun i j => .int (i ^ j.toNat)) := by
  intro ρ h H d e u x y Q S r1 r2 hu k
  unfold Cd.oPow at hu
  split at hu
  · split at hu
    · rename_i hm
      cases hu; cases r1; cases r2
      exact ⟨_, _, rfl, rfl, hm, k ρ H _ (Step.refl _ _) S (.int _)⟩
    · cases hu
  · cases hu
theorem uf_neg : UnF K Cd.oNeg (rU fun i => .int (-i)) := by
  intro ρ h H d u x Q S r1 hu k
  unfold Cd.oNeg at hu
  split at hu
  · cases hu; cases r1
    exact ⟨_, rfl, k ρ H _ (Step.refl _ _) S (.int _)⟩
  · cases hu
/-! ### comparisons -/
abbrev rStr (p : List Nat → List Nat → Bool) : R2 := fun x y H Q => ∃ i j : Str, x = .str i ∧ y = .str j ∧ Q (.bl (p i.cps.toList j.cps.toList)) H
theorem bf_ord {f : Cd.Hep → Cd.Val → Cd.Val → Option Cd.Val} {p : Int → Int → Bool} {q : List Nat → List Nat → Bool} (hi : ∀ h i j, f h (.int i) (.int j) = some (.bl (p i j))) (hs : ∀ h i j, f h (.str i) (.str j) = some (.bl (q i j)))
    (hn : ∀ h a b u, f h a b = some u → (∃ i j, a = .int i ∧ b = .int j) ∨ ∃ i j, a = .str i ∧ b = .str j) : BinF K f (fun x y H Q => (rI0 fun i j => .bl (p i j)) x y H Q ∨ rStr q x y H Q) := by
  intro ρ h H d e u x y Q S r1 r2 hu k
  rcases hn h d e u hu with ⟨i, j, rfl, rfl⟩ | ⟨i, j, rfl, rfl⟩
  · rw [hi] at hu; cases hu; cases r1; cases r2
    exact .inl ⟨_, _, rfl, rfl, k ρ H _ (Step.refl _ _) S (.bl _)⟩
  · rw [hs] at hu; cases hu; cases r1; cases r2
    exact .inr ⟨_, _, rfl, rfl, k ρ H _ (Step.refl _ _) S (.bl _)⟩
theorem bf_lt : BinF K Cd.oLt (fun x y H Q => (rI0 fun i j => .bl (decide (i < j))) x y H Q ∨ rStr (fun i j => decide (i < j)) x y H Q) := bf_ord (fun _ _ _ => rfl) (fun _ _ _ => rfl) fun h a b u e => by
  unfold Cd.oLt at e
  split at e
  · exact .inl ⟨_, _, rfl, rfl⟩
  · exact .inr ⟨_, _, rfl, rfl⟩
  · cases e
theorem bf_le : BinF K Cd.oLe (fun x y H Q => (rI0 fun i j => .bl (decide (i ≤ j))) x y H Q ∨ rStr (fun i j => !decide (j < i)) x y H Q) := bf_ord (fun _ _ _ => rfl) (fun _ _ _ => rfl) fun h a b u e => by
  unfold Cd.oLe at e
  split at e
  · exact .inl ⟨_, _, rfl, rfl⟩
  · exact .inr ⟨_, _, rfl, rfl⟩
  · cases e
theorem bf_gt : BinF K Cd.oGt (fun x y H Q => (rI0 fun i j => .bl (decide (j < i))) x y H Q ∨ rStr (fun i j => decide (j < i)) x y H Q) := bf_ord (fun _ _ _ => rfl) (fun _ _ _ => rfl) fun h a b u e => by
  unfold Cd.oGt at e
  split at e
  · exact .inl ⟨_, _, rfl, rfl⟩
  · exact .inr ⟨_, _, rfl, rfl⟩
  · cases e
theorem bf_ge : BinF K Cd.oGe (fun x y H Q => (rI0 fun i j => .bl (decide (j ≤ i))) x y H Q ∨ rStr (fun i j => !decide (i < j)) x y H Q) := bf_ord (fun _ _ _ => rfl) (fun _ _ _ => rfl) fun h a b u e => by
  unfold Cd.oGe at e
  split at e
  · exact .inl ⟨_, _, rfl, rfl⟩
  · exact .inr ⟨_, _, rfl, rfl⟩
  · cases e
theorem op_ltA : OpR X (compareOp .Lt) (fun x y H Q => (rI0 fun i j => .bl (decide (i < j))) x y H Q ∨ rStr (fun i j => decide (i < j)) x y H Q) := op_lt.or op_lt_str
theorem op_leA : OpR X (compareOp .LtE) (fun x y H Q => (rI0 fun i j => .bl (decide (i ≤ j))) x y H Q ∨ rStr (fun i j => !decide (j < i)) x y H Q) := op_le.or op_le_str
theorem op_gtA : OpR X (compareOp .Gt) (fun x y H Q => (rI0 fun i j => .bl (decide (j < i))) x y H Q ∨ rStr (fun i j => decide (j < i)) x y H Q) := op_gt.or op_gt_str
theorem op_geA : OpR X (compareOp .GtE) (fun x y H Q => (rI0 fun i j => .bl (decide (j ≤ i))) x y H Q ∨ rStr (fun i j => !decide (i < j)) x y H Q) := op_ge.or op_ge_str
/-! ### data -/
mutual
def toP : Cd.Dat → PyData
  | .non => .none
  | .bl b => .bool b
  | .int i => .int i
  | .str s => .str (toS s)
  | .lst l => .list (toPs l)
  | .tup l => .tuple (toPs l)
def toPs : List Cd.Dat → List PyData
  | [] => []
  | d :: l => toP d :: toPs l
end
mutual
theorem toP_eqv : ∀ a b : Cd.Dat, PyData.eqv (toP a) (toP b) = a.eqv b
  | .non, b => by cases b <;> simp only [toP, PyData.eqv, Cd.Dat.eqv]
  | .bl _, b => by cases b <;> simp only [toP, PyData.eqv, Cd.Dat.eqv]
  | .int _, b => by cases b <;> simp only [toP, PyData.eqv, Cd.Dat.eqv]
  | .str s, b => by
    cases b with
    | str t =>
      simp only [toP, PyData.eqv, Cd.Dat.eqv]
      rw [Bool.eq_iff_iff, beq_iff_eq, beq_iff_eq]
      exact toS_inj
    | _ => simp only [toP, PyData.eqv, Cd.Dat.eqv]
  | .lst l, b => by
    cases b with
    | lst m => simp only [toP, PyData.eqv, Cd.Dat.eqv]; exact toPs_eqv l m
    | _ => simp only [toP, PyData.eqv, Cd.Dat.eqv]
  | .tup l, b => by
    cases b with
    | tup m => simp only [toP, PyData.eqv, Cd.Dat.eqv]; exact toPs_eqv l m
    | _ => simp only [toP, PyData.eqv, Cd.Dat.eqv]
theorem toPs_eqv : ∀ l m : List Cd.Dat, PyData.eqvAll (toPs l) (toPs m) = Cd.Dat.eqvs l m
  | [], [] => rfl
  | [], _ :: _ => rfl
  | _ :: _, [] => rfl
  | a :: l, b :: m => by simp only [toPs, PyData.eqvAll, Cd.Dat.eqvs, toP_eqv a b, toPs_eqv l m]
end
section
variable {ρ : List Addr} {h : Cd.Hep} {H : Hp}
mutual
theorem rsl_dp (S : Sim K ρ h H) : ∀ (n : Nat) (d : Cd.Val) (x : V) (t : Cd.Dat), RV K ρ H d x → Cd.rsl h n d = some t → Dp K H x (toP t) ∧ PyData.canLay0 (toP t) = true ∧ PyData.depth (toP t) ≤ n
  | n, .non, x, t, r, e => by
    cases r; simp only [Cd.rsl, Option.some.injEq] at e; subst e
    exact ⟨.non, rfl, Nat.zero_le _⟩
  | n, .bl b, x, t, r, e => by
    cases r; simp only [Cd.rsl, Option.some.injEq] at e; subst e
    exact ⟨.bl b, rfl, Nat.zero_le _⟩
  | n, .int i, x, t, r, e => by
    cases r; simp only [Cd.rsl, Option.some.injEq] at e; subst e
    exact ⟨.int i, rfl, Nat.zero_le _⟩
  | n, .str s, x, t, r, e => by
    cases r
    simp only [Cd.rsl] at e
    split at e
    · rename_i hs
      cases e
      refine ⟨.str _, ?_, Nat.zero_le _⟩
      show ((toS s).cps.all fun c => decide (c < 0x110000)) = true
      rw [toS, List.all_toArray, List.all_eq_true]
      exact fun c hc => decide_eq_true (hs c hc)
    · cases e
  | 0, .tup l, x, t, r, e => by simp only [Cd.rsl] at e; cases e
  | 0, .fl l, x, t, r, e => by simp only [Cd.rsl] at e; cases e
  | 0, .ref a, x, t, r, e => by simp only [Cd.rsl] at e; cases e
  | 0, .exo a, x, t, r, e => by simp only [Cd.rsl] at e; cases e
  | n + 1, .exo a, x, t, r, e => by simp only [Cd.rsl] at e; cases e
  | n + 1, .tup l, x, t, r, e => by
    cases r with
    | tup q rs =>
      simp only [Cd.rsl] at e
      cases el : Cd.rsls h n l with
      | none => rw [el] at e; cases e
      | some ts =>
        rw [el] at e; cases e
        obtain ⟨a, b, c⟩ := rsls_dp S n l _ ts rs el
        exact ⟨.tup q a, b, by show PyData.depthAll _ + 1 ≤ _; omega⟩
  | n + 1, .fl l, x, t, r, e => by
    cases r with
    | fl q rs =>
      simp only [Cd.rsl] at e
      cases el : Cd.rsls h n l with
      | none => rw [el] at e; cases e
      | some ts =>
        rw [el] at e; cases e
        obtain ⟨a, b, c⟩ := rsls_dp S n l _ ts rs el
        exact ⟨.lst q.sq a, b, by show PyData.depthAll _ + 1 ≤ _; omega⟩
  | n + 1, .ref i, x, t, r, e => by
    cases r with
    | @ref _ a q =>
      simp only [Cd.rsl] at e
      split at e
      · rename_i l hl
        obtain ⟨vs, e1, rs⟩ := S.obj i _ a hl q
        cases el : Cd.rsls h n l with
        | none => rw [el] at e; cases e
        | some ts =>
          rw [el] at e; cases e
          obtain ⟨a, b, c⟩ := rsls_dp S n l _ ts rs el
          exact ⟨.lst (SqL.of e1) a, b, by show PyData.depthAll _ + 1 ≤ _; omega⟩
      · cases e
theorem rsls_dp (S : Sim K ρ h H) : ∀ (n : Nat) (ds : List Cd.Val) (xs : List V) (ts : List Cd.Dat), RVs K ρ H ds xs → Cd.rsls h n ds = some ts → DpAll K H xs (toPs ts) ∧ PyData.canLayAll0 (toPs ts) = true ∧ PyData.depthAll (toPs ts) ≤ n
  | n, [], xs, ts, r, e => by
    cases r; simp only [Cd.rsls, Option.some.injEq] at e; subst e
    exact ⟨.nil, rfl, Nat.zero_le _⟩
  | n, d :: ds, xs, ts, r, e => by
    cases r with
    | cons r1 r2 =>
      simp only [Cd.rsls] at e
      cases e1 : Cd.rsl h n d with
      | none => rw [e1] at e; cases e
      | some t =>
        rw [e1] at e
        simp only at e
        cases e2 : Cd.rsls h n ds with
        | none => rw [e2] at e; cases e
        | some us =>
          rw [e2] at e; cases e
          obtain ⟨a, b, c⟩ := rsl_dp S n d _ t r1 e1
          obtain ⟨a', b', c'⟩ := rsls_dp S n ds _ us r2 e2
          refine ⟨.cons a a', ?_, ?_⟩
          · show (_ && _) = true
            rw [b, b']; rfl
          · show max _ _ ≤ n
            exact Nat.max_le.mpr ⟨c, c'⟩
end
end
theorem shaped_of {t : Cd.Dat} (h1 : PyData.canLay0 (toP t) = true) (h2 : PyData.depth (toP t) ≤ 40) : SeqAt.shaped (toP t) = true := by
  show (_ && decide _) = true
  rw [h1, Bool.true_and]
  exact decide_eq_true (by omega)
theorem scl_of {ρ : List Addr} {H : Hp} {d e : Cd.Val} {x y : V} {k : Bool} (r1 : RV K ρ H d x) (r2 : RV K ρ H e y) (h : Cd.scl d e = some k) : scal x y = true ∧ decide (x = y) = k := by
  cases r1 <;> cases r2 <;> simp only [Cd.scl, Option.some.injEq, reduceCtorEq] at h <;> subst h <;> refine ⟨rfl, ?_⟩ <;> try simp
  · rename_i a b
    cases a <;> cases b <;> rfl
  · rw [Bool.eq_iff_iff]; simp
  · rw [Bool.eq_iff_iff]; simp [toS_inj]
theorem bf_eq : BinF K Cd.oEq (fun x y H Q => rEq x y H Q ∨ rEqD K x y H Q) := by
  intro ρ h H d e u x y Q S r1 r2 hu k
  unfold Cd.oEq Cd.vEq at hu
  cases es : Cd.scl d e with
  | some b =>
    rw [es] at hu; cases hu
    obtain ⟨h1, h2⟩ := scl_of r1 r2 es
    exact .inl ⟨h1, by rw [h2]; exact k ρ H _ (Step.refl _ _) S (.bl _)⟩
  | none =>
    rw [es] at hu
    simp only at hu
    split at hu
    · rename_i t1 t2 e1 e2
      cases hu
      obtain ⟨a, b, c⟩ := rsl_dp S _ _ _ _ r1 e1
      obtain ⟨a', b', c'⟩ := rsl_dp S _ _ _ _ r2 e2
      refine .inr ⟨_, _, a, a', shaped_of b c, shaped_of b' c', ?_⟩
      rw [toP_eqv]
      exact k ρ H _ (Step.refl _ _) S (.bl _)
    · cases hu
theorem bf_ne : BinF K Cd.oNe (fun x y H Q => rNe x y H Q ∨ rNeD K x y H Q) := by
  intro ρ h H d e u x y Q S r1 r2 hu k
  unfold Cd.oNe Cd.vEq at hu
  cases es : Cd.scl d e with
  | some b =>
    rw [es] at hu; cases hu
    obtain ⟨h1, h2⟩ := scl_of r1 r2 es
    exact .inl ⟨h1, by rw [h2]; exact k ρ H _ (Step.refl _ _) S (.bl _)⟩
  | none =>
    rw [es] at hu
    simp only at hu
    split at hu
    · rename_i t1 t2 e1 e2
      cases hu
      obtain ⟨a, b, c⟩ := rsl_dp S _ _ _ _ r1 e1
      obtain ⟨a', b', c'⟩ := rsl_dp S _ _ _ _ r2 e2
      refine .inr ⟨_, _, a, a', shaped_of b c, shaped_of b' c', ?_⟩
      rw [toP_eqv]
      exact k ρ H _ (Step.refl _ _) S (.bl _)
    · cases hu
theorem op_eqA (hu : X.A.units + 64 < cLine) : OpR X (compareOp .Eq) (fun x y H Q => rEq x y H Q ∨ rEqD X.K x y H Q) := op_eq.or (op_eqD hu)
theorem op_neA (hu : X.A.units + 64 < cLine) : OpR X (compareOp .NotEq) (fun x y H Q => rNe x y H Q ∨ rNeD X.K x y H Q) := op_ne.or (op_neD hu)
theorem isNon_of {ρ : List Addr} {H : Hp} {d : Cd.Val} {x : V} (r : RV K ρ H d x) : decide (x = .non) = Cd.isNon d := by cases r <;> rfl
theorem bf_isN : BinF K Cd.oIsN (fun x y H Q => y = .non ∧ Q (.bl (decide (x = .non))) H) := by
  intro ρ h H d e u x y Q S r1 r2 hu k
  unfold Cd.oIsN at hu
  split at hu
  · cases hu; cases r2
    exact ⟨rfl, by rw [isNon_of r1]; exact k ρ H _ (Step.refl _ _) S (.bl _)⟩
  · cases hu
theorem bf_notN : BinF K Cd.oNotN (fun x y H Q => y = .non ∧ Q (.bl (!decide (x = .non))) H) := by
  intro ρ h H d e u x y Q S r1 r2 hu k
  unfold Cd.oNotN at hu
  split at hu
  · cases hu; cases r2
    exact ⟨rfl, by rw [isNon_of r1]; exact k ρ H _ (Step.refl _ _) S (.bl _)⟩
  · cases hu
/-! ### subscripts -/
theorem atI_eq {α : Type} (xs : List α) (i : Int) : L2.atI xs i = Cd.atI xs i := rfl
theorem atI_rv {ρ : List Addr} {H : Hp} {ds : List Cd.Val} {vs : List V} {i : Int} {d : Cd.Val} (r : RVs K ρ H ds vs) (e : Cd.atI ds i = some d) : ∃ v, L2.atI vs i = some v ∧ RV K ρ H d v := by
  unfold Cd.atI at e
  unfold L2.atI
  rw [show L2.ixN vs.length i = Cd.ixN ds.length i from by rw [r.length]; rfl]
  cases q : Cd.ixN ds.length i with
  | none => rw [q] at e; cases e
  | some j =>
    rw [q] at e
    exact r.get e
theorem bf_idx : BinF K Cd.oIdx (rIx K) := by
  intro ρ h H d e u x y Q S r1 r2 hu k
  unfold Cd.oIdx at hu
  split at hu
  · cases r1 with
    | tup q rs =>
      cases r2
      obtain ⟨v, e1, r⟩ := atI_rv rs hu
      exact .inr (.inl ⟨_, _, _, v, rfl, rfl, q, e1, k ρ H _ (Step.refl _ _) S r⟩)
  · cases r1 with
    | fl q rs =>
      cases r2
      obtain ⟨v, e1, r⟩ := atI_rv rs hu
      exact .inl ⟨_, _, _, v, rfl, rfl, q.sq, e1, k ρ H _ (Step.refl _ _) S r⟩
  · rename_i s i
    split at hu
    · rename_i hl
      cases ec : Cd.atI s i with
      | none => rw [ec] at hu; cases hu
      | some c =>
        rw [ec] at hu; cases hu
        cases r1; cases r2
        rw [line_eq] at hl
        exact .inr (.inr ⟨_, _, c, rfl, rfl, hl, ec, k ρ H _ (Step.refl _ _) S (.str [c])⟩)
    · cases hu
  · split at hu
    · rename_i l hl
      cases r1 with
      | ref q =>
        cases r2
        obtain ⟨vs, e1, rs⟩ := S.obj _ _ _ hl q
        obtain ⟨v, e2, r⟩ := atI_rv rs hu
        exact .inl ⟨_, _, _, v, rfl, rfl, SqL.of e1, e2, k ρ H _ (Step.refl _ _) S r⟩
    · cases hu
  · cases hu
theorem k_idx {ca : String → Value} {W : WX} {a b : Expr} {ma mb : Cd.EM} {pos : Pos} (ha : KE X ca W a ma) (hb : KE X ca W b mb) (hs : PlainIx b := by exact fun _ _ => rfl) : KE X ca W (.Subscript a b pos) (Cd.eBin Cd.oIdx ma mb) :=
  PE.wk (pe_ix ix_seq ha hb hs) (tOp_of bf_idx)
end
end Cb

set_option Elab.async false
set_option linter.all false
set_option maxRecDepth 100000
set_option maxHeartbeats 4000000
/-! CdB4: the bridge: statements, loops, defs. -/
namespace Cb
open PySem PySem.Spec PyProof.Rows L2

section
variable (K : PySem.W.Frag) (ca : String → Value) (W : WX)
/-- what is wanted behind a statement's reading -/
def postS (ρ : List Addr) (H : Hp) (r : Cd.SR) (D : Ends) : Prop :=
  match r with
  | .nx η' h' => ∀ ρ' H' σ', Step ρ H ρ' H' → Sim K ρ' h' H' → RE K ρ' H' η' σ' → D.nx σ' H'
  | .brk η' h' => ∀ ρ' H' σ', Step ρ H ρ' H' → Sim K ρ' h' H' → RE K ρ' H' η' σ' → D.bk σ' H'
  | .cont η' h' => ∀ ρ' H' σ', Step ρ H ρ' H' → Sim K ρ' h' H' → RE K ρ' H' η' σ' → D.ct σ' H'
  | .ret v h' => ∀ ρ' H' x, Step ρ H ρ' H' → Sim K ρ' h' H' → RV K ρ' H' v x → D.rt x H'
  | .exc e η' h' => ∀ ρ' H' cls d σ', Step ρ H ρ' H' → Sim K ρ' h' H' → RE K ρ' H' η' σ' → RX K ca ρ' H' e cls d → W cls d σ' H'
  | .stuck => False
def tS (m : Cd.SM) : TS := fun D σ H => ∃ ρ h η, Sim K ρ h H ∧ RE K ρ H η σ ∧ postS K ca W ρ H (m η h) D
def tG (g : Cd.GM) : TG := fun x σ H Q => ∃ ρ h η d η', Sim K ρ h H ∧ RE K ρ H η σ ∧ RV K ρ H d x ∧ g d η = some η' ∧ ∀ σ', RE K ρ H η' σ' → Q σ' H
def tGs (g : Cd.GMs) : TGs := fun xs σ H Q => ∃ ρ h η ds η', Sim K ρ h H ∧ RE K ρ H η σ ∧ RVs K ρ H ds xs ∧ g ds η = some η' ∧ ∀ σ', RE K ρ H η' σ' → Q σ' H
end
abbrev KS (X : Cx) (ca : String → Value) (W : WX) (st : Stmt) (m : Cd.SM) : Prop := PS X st (tS X.K ca W m)
abbrev KSs (X : Cx) (ca : String → Value) (W : WX) (st : List Stmt) (m : Cd.SM) : Prop := PSs X st (tS X.K ca W m)
abbrev KG (X : Cx) (tg : Expr) (g : Cd.GM) : Prop := PG X tg (tG X.K g)
abbrev KGs (X : Cx) (ts : List Expr) (g : Cd.GMs) : Prop := PGs X ts (tGs X.K g)

section
variable {K : PySem.W.Frag} {ca : String → Value} {W : WX} {ρ ρ1 : List Addr} {H H1 : Hp} {σ : L2.St} {h : Cd.Hep} {η : Cd.Env}
theorem postS.mono {r : Cd.SR} {D : Ends} (st : Step ρ H ρ1 H1) (p : postS K ca W ρ H r D) : postS K ca W ρ1 H1 r D := by
  cases r with
  | nx η' h' => exact fun ρ' H' σ' s2 S q => p ρ' H' σ' (st.trans s2) S q
  | brk η' h' => exact fun ρ' H' σ' s2 S q => p ρ' H' σ' (st.trans s2) S q
  | cont η' h' => exact fun ρ' H' σ' s2 S q => p ρ' H' σ' (st.trans s2) S q
  | ret v h' => exact fun ρ' H' x s2 S q => p ρ' H' x (st.trans s2) S q
  | exc e η' h' => exact fun ρ' H' cls d σ' s2 S q => p ρ' H' cls d σ' (st.trans s2) S q
  | stuck => exact p
/-- an expression within a statement -/
theorem postS.first {α β : Type} {R : List Addr → Hp → α → β → Prop} {r : Cd.Res α} {f : α → Cd.Hep → Cd.SR} {D : Ends} {C : β → Hp → Prop} (S0 : Sim K ρ h H) (re : RE K ρ H η σ) (p : postS K ca W ρ H (r.thn η f) D)
    (c : ∀ ρ1 H1 h1 v x, Step ρ H ρ1 H1 → Sim K ρ1 h1 H1 → R ρ1 H1 v x → RE K ρ1 H1 η σ → postS K ca W ρ1 H1 (f v h1) D → C x H1) : postG K ca W R ρ H σ r C := by
  cases r with
  | ok v h' => exact fun ρ' H' x st S q => c ρ' H' h' v x st S q (re.mono st S0) (postS.mono st p)
  | exc e h' => exact fun ρ' H' cls d st S q => p ρ' H' cls d σ st S (re.mono st S0) q
  | stuck => exact p.elim
/-- a statement ahead of another -/
theorem postS.seq {r : Cd.SR} {f : Cd.Env → Cd.Hep → Cd.SR} {D : Ends} {C : L2.St → Hp → Prop} (p : postS K ca W ρ H (r.bind f) D)
    (c : ∀ ρ1 H1 h1 η1 σ1, Step ρ H ρ1 H1 → Sim K ρ1 h1 H1 → RE K ρ1 H1 η1 σ1 → postS K ca W ρ1 H1 (f η1 h1) D → C σ1 H1) : postS K ca W ρ H r { D with nx := C } := by
  cases r with
  | nx η' h' => exact fun ρ' H' σ' st S q => c ρ' H' h' η' σ' st S q (postS.mono st p)
  | brk η' h' => exact p
  | cont η' h' => exact p
  | ret v h' => exact p
  | exc e η' h' => exact p
  | stuck => exact p
end

section
variable {X : Cx} {ca : String → Value} {W : WX} {a b c e : Expr} {ma mb me : Cd.EM} {pos : Pos} {st : Stmt} {rest : List Stmt} {ms mt : Cd.SM}
theorem ks_wk_nx {t : TS} (h : PS X st t) (k : ∀ D σ H, D.nx σ H → t D σ H) : KS X ca W st Cd.sNop := PS.wk h fun D σ H ⟨ρ, h, η, S, re, p⟩ => k D σ H (p ρ H σ (Step.refl _ _) S re)
theorem ks_pass : KS X ca W (.Pass pos) Cd.sNop := ks_wk_nx ps_pass fun _ _ _ h => h
theorem ks_doc {x j pos pos'} : KS X ca W (.Expr (.Constant (.str x) j pos) pos') Cd.sNop := ks_wk_nx ps_doc fun _ _ _ h => h
theorem ks_break : KS X ca W (.Break pos) Cd.sBrk := PS.wk ps_break fun D σ H ⟨ρ, h, η, S, re, p⟩ => p ρ H σ (Step.refl _ _) S re
theorem ks_continue : KS X ca W (.Continue pos) Cd.sCont := PS.wk ps_continue fun D σ H ⟨ρ, h, η, S, re, p⟩ => p ρ H σ (Step.refl _ _) S re
theorem kss_nil : KSs X ca W [] Cd.sNop := PSs.wk pss_nil fun D σ H ⟨ρ, h, η, S, re, p⟩ => p ρ H σ (Step.refl _ _) S re
theorem kss_one (h : KS X ca W st ms) : KSs X ca W [st] ms := pss_one h
theorem kss_cons (h1 : KS X ca W st ms) (h2 : KSs X ca W rest mt) : KSs X ca W (st :: rest) (Cd.sSeq ms mt) := by
  refine PSs.wk (pss_cons h1 h2) fun D σ H ⟨ρ, h, η, S, re, p⟩ => ?_
  exact ⟨ρ, h, η, S, re, postS.seq p fun ρ1 H1 h1 η1 σ1 st1 S1 re1 p1 => ⟨ρ1, h1, η1, S1, re1, p1⟩⟩
theorem ks_expr (he : KE X ca W e me) (hs : swapsWith e none pos.line X.env = pure false := by rfl) : KS X ca W (.Expr e pos) (Cd.sExpr me) := by
  refine PS.wk (ps_expr he hs) fun D σ H ⟨ρ, h, η, S, re, p⟩ => ?_
  exact ⟨ρ, h, η, S, re, postS.first S re p fun ρ1 H1 h1 v x st1 S1 r1 re1 p1 => p1 ρ1 H1 σ (Step.refl _ _) S1 re1⟩
theorem ks_ret (he : KE X ca W e me) : KS X ca W (.Return (some e) pos) (Cd.sRet me) := by
  refine PS.wk (ps_ret he) fun D σ H ⟨ρ, h, η, S, re, p⟩ => ?_
  exact ⟨ρ, h, η, S, re, postS.first S re p fun ρ1 H1 h1 v x st1 S1 r1 re1 p1 => p1 ρ1 H1 x (Step.refl _ _) S1 r1⟩
theorem ks_retN : KS X ca W (.Return none pos) Cd.sRetN := PS.wk ps_retN fun D σ H ⟨ρ, h, η, S, re, p⟩ => p ρ H .non (Step.refl _ _) S .non
theorem ks_if {tc : Cd.TM} {sa sb : List Stmt} (hc : KT X ca W c tc) (ha : KSs X ca W sa ms) (hb : KSs X ca W sb mt) : KS X ca W (.If c sa sb pos) (Cd.sIf tc ms mt) := by
  refine PS.wk (ps_if hc ha hb) fun D σ H ⟨ρ, h, η, S, re, p⟩ => ?_
  refine ⟨ρ, h, η, S, re, postS.first S re p fun ρ1 H1 h1 k x st1 S1 r1 re1 p1 => ?_⟩
  cases (show k = x from r1)
  cases k with
  | true => exact ⟨ρ1, h1, η, S1, re1, p1⟩
  | false => exact ⟨ρ1, h1, η, S1, re1, p1⟩
theorem ks_set (i : Nat) {x : Str} {pos' : Pos} (hN : X.N.Nodup) (he : KE X ca W e me) (hi : X.N[i]? = some x := by rfl) (hx : Loc X.env.scope x := by first | exact Or.inl rfl | exact Or.inr rfl) (hs : swapsWith e (some (.Name x pos')) pos.line X.env = pure false := by rfl)
    (hf : X.fn x = true ∨ X.env.scope.names.lookup x = some .local := by first | exact .inl rfl | exact .inr rfl | assumption) : KS X ca W (.Assign [.Name x pos'] e pos) (Cd.sSet i me) := by
  refine PS.wk (ps_set hN hi hx he hs hf) fun D σ H ⟨ρ, h, η, S, re, p⟩ => ?_
  refine ⟨ρ, h, η, S, re, postS.first S re p fun ρ1 H1 h1 v x st1 S1 r1 re1 p1 => ?_⟩
  exact p1 ρ1 H1 _ (Step.refl _ _) S1 (re1.set r1 i)
/-! ### targets -/
theorem PG.wk {tg : Expr} {t t' : TG} (h : PG X tg t) (k : ∀ v σ H Q, t' v σ H Q → t v σ H Q) : PG X tg t' := ⟨fun pins s σ H v u Q I r hw => h.run pins s σ H v u Q I r (k _ _ _ _ hw)⟩
theorem PGs.wk {ts : List Expr} {t t' : TGs} (h : PGs X ts t) (k : ∀ v σ H Q, t' v σ H Q → t v σ H Q) : PGs X ts t' := ⟨fun pins s σ H v u Q I r hw => h.run pins s σ H v u Q I r (k _ _ _ _ hw)⟩
theorem kg_name (i : Nat) {x : Str} (hN : X.N.Nodup) (hi : X.N[i]? = some x := by rfl) (hx : Loc X.env.scope x := by first | exact Or.inl rfl | exact Or.inr rfl) (hf : X.fn x = true ∨ X.env.scope.names.lookup x = some .local := by first | exact .inl rfl | exact .inr rfl | assumption) :
    KG X (.Name x pos) (Cd.gNam i) := by
  refine PG.wk (pg_name hN hi hx hf) fun v σ H Q ⟨ρ, h, η, d, η', S, re, r, e, k⟩ => ?_
  cases e
  exact k _ (re.set r i)
theorem kgs_nil : KGs X [] Cd.gsNil := by
  refine PGs.wk pgs_nil fun vs σ H Q ⟨ρ, h, η, ds, η', S, re, r, e, k⟩ => ?_
  cases r with
  | nil => cases e; exact ⟨rfl, k _ re⟩
  | cons _ _ => cases e
theorem kgs_cons {t : Expr} {ts : List Expr} {g : Cd.GM} {gs : Cd.GMs} (h1 : KG X t g) (h2 : KGs X ts gs) (hs : (assignEach (t :: ts) X.env).map (·.2) = assign t X.env :: (assignEach ts X.env).map (·.2) := by rfl) : KGs X (t :: ts) (Cd.gsCons g gs) := by
  refine PGs.wk (pgs_cons h1 h2 hs) fun vs σ H Q ⟨ρ, h, η, ds, η', S, re, r, e, k⟩ => ?_
  cases r with
  | nil => cases e
  | @cons d v ds vs r1 r2 =>
    simp only [Cd.gsCons] at e
    cases eg : g d η with
    | none => rw [eg] at e; cases e
    | some η1 =>
      rw [eg] at e
      exact ⟨v, vs, rfl, ρ, h, η, d, η1, S, re, r1, eg, fun σ1 re1 => ⟨ρ, h, η1, ds, η', S, re1, r2, e, k⟩⟩
theorem gs_len : ∀ {ts : List Expr} {gs : Cd.GMs}, (∀ ds η η', gs ds η = some η' → ds.length = ts.length) → True := fun _ => trivial
theorem kg_tup {ts : List Expr} {kk : Nat} {gs : Cd.GMs} {n : Nat} (hc : X.calm = true) (h : KGs X ts gs) (hl : ∀ ds η η', gs ds η = some η' → ds.length = n)
    (hn : (assignEach ts X.env).length = n := by rfl) (hst : (assignEach ts X.env).findIdx? (·.1) = none := by rfl) : KG X (.Tuple ts kk pos) (Cd.gTpl gs) := by
  refine PG.wk (pg_tup hc h hn hst) fun v σ H Q ⟨ρ, h, η, d, η', S, re, r, e, k⟩ => ?_
  cases r with
  | tup q rs =>
    refine ⟨_, _, rfl, q, by rw [← rs.length]; exact hl _ _ _ e, ρ, h, η, _, η', S, re, rs, e, k⟩
  | _ => cases e
theorem gl_nil : ∀ ds η η', Cd.gsNil ds η = some η' → ds.length = 0 := fun ds η η' e => by
  cases ds with
  | nil => rfl
  | cons => cases e
theorem gl_cons {g : Cd.GM} {gs : Cd.GMs} {n : Nat} (h : ∀ ds η η', gs ds η = some η' → ds.length = n) : ∀ ds η η', Cd.gsCons g gs ds η = some η' → ds.length = n + 1 := fun ds η η' e => by
  cases ds with
  | nil => cases e
  | cons d ds =>
    simp only [Cd.gsCons] at e
    cases eg : g d η with
    | none => rw [eg] at e; cases e
    | some η1 => rw [eg] at e; rw [List.length_cons, h _ _ _ e]
theorem ks_asg {tg : Expr} {g : Cd.GM} (he : KE X ca W e me) (hg : KG X tg g) (hs : swapsWithSole [tg] e pos.line X.env = pure false := by rfl) (hw : swappedStores [tg] e X.env = pure none := by rfl) (h1 : (assignEach [tg] X.env).map (·.2) = [assign tg X.env] := by rfl) : KS X ca W (.Assign [tg] e pos) (Cd.sAsg g me) := by
  refine PS.wk (ps_asg he hg hs hw h1) fun D σ H ⟨ρ, h, η, S, re, p⟩ => ?_
  refine ⟨ρ, h, η, S, re, postS.first S re p fun ρ1 H1 h1 v x st1 S1 r1 re1 p1 => ?_⟩
  cases eg : g v η with
  | none => rw [eg] at p1; exact p1.elim
  | some η1 =>
    rw [eg] at p1
    exact ⟨ρ1, h1, η, v, η1, S1, re1, r1, eg, fun σ' re' => p1 ρ1 H1 σ' (Step.refl _ _) S1 re'⟩
/-! ### x op= e -/
theorem ks_aug (i : Nat) {x : Str} {op : Operator} {f : Cd.Hep → Cd.Val → Cd.Val → Option Cd.Val} {r : R2} {pos' : Pos} (ho : OpR X (inplaceOp op) r) (hf : BinF X.K f r) (hN : X.N.Nodup) (he : KE X ca W e me) (hi : X.N[i]? = some x := by rfl) (hx : Loc X.env.scope x := by first | exact Or.inl rfl | exact Or.inr rfl)
    (hff : X.fn x = true ∨ X.env.scope.names.lookup x = some .local := by first | exact .inl rfl | exact .inr rfl | assumption) : KS X ca W (.AugAssign (.Name x pos') op e pos) (Cd.sAug i f me) := by
  refine PS.wk (ps_aug (ti := r) hN hi hx he ho hff) fun D σ H ⟨ρ, h, η, S, re, p⟩ => ?_
  unfold Cd.sAug at p
  split at p
  · rename_i d ed
    obtain ⟨v, e1, r1⟩ := re.at_ i d ed
    refine ⟨v, e1, ρ, h, η, S, re, postS.first S re p fun ρ1 H1 h1 d2 y st1 S1 r2 re1 p1 => ?_⟩
    cases ef : f h1 d d2 with
    | none => rw [ef] at p1; exact p1.elim
    | some z =>
      rw [ef] at p1
      exact hf ρ1 h1 H1 d d2 z v y _ S1 (r1.mono st1 S) r2 ef fun ρ2 H2 w st2 S2 rw2 => p1 ρ2 H2 _ st2 S2 ((re1.mono st2 S1).set rw2 i)
  · exact p.elim
/-! ### while -/
theorem ks_while {tc : Cd.TM} {body : List Stmt} (hp : PassesOwn (model X.prog X.w) X.A X.env X.xe) (hc : KT X ca W c tc) (hb : KSs X ca W body ms) : KS X ca W (.While c body [] pos) (Cd.sWhile tc ms) := by
  refine PS.wk (ps_while hp hc hb) fun D σ H ⟨ρ, h, η, S, re, p⟩ => ?_
  by_cases q : ∃ n, Cd.whileN tc ms n η h ≠ .stuck
  · obtain ⟨n, q⟩ := q
    rw [Cd.sWhile_of q] at p
    refine ⟨fun m σ H => ∃ ρ h η, Sim X.K ρ h H ∧ RE X.K ρ H η σ ∧ postS X.K ca W ρ H (Cd.whileN tc ms m η h) D, ⟨n, ρ, h, η, S, re, p⟩, ?_⟩
    rintro m σ H ⟨ρ, h, η, S, re, p⟩
    cases m with
    | zero => exact p.elim
    | succ m =>
      rw [Cd.whileN] at p
      refine ⟨ρ, h, η, S, re, postS.first S re p fun ρ1 H1 h1 k x st1 S1 r1 re1 p1 => ?_⟩
      cases (show k = x from r1)
      cases k with
      | false => exact p1 ρ1 H1 σ (Step.refl _ _) S1 re1
      | true =>
        refine ⟨fun σ' H' => ∃ ρ h η, Sim X.K ρ h H' ∧ RE X.K ρ H' η σ' ∧ postS X.K ca W ρ H' (Cd.whileN tc ms m η h) D, fun σ' H' w => ⟨m, Nat.lt_succ_self _, w⟩, ρ1, h1, η, S1, re1, ?_⟩
        simp only [if_true] at p1
        cases eb : ms η h1 with
        | nx η' h' => rw [eb] at p1; exact fun ρ2 H2 σ2 st2 S2 re2 => ⟨ρ2, h', η', S2, re2, postS.mono st2 p1⟩
        | cont η' h' => rw [eb] at p1; exact fun ρ2 H2 σ2 st2 S2 re2 => ⟨ρ2, h', η', S2, re2, postS.mono st2 p1⟩
        | brk η' h' => rw [eb] at p1; exact p1
        | ret v h' => rw [eb] at p1; exact p1
        | exc e η' h' => rw [eb] at p1; exact p1
        | stuck => rw [eb] at p1; exact p1
  · rw [Cd.sWhile_stuck q] at p
    exact p.elim
/-! ### for -/
/-- an iterator that yields the items while chk holds -/
structure ItF (K : PySem.W.Frag) (J : It) (ds : List Cd.Val) (chk : Cd.Hep → Bool) (ρ0 : List Addr) (H0 : Hp) : Prop where
  go : ∀ ρ H h i, Step ρ0 H0 ρ H → Sim K ρ h H → chk h = true → i < ds.length → J.go i H
  stop : ∀ ρ H h i, Step ρ0 H0 ρ H → Sim K ρ h H → chk h = true → i = ds.length → J.stop i H
  yld : ∀ ρ H h i d x H', Step ρ0 H0 ρ H → Sim K ρ h H → chk h = true → ds[i]? = some d → J.yld i H x H' → Step ρ H ρ H' ∧ Sim K ρ h H' ∧ RV K ρ H' d x
def tI (K : PySem.W.Frag) (ca : String → Value) (W : WX) (m : Cd.IM) : TI := fun σ H R => ∃ ρ h η, Sim K ρ h H ∧ RE K ρ H η σ ∧
  match m η h with
  | .ok p h' => ∀ ρ' H' J, Step ρ H ρ' H' → Sim K ρ' h' H' → ItF K J p.1 p.2 ρ' H' → R J H'
  | .exc e h' => ∀ ρ' H' cls d, Step ρ H ρ' H' → Sim K ρ' h' H' → RX K ca ρ' H' e cls d → W cls d σ H'
  | .stuck => False
abbrev KI (X : Cx) (ca : String → Value) (W : WX) (tg iter : Expr) (m : Cd.IM) : Prop := PI X tg iter (tI X.K ca W m)
theorem forL_post {K : PySem.W.Frag} {g : Cd.GM} {gt : TG} {tb : TS} (hg : ∀ v σ H Q, tG K g v σ H Q → gt v σ H Q) (hb : ∀ D σ H, tS K ca W ms D σ H → tb D σ H) {J : It} {ds : List Cd.Val} {chk : Cd.Hep → Bool} {ρ0 : List Addr} {H0 : Hp} {h0 : Cd.Hep} {η0 : Cd.Env} {σ0 : L2.St} {D : Ends}
    (F : ItF K J ds chk ρ0 H0) (S : Sim K ρ0 h0 H0) (re : RE K ρ0 H0 η0 σ0) (p : postS K ca W ρ0 H0 (Cd.forL g chk ms ds η0 h0) D) :
    ∃ Wv : Nat → Nat → L2.St → Hp → Prop, (∃ m, Wv 0 m σ0 H0) ∧ ∀ i m σ H, Wv i m σ H →
      (J.stop i H ∧ D.nx σ H) ∨ (J.go i H ∧ ∃ N : L2.St → Hp → Prop, (∀ σ' H', N σ' H' → ∃ m', m' < m ∧ Wv (i + 1) m' σ' H') ∧ ∀ x H', J.yld i H x H' → gt x σ H' fun σ2 H2 => tb { D with nx := N, ct := N, bk := D.nx } σ2 H2) := by
  refine ⟨fun i m σ H => (m + i = ds.length + 1 ∧ i ≤ ds.length) ∧ ∃ ρ h η, Step ρ0 H0 ρ H ∧ Sim K ρ h H ∧ RE K ρ H η σ ∧ postS K ca W ρ H (Cd.forL g chk ms (ds.drop i) η h) D, ⟨ds.length + 1, ⟨rfl, Nat.zero_le _⟩, ρ0, h0, η0, Step.refl _ _, S, re, p⟩, ?_⟩
  rintro i m σ H ⟨⟨em, eil⟩, ρ, h, η, st, S, re, p⟩
  by_cases hi : i < ds.length
  · rw [List.drop_eq_getElem_cons hi, Cd.forL] at p
    split at p
    · rename_i hc
      refine .inr ⟨F.go ρ H h i st S hc hi, fun σ' H' => ∃ ρ h η, Step ρ0 H0 ρ H' ∧ Sim K ρ h H' ∧ RE K ρ H' η σ' ∧ postS K ca W ρ H' (Cd.forL g chk ms (ds.drop (i + 1)) η h) D, fun σ' H' w => ⟨m - 1, by omega, ⟨by omega, by omega⟩, w⟩, fun x H' y => ?_⟩
      obtain ⟨st1, S1, r1⟩ := F.yld ρ H h i ds[i] x H' st S hc (List.getElem?_eq_getElem hi) y
      cases eg : g ds[i] η with
      | none => rw [eg] at p; exact p.elim
      | some η1 =>
        rw [eg] at p
        simp only at p
        refine hg _ _ _ _ ⟨ρ, h, η, ds[i], η1, S1, re.mono st1 S, r1, eg, fun σ2 re2 => hb _ _ _ ⟨ρ, h, η1, S1, re2, ?_⟩⟩
        have p := postS.mono st1 p
        cases eb : ms η1 h with
        | nx η' h' => rw [eb] at p; exact fun ρ2 H2 σ3 st2 S2 re3 => ⟨ρ2, h', η', st.trans (st1.trans st2), S2, re3, postS.mono st2 p⟩
        | cont η' h' => rw [eb] at p; exact fun ρ2 H2 σ3 st2 S2 re3 => ⟨ρ2, h', η', st.trans (st1.trans st2), S2, re3, postS.mono st2 p⟩
        | brk η' h' => rw [eb] at p; exact p
        | ret v h' => rw [eb] at p; exact p
        | exc e η' h' => rw [eb] at p; exact p
        | stuck => rw [eb] at p; exact p
    · exact p.elim
  · rw [List.drop_eq_nil_of_le (by omega), Cd.forL] at p
    split at p
    · rename_i hc
      exact .inl ⟨F.stop ρ H h i st S hc (by omega), p ρ H σ (Step.refl _ _) S re⟩
    · exact p.elim
theorem ks_for {tg iter : Expr} {body : List Stmt} {mi : Cd.IM} {g : Cd.GM} (hp : PassesOwn (model X.prog X.w) X.A X.env X.xe) (hc : X.calm = true) (hi : KI X ca W tg iter mi) (hg : KG X tg g) (hb : KSs X ca W body ms)
    (hs : ∀ x, foldedSetIterable iter X.env x = pure x := by intro _; rfl) : KS X ca W (.For tg iter body [] pos) (Cd.sFor mi g ms) := by
  refine PS.wk (ps_for hp hc hi hg hb hs) fun D σ H ⟨ρ, h, η, S, re, p⟩ => ?_
  refine ⟨ρ, h, η, S, re, ?_⟩
  unfold Cd.sFor at p
  cases em : mi η h with
  | ok q h' =>
    rw [em] at p
    exact fun ρ' H' J st S' F => forL_post (fun _ _ _ _ x => x) (fun _ _ _ x => x) F S' (re.mono st S) (postS.mono st p)
  | exc e h' =>
    rw [em] at p
    exact fun ρ' H' cls d st S' q => p ρ' H' cls d σ st S' (re.mono st S) q
  | stuck => rw [em] at p; exact p.elim
theorem PI.wk {tg iter : Expr} {t t' : TI} (h : PI X tg iter t) (k : ∀ σ H R, t' σ H R → t σ H R) : PI X tg iter t' := ⟨fun pins s σ H R I hw => h.run pins s σ H R I (k _ _ _ hw)⟩
theorem PI.or {tg iter : Expr} {t t' : TI} (h : PI X tg iter t) (h' : PI X tg iter t') : PI X tg iter (fun σ H R => t σ H R ∨ t' σ H R) := ⟨fun pins s σ H R I hw => by
  rcases hw with hw | hw
  · exact h.run pins s σ H R I hw
  · exact h'.run pins s σ H R I hw⟩
theorem SqL.inj' {K : PySem.W.Frag} {H : Hp} {a : Addr} {xs ys : List V} (h : FzL K H a xs) (n : ∀ vs, H a = some (.lst vs) → False) (h' : SqL K H a ys) : True := trivial
theorem itf_tup {K : PySem.W.Frag} {ρ : List Addr} {H : Hp} {h : Cd.Hep} {a : Addr} {ds : List Cd.Val} {vs : List V} (S : Sim K ρ h H) (q : SqT K H a vs) (r : RVs K ρ H ds vs) : ItF K (Itt K a) ds (fun _ => true) ρ H where
  go := fun ρ1 H1 h1 i st S1 _ hi => ⟨vs, vs[i]'(by rw [← r.length]; exact hi), st.sqT S q, List.getElem?_eq_getElem _⟩
  stop := fun ρ1 H1 h1 i st S1 _ hi => ⟨vs, st.sqT S q, by rw [← r.length]; omega⟩
  yld := fun ρ1 H1 h1 i d x H' st S1 _ hd y => by
    obtain ⟨rfl, y⟩ := y
    obtain ⟨v, e1, e2⟩ := r.get hd
    have := y vs (st.sqT S q)
    rw [e1] at this; cases this
    exact ⟨Step.refl _ _, S1, e2.mono st S⟩
theorem itf_fl {K : PySem.W.Frag} {ρ : List Addr} {H : Hp} {h : Cd.Hep} {a : Addr} {ds : List Cd.Val} {vs : List V} (S : Sim K ρ h H) (q : FzL K H a vs) (r : RVs K ρ H ds vs) : ItF K (Itl K a) ds (fun _ => true) ρ H where
  go := fun ρ1 H1 h1 i st S1 _ hi => ⟨vs, vs[i]'(by rw [← r.length]; exact hi), (st.fzL S q).sq, List.getElem?_eq_getElem _⟩
  stop := fun ρ1 H1 h1 i st S1 _ hi => ⟨vs, (st.fzL S q).sq, by rw [← r.length]; omega⟩
  yld := fun ρ1 H1 h1 i d x H' st S1 _ hd y => by
    obtain ⟨rfl, y⟩ := y
    obtain ⟨v, e1, e2⟩ := r.get hd
    have := y vs (st.fzL S q).sq
    rw [e1] at this; cases this
    exact ⟨Step.refl _ _, S1, e2.mono st S⟩
theorem itf_lst {K : PySem.W.Frag} {ρ : List Addr} {H : Hp} {a : Addr} {n : Nat} {ds : List Cd.Val} (q : ρ[n]? = some a) (chk : Cd.Hep → Bool) (hc : ∀ h', chk h' = true → h'[n]? = some (.lst ds)) : ItF K (Itl K a) ds chk ρ H where
  go := fun ρ1 H1 h1 i st S1 c hi => by
    obtain ⟨vs, e1, r⟩ := S1.obj n _ a (hc h1 c) (st.ix q)
    exact ⟨vs, vs[i]'(by rw [← r.length]; exact hi), SqL.of e1, List.getElem?_eq_getElem _⟩
  stop := fun ρ1 H1 h1 i st S1 c hi => by
    obtain ⟨vs, e1, r⟩ := S1.obj n _ a (hc h1 c) (st.ix q)
    exact ⟨vs, SqL.of e1, by rw [← r.length]; omega⟩
  yld := fun ρ1 H1 h1 i d x H' st S1 c hd y => by
    obtain ⟨rfl, y⟩ := y
    obtain ⟨vs, e1, r⟩ := S1.obj n _ a (hc h1 c) (st.ix q)
    obtain ⟨v, e2, e3⟩ := r.get hd
    have := y vs (SqL.of e1)
    rw [e2] at this; cases this
    exact ⟨Step.refl _ _, S1, e3⟩
theorem itf_str {K : PySem.W.Frag} {ρ : List Addr} {H : Hp} (s : List Nat) : ItF K (Its (toS s)) (s.map fun c => .str [c]) (fun _ => true) ρ H where
  go := fun ρ1 H1 h1 i st S1 _ hi => by rw [List.length_map] at hi; exact hi
  stop := fun ρ1 H1 h1 i st S1 _ hi => by rw [List.length_map] at hi; exact Nat.le_of_eq hi.symm
  yld := fun ρ1 H1 h1 i d x H' st S1 _ hd y => by
    obtain ⟨rfl, c, e1, rfl⟩ := y
    have e2 : s[i]? = some c := by
      have : (toS s).cps[i]? = s[i]? := by simp [toS]
      rw [← this]; exact e1
    rw [List.getElem?_map, e2] at hd
    cases hd
    exact ⟨Step.refl _ _, S1, .str [c]⟩
theorem itf_rng {K : PySem.W.Frag} {ρ : List Addr} {H : Hp} (lo : Int) (n : Nat) : ItF K (Itr lo n) (Cd.rng lo n) (fun _ => true) ρ H where
  go := fun ρ1 H1 h1 i st S1 _ hi => by
    have : i < n := by simpa [Cd.rng] using hi
    exact this
  stop := fun ρ1 H1 h1 i st S1 _ hi => by
    have : i = n := by simpa [Cd.rng] using hi
    exact Nat.le_of_eq this.symm
  yld := fun ρ1 H1 h1 i d x H' st S1 _ hd y => by
    obtain ⟨rfl, rfl⟩ := y
    have hi : i < n := by
      have := (List.getElem?_eq_some_iff.mp hd).1
      simpa [Cd.rng] using this
    unfold Cd.rng at hd
    rw [List.getElem?_map, List.getElem?_range hi] at hd
    cases hd
    exact ⟨Step.refl _ _, S1, .int _⟩
theorem ki_val {tg : Expr} (he : KE X ca W e me) : KI X ca W tg e (Cd.iVal me) := by
  refine PI.wk (PI.or (pi_tup he) (PI.or (pi_list he) (pi_str he))) fun σ H R ⟨ρ, h, η, S, re, p⟩ => ?_
  unfold Cd.iVal at p
  cases em : me η h with
  | stuck => rw [em] at p; exact p.elim
  | exc e h' => rw [em] at p; exact .inl ⟨ρ, h, η, S, re, by rw [em]; exact p⟩
  | ok v h' =>
    rw [em] at p
    simp only [Cd.Res.bind_ok] at p
    cases ei : Cd.items h' v with
    | none => rw [ei] at p; exact p.elim
    | some q =>
      rw [ei] at p
      simp only [Cd.ofO_some] at p
      unfold Cd.items at ei
      split at ei
      · cases ei
        refine .inl ⟨ρ, h, η, S, re, ?_⟩
        rw [em]
        intro ρ1 H1 x st1 S1 r1
        cases r1 with
        | tup q1 rs => exact ⟨_, rfl, ⟨_, q1⟩, p ρ1 H1 _ st1 S1 (itf_tup S1 q1 rs)⟩
      · cases ei
        refine .inr (.inl ⟨ρ, h, η, S, re, ?_⟩)
        rw [em]
        intro ρ1 H1 x st1 S1 r1
        cases r1 with
        | fl q1 rs => exact ⟨_, rfl, ⟨_, q1.sq⟩, p ρ1 H1 _ st1 S1 (itf_fl S1 q1 rs)⟩
      · cases ei
        refine .inr (.inr ⟨ρ, h, η, S, re, ?_⟩)
        rw [em]
        intro ρ1 H1 x st1 S1 r1
        cases r1
        exact ⟨_, rfl, p ρ1 H1 _ st1 S1 (itf_str _)⟩
      · split at ei
        · rename_i l hl
          cases ei
          refine .inr (.inl ⟨ρ, h, η, S, re, ?_⟩)
          rw [em]
          intro ρ1 H1 x st1 S1 r1
          cases r1 with
          | ref q1 =>
            obtain ⟨vs, e1, rs⟩ := S1.obj _ _ _ hl q1
            exact ⟨_, rfl, ⟨vs, SqL.of e1⟩, p ρ1 H1 _ st1 S1 (itf_lst q1 _ fun h' c => @of_decide_eq_true _ (Classical.propDecidable _) c)⟩
        · cases ei
      · cases ei
theorem tI_args {f : Cd.Hep → List Cd.Val → Option (List Cd.Val × (Cd.Hep → Bool))} {mas : Cd.AM} {σ : L2.St} {H : Hp} {R : It → Hp → Prop} {C : List V → Hp → Prop} (p : tI X.K ca W (Cd.iArgs f mas) σ H R)
    (c : ∀ ρ1 H1 h1 ds xs q, Sim X.K ρ1 h1 H1 → RVs X.K ρ1 H1 ds xs → f h1 ds = some q → (∀ ρ' H' J, Step ρ1 H1 ρ' H' → Sim X.K ρ' h1 H' → ItF X.K J q.1 q.2 ρ' H' → R J H') → C xs H1) : tA X.K ca W mas σ H C := by
  obtain ⟨ρ, h, η, S, re, p⟩ := p
  refine ⟨ρ, h, η, S, re, ?_⟩
  unfold Cd.iArgs at p
  cases em : mas η h with
  | stuck => rw [em] at p; exact p.elim
  | exc e h' => rw [em] at p; exact p
  | ok v h' =>
    rw [em] at p
    simp only [Cd.Res.bind_ok] at p
    intro ρ1 H1 xs st1 S1 r1
    cases ef : f h' v with
    | none => rw [ef] at p; exact p.elim
    | some q =>
      rw [ef] at p
      exact c ρ1 H1 h' v xs q S1 r1 ef fun ρ' H' J st' S' F => p ρ' H' J (st1.trans st') S' F
theorem ki_rng1 {tg : Expr} {p : Pos} {mas : Cd.AM} (hm : X.mg "range" = none) (ha : KA X ca W [a] mas) (hg : Gl X "range" := by rfl) (hs : starEach [a] X.env = [(false, eval a X.env)] := by rfl) : KI X ca W tg (.Call (.Name "range" p) [a] [] pos) (Cd.iArgs Cd.fRng1 mas) := by
  refine PI.wk (pi_range1 hg hm ha hs) fun σ H R p => tI_args p fun ρ1 H1 h1 ds xs q S1 r1 ef k => ?_
  unfold Cd.fRng1 at ef
  split at ef
  · rename_i j
    split at ef
    · rename_i hj
      cases ef
      cases r1 with
      | cons r2 r3 =>
        cases r2; cases r3
        exact ⟨j, rfl, hj.1, hj.2, k ρ1 H1 _ (Step.refl _ _) S1 (itf_rng 0 _)⟩
    · cases ef
  · cases ef
theorem ki_rng2 {tg : Expr} {p : Pos} {mas : Cd.AM} (hm : X.mg "range" = none) (ha : KA X ca W [a, b] mas) (hg : Gl X "range" := by rfl) (hs : starEach [a, b] X.env = [(false, eval a X.env), (false, eval b X.env)] := by rfl) (hs2 : starEach [b] X.env = [(false, eval b X.env)] := by rfl) :
    KI X ca W tg (.Call (.Name "range" p) [a, b] [] pos) (Cd.iArgs Cd.fRng2 mas) := by
  refine PI.wk (pi_range2 hg hm ha hs hs2) fun σ H R p => tI_args p fun ρ1 H1 h1 ds xs q S1 r1 ef k => ?_
  unfold Cd.fRng2 at ef
  split at ef
  · rename_i i j
    split at ef
    · rename_i hj
      cases ef
      cases r1 with
      | cons r2 r3 =>
        cases r2
        cases r3 with
        | cons r4 r5 =>
          cases r4; cases r5
          exact ⟨i, j, rfl, ⟨hj.1.1, hj.1.2, hj.2.1, hj.2.2⟩, k ρ1 H1 _ (Step.refl _ _) S1 (itf_rng i _)⟩
    · cases ef
  · cases ef

/-! ### calls -/
/-- the promise of a def whose reading is F, of n parameters -/
def spF (K : PySem.W.Frag) (ca : String → Value) (n : Nat) (F : Cd.Fn) : Sp := fun vs H Q E => vs.length = n ∧ ∃ ρ h ds, Sim K ρ h H ∧ RVs K ρ H ds vs ∧
  match F ds h with
  | .ok v h' => ∀ ρ' H' x, Step ρ H ρ' H' → Sim K ρ' h' H' → RV K ρ' H' v x → Q x H'
  | .exc e h' => ∀ ρ' H' cls d, Step ρ H ρ' H' → Sim K ρ' h' H' → RX K ca ρ' H' e cls d → E cls d H'
  | .stuck => False
theorem k_call {k n : Nat} {f : Addr} {fd : FuncData} {ps : List Str} {F : Cd.Fn} {x : Str} {p : Pos} {es : List Expr} {mas : Cd.AM} (G : FnOk X.prog X.w X.K X.mg X.base (L2.CX X.prog X.w) k f fd ps (spF X.K ca n F)) (tk : Takes X W) (hr : Room k X.A) (hg : Gl X x) (hm : X.mg x = some (.ref f))
    (hk : PySem.W.keepIn X.K (.ref f) = true) (hb : Binds X.K fd ps []) (hn : n = (e :: es).length) (ha : KA X ca W (e :: es) mas) (hal : ∀ η h vs h', mas η h = .ok vs h' → vs.length = (e :: es).length) (hdb : (x == ("__debug__" : Str)) = false := by decide)
    (he : starEach (e :: es) X.env = (false, eval e X.env) :: starEach es X.env := by rfl) (hpl : (backTo pos (starEach es X.env)).any (·.1) = false := by rfl) : KE X ca W (.Call (.Name x p) (e :: es) [] pos) (Cd.eCall F mas) := by
  refine PE.wk (pe_callS G hr hg hm hk hb (fun σ => passAt tk σ) ha hdb he hpl) fun σ H Q ⟨ρ, h, η, S, re, p⟩ => ?_
  refine ⟨ρ, h, η, S, re, ?_⟩
  unfold Cd.eCall at p
  cases em : mas η h with
  | stuck => rw [em] at p; exact p.elim
  | exc e h' => rw [em] at p; exact p
  | ok ds h1 =>
    rw [em] at p
    simp only [Cd.Res.bind_ok] at p
    intro ρ1 H1 xs st1 S1 r1
    refine ⟨by rw [← r1.length, hal _ _ _ _ em, hn], ρ1, h1, ds, S1, r1, ?_⟩
    cases eF : F ds h1 with
    | stuck => rw [eF] at p; exact p.elim
    | ok v h2 => rw [eF] at p; exact fun ρ2 H2 x st2 S2 r2 => p ρ2 H2 x (st1.trans st2) S2 r2
    | exc ex h2 => rw [eF] at p; exact fun ρ2 H2 cls d st2 S2 r2 => p ρ2 H2 cls d (st1.trans st2) S2 r2
theorem al_nil : ∀ η h vs h', Cd.aNil η h = .ok vs h' → vs.length = 0 := fun η h vs h' e => by cases e; rfl
theorem al_cons {m : Cd.EM} {r : Cd.AM} {n : Nat} (hr : ∀ η h vs h', r η h = .ok vs h' → vs.length = n) : ∀ η h vs h', Cd.aCons m r η h = .ok vs h' → vs.length = n + 1 := fun η h vs h' e => by
  unfold Cd.aCons at e
  cases em : m η h with
  | stuck => rw [em] at e; cases e
  | exc _ _ => rw [em] at e; cases e
  | ok v h1 =>
    rw [em] at e
    simp only [Cd.Res.bind_ok] at e
    cases er : r η h1 with
    | stuck => rw [er] at e; cases e
    | exc _ _ => rw [er] at e; cases e
    | ok vs1 h2 =>
      rw [er] at e
      cases e
      rw [List.length_cons, hr _ _ _ _ er]
/-- a built-in function -/
def BFnF (K : PySem.W.Frag) (F : Cd.BFn) (r : List V → Hp → VK → Prop) : Prop := ∀ (ρ : List Addr) (h h' : Cd.Hep) (H : Hp) (ds : List Cd.Val) (u : Cd.Val) (xs : List V) (Q : VK), Sim K ρ h H → RVs K ρ H ds xs → F ds h = some (u, h') →
  (∀ ρ' H' w, Step ρ H ρ' H' → Sim K ρ' h' H' → RV K ρ' H' u w → Q w H') → r xs H Q
theorem tCB_of {F : Cd.BFn} {r : List V → Hp → VK → Prop} {mas : Cd.AM} (hf : BFnF X.K F r) : ∀ σ H Q, tE X.K ca W (Cd.eCallB F mas) σ H Q → tCB r (tA X.K ca W mas) σ H Q := by
  rintro σ H Q ⟨ρ, h, η, S, re, p⟩
  refine ⟨ρ, h, η, S, re, postG.first p fun ρ1 H1 h1 ds xs st1 S1 r1 p1 => ?_⟩
  cases e : F ds h1 with
  | none => rw [e] at p1; exact p1.elim
  | some q =>
    obtain ⟨u, h2⟩ := q
    rw [e] at p1
    exact hf ρ1 h1 h2 H1 ds u xs Q S1 r1 e p1
theorem k_callB {id : String} {F : Cd.BFn} {r : List V → Hp → VK → Prop} {x : Str} {p : Pos} {es : List Expr} {mas : Cd.AM} (hc : CallR X (.builtin id) r) (hf : BFnF X.K F r) (hm : X.mg x = none) (ha : KA X ca W (e :: es) mas) (hg : Gl X x := by rfl) (hv : bootBuiltins x = some (.builtin id) := by decide +kernel) (hn : x ≠ "__name__" := by decide) (hdb : (x == ("__debug__" : Str)) = false := by decide)
    (he : starEach (e :: es) X.env = (false, eval e X.env) :: starEach es X.env := by rfl) (hpl : (backTo pos (starEach es X.env)).any (·.1) = false := by rfl) : KE X ca W (.Call (.Name x p) (e :: es) [] pos) (Cd.eCallB F mas) :=
  PE.wk (pe_callB hc hg hm hv ha hn hdb he hpl) (tCB_of hf)
theorem k_callTy {T : String} {F : Cd.BFn} {r : List V → Hp → VK → Prop} {x : Str} {p : Pos} {es : List Expr} {mas : Cd.AM} (hc : CallR X (.type T) r) (hf : BFnF X.K F r) (hm : X.mg x = none) (ha : KA X ca W (e :: es) mas) (hg : Gl X x := by rfl) (hv : bootBuiltins x = some (.type T) := by decide +kernel) (hn : x ≠ "__name__" := by decide) (hdb : (x == ("__debug__" : Str)) = false := by decide)
    (he : starEach (e :: es) X.env = (false, eval e X.env) :: starEach es X.env := by rfl) (hpl : (backTo pos (starEach es X.env)).any (·.1) = false := by rfl) : KE X ca W (.Call (.Name x p) (e :: es) [] pos) (Cd.eCallB F mas) :=
  PE.wk (pe_callTy hc hg hm hv ha hn hdb he hpl) (tCB_of hf)
end

/-! ### a def -/
section
variable {P : Program} {w : World} {K : PySem.W.Frag} {mg : Str → Option Value} {base : Heap} {ca : String → Value}
/-- the wish of a def's body: what is raised goes out -/
abbrev WD (E : XK) : WX := fun cls d _ H => E cls d H
theorem re_start {ρ : List Addr} {H : Hp} {ds : List Cd.Val} {vs : List V} {N : List Str} (r : RVs K ρ H ds vs) : RE K ρ H (ds.map some ++ List.replicate (N.length - ds.length) none) (L2.start N vs) := by
  refine ⟨?_, fun i d e => ?_⟩
  · unfold L2.start
    simp only [List.length_append, List.length_map, List.length_replicate, r.length]
  · unfold L2.start
    by_cases hi : i < ds.length
    · rw [List.getElem?_append_left (by simpa using hi), List.getElem?_map] at e
      cases ed : ds[i]? with
      | none => rw [ed] at e; cases e
      | some d' =>
        rw [ed] at e
        cases e
        obtain ⟨v, e1, e2⟩ := r.get ed
        refine ⟨v, ?_, e2⟩
        rw [List.getElem?_append_left (by rw [List.length_map, ← r.length]; exact hi), List.getElem?_map, e1]
        rfl
    · rw [List.getElem?_append_right (by simpa using hi)] at e
      have := List.mem_of_getElem? e
      rw [List.mem_replicate] at this
      cases this.2
theorem k_def {x qual : Str} {st : Stmt} {f : Addr} {fd : FuncData} {N ps : List Str} {k : Nat} {body : Cd.SM} (F : Fun K x qual st f fd) (S : FnScope N ps (defScope st))
    (hb : ∀ (cdv : Value) (A : Around) (outer : List Env) (s : Shared) (H : Hp) (E : XK), Room k (A.deeper (envOfC qual (defScope st) s.heap.objs.size f cdv)) →
      Takes (cxOf (L2.CX P w) P w K mg base N qual (defScope st) f cdv A outer s H E) (WD E) →
      PassesOwn (model P w) (cxOf (L2.CX P w) P w K mg base N qual (defScope st) f cdv A outer s H E).A (cxOf (L2.CX P w) P w K mg base N qual (defScope st) f cdv A outer s H E).env (cxOf (L2.CX P w) P w K mg base N qual (defScope st) f cdv A outer s H E).xe →
      KSs (cxOf (L2.CX P w) P w K mg base N qual (defScope st) f cdv A outer s H E) ca (WD E) (defBody st) body) :
    FnOk P w K mg base (L2.CX P w) (k + 1) f fd ps (spF K ca ps.length (Cd.fn ps.length N.length body)) := by
  refine F.okX S (fun vs H Q E h => h.1) (fun cdv A outer s H vs Q E hr h => ?_)
  obtain ⟨hl, ρ, h0, ds, Si, r, p⟩ := h
  have tk : Takes (cxOf (L2.CX P w) P w K mg base N qual (defScope st) f cdv A outer s H E) (WD E) := takes_of rfl rfl rfl rfl
  refine ⟨_, hb cdv A outer s H E hr tk (passes_of rfl), ρ, h0, _, Si, re_start (N := N) r, ?_⟩
  unfold Cd.fn at p
  rw [if_pos (by rw [r.length, hl])] at p
  have el : ds.length = ps.length := by rw [r.length, hl]
  rw [← el] at p
  cases eb : body (ds.map some ++ List.replicate (N.length - ds.length) none) h0 with
  | nx η' h' => rw [eb] at p; exact fun ρ' H' σ' st S' _ => p ρ' H' .non st S' .non
  | ret v h' => rw [eb] at p; exact p
  | exc e η' h' => rw [eb] at p; exact fun ρ' H' cls d σ' st S' _ q => p ρ' H' cls d st S' q
  | brk _ _ => rw [eb] at p; exact p.elim
  | cont _ _ => rw [eb] at p; exact p.elim
  | stuck => rw [eb] at p; exact p.elim
end
end Cb

set_option Elab.async false
set_option linter.all false
set_option maxRecDepth 100000
set_option maxHeartbeats 4000000
/-! CdB5: the bridge: built-in functions. -/
namespace Cb
open PySem PySem.Spec PyProof.Rows L2
section
variable {X : Cx} {K : PySem.W.Frag} {ca : String → Value} {W : WX}
theorem one_rv {ρ : List Addr} {H : Hp} {d : Cd.Val} {xs : List V} (r : RVs K ρ H [d] xs) : ∃ x, xs = [x] ∧ RV K ρ H d x := by
  cases r with
  | cons a b => cases b; exact ⟨_, rfl, a⟩
theorem two_rv {ρ : List Addr} {H : Hp} {d e : Cd.Val} {xs : List V} (r : RVs K ρ H [d, e] xs) : ∃ x y, xs = [x, y] ∧ RV K ρ H d x ∧ RV K ρ H e y := by
  cases r with
  | cons a b => obtain ⟨y, rfl, q⟩ := one_rv b; exact ⟨_, y, rfl, a, q⟩
/-- a list or tuple by its reading -/
theorem seq_of {ρ : List Addr} {h : Cd.Hep} {H : Hp} {d : Cd.Val} {x : V} {l : List Cd.Val} (S : Sim K ρ h H) (r : RV K ρ H d x) (e : Cd.itsL h d = some l) : ∃ a vs, x = .ref a ∧ SqL K H a vs ∧ RVs K ρ H l vs := by
  cases r with
  | fl q rs => cases e; exact ⟨_, _, rfl, q.sq, rs⟩
  | ref q =>
    simp only [Cd.itsL] at e
    split at e
    · rename_i m hl
      cases e
      obtain ⟨vs, e1, rs⟩ := S.obj _ _ _ hl q
      exact ⟨_, vs, rfl, SqL.of e1, rs⟩
    · cases e
  | _ => cases e
theorem bf_len : BFnF K Cd.bLen (fun xs H Q => ∃ x n, xs = [x] ∧ LenV K x H n ∧ Q (.int n) H) := by
  intro ρ h h' H ds u xs Q S r e k
  unfold Cd.bLen at e
  split at e
  · split at e
    · rename_i s hl
      cases e
      obtain ⟨x, rfl, r0⟩ := one_rv r
      cases r0
      rw [line_eq] at hl
      exact ⟨_, s.length, rfl, (⟨hl, rfl⟩ : _ ∧ _), k ρ H _ (Step.refl _ _) S (.int _)⟩
    · cases e
  · cases e
    obtain ⟨x, rfl, r0⟩ := one_rv r
    cases r0 with
    | tup q rs => exact ⟨_, _, rfl, .inr ⟨_, q, rfl⟩, k ρ H _ (Step.refl _ _) S (by rw [rs.length]; exact .int _)⟩
  · cases e
    obtain ⟨x, rfl, r0⟩ := one_rv r
    cases r0 with
    | fl q rs => exact ⟨_, _, rfl, .inl ⟨_, q.sq, rfl⟩, k ρ H _ (Step.refl _ _) S (by rw [rs.length]; exact .int _)⟩
  · split at e
    · rename_i l hl
      cases e
      obtain ⟨x, rfl, r0⟩ := one_rv r
      cases r0 with
      | ref q =>
        obtain ⟨vs, e1, rs⟩ := S.obj _ _ _ hl q
        exact ⟨_, _, rfl, .inl ⟨_, SqL.of e1, rfl⟩, k ρ H _ (Step.refl _ _) S (by rw [rs.length]; exact .int _)⟩
    · cases e
  · cases e
theorem bf_abs : BFnF K Cd.bAbs (fun xs H Q => ∃ i, xs = [.int i] ∧ Q (.int (if i < 0 then -i else i)) H) := by
  intro ρ h h' H ds u xs Q S r e k
  unfold Cd.bAbs at e
  split at e
  · cases e
    obtain ⟨x, rfl, r0⟩ := one_rv r
    cases r0
    exact ⟨_, rfl, k ρ H _ (Step.refl _ _) S (.int _)⟩
  · cases e
theorem bf_max2 : BFnF K Cd.bMax2 (fun xs H Q => ∃ i j, xs = [.int i, .int j] ∧ Q (.int (if j > i then j else i)) H) := by
  intro ρ h h' H ds u xs Q S r e k
  unfold Cd.bMax2 at e
  split at e
  · cases e
    obtain ⟨x, y, rfl, r0, r2⟩ := two_rv r
    cases r0; cases r2
    exact ⟨_, _, rfl, k ρ H _ (Step.refl _ _) S (.int _)⟩
  · cases e
theorem bf_min2 : BFnF K Cd.bMin2 (fun xs H Q => ∃ i j, xs = [.int i, .int j] ∧ Q (.int (if j < i then j else i)) H) := by
  intro ρ h h' H ds u xs Q S r e k
  unfold Cd.bMin2 at e
  split at e
  · cases e
    obtain ⟨x, y, rfl, r0, r2⟩ := two_rv r
    cases r0; cases r2
    exact ⟨_, _, rfl, k ρ H _ (Step.refl _ _) S (.int _)⟩
  · cases e
theorem bf_int : BFnF K Cd.bInt (fun xs H Q => (∃ i, xs = [.int i] ∧ Q (.int i) H) ∨ ∃ k, xs = [.bl k] ∧ Q (.int (if k then 1 else 0)) H) := by
  intro ρ h h' H ds u xs Q S r e k
  unfold Cd.bInt at e
  split at e
  · cases e
    obtain ⟨x, rfl, r0⟩ := one_rv r
    cases r0
    exact .inl ⟨_, rfl, k ρ H _ (Step.refl _ _) S (.int _)⟩
  · cases e
    obtain ⟨x, rfl, r0⟩ := one_rv r
    cases r0
    exact .inr ⟨_, rfl, k ρ H _ (Step.refl _ _) S (.int _)⟩
  · cases e
theorem lay_k {ρ : List Addr} {h : Cd.Hep} {H : Hp} {ds : List Cd.Val} {vs : List V} {Q : VK} (S : Sim K ρ h H) (rs : RVs K ρ H ds vs) (k : ∀ ρ' H' w, Step ρ H ρ' H' → Sim K ρ' (h ++ [.lst ds]) H' → RV K ρ' H' (.ref h.length) w → Q w H') :
    ∀ l, H l = none → Q (.ref l) (upd H l (.lst vs)) := fun l nl => by
  have st := Step.lay (ρ := ρ) l (.lst vs) nl
  exact k _ _ _ st (S.lay nl ⟨vs, upd_same, rs.mono st S⟩) (.ref (by rw [← S.len, List.getElem?_append_right (Nat.le_refl _), Nat.sub_self]; rfl))
theorem bf_list : BFnF K Cd.bList (fun xs H Q => ∃ p ys, xs = [.ref p] ∧ (SqL K H p ys ∨ SqT K H p ys) ∧ ∀ l, H l = none → Q (.ref l) (upd H l (.lst ys))) := by
  intro ρ h h' H ds u xs Q S r e k
  unfold Cd.bList at e
  split at e
  · cases e
    obtain ⟨x, rfl, r0⟩ := one_rv r
    cases r0 with
    | tup q rs => exact ⟨_, _, rfl, .inr q, lay_k S rs k⟩
  · cases e
    obtain ⟨x, rfl, r0⟩ := one_rv r
    cases r0 with
    | fl q rs => exact ⟨_, _, rfl, .inl q.sq, lay_k S rs k⟩
  · split at e
    · rename_i l hl
      cases e
      obtain ⟨x, rfl, r0⟩ := one_rv r
      cases r0 with
      | ref q =>
        obtain ⟨vs, e1, rs⟩ := S.obj _ _ _ hl q
        exact ⟨_, _, rfl, .inl (SqL.of e1), lay_k S rs k⟩
    · cases e
  · cases e
theorem tup_k {ρ : List Addr} {h : Cd.Hep} {H : Hp} {ds : List Cd.Val} {vs : List V} {Q : VK} (S : Sim K ρ h H) (rs : RVs K ρ H ds vs) (k : ∀ ρ' H' w, Step ρ H ρ' H' → Sim K ρ' h H' → RV K ρ' H' (.tup ds) w → Q w H') :
    ∀ l, H l = none → Q (.ref l) (upd H l (.tup vs)) := fun l nl => by
  have st := Step.out (ρ := ρ) l (.tup vs) nl
  exact k _ _ _ st (S.out nl) (.tup (SqT.of upd_same) (rs.mono st S))
theorem bf_tuple : BFnF K Cd.bTuple (fun xs H Q => ∃ p ys, xs = [.ref p] ∧ ((SqL K H p ys ∧ ∀ l, H l = none → Q (.ref l) (upd H l (.tup ys))) ∨ (SqT K H p ys ∧ Q (.ref p) H))) := by
  intro ρ h h' H ds u xs Q S r e k
  unfold Cd.bTuple at e
  split at e
  · cases e
    obtain ⟨x, rfl, r0⟩ := one_rv r
    cases r0 with
    | tup q rs => exact ⟨_, _, rfl, .inr ⟨q, k ρ H _ (Step.refl _ _) S (.tup q rs)⟩⟩
  · cases e
    obtain ⟨x, rfl, r0⟩ := one_rv r
    cases r0 with
    | fl q rs => exact ⟨_, _, rfl, .inl ⟨q.sq, tup_k S rs k⟩⟩
  · split at e
    · rename_i l hl
      cases e
      obtain ⟨x, rfl, r0⟩ := one_rv r
      cases r0 with
      | ref q =>
        obtain ⟨vs, e1, rs⟩ := S.obj _ _ _ hl q
        exact ⟨_, _, rfl, .inl ⟨SqL.of e1, tup_k S rs k⟩⟩
    · cases e
  · cases e
theorem bls_of {ρ : List Addr} {H : Hp} : ∀ {ds : List Cd.Val} {bs : List Bool} {vs : List V}, Cd.bls ds = some bs → RVs K ρ H ds vs → vs = bs.map V.bl
  | [], bs, vs, e, r => by cases e; cases r; rfl
  | .bl b :: ds, bs, vs, e, r => by
    simp only [Cd.bls] at e
    cases q : Cd.bls ds with
    | none => rw [q] at e; cases e
    | some cs =>
      rw [q] at e; cases e
      cases r with
      | cons r1 r2 =>
        cases r1
        rw [bls_of q r2]; rfl
theorem bf_all : BFnF K Cd.bAll (rAll K) := by
  intro ρ h h' H ds u xs Q S r e k
  unfold Cd.bAll at e
  split at e
  · rename_i v
    split at e
    · rename_i bs hb
      cases e
      obtain ⟨x, rfl, r0⟩ := one_rv r
      cases el : Cd.itsL h v with
      | none => rw [el] at hb; cases hb
      | some l =>
        rw [el] at hb
        obtain ⟨a, vs, rfl, q, rs⟩ := seq_of S r0 el
        exact ⟨a, bs, rfl, by rw [← bls_of hb rs]; exact q, k ρ H _ (Step.refl _ _) S (.bl _)⟩
    · cases e
  · cases e
theorem bf_any : BFnF K Cd.bAny (rAny K) := by
  intro ρ h h' H ds u xs Q S r e k
  unfold Cd.bAny at e
  split at e
  · rename_i v
    split at e
    · rename_i bs hb
      cases e
      obtain ⟨x, rfl, r0⟩ := one_rv r
      cases el : Cd.itsL h v with
      | none => rw [el] at hb; cases hb
      | some l =>
        rw [el] at hb
        obtain ⟨a, vs, rfl, q, rs⟩ := seq_of S r0 el
        exact ⟨a, bs, rfl, by rw [← bls_of hb rs]; exact q, k ρ H _ (Step.refl _ _) S (.bl _)⟩
    · cases e
  · cases e
/-! ### isinstance -/
theorem typ_of {ρ : List Addr} {h : Cd.Hep} {H : Hp} {d : Cd.Val} {x : V} {t : String} (S : Sim K ρ h H) (r : RV K ρ H d x) (e : Cd.typ h d = some t) : TyX K H x (.type t) ∧ t ∈ ["NoneType", "bool", "int", "str", "tuple", "list", "dict"] := by
  cases r with
  | non => cases e; exact ⟨.base .non, by simp⟩
  | bl b => cases e; exact ⟨.base (.bl b), by simp⟩
  | int i => cases e; exact ⟨.base (.int i), by simp⟩
  | str s => cases e; exact ⟨.base (.str _), by simp⟩
  | tup q rs =>
    cases e
    refine ⟨?_, by simp⟩
    rcases q with (q | ⟨o, q⟩) | ⟨o, its, n, q1, q2, _⟩
    · exact .base (.tup q)
    · exact .fTuple q
    · exact .kTuple q1 q2
  | fl q rs =>
    cases e
    refine ⟨?_, by simp⟩
    rcases q with ⟨o, q⟩ | ⟨o, its, n, q1, q2, _⟩
    · exact .base (.frz q)
    · exact .kList q1 q2
  | exo a => cases e
  | ref q =>
    simp only [Cd.typ] at e
    split at e
    · rename_i l hl
      cases e
      obtain ⟨vs, e1, rs⟩ := S.obj _ _ _ hl q
      exact ⟨.base (.lst e1), by simp⟩
    · rename_i l hl
      exact (S.obj _ _ _ hl q).elim
    · cases e
def tyAll : Bool := ["NoneType", "bool", "int", "str", "tuple", "list", "dict"].all fun t => ["bool", "int", "str", "tuple", "list", "dict"].all fun n => kitB t n == some (Cd.isT t n)
theorem tyAll_ok : tyAll = true := by decide +kernel
theorem kit_isT {t n : String} (ht : t ∈ ["NoneType", "bool", "int", "str", "tuple", "list", "dict"]) (hn : n ∈ ["bool", "int", "str", "tuple", "list", "dict"]) : kitB t n = some (Cd.isT t n) := by
  have h := tyAll_ok
  unfold tyAll at h
  rw [List.all_eq_true] at h
  have h1 := h t ht
  rw [List.all_eq_true] at h1
  exact beq_iff_eq.mp (h1 n hn)
theorem k_isi (n : String) {a : Expr} {ma : Cd.EM} {x : Str} {p p2 pos : Pos} (hm : X.mg "isinstance" = none) (hm2 : X.mg x = none) (ha : KE X ca W a ma) (hv : bootBuiltins x = some (.type n) := by decide +kernel) (hn : n ∈ ["bool", "int", "str", "tuple", "list", "dict"] := by decide) (hg : Gl X "isinstance" := by rfl) (hg2 : Gl X x := by rfl) (hnn : x ≠ "__name__" := by decide) (hdb : (x == ("__debug__" : Str)) = false := by decide)
    (he : starEach [a, .Name x p2] X.env = (false, eval a X.env) :: starEach [.Name x p2] X.env := by rfl) (he2 : starEach [.Name x p2] X.env = (false, eval (.Name x p2) X.env) :: starEach [] X.env := by rfl) (hpl : (backTo pos (starEach [.Name x p2] X.env)).any (·.1) = false := by rfl) :
    KE X ca W (.Call (.Name "isinstance" p) [a, .Name x p2] [] pos) (Cd.eUn (Cd.oIsi n) ma) := by
  refine PE.wk (pe_callB call_isi hg hm (by decide +kernel) (pa_cons ha (pa_cons (pe_bltn (v := .ty n) hg2 hm2 hv rfl hnn hdb) pa_nil he2) he) (by decide) (by decide) he hpl) fun σ H Q ⟨ρ, h, η, S, re, p⟩ => ?_
  refine ⟨ρ, h, η, S, re, postG.first p fun ρ1 H1 h1 d x st1 S1 r1 p1 => ?_⟩
  obtain ⟨u, hu, k⟩ := p1.ofO
  unfold Cd.oIsi at hu
  cases et : Cd.typ h1 d with
  | none => rw [et] at hu; cases hu
  | some t =>
    rw [et] at hu; cases hu
    obtain ⟨q, ht⟩ := typ_of S1 r1 et
    exact ⟨x, .ty n, .type t, .type n, _, rfl, .ty n, q, kit_ty (kit_isT ht hn), k ρ1 H1 _ (Step.refl _ _) S1 (.bl _)⟩
end
theorem iop_addA {X : Cx} : OpR X (inplaceOp .Add) (rI0 fun i j => .int (i + j)) := iop_add
section
variable {K : PySem.W.Frag} {ca : String → Value}
theorem rvs_ints {ρ : List Addr} {H : Hp} : ∀ ns : List Int, RVs K ρ H (ns.map .int) (ns.map V.int)
  | [] => .nil
  | n :: ns => .cons (.int n) (rvs_ints ns)
theorem law_sp {H : Hp} {a : Addr} {ns : List Int} {M : Cd.Fn} {h : Cd.Hep} (hO : Only H) (hS : SqL K H a (ns.map V.int)) (e : M [.fl (ns.map .int)] [] = .ok (.bl true) h) : spF K ca 1 M [.ref a] H (fun v _ => v = .bl true) fun _ _ _ => False := by
  have fz : FzL K H a (ns.map V.int) := by
    rcases hS with (q | ⟨o, q⟩) | q
    · rcases hO a with z | ⟨o, xs, z⟩
      · rw [z] at q; cases q
      · rw [z] at q; cases q
    · exact .inl ⟨o, q⟩
    · exact .inr q
  refine ⟨rfl, [], [], [.fl (ns.map .int)], ⟨rfl, List.nodup_nil, fun n o a h1 => by simp at h1⟩, .cons (.fl fz (rvs_ints ns)) .nil, ?_⟩
  rw [e]
  intro ρ' H' x st S r
  cases r
  rfl
theorem cx_no {P : Program} {w : World} {H : Hp} {s : Shared} {e : Value} {s' : Shared} (h : L2.CX P w [] H s (fun _ _ _ => False) e s') : False := by
  obtain ⟨_, _, _, _, _, _, _, _, _, _, _, _, z⟩ := h
  exact z
end
end Cb

set_option Elab.async false
set_option linter.all false
set_option maxRecDepth 100000
set_option maxHeartbeats 4000000
/-! CdB6: the bridge: lists that change, slices, comprehensions. -/
namespace Cb
open PySem PySem.Spec PyProof.Rows L2
section
variable {X : Cx} {K : PySem.W.Frag} {ca : String → Value} {W : WX} {a b c e : Expr} {ma mb me mo : Cd.EM} {pos : Pos}
theorem setIx_of {ρ : List Addr} {h h' : Cd.Hep} {H : Hp} {x k v : Cd.Val} {ox ik vv : V} (S : Sim K ρ h H) (r1 : RV K ρ H x ox) (r2 : RV K ρ H k ik) (r3 : RV K ρ H v vv) (e : Cd.setIx h x k v = some h') {Q : Hp → Prop} (q : ∀ H', Step ρ H ρ H' → Sim K ρ h' H' → Q H') : rSetL ox ik vv H Q := by
  unfold Cd.setIx at e
  split at e
  · split at e
    · rename_i l hl
      split at e
      · rename_i j hj
        cases e
        cases r1 with
        | ref qa =>
          cases r2
          obtain ⟨vs, e1, rs⟩ := S.obj _ _ _ hl qa
          have st := Step.put (ρ := ρ) (H := H) (o := .lst (vs.set j vv)) qa
          exact ⟨_, vs, _, j, rfl, rfl, e1, (by rw [← rs.length]; exact hj), q _ st (S.put qa ⟨_, upd_same, (RVs.set r3 j rs).mono st S⟩)⟩
      · cases e
    · cases e
  · cases e
theorem ks_setIx (he : KE X ca W e me) (ho : KE X ca W a ma) (hi : KE X ca W b mb) {tpos : Pos} (hs : swapsWithSole [.Subscript a b tpos] e pos.line X.env = pure false := by rfl) (hw : swappedStores [.Subscript a b tpos] e X.env = pure none := by rfl) (h1 : (assignEach [.Subscript a b tpos] X.env).map (·.2) = [assign (.Subscript a b tpos) X.env] := by rfl) (hx : assign (.Subscript a b tpos) X.env = assign (.Subscript a b tpos) X.env := by rfl) (pg : PG X (.Subscript a b tpos) (gSub (tE X.K ca W ma) (tE X.K ca W mb) rSetL)) :
    KS X ca W (.Assign [.Subscript a b tpos] e pos) (Cd.sSetIx ma mb me) := by
  refine PS.wk (ps_asg he pg hs hw h1) fun D σ H ⟨ρ, h, η, S, re, p⟩ => ?_
  refine ⟨ρ, h, η, S, re, postS.first S re p fun ρ1 H1 h1 v vv st1 S1 r1 re1 p1 => ?_⟩
  refine ⟨ρ1, h1, η, S1, re1, postS.first S1 re1 p1 fun ρ2 H2 h2 x ox st2 S2 r2 re2 p2 => ?_⟩
  refine ⟨ρ2, h2, η, S2, re2, postS.first S2 re2 p2 fun ρ3 H3 h3 k ik st3 S3 r3 re3 p3 => ?_⟩
  cases es : Cd.setIx h3 x k v with
  | none => rw [es] at p3; exact p3.elim
  | some h4 =>
    rw [es] at p3
    exact setIx_of S3 (r2.mono st3 S2) r3 ((r1.mono st2 S1).mono st3 S2) es fun H' st S' => p3 ρ3 H' σ st S' (re3.mono st S3)
/-! ### methods of built-in types -/
def MthF (K : PySem.W.Frag) (F : Cd.Val → Cd.BFn) (r : V → List V → Hp → VK → Prop) : Prop := ∀ (ρ : List Addr) (h h' : Cd.Hep) (H : Hp) (x : Cd.Val) (ds : List Cd.Val) (u : Cd.Val) (ox : V) (xs : List V) (Q : VK), Sim K ρ h H → RV K ρ H x ox → RVs K ρ H ds xs → F x ds h = some (u, h') →
  (∀ ρ' H' w, Step ρ H ρ' H' → Sim K ρ' h' H' → RV K ρ' H' u w → Q w H') → r ox xs H Q
theorem tyV_of {ρ : List Addr} {h : Cd.Hep} {H : Hp} {d : Cd.Val} {x : V} {T : String} (S : Sim K ρ h H) (r : RV K ρ H d x) (e : Cd.typ h d = some T) (hT : T = "str" ∨ T = "list" ∨ T = "int") : tyV K T x H := by
  cases r with
  | non => cases e; rcases hT with z | z | z <;> exact absurd z (by decide)
  | bl b => cases e; rcases hT with z | z | z <;> exact absurd z (by decide)
  | int i => cases e; rfl
  | str s => cases e; rfl
  | tup q rs => cases e; rcases hT with z | z | z <;> exact absurd z (by decide)
  | fl q rs => cases e; exact .inl ⟨rfl, _, q.sq⟩
  | exo a => cases e
  | ref q =>
    simp only [Cd.typ] at e
    split at e
    · rename_i l hl
      cases e
      obtain ⟨vs, e1, rs⟩ := S.obj _ _ _ hl q
      exact .inl ⟨rfl, _, SqL.of e1⟩
    · rename_i l hl
      exact (S.obj _ _ _ hl q).elim
    · cases e
theorem tBM_of {T : String} {F : Cd.Val → Cd.BFn} {r : V → List V → Hp → VK → Prop} {mas : Cd.AM} (hT : T = "str" ∨ T = "list" ∨ T = "int") (hf : MthF X.K F r) : ∀ σ H Q, tE X.K ca W (Cd.eMth T F mo mas) σ H Q → tBM X.K T r (tE X.K ca W mo) (tA X.K ca W mas) σ H Q := by
  rintro σ H Q ⟨ρ, h, η, S, re, p⟩
  refine ⟨ρ, h, η, S, re, postG.first p fun ρ1 H1 h1 x ox st1 S1 r1 p1 => ?_⟩
  split at p1
  · rename_i ht
    refine ⟨tyV_of S1 r1 ht hT, ρ1, h1, η, S1, re.mono st1 S, postG.first p1 fun ρ2 H2 h2 ds xs st2 S2 r2 p2 => ?_⟩
    cases e : F x ds h2 with
    | none => rw [e] at p2; exact p2.elim
    | some q =>
      obtain ⟨u, h3⟩ := q
      rw [e] at p2
      exact hf ρ2 h2 h3 H2 x ds u ox xs Q S2 (r1.mono st2 S1) r2 e p2
  · exact p1.elim
theorem k_bm {T id : String} {name : Str} {F : Cd.Val → Cd.BFn} {r : V → List V → Hp → VK → Prop} {apos : Pos} {o : Expr} {es : List Expr} {mas : Cd.AM} (pa : PlainAttrs T) (slot : Slot T name id) (hty : typeOf (.builtin id) = pure (.type "method_descriptor")) (hm : MtR X id r) (hf : MthF X.K F r) (ho : KE X ca W o mo) (ha : KA X ca W (e :: es) mas) (hT : T = "str" ∨ T = "list" ∨ T = "int" := by decide)
    (hbase : attributeBase o name X.env (eval o X.env) = eval o X.env := by rfl)
    (hfew : ((backTo pos (starEach (e :: es) X.env)).all (fun x => !x.1) && (backToKw pos (keywordEach [] X.env)).all (fun x => x.1.isSome)
      && decide ((e :: es).length + ([] : List Keyword).length + (if ([] : List Keyword).isEmpty then 0 else 1) < 30)) = true := by rfl)
    (hline : (apos.endLine == pos.line) = true := by rfl) (hs : starEach (e :: es) X.env = (false, eval e X.env) :: starEach es X.env := by rfl) (hplain : (backTo pos (starEach es X.env)).any (·.1) = false := by rfl) :
    KE X ca W (.Call (.Attribute o name apos) (e :: es) [] pos) (Cd.eMth T F mo mas) := PE.wk (pe_bm pa slot hty hm ho ha hbase hfew hline hs hplain) (tBM_of hT hf)
theorem k_bm0 {T id : String} {name : Str} {F : Cd.Val → Cd.BFn} {r : V → List V → Hp → VK → Prop} {apos : Pos} {o : Expr} (pa : PlainAttrs T) (slot : Slot T name id) (hty : typeOf (.builtin id) = pure (.type "method_descriptor")) (hm : MtR X id r) (hf : MthF X.K F r) (ho : KE X ca W o mo) (hT : T = "str" ∨ T = "list" ∨ T = "int" := by decide)
    (hbase : attributeBase o name X.env (eval o X.env) = eval o X.env := by rfl) (hline : (apos.endLine == pos.line) = true := by rfl) :
    KE X ca W (.Call (.Attribute o name apos) [] [] pos) (Cd.eMth T F mo Cd.aNil) := by
  refine PE.wk (pe_bm0 pa slot hty hm ho hbase hline) fun σ H Q p => ?_
  obtain ⟨ρ, h, η, S, re, p⟩ := tBM_of (mas := Cd.aNil) hT hf σ H Q p
  refine ⟨ρ, h, η, S, re, p.imp fun x H1 q => ⟨q.1, ?_⟩⟩
  obtain ⟨_, ρ1, h1, η1, S1, re1, p1⟩ := q
  exact p1 ρ1 H1 [] (Step.refl _ _) S1 .nil
theorem mf_append : MthF K Cd.mAppend rAppend := by
  intro ρ h h' H x ds u ox xs Q S r1 r2 e k
  unfold Cd.mAppend at e
  split at e
  · split at e
    · rename_i l hl
      split at e
      · rename_i hz
        cases e
        cases r1 with
        | ref q =>
          obtain ⟨y, rfl, ry⟩ := one_rv r2
          obtain ⟨vs, e1, rs⟩ := S.obj _ _ _ hl q
          rw [line_eq, rs.length] at hz
          have st := Step.put (ρ := ρ) (H := H) (o := .lst (vs ++ [y])) q
          exact ⟨_, vs, y, rfl, rfl, e1, hz, k ρ _ _ st (S.put q ⟨_, upd_same, (RVs.append rs (.cons ry .nil)).mono st S⟩) .non⟩
      · cases e
    · cases e
  · cases e
theorem mf_extend : MthF K Cd.mExtend rExtend := by
  intro ρ h h' H x ds u ox xs Q S r1 r2 e k
  unfold Cd.mExtend at e
  split at e
  · split at e
    · rename_i l m hl hm
      split at e
      · rename_i hz
        cases e
        cases r1 with
        | ref q =>
          obtain ⟨y, rfl, ry⟩ := one_rv r2
          cases ry with
          | ref q2 =>
            obtain ⟨vs, e1, rs⟩ := S.obj _ _ _ hl q
            obtain ⟨ws, e2, rs2⟩ := S.obj _ _ _ hm q2
            rw [line_eq, rs.length, rs2.length] at hz
            have st := Step.put (ρ := ρ) (H := H) (o := .lst (vs ++ ws)) q
            exact ⟨_, _, vs, ws, rfl, rfl, e1, e2, hz, k ρ _ _ st (S.put q ⟨_, upd_same, (RVs.append rs rs2).mono st S⟩) .non⟩
      · cases e
    · cases e
  · cases e
theorem RVs.dropLast {ρ : List Addr} {H : Hp} {ds : List Cd.Val} {vs : List V} (r : RVs K ρ H ds vs) : RVs K ρ H ds.dropLast vs.dropLast := by
  rw [List.dropLast_eq_take, List.dropLast_eq_take, r.length]
  exact RVs.take _ r
theorem mf_pop : MthF K Cd.mPop rPop := by
  intro ρ h h' H x ds u ox xs Q S r1 r2 e k
  unfold Cd.mPop at e
  split at e
  · split at e
    · rename_i l hl
      split at e
      · rename_i v hv
        cases e
        cases r2
        cases r1 with
        | ref q =>
          obtain ⟨vs, e1, rs⟩ := S.obj _ _ _ hl q
          obtain ⟨y, e2, ry⟩ := rs.get hv
          rw [rs.length] at e2
          have st := Step.put (ρ := ρ) (H := H) (o := .lst vs.dropLast) q
          exact ⟨_, vs, y, rfl, rfl, e1, e2, k ρ _ _ st (S.put q ⟨_, upd_same, rs.dropLast.mono st S⟩) (ry.mono st S)⟩
      · cases e
    · cases e
  · cases e
/-! ### slices -/
def tP (K : PySem.W.Frag) (ca : String → Value) (W : WX) (m : Cd.PM) : TO := fun σ H Q => ∃ ρ h η, Sim K ρ h H ∧ RE K ρ H η σ ∧ postG K ca W (fun _ _ a b => a = b) ρ H σ (m η h) Q
theorem PO.wk {e : Option Expr} {t t' : TO} (h : PO X e t) (k : ∀ σ H Q, t' σ H Q → t σ H Q) : PO X e t' := ⟨fun pins s σ H Q I hw => h.run pins s σ H Q I (k _ _ _ hw)⟩
theorem kp_no : PO X none (tP X.K ca W Cd.pNo) := PO.wk po_none fun σ H Q ⟨ρ, h, η, S, re, p⟩ => p ρ H none (Step.refl _ _) S rfl
theorem kp_some (he : KE X ca W e me) : PO X (some e) (tP X.K ca W (Cd.pSome me)) := by
  refine PO.wk (po_some he) fun σ H Q ⟨ρ, h, η, S, re, p⟩ => ?_
  refine ⟨ρ, h, η, S, re, postG.first p fun ρ1 H1 h1 d x st1 S1 r1 p1 => ?_⟩
  cases d with
  | int i => cases r1; exact ⟨i, rfl, p1 ρ1 H1 _ (Step.refl _ _) S1 rfl⟩
  | _ => exact p1.elim
theorem cut_rv {ρ : List Addr} {H : Hp} {ds : List Cd.Val} {vs : List V} (lo hi : Option Int) (r : RVs K ρ H ds vs) : RVs K ρ H (Cd.cut ds lo hi) (cutV vs lo hi) := by
  unfold Cd.cut cutV
  rw [show HT.sIx = Cd.sIx from rfl, ← r.length]
  exact RVs.take _ (RVs.drop _ r)
theorem cut_str (s : List Nat) (lo hi : Option Int) : cutS (toS s) lo hi = toS (Cd.cut s lo hi) := by
  unfold Cd.cut cutS toS
  have : HT.sIx = Cd.sIx := rfl
  rfl
def rSlAll (K : PySem.W.Frag) : V → Option Int → Option Int → Hp → VK → Prop := fun x lo hi H Q => rSlS x lo hi H Q ∨ rSlA K x lo hi H Q ∨ rSlL K x lo hi H Q
theorem sl_all : SlR X (rSlAll X.K) := SlR.or sl_str (SlR.or sl_tupA sl_list)
theorem sl_of {ρ : List Addr} {h h' : Cd.Hep} {H : Hp} {d u : Cd.Val} {x : V} {lo hi : Option Int} {Q : VK} (S : Sim K ρ h H) (r : RV K ρ H d x) (e : Cd.oSl h d lo hi = some (u, h')) (k : ∀ ρ' H' w, Step ρ H ρ' H' → Sim K ρ' h' H' → RV K ρ' H' u w → Q w H') : rSlAll K x lo hi H Q := by
  unfold Cd.oSl at e
  split at e
  · split at e
    · rename_i s hz
      cases e
      cases r
      rw [line_eq] at hz
      exact .inl ⟨_, rfl, hz, by rw [cut_str]; exact k ρ H _ (Step.refl _ _) S (.str _)⟩
    · cases e
  · cases e
    cases r with
    | @tup a ds0 vs q rs =>
      refine .inr (.inl ⟨_, _, rfl, q, fun hw => ?_, fun _ => tup_k S (cut_rv lo hi rs) k⟩)
      have e : ∀ l : List Cd.Val, l.length = vs.length → Cd.cut l lo hi = l := fun l hl => by
        unfold Cd.cut
        rw [show HT.sIx = Cd.sIx from rfl, ← hl] at hw
        rw [hw.1, hw.2]
        simp
      rw [e _ rs.length] at k
      exact k ρ H _ (Step.refl _ _) S (.tup q rs)
  · cases e
    cases r with
    | fl q rs => exact .inr (.inr ⟨_, _, rfl, q.sq, lay_k S (cut_rv lo hi rs) k⟩)
  · split at e
    · rename_i l hl
      cases e
      cases r with
      | ref q =>
        obtain ⟨vs, e1, rs⟩ := S.obj _ _ _ hl q
        exact .inr (.inr ⟨_, _, rfl, SqL.of e1, lay_k S (cut_rv lo hi rs) k⟩)
    · cases e
  · cases e
theorem k_slice {lo hi : Option Expr} {ml mh : Cd.PM} {p2 : Pos} (he : KE X ca W e me) (hl : PO X lo (tP X.K ca W ml)) (hh : PO X hi (tP X.K ca W mh)) : KE X ca W (.Subscript e (.Slice lo hi none p2) pos) (Cd.eSl me ml mh) := by
  refine PE.wk (pe_slice sl_all he hl hh) fun σ H Q ⟨ρ, h, η, S, re, p⟩ => ?_
  refine ⟨ρ, h, η, S, re, postG.first p fun ρ1 H1 h1 d x st1 S1 r1 p1 => ?_⟩
  refine ⟨ρ1, h1, η, S1, re.mono st1 S, postG.first p1 fun ρ2 H2 h2 l l' st2 S2 r2 p2 => ?_⟩
  cases (show l = l' from r2)
  refine ⟨ρ2, h2, η, S2, (re.mono st1 S).mono st2 S1, postG.first p2 fun ρ3 H3 h3 u u' st3 S3 r3 p3 => ?_⟩
  cases (show u = u' from r3)
  cases eo : Cd.oSl h3 d l u with
  | none => rw [eo] at p3; exact p3.elim
  | some q =>
    obtain ⟨v, h4⟩ := q
    rw [eo] at p3
    exact sl_of S3 ((r1.mono st2 S1).mono st3 S2) eo p3
end
end Cb

set_option Elab.async false
set_option linter.all false
set_option maxRecDepth 100000
set_option maxHeartbeats 4000000
/-! CdB7: the bridge: comprehensions. -/
namespace Cb
open PySem PySem.Spec PyProof.Rows L2
/-- as Step, but the list D, which is no place, may change -/
structure StepD (D : Addr) (ρ : List Addr) (H : Hp) (ρ' : List Addr) (H' : Hp) : Prop where
  pre : ρ <+: ρ'
  fr : ∀ a o, a ∉ ρ → a ≠ D → H a = some o → H' a = some o
  new : ∀ a, a ∈ ρ' → a ∉ ρ → H a = none
theorem Step.toD {D : Addr} {ρ ρ' : List Addr} {H H' : Hp} (s : Step ρ H ρ' H') : StepD D ρ H ρ' H' := ⟨s.pre, fun a o n _ e => s.fr a o n e, s.new⟩
theorem StepD.trans {D : Addr} {ρ ρ1 ρ2 : List Addr} {H H1 H2 : Hp} (a : StepD D ρ H ρ1 H1) (b : StepD D ρ1 H1 ρ2 H2) (hd : H D ≠ none) (nd : ∀ x, x ∈ ρ2 → x ≠ D) : StepD D ρ H ρ2 H2 := by
  have f : ∀ x o, x ∉ ρ → x ≠ D → H x = some o → x ∉ ρ1 ∧ H1 x = some o := by
    intro x o n nD e
    refine ⟨fun m => ?_, a.fr x o n nD e⟩
    have q := a.new x m n
    rw [q] at e
    cases e
  refine ⟨a.pre.trans b.pre, fun x o n nD e => b.fr x o (f x o n nD e).1 nD (f x o n nD e).2, fun x m n => ?_⟩
  by_cases h1 : x ∈ ρ1
  · exact a.new x h1 n
  · cases q : H x with
    | none => rfl
    | some o =>
      have := b.new x m h1
      rw [(f x o n (nd x m) q).2] at this; cases this
section
variable {K : PySem.W.Frag} {D : Addr} {acc acc' : List V} {ρ ρ' : List Addr} {H H' : Hp} {h h' : Cd.Hep}
theorem sqT_app (hD : H D = some (.lst acc)) {a : Addr} {vs : List V} (q : SqT K H a vs) : SqT K (upd H D (.lst acc')) a vs := by
  rcases q with (q | ⟨o, q⟩) | q
  · have n : a ≠ D := fun z => by rw [z, hD] at q; cases q
    exact .inl (.inl (by rw [upd_ne n]; exact q))
  · have n : a ≠ D := fun z => by rw [z, hD] at q; cases q
    exact .inl (.inr ⟨o, by rw [upd_ne n]; exact q⟩)
  · exact .inr q
theorem fzL_app (hD : H D = some (.lst acc)) {a : Addr} {vs : List V} (q : FzL K H a vs) : FzL K (upd H D (.lst acc')) a vs := by
  rcases q with ⟨o, q⟩ | q
  · have n : a ≠ D := fun z => by rw [z, hD] at q; cases q
    exact .inl ⟨o, by rw [upd_ne n]; exact q⟩
  · exact .inr q
mutual
theorem RV.app (hD : H D = some (.lst acc)) : ∀ {d : Cd.Val} {v : V}, RV K ρ H d v → RV K ρ (upd H D (.lst acc')) d v
  | _, _, .non => .non
  | _, _, .bl b => .bl b
  | _, _, .int i => .int i
  | _, _, .str s => .str s
  | _, _, .tup h r => .tup (sqT_app hD h) (RVs.app hD r)
  | _, _, .fl h r => .fl (fzL_app hD h) (RVs.app hD r)
  | _, _, .ref h => .ref h
  | _, _, .exo a => .exo a
theorem RVs.app (hD : H D = some (.lst acc)) : ∀ {ds : List Cd.Val} {vs : List V}, RVs K ρ H ds vs → RVs K ρ (upd H D (.lst acc')) ds vs
  | _, _, .nil => .nil
  | _, _, .cons h t => .cons (RV.app hD h) (RVs.app hD t)
end
theorem Sim.app (S : Sim K ρ h H) (hD : H D = some (.lst acc)) (nD : D ∉ ρ) : Sim K ρ h (upd H D (.lst acc')) := by
  refine ⟨S.len, S.nd, fun i o a hi ha => ?_⟩
  have q := S.obj i o a hi ha
  have n : a ≠ D := fun z => nD (z ▸ List.mem_iff_getElem?.mpr ⟨i, ha⟩)
  cases o with
  | lst l =>
    obtain ⟨vs, e1, rs⟩ := q
    exact ⟨vs, by rw [upd_ne n]; exact e1, RVs.app hD rs⟩
  | dct l => exact q.elim
  | ins c fs => exact q.elim
theorem RE.app {η : Cd.Env} {σ : L2.St} (r : RE K ρ H η σ) (hD : H D = some (.lst acc)) : RE K ρ (upd H D (.lst acc')) η σ := ⟨r.len, fun i d e => by
  obtain ⟨v, h1, h2⟩ := r.at_ i d e
  exact ⟨v, h1, RV.app hD h2⟩⟩
/-- the list becomes a place -/
theorem StepD.place (s : StepD D ρ H ρ' H') (hD : H D = none) (nD : D ∉ ρ') : Step ρ H (ρ' ++ [D]) H' := by
  refine ⟨s.pre.trans ⟨[D], rfl⟩, fun a o n e => s.fr a o n (fun z => by rw [z, hD] at e; cases e) e, fun a m n => ?_⟩
  rcases List.mem_append.mp m with m | m
  · exact s.new a m n
  · rw [List.mem_singleton.mp m]; exact hD
theorem Sim.place {vs : List V} {ds : List Cd.Val} (S : Sim K ρ h H) (hD : H D = some (.lst vs)) (nD : D ∉ ρ) (r : RVs K ρ H ds vs) : Sim K (ρ ++ [D]) (h ++ [.lst ds]) H := by
  have st : Step ρ H (ρ ++ [D]) H → True := fun _ => trivial
  have up : ∀ {d : Cd.Val} {v : V}, RV K ρ H d v → RV K (ρ ++ [D]) H d v := fun q => rv_more q
  have ups : ∀ {ds : List Cd.Val} {vs : List V}, RVs K ρ H ds vs → RVs K (ρ ++ [D]) H ds vs := fun q => rvs_more q
  refine ⟨by rw [List.length_append, List.length_append, S.len]; rfl, List.nodup_append.mpr ⟨S.nd, by simp, fun a ha b hb => by
    rw [List.mem_singleton.mp hb]
    rintro rfl
    exact nD ha⟩, fun i w a hi ha => ?_⟩
  by_cases hl : i < h.length
  · rw [List.getElem?_append_left hl] at hi
    rw [List.getElem?_append_left (by rw [S.len]; exact hl)] at ha
    have q := S.obj i w a hi ha
    cases w with
    | lst l => obtain ⟨vs, e1, rs⟩ := q; exact ⟨vs, e1, ups rs⟩
    | dct l => exact q.elim
    | ins c fs => exact q.elim
  · have e : i = h.length := by
      have := (List.getElem?_eq_some_iff.mp hi).1
      rw [List.length_append] at this
      simp at this
      omega
    subst e
    rw [List.getElem?_append_right (Nat.le_refl _), Nat.sub_self] at hi
    rw [List.getElem?_append_right (by rw [S.len]; exact Nat.le_refl _), S.len, Nat.sub_self] at ha
    cases hi
    cases ha
    exact ⟨vs, hD, ups r⟩
where
  rv_more {d : Cd.Val} {v : V} (q : RV K ρ H d v) : RV K (ρ ++ [D]) H d v := by
    exact RV.rec (motive_1 := fun d v _ => RV K (ρ ++ [D]) H d v) (motive_2 := fun ds vs _ => RVs K (ρ ++ [D]) H ds vs) .non (fun b => .bl b) (fun i => .int i) (fun s => .str s) (fun h _ r => .tup h r) (fun h _ r => .fl h r)
      (fun h => .ref (by rw [List.getElem?_append_left (List.getElem?_eq_some_iff.mp h).1]; exact h)) (fun a => .exo a) .nil (fun _ _ a b => .cons a b) q
  rvs_more {ds : List Cd.Val} {vs : List V} (q : RVs K ρ H ds vs) : RVs K (ρ ++ [D]) H ds vs := by
    exact RVs.rec (motive_1 := fun d v _ => RV K (ρ ++ [D]) H d v) (motive_2 := fun ds vs _ => RVs K (ρ ++ [D]) H ds vs) .non (fun b => .bl b) (fun i => .int i) (fun s => .str s) (fun h _ r => .tup h r) (fun h _ r => .fl h r)
      (fun h => .ref (by rw [List.getElem?_append_left (List.getElem?_eq_some_iff.mp h).1]; exact h)) (fun a => .exo a) .nil (fun _ _ a b => .cons a b) q
end
theorem RE.wipe {K : PySem.W.Frag} {ρ : List Addr} {H : Hp} {η : Cd.Env} {σ : L2.St} (r : RE K ρ H η σ) : ∀ vs : List Nat, RE K ρ H (Cd.wipe η vs) (L2.wipe σ vs)
  | [] => r
  | v :: vs => by
    have ih := RE.wipe r vs
    refine ⟨by show (List.set _ _ _).length = (List.set _ _ _).length; rw [List.length_set, List.length_set]; exact ih.len, fun i d e => ?_⟩
    have e : ((Cd.wipe η vs).set v none)[i]? = some (some d) := e
    have n : i ≠ v := by
      rintro rfl
      have hl : i < (Cd.wipe η vs).length := by
        have := (List.getElem?_eq_some_iff.mp e).1
        rwa [List.length_set] at this
      rw [List.getElem?_set_self hl] at e
      cases e
    rw [List.getElem?_set_ne (Ne.symm n)] at e
    obtain ⟨u, h1, h2⟩ := ih.at_ i d e
    exact ⟨u, by show ((L2.wipe σ vs).set v none)[i]? = _; rw [List.getElem?_set_ne (Ne.symm n)]; exact h1, h2⟩
abbrev W0 : WX := fun _ _ _ _ => False
section
variable {X : Cx} {ca : String → Value} {W : WX}
/-- the targets that keep to their own slots -/
def OwnG (K : PySem.W.Frag) (vs : List Nat) (g : Cd.GM) (gt : TG) : Prop := ∀ (ρ : List Addr) (h : Cd.Hep) (H : Hp) (η η' : Cd.Env) (σ : L2.St) (d : Cd.Val) (x : V) (Q : L2.St → Hp → Prop), Sim K ρ h H → RE K ρ H η σ → RV K ρ H d x → g d η = some η' →
  (∀ σ', RE K ρ H η' σ' → (L2.wipe σ vs = σ → L2.wipe σ' vs = σ) → Q σ' H) → gt x σ H Q
theorem compL_post {K : PySem.W.Frag} {g : Cd.GM} {gt : TG} {tc : Cd.TM} {tt : TT} {me : Cd.EM} {te : TE} {vs : List Nat} (hg : OwnG K vs g gt) (ht : ∀ σ H Q, tT K ca W0 tc σ H Q → tt σ H Q) (he : ∀ σ H Q, tE K ca W0 me σ H Q → te σ H Q) {J : It} {ds : List Cd.Val} {chk : Cd.Hep → Bool} {ρ0 : List Addr} {H0 : Hp} {h0 : Cd.Hep} {η : Cd.Env} {σ : L2.St} {Q : VK} {D : Addr}
    (F : ItF K J ds chk ρ0 H0) (S : Sim K ρ0 h0 H0) (re : RE K ρ0 H0 η σ) (nD : H0 D = none)
    (p : ∃ ys h', Cd.compL g chk tc me (Cd.wipe η vs) ds h0 = .ok ys h' ∧ Cd.szOk ys.length ∧ ∀ ρ' H' x, Step ρ0 H0 ρ' H' → Sim K ρ' (h' ++ [.lst ys]) H' → RV K ρ' H' (.ref h'.length) x → Q x H') (hv : L2.wipe (L2.wipe σ vs) vs = L2.wipe σ vs) :
    ∃ Wv : Nat → Nat → Hp → Prop, (∃ m, Wv 0 m (upd H0 D (.lst []))) ∧ ∀ i m H, Wv i m H →
      (J.stop i H ∧ Q (.ref D) H) ∨ (J.go i H ∧ ∃ Nx : Hp → Prop, (∀ H', Nx H' → ∃ m', m' < m ∧ Wv (i + 1) m' H') ∧ ∀ x H', J.yld i H x H' → gt x (L2.wipe σ vs) H' fun σ2 H2 => L2.wipe σ2 vs = L2.wipe σ vs ∧ tt σ2 H2 fun b H3 =>
        if b = true then te σ2 H3 fun y H4 => ∃ acc, H4 D = some (.lst acc) ∧ acc.length < sizeLine ∧ Nx (upd H4 D (.lst (acc ++ [y]))) else Nx H3) := by
  obtain ⟨ys, hE, ey, hz, k⟩ := p
  -- between two turns
  refine ⟨fun i m H => (m + i = ds.length + 1 ∧ i ≤ ds.length) ∧ ∃ ρ h accd acc rest, StepD D ρ0 (upd H0 D (.lst [])) ρ H ∧ Sim K ρ h H ∧ H D = some (.lst acc) ∧ D ∉ ρ ∧ RE K ρ H (Cd.wipe η vs) (L2.wipe σ vs) ∧ RVs K ρ H accd acc ∧ ys = accd ++ rest ∧ Cd.compL g chk tc me (Cd.wipe η vs) (ds.drop i) h = .ok rest hE,
    ⟨ds.length + 1, ⟨rfl, Nat.zero_le _⟩, ρ0, h0, [], [], ys, ⟨List.prefix_rfl, fun a o _ _ e => e, fun _ m n => absurd m n⟩, S.out nD, upd_same, fun m => S.some_of m nD, (re.wipe vs).mono (Step.out D _ nD) S, .nil, rfl, ey⟩, ?_⟩
  rintro i m H ⟨⟨em, eil⟩, ρ, h, accd, acc, rest, st, Si, hD, nDρ, rw_, racc, eys, er⟩
  have st0 : Step ρ0 H0 ρ H := by
    refine ⟨st.pre, fun a o n e => ?_, fun a m n => ?_⟩
    · have ne : a ≠ D := fun z => by rw [z, nD] at e; cases e
      exact st.fr a o n ne (by rw [upd_ne ne]; exact e)
    · have ne : a ≠ D := fun z => nDρ (z ▸ m)
      have := st.new a m n
      rwa [upd_ne ne] at this
  by_cases hi : i < ds.length
  · rw [List.drop_eq_getElem_cons hi, Cd.compL] at er
    split at er
    · rename_i hc
      refine .inr ⟨F.go ρ H h i st0 Si hc hi, fun H' => ∃ ρ h accd acc rest, StepD D ρ0 (upd H0 D (.lst [])) ρ H' ∧ Sim K ρ h H' ∧ H' D = some (.lst acc) ∧ D ∉ ρ ∧ RE K ρ H' (Cd.wipe η vs) (L2.wipe σ vs) ∧ RVs K ρ H' accd acc ∧ ys = accd ++ rest ∧ Cd.compL g chk tc me (Cd.wipe η vs) (ds.drop (i + 1)) h = .ok rest hE,
        fun H' w => ⟨m - 1, by omega, ⟨by omega, by omega⟩, w⟩, fun x H' y => ?_⟩
      obtain ⟨st1, S1, r1⟩ := F.yld ρ H h i ds[i] x H' st0 Si hc (List.getElem?_eq_getElem hi) y
      -- D stands through a step
      have keepD : ∀ {ρa ρb : List Addr} {Ha Hb : Hp} {ac : List V}, Step ρa Ha ρb Hb → D ∉ ρa → Ha D = some (.lst ac) → Hb D = some (.lst ac) ∧ D ∉ ρb := fun s n e => ⟨s.fr D _ n e, fun mm => by
        have := s.new D mm n
        rw [this] at e; cases e⟩
      have dne : (upd H0 D (.lst [])) D ≠ none := by rw [upd_same]; exact fun z => nomatch z
      have ne_of_not : ∀ {ρb : List Addr}, D ∉ ρb → ∀ z, z ∈ ρb → z ≠ D := fun n z m e => n (e ▸ m)
      obtain ⟨hD1, nD1⟩ := keepD st1 nDρ hD
      cases eg : g ds[i] (Cd.wipe η vs) with
      | none => rw [eg] at er; cases er
      | some η1 =>
        rw [eg] at er
        simp only at er
        refine hg ρ h H' (Cd.wipe η vs) η1 (L2.wipe σ vs) ds[i] x _ S1 (rw_.mono st1 Si) r1 eg fun σ2 re2 hw => ⟨hw hv, ?_⟩
        refine ht _ _ _ ⟨ρ, h, η1, S1, re2, ?_⟩
        cases ec : tc η1 h with
        | stuck => rw [ec] at er; cases er
        | exc _ _ => rw [ec] at er; cases er
        | ok kk h1 =>
          rw [ec] at er
          simp only at er
          intro ρ2 H2 b st2 S2 rb
          cases (show kk = b from rb)
          obtain ⟨hD2, nD2⟩ := keepD st2 nD1 hD1
          have sD2 : StepD D ρ0 (upd H0 D (.lst [])) ρ2 H2 := (st.trans (st1.trans st2).toD dne (ne_of_not nD2))
          cases kk with
          | false =>
            simp only [Bool.false_eq_true, if_false] at er ⊢
            exact ⟨ρ2, h1, accd, acc, rest, sD2, S2, hD2, nD2, (rw_.mono st1 Si).mono st2 S1, (racc.mono st1 Si).mono st2 S1, eys, er⟩
          | true =>
            simp only [if_true] at er ⊢
            refine he _ _ _ ⟨ρ2, h1, η1, S2, re2.mono st2 S1, ?_⟩
            cases ee : me η1 h1 with
            | stuck => rw [ee] at er; cases er
            | exc _ _ => rw [ee] at er; cases er
            | ok y1 h2 =>
              rw [ee] at er
              simp only at er
              intro ρ3 H3 yv st3 S3 ry
              obtain ⟨hD3, nD3⟩ := keepD st3 nD2 hD2
              cases el : Cd.compL g chk tc me (Cd.wipe η vs) (ds.drop (i + 1)) h2 with
              | stuck => rw [el] at er; cases er
              | exc _ _ => rw [el] at er; cases er
              | ok rest2 h3 =>
                rw [el] at er
                simp only [Cd.Res.bind_ok, Cd.Res.ok.injEq] at er
                obtain ⟨e1, e2⟩ := er
                have racc3 := ((racc.mono st1 Si).mono st2 S1).mono st3 S2
                have sD3 : StepD D ρ0 (upd H0 D (.lst [])) ρ3 H3 := st.trans ((st1.trans st2).trans st3).toD dne (ne_of_not nD3)
                refine ⟨acc, hD3, ?_, ρ3, h2, accd ++ [y1], acc ++ [yv], rest2, ?_, S3.app hD3 nD3, upd_same, nD3, (((rw_.mono st1 Si).mono st2 S1).mono st3 S2).app hD3, RVs.app hD3 (RVs.append racc3 (.cons ry .nil)), by rw [eys, ← e1, List.append_assoc]; rfl, by rw [el, e2]⟩
                · rw [line_eq, eys, ← e1, List.length_append, List.length_cons, racc.length] at hz
                  omega
                · exact ⟨sD3.pre, fun a o n ne e => by rw [upd_ne ne]; exact sD3.fr a o n ne e, sD3.new⟩
    · cases er
  · rw [List.drop_eq_nil_of_le (by omega), Cd.compL] at er
    split at er
    · rename_i hc
      cases er
      rw [List.append_nil] at eys
      subst eys
      refine .inl ⟨F.stop ρ H _ i st0 Si hc (by omega), k (ρ ++ [D]) H _ ?_ (Si.place hD nDρ racc) (.ref ?_)⟩
      · refine ⟨st0.pre.trans ⟨[D], rfl⟩, st0.fr, fun a m n => ?_⟩
        rcases List.mem_append.mp m with m | m
        · exact st0.new a m n
        · rw [List.mem_singleton.mp m]; exact nD
      · rw [← Si.len, List.getElem?_append_right (Nat.le_refl _), Nat.sub_self]; rfl
    · cases er
/-- a comprehension of one for -/
theorem tLc_of {mi : Cd.IM} {g : Cd.GM} {gt : TG} {tc : Cd.TM} {tt : TT} {me : Cd.EM} {te : TE} {vs : List Nat} (hg : OwnG X.K vs g gt) (ht : ∀ σ H Q, tT X.K ca W0 tc σ H Q → tt σ H Q) (he : ∀ σ H Q, tE X.K ca W0 me σ H Q → te σ H Q) (hv : ∀ σ : L2.St, L2.wipe (L2.wipe σ vs) vs = L2.wipe σ vs) :
    ∀ σ H Q, tE X.K ca W (Cd.eComp vs mi g tc me) σ H Q → tLc (tI X.K ca W mi) gt tt te vs σ H Q := by
  rintro σ H Q ⟨ρ, h, η, S, re, p⟩
  refine ⟨ρ, h, η, S, re, ?_⟩
  unfold Cd.eComp at p
  cases em : mi η h with
  | stuck => rw [em] at p; exact p.elim
  | exc e h' => rw [em] at p; exact p
  | ok q h1 =>
    rw [em] at p
    simp only [Cd.Res.bind_ok] at p
    intro ρ1 H1 J st1 S1 F D nD
    refine compL_post hg ht he F S1 (re.mono st1 S) nD ?_ (hv σ)
    cases el : Cd.compL g q.2 tc me (Cd.wipe η vs) q.1 h1 with
    | stuck => rw [el] at p; exact p.elim
    | exc e h2 =>
      -- a comprehension's own steps raise nothing here
      exact (compL_noexc el).elim
    | ok ys h2 =>
      rw [el] at p
      simp only [Cd.Res.bind_ok] at p
      split at p
      · rename_i hz
        exact ⟨ys, h2, rfl, hz, fun ρ' H' x st S' r => p ρ' H' x (st1.trans st) S' r⟩
      · exact p.elim
where
  compL_noexc {g : Cd.GM} {chk : Cd.Hep → Bool} {c : Cd.TM} {e : Cd.EM} {η : Cd.Env} : ∀ {xs : List Cd.Val} {h : Cd.Hep} {ex : Cd.Exc} {h2 : Cd.Hep}, Cd.compL g chk c e η xs h = .exc ex h2 → False
    | [], h, ex, h2, q => by
      rw [Cd.compL] at q
      split at q <;> cases q
    | x :: xs, h, ex, h2, q => by
      rw [Cd.compL] at q
      split at q
      · split at q
        · split at q
          · split at q
            · split at q
              · rename_i y h3 _
                cases el : Cd.compL g chk c e η xs h3 with
                | stuck => rw [el] at q; cases q
                | exc _ _ => exact compL_noexc el
                | ok _ _ => rw [el] at q; cases q
              · cases q
            · exact compL_noexc q
          · cases q
        · cases q
      · cases q
theorem own_name {K : PySem.W.Frag} (i : Nat) : OwnG K [i] (Cd.gNam i) (gName i) := by
  intro ρ h H η η' σ d x Q S re r e k
  cases e
  refine k _ (re.set r i) fun hw => ?_
  show (σ.set i (some x)).set i none = σ
  rw [List.set_set]
  exact hw
theorem own_two {K : PySem.W.Frag} (i j : Nat) (ne : i ≠ j) : OwnG K [i, j] (Cd.gTpl (Cd.gsCons (Cd.gNam i) (Cd.gsCons (Cd.gNam j) Cd.gsNil))) (gTup K 2 (gCons (gName i) (gCons (gName j) gNil))) := by
  intro ρ h H η η' σ d x Q S re r e k
  cases r with
  | tup q rs =>
    cases rs with
    | nil => cases e
    | cons r1 rs =>
      cases rs with
      | nil => cases e
      | cons r2 rs =>
        cases rs with
        | cons r3 rs => cases e
        | nil =>
          cases e
          refine ⟨_, _, rfl, q, rfl, _, _, rfl, _, _, rfl, rfl, k _ ((re.set r1 i).set r2 j) fun hw => ?_⟩
          show ((((σ.set i _).set j _).set j none).set i none) = σ
          rw [List.set_set, List.set_comm _ _ (Ne.symm ne), List.set_set]
          have hw : (σ.set j none).set i none = σ := hw
          first | exact hw | (rw [List.set_comm none none ne]; exact hw)
  | _ => cases e
theorem wipe_one (i : Nat) (σ : L2.St) : L2.wipe (L2.wipe σ [i]) [i] = L2.wipe σ [i] := by
  show (σ.set i none).set i none = σ.set i none
  rw [List.set_set]
theorem wipe_two (i j : Nat) (ne : i ≠ j) (σ : L2.St) : L2.wipe (L2.wipe σ [i, j]) [i, j] = L2.wipe σ [i, j] := by
  show ((((σ.set j none).set i none).set j none).set i none) = (σ.set j none).set i none
  rw [List.set_comm none none ne, List.set_set, List.set_set]
theorem kts_nil {X : Cx} {ca : String → Value} : PTs X [] (tT X.K ca W0 Cd.tTrue) := ⟨fun pins s σ H Q I hw => pts_nil.run pins s σ H Q I (by
  obtain ⟨ρ, h, η, S, re, p⟩ := hw
  exact p ρ H true (Step.refl _ _) S rfl)⟩
theorem kts_one {X : Cx} {ca : String → Value} {c : Expr} {tc : Cd.TM} (h : KT X ca W0 c tc) : PTs X [c] (tT X.K ca W0 tc) := pts_one h
variable {pos p2 : Pos} {elt iter : Expr} {ifs : List Expr} {scope : Scope} {mi : Cd.IM} {tc : Cd.TM} {me : Cd.EM}
/-- [elt for x in iter if ..], x in slot i -/
theorem k_lc1 (i : Nat) {x : Str} (hc : X.calm = true) (hN : X.N.Nodup) (hi : KI X ca W (.Name x p2) iter mi) (ok : blkC X.N X.env.scope scope [(x, i)] = true)
    (ht : ∀ (s : Shared) (H : Hp) (C : Addr) (cl : List (Str × Addr)) (fp : List Addr), PTs (X.blk s H scope (compEnvC scope cl C X.env) fp) ifs (tT X.K ca W0 tc))
    (he : ∀ (s : Shared) (H : Hp) (C : Addr) (cl : List (Str × Addr)) (fp : List Addr), KE (X.blk s H scope (compEnvC scope cl C X.env) fp) ca W0 elt me)
    (hg : ∀ (s : Shared) (H : Hp) (C : Addr) (cl : List (Str × Addr)) (fp : List Addr), PG (X.blk s H scope (compEnvC scope cl C X.env) fp) (.Name x p2) (gName i)) (hs : ∀ x, foldedSetIterable iter X.env x = pure x := by intro _; rfl) :
    KE X ca W (.ListComp elt [⟨.Name x p2, iter, ifs, 0⟩] scope pos) (Cd.eComp [i] mi (Cd.gNam i) tc me) :=
  PE.wk (pe_lc (te := tE X.K ca W0 me) (own := [(x, i)]) hc hN hi (blkOk_by ok) hg ht he hs) (tLc_of (own_name i) (fun _ _ _ q => q) (fun _ _ _ q => q) (wipe_one i))
/-- y = [elt for x in iter if ..] -/
theorem ks_setLc1 (k i : Nat) {x y : Str} {py spos : Pos} (hc : X.calm = true) (hN : X.N.Nodup) (hi : KI X ca W (.Name x p2) iter mi) (ok : blkC X.N X.env.scope scope [(x, i)] = true)
    (hsw : swapsWith (.ListComp elt [⟨.Name x p2, iter, ifs, 0⟩] scope pos) (some (.Name y py)) spos.line X.env = pure true)
    (ht : ∀ (s : Shared) (H : Hp) (C : Addr) (cl : List (Str × Addr)) (fp : List Addr), PTs (X.blk s H scope (compEnvC scope cl C X.env) fp) ifs (tT X.K ca W0 tc))
    (he : ∀ (s : Shared) (H : Hp) (C : Addr) (cl : List (Str × Addr)) (fp : List Addr), KE (X.blk s H scope (compEnvC scope cl C X.env) fp) ca W0 elt me)
    (hg : ∀ (s : Shared) (H : Hp) (C : Addr) (cl : List (Str × Addr)) (fp : List Addr), PG (X.blk s H scope (compEnvC scope cl C X.env) fp) (.Name x p2) (gName i))
    (hy : X.N[k]? = some y := by rfl) (hyl : X.env.scope.names.lookup y = some .local := by rfl) (hs : ∀ x, foldedSetIterable iter X.env x = pure x := by intro _; rfl) :
    KS X ca W (.Assign [.Name y py] (.ListComp elt [⟨.Name x p2, iter, ifs, 0⟩] scope pos) spos) (Cd.sSet k (Cd.eComp [i] mi (Cd.gNam i) tc me)) := by
  refine PS.wk (ps_setLc (te := tE X.K ca W0 me) (i := k) (own := [(x, i)]) hc hN hy hyl hsw hi (blkOk_by ok) hg ht he hs) fun D σ H ⟨ρ, h, η, S, re, p⟩ => ?_
  refine tLc_of (own_name i) (fun _ _ _ q => q) (fun _ _ _ q => q) (wipe_one i) σ H _ ⟨ρ, h, η, S, re, postS.first S re p fun ρ1 H1 h1 v x st1 S1 r1 re1 p1 => ?_⟩
  exact p1 ρ1 H1 _ (Step.refl _ _) S1 (re1.set r1 k)
/-- [elt for x, y in iter if ..] -/
theorem k_lc2n (i j : Nat) (ne : i ≠ j) {x y : Str} {px py : Pos} {kk : Nat} (hc : X.calm = true) (hN : X.N.Nodup) (hi : KI X ca W (.Tuple [.Name x px, .Name y py] kk p2) iter mi) (ok : blkC X.N X.env.scope scope [(x, i), (y, j)] = true)
    (ht : ∀ (s : Shared) (H : Hp) (C : Addr) (cl : List (Str × Addr)) (fp : List Addr), PTs (X.blk s H scope (compEnvC scope cl C X.env) fp) ifs (tT X.K ca W0 tc))
    (he : ∀ (s : Shared) (H : Hp) (C : Addr) (cl : List (Str × Addr)) (fp : List Addr), KE (X.blk s H scope (compEnvC scope cl C X.env) fp) ca W0 elt me)
    (hg : ∀ (s : Shared) (H : Hp) (C : Addr) (cl : List (Str × Addr)) (fp : List Addr), PG (X.blk s H scope (compEnvC scope cl C X.env) fp) (.Tuple [.Name x px, .Name y py] kk p2) (gTup X.K 2 (gCons (gName i) (gCons (gName j) gNil)))) (hs : ∀ x, foldedSetIterable iter X.env x = pure x := by intro _; rfl) :
    KE X ca W (.ListComp elt [⟨.Tuple [.Name x px, .Name y py] kk p2, iter, ifs, 0⟩] scope pos) (Cd.eComp [i, j] mi (Cd.gTpl (Cd.gsCons (Cd.gNam i) (Cd.gsCons (Cd.gNam j) Cd.gsNil))) tc me) :=
  PE.wk (pe_lc (te := tE X.K ca W0 me) (own := [(x, i), (y, j)]) hc hN hi (blkOk_by ok) hg ht he hs) (tLc_of (own_two i j ne) (fun _ _ _ q => q) (fun _ _ _ q => q) (wipe_two i j ne))
theorem ks_setLc2n (k i j : Nat) (ne : i ≠ j) {x y z : Str} {px py pz spos : Pos} {kk : Nat} (hc : X.calm = true) (hN : X.N.Nodup) (hi : KI X ca W (.Tuple [.Name x px, .Name y py] kk p2) iter mi) (ok : blkC X.N X.env.scope scope [(x, i), (y, j)] = true)
    (hsw : swapsWith (.ListComp elt [⟨.Tuple [.Name x px, .Name y py] kk p2, iter, ifs, 0⟩] scope pos) (some (.Name z pz)) spos.line X.env = pure true)
    (ht : ∀ (s : Shared) (H : Hp) (C : Addr) (cl : List (Str × Addr)) (fp : List Addr), PTs (X.blk s H scope (compEnvC scope cl C X.env) fp) ifs (tT X.K ca W0 tc))
    (he : ∀ (s : Shared) (H : Hp) (C : Addr) (cl : List (Str × Addr)) (fp : List Addr), KE (X.blk s H scope (compEnvC scope cl C X.env) fp) ca W0 elt me)
    (hg : ∀ (s : Shared) (H : Hp) (C : Addr) (cl : List (Str × Addr)) (fp : List Addr), PG (X.blk s H scope (compEnvC scope cl C X.env) fp) (.Tuple [.Name x px, .Name y py] kk p2) (gTup X.K 2 (gCons (gName i) (gCons (gName j) gNil))))
    (hy : X.N[k]? = some z := by rfl) (hyl : X.env.scope.names.lookup z = some .local := by rfl) (hs : ∀ x, foldedSetIterable iter X.env x = pure x := by intro _; rfl) :
    KS X ca W (.Assign [.Name z pz] (.ListComp elt [⟨.Tuple [.Name x px, .Name y py] kk p2, iter, ifs, 0⟩] scope pos) spos) (Cd.sSet k (Cd.eComp [i, j] mi (Cd.gTpl (Cd.gsCons (Cd.gNam i) (Cd.gsCons (Cd.gNam j) Cd.gsNil))) tc me)) := by
  refine PS.wk (ps_setLc (te := tE X.K ca W0 me) (i := k) (own := [(x, i), (y, j)]) hc hN hy hyl hsw hi (blkOk_by ok) hg ht he hs) fun D σ H ⟨ρ, h, η, S, re, p⟩ => ?_
  refine tLc_of (own_two i j ne) (fun _ _ _ q => q) (fun _ _ _ q => q) (wipe_two i j ne) σ H _ ⟨ρ, h, η, S, re, postS.first S re p fun ρ1 H1 h1 v x st1 S1 r1 re1 p1 => ?_⟩
  exact p1 ρ1 H1 _ (Step.refl _ _) S1 (re1.set r1 k)
end
end Cb

set_option Elab.async false
set_option linter.all false
set_option maxRecDepth 100000
set_option maxHeartbeats 4000000
/-! CdB8: the bridge: in, enumerate, zip, o[i] op= e. -/
namespace Cb
open PySem PySem.Spec PyProof.Rows L2
section
variable {X : Cx} {K : PySem.W.Frag} {ca : String → Value} {W : WX} {a b c e : Expr} {ma mb me : Cd.EM} {pos : Pos}
theorem flat_of {ρ : List Addr} {H : Hp} {d : Cd.Val} {x : V} (r : RV K ρ H d x) : flatV x = Cd.flat d := by cases r <;> rfl
theorem flats_of {ρ : List Addr} {H : Hp} : ∀ {ds : List Cd.Val} {vs : List V}, RVs K ρ H ds vs → vs.all flatV = ds.all Cd.flat
  | _, _, .nil => rfl
  | _, _, .cons h t => by rw [List.all_cons, List.all_cons, flat_of h, flats_of t]
theorem eqF_of {ρ : List Addr} {H : Hp} {d e : Cd.Val} {x y : V} (r1 : RV K ρ H d x) (r2 : RV K ρ H e y) : eqV x y = Cd.eqF d e := by
  cases r1 <;> cases r2 <;> try rfl
  rename_i s t
  show (toS s == toS t) = (s == t)
  rw [Bool.eq_iff_iff, beq_iff_eq, beq_iff_eq]
  exact toS_inj
theorem inV_of {ρ : List Addr} {H : Hp} {d : Cd.Val} {x : V} (r : RV K ρ H d x) : ∀ {ds : List Cd.Val} {vs : List V}, RVs K ρ H ds vs → inV x vs = ds.any fun y => Cd.eqF y d
  | _, _, .nil => rfl
  | _, _, .cons h t => by
    show (eqV _ x || inV x _) = _
    rw [eqF_of h r, inV_of r t, List.any_cons]
def rInA (K : PySem.W.Frag) (neg : Bool) : R2 := fun x y H Q => (∃ (c : Nat) (z : Str), x = .str ⟨#[c]⟩ ∧ y = .str z ∧ Q (.bl (if neg then !decide (c ∈ z.cps.toList) else decide (c ∈ z.cps.toList))) H) ∨ rIn K neg x y H Q
theorem op_inA : OpR X (compareOp .In) (rInA X.K false) := OpR.or op_in_sign op_in_seq
theorem op_ninA : OpR X (compareOp .NotIn) (rInA X.K true) := OpR.or op_notIn_sign op_notIn_seq
theorem bf_inG (neg : Bool) : BinF K (fun h a b => (Cd.isIn h a b).map fun k => .bl (if neg then !k else k)) (rInA K neg) := by
  intro ρ h H d e u x y Q S r1 r2 hu k
  have hu : Option.map (fun k => Cd.Val.bl (if neg = true then !k else k)) (Cd.isIn h d e) = some u := hu
  cases ei : Cd.isIn h d e with
  | none => rw [ei] at hu; cases hu
  | some kk =>
    rw [ei] at hu
    cases hu
    unfold Cd.isIn at ei
    split at ei
    · cases ei
      cases r1; cases r2
      exact .inl ⟨_, _, rfl, rfl, k ρ H _ (Step.refl _ _) S (.bl _)⟩
    · cases ei
    · split at ei
      · rename_i l hl
        split at ei
        · rename_i hf
          cases ei
          rw [Bool.and_eq_true] at hf
          have go : ∀ {p : Addr} {vs : List V}, (SqL K H p vs ∨ SqT K H p vs) → RVs K ρ H l vs → rIn K neg x (.ref p) H Q := fun {p vs} q rs =>
            ⟨p, vs, rfl, q, by rw [flat_of r1]; exact hf.1, by rw [flats_of rs]; exact hf.2, by rw [inV_of r1 rs]; exact k ρ H _ (Step.refl _ _) S (.bl _)⟩
          refine .inr ?_
          cases r2 with
          | tup q rs => cases hl; exact go (.inr q) rs
          | fl q rs => cases hl; exact go (.inl q.sq) rs
          | ref q =>
            simp only [Cd.seqOf] at hl
            split at hl
            · rename_i m hm
              cases hl
              obtain ⟨vs, e1, rs⟩ := S.obj _ _ _ hm q
              exact go (.inl (SqL.of e1)) rs
            · cases hl
          | _ => cases hl
        · cases ei
      · cases ei
theorem bf_in : BinF K Cd.oIn (rInA K false) := bf_inG false
theorem bf_nin : BinF K Cd.oNin (rInA K true) := bf_inG true
/-! ### o[i] op= e -/
theorem get_list : PGet X (rIxL X.K) := by
  intro pins s σ H x y v u Q I rx ry h
  obtain ⟨p, xs, i, z, rfl, rfl, hq, he, q⟩ := h
  cases rx
  obtain ⟨t, rfl⟩ := ry
  obtain ⟨its, r, pl, hz⟩ := I.list hq
  obtain ⟨j, h1, h2, h3, h4, h5⟩ := L2.atI_get he
  obtain ⟨w, ew, rw'⟩ := r.get h2
  have hl := r.length
  have hn := line63
  have fin : EP X pins σ Q w s := ⟨z, H, I, rw', q⟩
  by_cases h0 : 0 ≤ i
  · have hj : i.toNat = j := by
      rw [seqIndex_of h0 h5] at h1
      exact Option.some.inj h1
    exact wpAny_getItem_list pl.isList h0 (by omega) (by rw [hj]; simpa using ew) fin
  · have hj : (i + (its.toArray.size : Int)).toNat = j := by
      rw [seqIndex_neg (by omega) h4] at h1
      rw [List.size_toArray, ← hl]
      exact Option.some.inj h1
    exact wpAny_getItem_list_neg pl.isList (by omega) (by rw [List.size_toArray] <;> omega) (by omega) (by rw [hj]; simpa using ew) fin
theorem ks_augIx {op : Operator} {f : Cd.Hep → Cd.Val → Cd.Val → Option Cd.Val} {r : R2} {tpos : Pos} (ho : OpR X (inplaceOp op) r) (hf : BinF X.K f r) (ha : KE X ca W a ma) (hb : KE X ca W b mb) (he : KE X ca W e me)
    (hs : ∀ ov iv new, augStore b ov iv new = (do holding [new, ov, iv] (setItem ov iv new); release [new, ov, iv] []; pure .next) := by intros; rfl) : KS X ca W (.AugAssign (.Subscript a b tpos) op e pos) (Cd.sAugIx f ma mb me) := by
  refine PS.wk (ps_augS (tip := r) ha hb get_list he ho set_list hs) fun D σ H ⟨ρ, h, η, S, re, p⟩ => ?_
  refine ⟨ρ, h, η, S, re, postS.first S re p fun ρ1 H1 h1 x ox st1 S1 r1 re1 p1 => ?_⟩
  refine ⟨ρ1, h1, η, S1, re1, postS.first S1 re1 p1 fun ρ2 H2 h2 k ik st2 S2 r2 re2 p2 => ?_⟩
  have r1' := r1.mono st2 S1
  cases ei : Cd.oIdxL h2 x k with
  | none => rw [ei] at p2; exact p2.elim
  | some y =>
    rw [ei] at p2
    simp only [Cd.ofO_some, Cd.Res.thn_ok] at p2
    have lst : rIxL X.K ox ik H2 (fun old H3 => RV X.K ρ2 H2 y old ∧ H3 = H2) := by
      unfold Cd.oIdxL at ei
      split at ei
      · split at ei
        · rename_i l hl
          cases r1' with
          | ref q =>
            cases r2
            obtain ⟨vs, e1, rs⟩ := S2.obj _ _ _ hl q
            obtain ⟨v, e2, rv⟩ := atI_rv rs ei
            exact ⟨_, vs, _, v, rfl, rfl, SqL.of e1, e2, rv, rfl⟩
        · cases ei
      · cases ei
    obtain ⟨pp, xs, ii, vv, e1, e2, e3, e4, rv, _⟩ := lst
    refine ⟨pp, xs, ii, vv, e1, e2, e3, e4, ρ2, h2, η, S2, re2, postS.first S2 re2 p2 fun ρ3 H3 h3 z oz st3 S3 r3 re3 p3 => ?_⟩
    cases ef : f h3 y z with
    | none => rw [ef] at p3; exact p3.elim
    | some v =>
      rw [ef] at p3
      simp only [Cd.ofO_some, Cd.Res.thn_ok] at p3
      refine hf ρ3 h3 H3 y z v vv oz _ S3 (rv.mono st3 S2) r3 ef fun ρ4 H4 w st4 S4 r4 => ?_
      cases es : Cd.setIx h3 x k v with
      | none => rw [es] at p3; exact p3.elim
      | some h5 =>
        rw [es] at p3
        exact setIx_of S4 ((r1'.mono st3 S2).mono st4 S3) ((r2.mono st3 S2).mono st4 S3) r4 es fun H' st S' => p3 ρ4 H' σ (st4.trans st) S' ((re3.mono st4 S3).mono st S4)
/-! ### enumerate, zip -/
theorem itemsS_of {ρ : List Addr} {h : Cd.Hep} {H : Hp} {d : Cd.Val} {x : V} {p : List Cd.Val × (Cd.Hep → Bool)} (S : Sim K ρ h H) (r : RV K ρ H d x) (e : Cd.itemsS h d = some p) :
    (∃ a vs, x = .ref a ∧ SqT K H a vs ∧ Cd.isT2 d (.tup []) = true ∧ ∀ ρ1 H1 h1, Step ρ H ρ1 H1 → Sim K ρ1 h1 H1 → p.2 h1 = true → ∃ ws, SqT K H1 a ws ∧ RVs K ρ1 H1 p.1 ws) ∨
    (∃ a vs, x = .ref a ∧ SqL K H a vs ∧ Cd.isT2 d (.tup []) = false ∧ ∀ ρ1 H1 h1, Step ρ H ρ1 H1 → Sim K ρ1 h1 H1 → p.2 h1 = true → ∃ ws, SqL K H1 a ws ∧ RVs K ρ1 H1 p.1 ws) := by
  cases r with
  | tup q rs => cases e; exact .inl ⟨_, _, rfl, q, rfl, fun ρ1 H1 h1 st S1 _ => ⟨_, st.sqT S q, rs.mono st S⟩⟩
  | fl q rs => cases e; exact .inr ⟨_, _, rfl, q.sq, rfl, fun ρ1 H1 h1 st S1 _ => ⟨_, (st.fzL S q).sq, rs.mono st S⟩⟩
  | ref q =>
    simp only [Cd.itemsS] at e
    split at e
    · rename_i l hl
      cases e
      obtain ⟨vs, e1, rs⟩ := S.obj _ _ _ hl q
      refine .inr ⟨_, vs, rfl, SqL.of e1, rfl, fun ρ1 H1 h1 st S1 c => ?_⟩
      have c := @of_decide_eq_true _ (Classical.propDecidable _) c
      obtain ⟨ws, e2, rs2⟩ := S1.obj _ _ _ c (st.ix q)
      exact ⟨ws, SqL.of e2, rs2⟩
    · cases e
  | _ => cases e
theorem enumL_get {l : List Cd.Val} {i : Nat} {d : Cd.Val} (e : (Cd.enumL l)[i]? = some d) : ∃ y, l[i]? = some y ∧ d = .tup [.int (i : Nat), y] := by
  unfold Cd.enumL at e
  rw [List.getElem?_map, List.getElem?_zipIdx] at e
  cases q : l[i]? with
  | none => rw [q] at e; cases e
  | some y => rw [q] at e; cases e; exact ⟨y, rfl, by simp⟩
theorem enumL_len (l : List Cd.Val) : (Cd.enumL l).length = l.length := by simp [Cd.enumL]
theorem itf_enumL {ρ : List Addr} {H : Hp} {a : Addr} {p : List Cd.Val × (Cd.Hep → Bool)} (F : ∀ ρ1 H1 h1, Step ρ H ρ1 H1 → Sim K ρ1 h1 H1 → p.2 h1 = true → ∃ ws, SqL K H1 a ws ∧ RVs K ρ1 H1 p.1 ws) : ItF K (Ite K a) (Cd.enumL p.1) p.2 ρ H where
  go := fun ρ1 H1 h1 i st S1 c hi => by
    obtain ⟨ws, q, rs⟩ := F ρ1 H1 h1 st S1 c
    rw [enumL_len] at hi
    exact ⟨ws, ws[i]'(by rw [← rs.length]; exact hi), q, List.getElem?_eq_getElem _⟩
  stop := fun ρ1 H1 h1 i st S1 c hi => by
    obtain ⟨ws, q, rs⟩ := F ρ1 H1 h1 st S1 c
    rw [enumL_len] at hi
    exact ⟨ws, q, by rw [← rs.length]; omega⟩
  yld := fun ρ1 H1 h1 i d x H' st S1 c hd y => by
    obtain ⟨ws, q, rs⟩ := F ρ1 H1 h1 st S1 c
    obtain ⟨T, xx, rfl, nT, rfl, hx⟩ := y
    obtain ⟨y, ey, rfl⟩ := enumL_get hd
    obtain ⟨v, e1, e2⟩ := rs.get ey
    have := hx ws q
    rw [e1] at this; cases this
    have s2 := Step.out (ρ := ρ1) T (.tup [.int (i : Nat), xx]) nT
    exact ⟨s2, S1.out nT, .tup (SqT.of upd_same) (.cons (.int _) (.cons (e2.mono s2 S1) .nil))⟩
/-- the tuple at a, its items in new pairs with their places -/
def IteT (K : PySem.W.Frag) (a : Addr) : It :=
  ⟨fun i H => ∃ (xs : List V) (x : V), SqT K H a xs ∧ xs[i]? = some x, fun i H v H' => ∃ T x, v = .ref T ∧ H T = none ∧ H' = upd H T (.tup [.int (i : Nat), x]) ∧ ∀ xs, SqT K H a xs → xs[i]? = some x, fun i H => ∃ xs : List V, SqT K H a xs ∧ xs.length = i⟩
theorem itf_enumT {ρ : List Addr} {H : Hp} {a : Addr} {p : List Cd.Val × (Cd.Hep → Bool)} (F : ∀ ρ1 H1 h1, Step ρ H ρ1 H1 → Sim K ρ1 h1 H1 → p.2 h1 = true → ∃ ws, SqT K H1 a ws ∧ RVs K ρ1 H1 p.1 ws) : ItF K (IteT K a) (Cd.enumL p.1) p.2 ρ H where
  go := fun ρ1 H1 h1 i st S1 c hi => by
    obtain ⟨ws, q, rs⟩ := F ρ1 H1 h1 st S1 c
    rw [enumL_len] at hi
    exact ⟨ws, ws[i]'(by rw [← rs.length]; exact hi), q, List.getElem?_eq_getElem _⟩
  stop := fun ρ1 H1 h1 i st S1 c hi => by
    obtain ⟨ws, q, rs⟩ := F ρ1 H1 h1 st S1 c
    rw [enumL_len] at hi
    exact ⟨ws, q, by rw [← rs.length]; omega⟩
  yld := fun ρ1 H1 h1 i d x H' st S1 c hd y => by
    obtain ⟨ws, q, rs⟩ := F ρ1 H1 h1 st S1 c
    obtain ⟨T, xx, rfl, nT, rfl, hx⟩ := y
    obtain ⟨y, ey, rfl⟩ := enumL_get hd
    obtain ⟨v, e1, e2⟩ := rs.get ey
    have := hx ws q
    rw [e1] at this; cases this
    have s2 := Step.out (ρ := ρ1) T (.tup [.int (i : Nat), xx]) nT
    exact ⟨s2, S1.out nT, .tup (SqT.of upd_same) (.cons (.int _) (.cons (e2.mono s2 S1) .nil))⟩
theorem meets_enumerate_newT (v : Value) (o : Obj) (Hh : Heap → Prop) (B : Begins v o Hh) :
    Meets (Builtin.«enumerate.__new__» ⟨[.type "enumerate", v], []⟩) (fun _ R s => Hh s.heap ∧
      R (.ok (.ret (.ref (s.heap.push o).objs.size))) { s with heap := (s.heap.push o).push { cls := .type "enumerate", data := .fields #[.none, .bool false, .ref s.heap.objs.size, rawInt 0, .none, .none] } }) :=
  .of_wp fun prog w A R s h => by
    obtain ⟨hp, g, d, tk, os⟩ := s; obtain ⟨h1, h⟩ := h
    have hsub := sub_enumerate
    have q1 : ∀ {A' : Around} {E : Value → Shared → Prop} {Q : Value → Shared → Prop}, Q (.ref hp.objs.size) ⟨hp.push o, g, d, tk, os⟩ → wpAny (model prog w) A' (pyIter v) Q E ⟨hp, g, d, tk, os⟩ :=
      fun q => B.iter prog w _ _ ⟨hp, g, d, tk, os⟩ _ h1 q
    wp_walk using q1
    refine wpAny_stack_any fun st => wpAny_pure ?_
    split
    · rename_i c _ _ _ _ _
      cases (c == Value.type "enumerate")
      · wp_walk using q1
        exact ⟨_, rfl, h⟩
      · wp_walk using q1
        exact ⟨_, rfl, h⟩
    · wp_walk using q1
      exact ⟨_, rfl, h⟩
theorem call_enumerate_B {prog : Program} {w : World} {A : Around} {E : Value → Shared → Prop} {s : Shared} {v : Value} {o : Obj} {Hh : Heap → Prop} {Q : Value → Shared → Prop} (B : Begins v o Hh) (h1 : Hh s.heap)
    (h : ∀ h', IsEnum h' (s.heap.objs.size + 1) s.heap.objs.size 0 .none → h'.get? s.heap.objs.size = some o → h'.objs.size = s.heap.objs.size + 2 → (∀ b o, s.heap.get? b = some o → h'.get? b = some o) → Q (.ref (s.heap.objs.size + 1)) { s with heap := h' }) :
    wpAny (model prog w) A (call (.type "enumerate") [v]) Q E s := by
  refine callType_new F.called_enumerate (by decide) (F.typeCall_enumerate_1 _) (F.newCall_enumerate_1 _) (fun obj => F.args_object_init_2 obj _) F.entry_enumerate_new (meets_enumerate_newT v o Hh B) ⟨h1, ?_⟩
  have hz : (s.heap.push o).objs.size = s.heap.objs.size + 1 := Heap.size_push ..
  show _ ∧ _
  rw [hz]
  have he : IsEnum ((s.heap.push o).push { cls := .type "enumerate", data := .fields #[.none, .bool false, .ref s.heap.objs.size, rawInt 0, .none, .none] }) (s.heap.objs.size + 1) s.heap.objs.size 0 .none := by
    have := Heap.get?_push_size (s.heap.push o) (o := { cls := .type "enumerate", data := .fields #[.none, .bool false, .ref s.heap.objs.size, rawInt 0, .none, .none] }) rfl
    rw [hz] at this; exact this
  exact ⟨⟨_, he, rfl⟩, h _ he (Heap.get?_push_of_some _ (Heap.get?_push_size _ B.free)) (by rw [Heap.size_push, hz]) fun b o x => Heap.get?_push_of_some _ (Heap.get?_push_of_some _ x)⟩
theorem tup_ne {h : Heap} {a b i : Nat} {items : Array Value} {n : String} {o : Obj} (p : h.IsTuple a items) (ho : h.get? b = some o) (hc : o.cls = .type n) (hn : n ≠ "tuple") : a ≠ b := by
  rintro rfl
  obtain ⟨ob, e, c, _⟩ := p
  rw [ho] at e
  cases e
  rw [hc] at c
  injection c with c
  exact hn c
theorem turn_enumT {P : Program} {w : World} {K : PySem.W.Frag} {elts : List Expr} {kk : Nat} {tpos : Pos} (a e it : Addr) :
    Turn P w K (.Tuple elts kk tpos) (IteT K a) [e, it] e (fun i h => (∃ old, IsEnum h e it ((i : Nat) : Int) old) ∧ h.IsTupleIter it a i ∧ e ≠ it) where
  mem := by simp
  obj := fun i h st b hb => by
    obtain ⟨⟨old, he⟩, ⟨o, ho, hc, hd⟩, _⟩ := st
    have e' : b = e ∨ b = it := by simpa using hb
    rcases e' with z | z
    · rw [z]; exact ⟨_, he, fun v q => nomatch q⟩
    · rw [z]; exact ⟨o, ho, fun v q => by rw [hd] at q; cases q⟩
  keep := fun i h h' st k => let ⟨⟨old, he⟩, hi, hne⟩ := st; ⟨⟨old, k e (by simp) _ he⟩, hi.at fun o q => k it (by simp) o q, hne⟩
  item := by
    intro X hP hw hK hc i pins s σ H E I hf st hg
    subst hP hw hK
    obtain ⟨⟨old, he⟩, hit, hne⟩ := st
    obtain ⟨xs, x, hq, hx⟩ := hg
    obtain ⟨its, rv, p, hz⟩ := I.tuple hq
    obtain ⟨u, hu, ru⟩ := rv.get hx
    have hel : e < s.heap.objs.size := Heap.lt_size he
    have hil : it < s.heap.objs.size := by obtain ⟨_, q, _⟩ := hit; exact Heap.lt_size q
    have pt : s.heap.IsTuple a its.toArray := p
    have hai : a ≠ it := by obtain ⟨o, ho, hc', _⟩ := id hit; exact tup_ne (i := 0) pt ho hc' (by decide)
    have hae : a ≠ e := tup_ne (i := 0) pt he rfl (by decide)
    have hlt : i < its.toArray.size := by
      rw [List.size_toArray]
      exact (List.getElem?_eq_some_iff.mp hu).1
    refine wpAny_pyNext_enum_itemD (Draws.tuple (A := X.A.in1) (I.ok.hd hc) it a hai its.toArray) he ⟨hit, pt⟩ hlt hne (by simp [hne, hae.symm]) fun x' h' tk hP' ho hst' hT hsz hk => ?_
    have ex : x' = u := by
      have h1 : its.toArray[i]? = some x' := hP'
      have h2 : its.toArray[i]? = some u := by simpa using hu
      rw [h1] at h2; exact Option.some.inj h2
    subst ex
    refine ⟨_, rfl, wpAny_letOwnedTupleGo_enum (s := { s with heap := h', toks := tk + 1 }) ho fun h'' he' sb => ?_⟩
    have hT2 : h''.get? s.heap.objs.size = some { cls := .type "tuple", data := .seq #[.int i tk, x'] } := (sb.2 _ (Nat.ne_of_gt hel)).trans hT
    have new : ObjOk X.prog X.w (upd H s.heap.objs.size (.tup [.int (i : Nat), x])) h'' s.heap.objs.size (.tup [.int (i : Nat), x]) :=
      ⟨by show 2 ≤ sizeLine; decide, [.int i tk, x'], .cons ⟨_, rfl⟩ (.cons ru .nil), ⟨_, hT2, rfl, _, rfl⟩⟩
    have I1 : Inv X pins σ (upd H s.heap.objs.size (.tup [.int (i : Nat), x])) { s with heap := h'', toks := tk + 1 } :=
      I.turnedNew (ch := [e, it]) (fun b ob hb q => (sb.2 b (fun z => hb (by simp [z]))).trans (hk b ob (fun z => hb (by simp [z])) (fun z => hb (by simp [z])) q)) hf (Nat.le_refl _) new
    refine ⟨.ref s.heap.objs.size, _, I1, rfl, ⟨_, x, rfl, I.hok.fresh (Nat.le_refl _), rfl, fun ys hy => by rw [I.tuple_inj hy hq]; exact hx⟩, ⟨⟨x', ?_⟩, hst'.1.at fun o q => (sb.2 it (Ne.symm hne)).trans q, hne⟩, fun b hb => ?_⟩
    · have e1 : ((i + 1 : Nat) : Int) = (i : Int) + 1 := by omega
      rw [e1]; exact he'
    · have hb' : b < s.heap.objs.size := by
        have e' : b = e ∨ b = it := by simpa using hb
        rcases e' with z | z
        · rw [z]; exact hel
        · rw [z]; exact hil
      rw [upd_ne (Nat.ne_of_lt hb')]
      exact (hf b hb).1
  done := by
    intro X hP hw hK hc i pins s σ H E I hf st hg
    subst hP hw hK
    obtain ⟨⟨old, he⟩, hit, hne⟩ := st
    obtain ⟨xs, hq, hx⟩ := hg
    obtain ⟨its, rv, p, hz⟩ := I.tuple hq
    obtain ⟨f0, f1, f2, f3, f4, f5⟩ := hf it (by simp)
    have hl := rv.length
    have pt : s.heap.IsTuple a its.toArray := p
    have hai : a ≠ it := by obtain ⟨o, ho, hc', _⟩ := id hit; exact tup_ne (i := 0) pt ho hc' (by decide)
    have en : i = its.toArray.size := by rw [List.size_toArray]; omega
    subst en
    exact wpAny_pyNext_enum_endD (Draws.tuple (A := X.A.in1) (I.ok.hd hc) it a hai its.toArray) he ⟨hit, pt⟩ fun h' eb => ⟨rfl, I.turned (t' := s.toks) (fun b o hb q => eb b o hb q) f0 f1 f3 f4 f5⟩
  self := fun A i s Q E st h => let ⟨⟨_, he⟩, _⟩ := st; wpAny_pyIter_enum he h
def iEnumT (K : PySem.W.Frag) (ta : TA) : TI := fun σ H R => ta σ H fun vs H1 => ∃ a xs, vs = [.ref a] ∧ SqT K H1 a xs ∧ R (IteT K a) H1
theorem pi_enumT {ta : TA} {p pos tpos : Pos} {elts : List Expr} {kk : Nat} (hg : Gl X "enumerate") (hm : X.mg "enumerate" = none) (ha : PA X [e] ta) (hs : starEach [e] X.env = [(false, eval e X.env)] := by rfl) :
    PI X (.Tuple elts kk tpos) (.Call (.Name "enumerate" p) [e] [] pos) (iEnumT X.K ta) := by
  refine ⟨fun pins s σ H R I h => ?_⟩
  refine Call_ (ld_blt I hg hm boot_enumerate (PyProof.Rows.callWith_type1 (thn (ha.run pos pins s σ H _ I h) fun us s1 ⟨vs, H1, I1, r1, q1⟩ => ?_) hs rfl))
  obtain ⟨a, xs, ex, hq, q⟩ := q1
  subst ex
  cases r1 with
  | cons r rr =>
    cases rr
    cases r
    obtain ⟨its, rv, p', hz⟩ := I1.tuple hq
    refine call_enumerate_B (begins_tuple a its.toArray) (show s1.heap.IsTuple a its.toArray from p') fun h' he hit hsz hk => wpAny_pyIter_enum he ?_
    have I2 : Inv X pins σ H1 { s1 with heap := h' } := I1.kept (t' := s1.toks) hk
    refine ⟨s1.heap.objs.size + 1, [s1.heap.objs.size + 1, s1.heap.objs.size], _, _, H1, rfl, I2, turn_enumT a (s1.heap.objs.size + 1) s1.heap.objs.size, ⟨⟨.none, he⟩, ⟨_, hit, rfl, rfl⟩, Nat.succ_ne_self _⟩, fun b hb => ?_, q⟩
    have e' : b = s1.heap.objs.size + 1 ∨ b = s1.heap.objs.size := by simpa using hb
    have hle : s1.heap.objs.size ≤ b := by
      rcases e' with z | z
      · rw [z]; exact Nat.le_add_right _ _
      · rw [z]; exact Nat.le_refl _
    exact I1.fpOk hle (I1.hok.fresh hle)
theorem PI.or2 {tg iter : Expr} {ta : TA} {f g : List V → Hp → (It → Hp → Prop) → Prop} (h : PI X tg iter (fun σ H R => ta σ H fun vs H1 => f vs H1 R)) (h' : PI X tg iter (fun σ H R => ta σ H fun vs H1 => g vs H1 R)) : True := trivial
theorem ki_enum {p tpos : Pos} {elts : List Expr} {kk : Nat} {mas : Cd.AM} (hm : X.mg "enumerate" = none) (ha : KA X ca W [e] mas) (hg : Gl X "enumerate" := by rfl) (hs : starEach [e] X.env = [(false, eval e X.env)] := by rfl) :
    KI X ca W (.Tuple elts kk tpos) (.Call (.Name "enumerate" p) [e] [] pos) (Cd.iArgs Cd.fEnum mas) := by
  refine PI.wk (PI.or (pi_enum hg hm ha hs) (pi_enumT hg hm ha hs)) fun σ H R q => ?_
  -- which of the two: read off the value
  obtain ⟨ρ, h, η, S, re, pp⟩ := id q
  have side : (∃ v h1, mas η h = .ok [v] h1 ∧ Cd.isT2 v (.tup []) = true) ∨ ¬ (∃ v h1, mas η h = .ok [v] h1 ∧ Cd.isT2 v (.tup []) = true) := Classical.em _
  have go : ∀ {C : List V → Hp → Prop}, (∀ ρ1 H1 h1 d x pq, mas η h = .ok [d] h1 → Sim X.K ρ1 h1 H1 → RV X.K ρ1 H1 d x → Cd.itemsS h1 d = some pq → (∀ ρ' H' J, Step ρ1 H1 ρ' H' → Sim X.K ρ' h1 H' → ItF X.K J (Cd.enumL pq.1) pq.2 ρ' H' → R J H') → C [x] H1) → tA X.K ca W mas σ H C := by
    intro C c
    refine ⟨ρ, h, η, S, re, ?_⟩
    unfold Cd.iArgs at pp
    cases em : mas η h with
    | stuck => rw [em] at pp; exact pp.elim
    | exc _ _ => rw [em] at pp; exact pp
    | ok vs h1 =>
      rw [em] at pp
      simp only [Cd.Res.bind_ok] at pp
      intro ρ1 H1 xs st1 S1 r1
      cases ef : Cd.fEnum h1 vs with
      | none => rw [ef] at pp; exact pp.elim
      | some qq =>
        rw [ef] at pp
        unfold Cd.fEnum at ef
        split at ef
        · rename_i d
          cases ei : Cd.itemsS h1 d with
          | none => rw [ei] at ef; cases ef
          | some pq =>
            rw [ei] at ef
            cases ef
            obtain ⟨x, rfl, r2⟩ := one_rv r1
            exact c ρ1 H1 h1 d x pq em S1 r2 ei fun ρ' H' J st S' F => pp ρ' H' J (st1.trans st) S' F
        · cases ef
  rcases side with ⟨v, hh, em, ht⟩ | hn
  · refine .inr (go fun ρ1 H1 h1 d x pq em2 S1 r2 ei k => ?_)
    rw [em] at em2; cases em2
    rcases itemsS_of S1 r2 ei with ⟨a, vs, rfl, q1, _, F⟩ | ⟨a, vs, rfl, q1, ht2, F⟩
    · exact ⟨a, vs, rfl, q1, k ρ1 H1 _ (Step.refl _ _) S1 (itf_enumT F)⟩
    · rw [ht] at ht2; cases ht2
  · refine .inl (go fun ρ1 H1 h1 d x pq em2 S1 r2 ei k => ?_)
    rcases itemsS_of S1 r2 ei with ⟨a, vs, rfl, q1, ht, F⟩ | ⟨a, vs, rfl, q1, _, F⟩
    · exact (hn ⟨_, _, em2, ht⟩).elim
    · exact ⟨a, vs, rfl, q1, k ρ1 H1 _ (Step.refl _ _) S1 (itf_enumL F)⟩
end
end Cb

set_option Elab.async false
set_option linter.all false
set_option maxRecDepth 100000
set_option maxHeartbeats 4000000
/-! CdB9: the bridge: texts; constants of the module. -/
namespace Cb
open PySem PySem.Spec PyProof.Rows L2 TL
section
variable {X : Cx} {K : PySem.W.Frag} {ca : String → Value} {W : WX}
theorem bf_ord' : BFnF K Cd.bOrd (fun xs H Q => ∃ x, xs = [.str x] ∧ x.length = 1 ∧ Q (.int (x.cps.getD 0 0 : Nat)) H) := by
  intro ρ h h' H ds u xs Q S r e k
  unfold Cd.bOrd at e
  split at e
  · cases e
    obtain ⟨x, rfl, r0⟩ := one_rv r
    cases r0
    exact ⟨_, rfl, rfl, k ρ H _ (Step.refl _ _) S (.int _)⟩
  · cases e
theorem cutAt_spl (s : Nat) : ∀ (l acc : List Nat), spl [s] 0 acc l = Cd.cutAt s acc l
  | [], acc => rfl
  | c :: r, acc => by
    by_cases q : c = s
    · subst q
      rw [spl_hit (show pre [c] (c :: r) = true by simp [pre]), Cd.cutAt, if_pos rfl]
      show acc :: spl [c] 0 [] r = _
      rw [cutAt_spl c r []]
    · rw [spl_miss (show pre [s] (c :: r) = false by simp [pre, q]), Cd.cutAt, if_neg q, cutAt_spl s r _]
theorem tl_toS (s : List Nat) : tl (toS s) = s := rfl
theorem rvs_strs {ρ : List Addr} {H : Hp} : ∀ l : List (List Nat), RVs K ρ H (l.map .str) ((l.map toS).map V.str)
  | [] => .nil
  | s :: l => .cons (.str s) (rvs_strs l)
theorem mf_split : MthF K Cd.mSplit (fun x xs H Q => ∃ a b, x = .str a ∧ xs = [.str b] ∧ (b.length == 0) = false ∧ a.length + 2 ≤ sizeLine ∧ rNewStrs (Txt.split a b) H Q) := by
  intro ρ h h' H x ds u ox xs Q S r1 r2 e k
  unfold Cd.mSplit at e
  split at e
  · split at e
    · rename_i s c hz
      cases e
      cases r1
      obtain ⟨y, rfl, ry⟩ := one_rv r2
      cases ry
      obtain ⟨h1, h2⟩ := hz
      rw [Cd.line_is] at h2
      refine ⟨_, _, rfl, rfl, rfl, by rw [sizeLine_eq]; exact h2, ?_⟩
      have e : (Txt.split (toS s) (toS [c])).map tl = Cd.cutAt c [] s := by
        rw [split_spl _ _ (by show [c] ≠ []; simp) (kind_ok (by show (([c] : List Nat).toArray.all fun x => decide (x < 256)) = true; simp [h1]))]
        exact cutAt_spl c s []
      have e2 : Txt.split (toS s) (toS [c]) = (Cd.cutAt c [] s).map toS := map_tl_inj (by
        rw [e, List.map_map]
        exact (List.map_id' (Cd.cutAt c [] s)).symm)
      rw [e2]
      exact lay_k S (rvs_strs _) k
    · cases e
  · cases e
/-! ### constants of the module -/
/-- a written value as one of mine -/
def valC : Value → Cd.Val → Bool
  | .none, .non => true
  | .bool a, .bl b => a == b
  | .int i _, .int j => i == j
  | .str z _, .str s => z.cps.toList == s
  | _, _ => false
def valsC : List Value → List Cd.Val → Bool
  | [], [] => true
  | v :: vs, d :: ds => valC v d && valsC vs ds
  | _, _ => false
theorem valC_of {K : PySem.W.Frag} {ρ : List Addr} {H : Hp} {v : Value} {d : Cd.Val} (h : valC v d = true) : ∃ x, RelV x v ∧ RV K ρ H d x := by
  unfold valC at h
  split at h
  · exact ⟨.non, rfl, .non⟩
  · rename_i a b; exact ⟨.bl b, by rw [beq_iff_eq.mp h]; rfl, .bl b⟩
  · rename_i i t j; exact ⟨.int j, ⟨t, by rw [beq_iff_eq.mp h]⟩, .int j⟩
  · rename_i z t s
    have e := beq_iff_eq.mp h
    refine ⟨.str (toS s), ⟨t, ?_⟩, .str s⟩
    have : toS s = z := ext_tl (by rw [tl_toS]; exact e.symm)
    rw [this]
  · cases h
theorem valsC_of {K : PySem.W.Frag} {ρ : List Addr} {H : Hp} : ∀ {vs : List Value} {ds : List Cd.Val}, valsC vs ds = true → ∃ xs, Vals xs vs ∧ RVs K ρ H ds xs
  | [], [], _ => ⟨[], .nil, .nil⟩
  | v :: vs, d :: ds, h => by
    rw [valsC, Bool.and_eq_true] at h
    obtain ⟨x, h1, h2⟩ := valC_of (K := K) (ρ := ρ) (H := H) h.1
    obtain ⟨xs, h3, h4⟩ := valsC_of (K := K) (ρ := ρ) (H := H) h.2
    exact ⟨x :: xs, .cons h1 h3, .cons h2 h4⟩
/-- an object that is a written tuple -/
def tupC (o : Obj) (ds : List Cd.Val) : Bool := match o.cls, o.data with
  | .type n, .seq its _ => n == "tuple" && decide (its.size ≤ 1000) && valsC its.toList ds
  | _, _ => false
theorem tupC_rv {a : Addr} {o : Obj} {ds : List Cd.Val} (lk : K.lookup a = some o) (h : tupC o ds = true) (ρ : List Addr) (H : Hp) : RV K ρ H (.tup ds) (.ref a) := by
  unfold tupC at h
  split at h
  · rename_i n its m hc hd
    simp only [Bool.and_eq_true, beq_iff_eq, decide_eq_true_eq] at h
    obtain ⟨⟨h1, h2⟩, h3⟩ := h
    obtain ⟨xs, h4, h5⟩ := valsC_of (K := K) (ρ := ρ) (H := H) h3
    exact .tup (.inr ⟨o, its, m, lk, by rw [hc, h1], hd, by rw [sizeLine_eq]; omega, h4⟩) h5
  · cases h
/-- f(): no argument -/
theorem k_call0 {k n : Nat} {f : Addr} {fd : FuncData} {ps : List Str} {F : Cd.Fn} {x : Str} {p pos : Pos} (G : FnOk X.prog X.w X.K X.mg X.base (L2.CX X.prog X.w) k f fd ps (spF X.K ca n F)) (tk : Takes X W) (hr : Room k X.A) (hg : Gl X x) (hm : X.mg x = some (.ref f))
    (hk : PySem.W.keepIn X.K (.ref f) = true) (hb : Binds X.K fd ps []) (hn : n = 0) (hdb : (x == ("__debug__" : Str)) = false := by decide) : KE X ca W (.Call (.Name x p) [] [] pos) (Cd.eCall F Cd.aNil) := by
  refine ⟨fun pins s σ H Q I ⟨ρ, h, η, S, re, q⟩ => ?_⟩
  refine wpAny_Call_Name_kw (ld_glob I hg hm ?_ hdb)
  refine PySem.W.callWith_K0 I.kIn hk (run_fnS (us := []) (vs := []) (E := fun σ => WE W σ) G hr hb (passAt tk σ) I .nil ?_)
  refine ⟨hn.symm, ρ, h, [], S, .nil, ?_⟩
  have q : postG X.K ca W (RV X.K) ρ H σ (F [] h) Q := q
  cases eF : F [] h with
  | stuck => rw [eF] at q; exact q.elim
  | ok v h2 => rw [eF] at q; exact fun ρ2 H2 x st2 S2 r2 => q ρ2 H2 x st2 S2 r2
  | exc ex h2 => rw [eF] at q; exact fun ρ2 H2 cls d st2 S2 r2 => q ρ2 H2 cls d st2 S2 r2
end
end Cb

set_option Elab.async false
set_option linter.all false
set_option maxRecDepth 100000
set_option maxHeartbeats 4000000
/-! CdB10: the bridge: raise X(), try .. except X [as e], isinstance of a caught error. -/
namespace Cb
open PySem PySem.Spec PyProof.Rows L2
section
variable {X : Cx} {K : PySem.W.Frag}
theorem bf_iadd : BinF K Cd.oIAdd (fun x y H Q => (rI0 fun i j => .int (i + j)) x y H Q ∨ (fun x y H Q => ∃ i j, x = V.str i ∧ y = V.str j ∧ i.length + j.length ≤ sizeLine ∧ Q (V.str (i ++ j)) H) x y H Q) := by
  intro ρ h H d e u x y Q S r1 r2 hu k
  unfold Cd.oIAdd at hu
  split at hu
  · cases hu
    cases r1
    cases r2
    exact .inl ⟨_, _, rfl, rfl, k ρ H _ (Step.refl _ _) S (.int _)⟩
  · rename_i s t
    split at hu
    · rename_i hl
      cases hu
      cases r1
      cases r2
      rw [line_eq] at hl
      exact .inr ⟨_, _, rfl, rfl, hl, by rw [← toS_app]; exact k ρ H _ (Step.refl _ _) S (.str _)⟩
    · cases hu
  · cases hu
theorem iop_addB : OpR X (inplaceOp .Add) (fun x y H Q => (rI0 fun i j => .int (i + j)) x y H Q ∨ (fun x y H Q => ∃ i j, x = V.str i ∧ y = V.str j ∧ i.length + j.length ≤ sizeLine ∧ Q (V.str (i ++ j)) H) x y H Q) := iop_add.or iop_add_str
end
/-- an own exception class over ValueError, without own __init__ -/
structure ExR (K : PySem.W.Frag) (C : Addr) : Prop where
  x : PySem.W.excIn K C [.type "ValueError", .type "Exception", .type "BaseException", .type "object"] "ValueError.__new__" = true
  k : PySem.W.keepIn K (.ref C) = true
  b : PySem.W.subIn K (.ref C) (.type "BaseException") = some true
  t : PySem.W.typeIn K (.ref C) = some (.type "type")
section
variable {X : Cx} {ca : String → Value} {W : WX} {C : Addr} {x : Str} {p pos : Pos}
/-- X() -/
theorem pmk_own0 (E : ExR X.K C) (gC : X.mg x = some (.ref C)) (hg : Gl X x) (hdb : (x == ("__debug__" : Str)) = false := by decide) : PMk X (.Call (.Name x p) [] [] pos) (fun _ H Q => Q (.ref C) none H) := by
  intro pins s σ H Q I h
  refine wpAny_Call_Name_kw (ld_glob I hg gC ?_ hdb)
  refine PySem.W.callWith_K0 I.kIn E.k ?_
  show wpAny _ _ (call (.ref C) []) _ _ _
  obtain ⟨bm, N, nm, qn, bs, hdct, sn, sub, ab, col, dd, k0, k1, k2, k3, k5, mN, hC, hN, hni, T⟩ := exc_obj I.kIn E.x
  refine wpAny_call_exc_subT PySem.F.excBase_ValueError T hC hN hni (fun h' e hm => ?_) (Nat.zero_le _)
  exact mk_of I hm (raises_own E.b E.t) h (I.hok.gone hm.new)
theorem ks_raise0 (c : String) {pos2 : Pos} (hc : X.calm = true) (tk : Takes X W) (E : ExR X.K C) (gC : X.mg x = some (.ref C)) (hca : ca c = .ref C) (hg : Gl X x := by rfl) (hdb : (x == ("__debug__" : Str)) = false := by decide) :
    KS X ca W (.Raise (some (.Call (.Name x p) [] [] pos)) none pos2) (Cd.sRaise c) := by
  refine PS.wk (ps_raise hc tk (pmk_own0 E gC hg hdb)) fun D σ H ⟨ρ, h, η, S, re, q⟩ => ?_
  exact q ρ H (.ref C) none σ (Step.refl _ _) S re ⟨hca.symm, .inl ⟨rfl, rfl⟩⟩
/-! ### slots forgotten -/
theorem RE.forget {K : PySem.W.Frag} {ρ : List Addr} {H : Hp} {η : Cd.Env} {σ : L2.St} (r : RE K ρ H η σ) (i : Nat) (o : Option V) : RE K ρ H (η.set i none) (σ.set i o) := by
  refine ⟨by rw [List.length_set, List.length_set, r.len], fun j d hj => ?_⟩
  by_cases z : i = j
  · subst z
    rw [List.getElem?_set] at hj
    split at hj
    · split at hj <;> cases hj
    · rename_i q; exact absurd rfl q
  · rw [List.getElem?_set_ne z] at hj
    rw [List.getElem?_set_ne z]
    exact r.at_ j d hj
/-- the ends of a suite whose name goes -/
abbrev offD (D : Ends) (i : Nat) : Ends := { nx := fun σ' H' => D.nx (σ'.set i none) H', rt := D.rt, bk := fun σ' H' => D.bk (σ'.set i none) H', ct := fun σ' H' => D.ct (σ'.set i none) H' }
theorem post_forget {K : PySem.W.Frag} {ρ : List Addr} {H : Hp} {r : Cd.SR} {D : Ends} {i : Nat} (p : postS K ca W ρ H (r.forget i) D) : postS K ca W0 ρ H r (offD D i) := by
  cases r with
  | nx η' h' => exact fun ρ' H' σ' st S re => p ρ' H' _ st S (re.forget i none)
  | brk η' h' => exact fun ρ' H' σ' st S re => p ρ' H' _ st S (re.forget i none)
  | cont η' h' => exact fun ρ' H' σ' st S re => p ρ' H' _ st S (re.forget i none)
  | ret v h' => exact p
  | exc e η' h' => exact p.elim
  | stuck => exact p.elim
theorem post_quiet {K : PySem.W.Frag} {ρ : List Addr} {H : Hp} {r : Cd.SR} {D : Ends} (p : postS K ca W ρ H r.quiet D) : postS K ca W0 ρ H r D := by
  cases r with
  | nx η' h' => exact p
  | brk η' h' => exact p
  | cont η' h' => exact p
  | ret v h' => exact p
  | exc e η' h' => exact p.elim
  | stuck => exact p.elim
end
section
variable {X : Cx} {ca : String → Value} {W : WX} {C : Addr} {x n : Str} {np pos pos' : Pos} {body suite : List Stmt} {b₀ : Stmt} {mb : Cd.SM} {tbl : List (String × Bool)}
theorem ks_try (i : Nat) {hd : Cd.Exc → Nat → Cd.SM} (hN : X.N.Nodup) (tk : Takes X W) (gC : X.mg x = some (.ref C)) (ht : ∀ c b, tbl.lookup c = some b → PySem.W.exmOne X.K (ca c) (.ref C) = some b)
    (hb : ∀ (W : WX) (pn : List (Addr × Obj)) (xe : Value → Shared → Prop), Takes (X.tr pn xe) W → PassesOwn (model X.prog X.w) X.A X.env xe → KSs (X.tr pn xe) ca W body mb)
    (hsu : ∀ (a : Addr) (oe : Obj) (e : Cd.Exc) (d : Option Addr) (pn : List (Addr × Obj)), Zc (ca e.cls) d oe → (∃ vs, oe.data = .fields vs) → (e.args = [] → d = none) → KSs (X.suite a ((a, oe) :: pn)) ca W0 (b₀ :: suite) (hd e a))
    (hs : X.stack = X.env :: X.outer := by rfl) (hf : X.env.frame = some X.env.locals := by rfl) (hi : X.N[i]? = some n := by rfl) (hln : X.env.kindOf n = some .local := by rfl) (hg : Gl X x := by rfl) (hdb : (x == ("__debug__" : Str)) = false := by decide) :
    KS X ca W (.Try body [.ExceptHandler (some (.Name x np)) (some n) (b₀ :: suite) pos'] [] [] pos) (Cd.sTry tbl i mb hd) := by
  refine PS.wk (ps_try_as (tb := fun W => tS X.K ca W mb) (ts := fun a cls d D σ H => ∃ e : Cd.Exc, cls = ca e.cls ∧ (e.args = [] → d = none) ∧ tS X.K ca W0 (hd e a) D σ H) hs hf hN hi hln ⟨hg, hdb, .inl gC⟩ tk hb (fun a oe cls d pn hz hfl => ?_)) fun D σ H ⟨ρ, h, η, S, re, p⟩ => ?_
  · refine ⟨fun pins s σ H D I ⟨e, he, hd', q⟩ => ?_⟩
    subst he
    exact (hsu a oe e d pn hz hfl hd').run pins s σ H D I q
  · refine ⟨ρ, h, η, S, re, ?_⟩
    unfold Cd.sTry at p
    cases eb : mb η h with
    | nx η' h' => rw [eb] at p; exact p
    | brk η' h' => rw [eb] at p; exact p
    | cont η' h' => rw [eb] at p; exact p
    | ret v h' => rw [eb] at p; exact p
    | stuck => rw [eb] at p; exact p.elim
    | exc e η' h' =>
      rw [eb] at p
      simp only at p
      intro ρ' H' cls d σ' st S' re' rx
      obtain ⟨rx1, rx2⟩ := rx
      cases el : tbl.lookup e.cls with
      | none => rw [el] at p; exact p.elim
      | some b =>
        rw [el] at p
        refine ⟨b, by rw [rx1]; exact ht _ _ el, fun hbt a ha => ?_, fun hbf => ?_⟩
        · subst hbt
          simp only at p
          split at p
          · rename_i hall
            rw [← hall a] at p
            refine ⟨e, rx1, fun z => ?_, ρ', h', η'.set i (some (.exo a)), S', re'.set (.exo a) i, post_forget (postS.mono st p)⟩
            rcases rx2 with ⟨_, q⟩ | ⟨dx, fs, q1, q2, q3⟩
            · exact q
            · exact absurd z q1
          · exact p.elim
        · subst hbf
          exact p ρ' H' cls d σ' st S' re' ⟨rx1, rx2⟩
theorem ks_tryO {hd : Cd.SM} (tk : Takes X W) (gC : X.mg x = some (.ref C)) (ht : ∀ c b, tbl.lookup c = some b → PySem.W.exmOne X.K (ca c) (.ref C) = some b)
    (hb : ∀ (W : WX) (pn : List (Addr × Obj)) (xe : Value → Shared → Prop), Takes (X.tr pn xe) W → PassesOwn (model X.prog X.w) X.A X.env xe → KSs (X.tr pn xe) ca W body mb)
    (hsu : ∀ (a : Addr) (oe : Obj) (pn : List (Addr × Obj)), KSs (X.suite a ((a, oe) :: pn)) ca W0 (b₀ :: suite) hd)
    (hs : X.stack = X.env :: X.outer := by rfl) (hf : X.env.frame = some X.env.locals := by rfl) (hg : Gl X x := by rfl) (hdb : (x == ("__debug__" : Str)) = false := by decide) :
    KS X ca W (.Try body [.ExceptHandler (some (.Name x np)) none (b₀ :: suite) pos'] [] [] pos) (Cd.sTryO tbl mb hd) := by
  refine PS.wk (ps_try_only (tb := fun W => tS X.K ca W mb) (ts := fun a cls d D σ H => tS X.K ca W0 hd D σ H) hs hf ⟨hg, hdb, .inl gC⟩ tk hb (fun a oe cls d pn hz hfl => ?_)) fun D σ H ⟨ρ, h, η, S, re, p⟩ => ?_
  · exact hsu a oe pn
  · refine ⟨ρ, h, η, S, re, ?_⟩
    unfold Cd.sTryO at p
    cases eb : mb η h with
    | nx η' h' => rw [eb] at p; exact p
    | brk η' h' => rw [eb] at p; exact p
    | cont η' h' => rw [eb] at p; exact p
    | ret v h' => rw [eb] at p; exact p
    | stuck => rw [eb] at p; exact p.elim
    | exc e η' h' =>
      rw [eb] at p
      simp only at p
      intro ρ' H' cls d σ' st S' re' rx
      obtain ⟨rx1, rx2⟩ := rx
      cases el : tbl.lookup e.cls with
      | none => rw [el] at p; exact p.elim
      | some b =>
        rw [el] at p
        refine ⟨b, by rw [rx1]; exact ht _ _ el, fun hbt a ha => ?_, fun hbf => ?_⟩
        · subst hbt
          exact ⟨ρ', h', η', S', re', post_quiet (postS.mono st p)⟩
        · subst hbf
          exact p ρ' H' cls d σ' st S' re' ⟨rx1, rx2⟩
end
/-! ### isinstance(e, X) in the suite -/
section
variable {X : Cx} {ca : String → Value} {W : WX} {D : Addr} {x : Str} {p p2 p3 pos : Pos} {n : Str} {tbl : List (String × Bool)} {a : Addr} {oe : Obj} {pn : List (Addr × Obj)} {e : Cd.Exc} {d : Option Addr}
theorem k_isE (i : Nat) (hz : Zc (ca e.cls) d oe) (hfl : ∃ vs, oe.data = .fields vs) (hd : e.args = [] → d = none) (ht : ∀ c b, tbl.lookup c = some b → ∃ C, ca c = .ref C ∧ ExcC X.K C ∧ PySem.W.kitOne X.K (.ref C) (.ref D) = some b)
    (hm : X.mg "isinstance" = none) (gD : X.mg x = some (.ref D)) (hN : X.N[i]? = some n := by rfl) (hv : Vis X.env.scope n := by first | exact Or.inl rfl | exact Or.inr (Or.inl rfl) | exact Or.inr (Or.inr rfl)) (hdn : (n == ("__debug__" : Str)) = false := by decide)
    (hcd : (n == ("__classdict__" : Str)) = false := by decide) (hg : Gl X "isinstance" := by rfl) (hg2 : Gl X x := by rfl) (hdb : (x == ("__debug__" : Str)) = false := by decide)
    (he : starEach [.Name n p3, .Name x p2] X.env = (false, eval (.Name n p3) X.env) :: starEach [.Name x p2] X.env := by rfl) (he2 : starEach [.Name x p2] X.env = (false, eval (.Name x p2) X.env) :: starEach [] X.env := by rfl) (hpl : (backTo pos (starEach [.Name x p2] X.env)).any (·.1) = false := by rfl) :
    KE (X.suite a ((a, oe) :: pn)) ca W (.Call (.Name "isinstance" p) [.Name n p3, .Name x p2] [] pos) (Cd.eIsE tbl e a (Cd.eVar i)) := by
  refine ⟨fun pins s σ H Q I ⟨ρ, h, η, S, re, q⟩ => ?_⟩
  have known : ∃ k, tbl.lookup e.cls = some k ∧ e.args = [] ∧ η[i]? = some (some (.exo a)) ∧ ∀ ρ' H' x, Step ρ H ρ' H' → Sim X.K ρ' h H' → RV X.K ρ' H' (.bl k) x → Q x H' := by
    unfold Cd.eIsE Cd.eVar at q
    split at q
    · rename_i v hv
      simp only [Cd.Res.bind_ok] at q
      split at q
      · split at q
        · rename_i zb
          subst zb
          split at q
          · rename_i z
            split at q
            · rename_i k hk; exact ⟨k, hk, z, hv, q⟩
            · exact q.elim
          · exact q.elim
        · exact q.elim
      · exact q.elim
    · exact q.elim
  obtain ⟨k, hk, z, hη, q2⟩ := known
  obtain ⟨C, hC, EC, kit⟩ := ht _ _ hk
  have hz' : Zc (.ref C) none oe := by rw [← hC, ← hd z]; exact hz
  obtain ⟨v, hσ, rv⟩ := re.at_ i _ hη
  cases rv
  have pa : PA (X.suite a ((a, oe) :: pn)) [.Name n p3, .Name x p2] (tCons (tVar i) (tCons (tC (.ref D)) tNil)) :=
    pa_cons (pv (X := X.suite a ((a, oe) :: pn)) i hN hv hdn hcd) (pa_cons (pe_glob (X := X.suite a ((a, oe) :: pn)) (v := .ref D) hg2 gD rfl hdb) pa_nil he2) he
  refine (pe_callB (X := X.suite a ((a, oe) :: pn)) (call_isE EC hz' hfl) hg hm (by decide +kernel) pa (by decide) (by decide) he hpl).run pins s σ H Q I ?_
  refine ⟨_, hσ, _, .ref D, k, rfl, fun u hu => hu, kit, ?_⟩
  exact q2 ρ H _ (Step.refl _ _) S (.bl _)
end
theorem tab_nil {P : String → Bool → Prop} : ∀ c b, ([] : List (String × Bool)).lookup c = some b → P c b := fun c b e => by cases e
theorem tab_cons {P : String → Bool → Prop} {k : String} {v : Bool} {t : List (String × Bool)} (h : P k v) (ht : ∀ c b, t.lookup c = some b → P c b) : ∀ c b, ((k, v) :: t).lookup c = some b → P c b := fun c b e => by
  rw [List.lookup_cons] at e
  split at e
  · rename_i q
    cases e
    rw [eq_of_beq q]
    exact h
  · exact ht c b e
theorem exm_of {K : PySem.W.Frag} {C D : Addr} {b : Bool} (h1 : PySem.W.subIn K (.ref D) (.type "BaseException") = some true) (h2 : PySem.W.hasDictIn K D = true) (h3 : PySem.W.typeIn K (.ref D) = some (.type "type")) (h4 : PySem.W.subIn K (.ref C) (.ref D) = some b) : PySem.W.exmOne K (.ref C) (.ref D) = some b :=
  PySem.W.exm_ref h1 h2 h3 h4
/-! ### the law's def -/
def spO (K : PySem.W.Frag) (n : Nat) (F : Cd.Fn) : Sp := fun vs H Q E => vs.length = n ∧ ∃ ρ h ds, Sim K ρ h H ∧ RVs K ρ H ds vs ∧
  match F ds h with
  | .ok v h' => ∀ ρ' H' x, Step ρ H ρ' H' → Sim K ρ' h' H' → RV K ρ' H' v x → Q x H'
  | _ => False
theorem spO_of {K : PySem.W.Frag} {ca : String → Value} {n : Nat} {F : Cd.Fn} : ∀ vs H Q E, spO K n F vs H Q E → spF K ca n F vs H Q E := fun vs H Q E ⟨hl, ρ, h, ds, S, r, p⟩ => by
  refine ⟨hl, ρ, h, ds, S, r, ?_⟩
  cases e : F ds h with
  | ok v h' => rw [e] at p; exact p
  | exc y h' => rw [e] at p; exact p.elim
  | stuck => rw [e] at p; exact p.elim
theorem law_spO {K : PySem.W.Frag} {H : Hp} {a : Addr} {ns : List Int} {M : Cd.Fn} {h : Cd.Hep} (hO : Only H) (hS : SqL K H a (ns.map V.int)) (e : M [.fl (ns.map .int)] [] = .ok (.bl true) h) : spO K 1 M [.ref a] H (fun v _ => v = .bl true) fun _ _ _ => False := by
  have fz : FzL K H a (ns.map V.int) := by
    rcases hS with (q | ⟨o, q⟩) | q
    · rcases hO a with z | ⟨o, xs, z⟩
      · rw [z] at q; cases q
      · rw [z] at q; cases q
    · exact .inl ⟨o, q⟩
    · exact .inr q
  refine ⟨rfl, [], [], [.fl (ns.map .int)], ⟨rfl, List.nodup_nil, fun n o a h1 => by simp at h1⟩, .cons (.fl fz (rvs_ints ns)) .nil, ?_⟩
  rw [e]
  intro ρ' H' x st S r
  cases r
  rfl
end Cb

set_option maxRecDepth 100000
/-! CdLib: how the combinators reckon; loops by what holds of them. -/
namespace Cd
open Classical
@[simp] theorem szOk_iff {n : Nat} : szOk n ↔ n ≤ 16777216 := by
  unfold szOk
  rw [line_is]
@[simp] theorem get_0 {α : Type} (a : α) (l : List α) : (a :: l)[0]? = some a := id rfl
@[simp] theorem get_S {α : Type} (a : α) (l : List α) (i : Nat) : (a :: l)[i + 1]? = l[i]? := id rfl
@[simp] theorem eVar_eq (i : Nat) (η : Env) (h : Hep) : eVar i η h = ofO (η[i]?).join h := by
  unfold eVar
  cases e : η[i]? with
  | none => rfl
  | some o => cases o <;> rfl
@[simp] theorem eC_eq (v : Val) (η : Env) (h : Hep) : eC v η h = .ok v h := id rfl
@[simp] theorem eBin_eq (f : Hep → Val → Val → Option Val) (a b : EM) (η : Env) (h : Hep) : eBin f a b η h = (a η h).bind fun x h1 => (b η h1).bind fun y h2 => ofO (f h2 x y) h2 := id rfl
@[simp] theorem eUn_eq (f : Hep → Val → Option Val) (a : EM) (η : Env) (h : Hep) : eUn f a η h = (a η h).bind fun x h1 => ofO (f h1 x) h1 := id rfl
@[simp] theorem aNil_eq (η : Env) (h : Hep) : aNil η h = .ok [] h := id rfl
@[simp] theorem aCons_eq (a : EM) (r : AM) (η : Env) (h : Hep) : aCons a r η h = (a η h).bind fun x h1 => (r η h1).bind fun xs h2 => .ok (x :: xs) h2 := id rfl
@[simp] theorem eTup_eq (a : AM) (η : Env) (h : Hep) : eTup a η h = (a η h).bind fun xs h1 => if szOk xs.length then .ok (.tup xs) h1 else .stuck := id rfl
@[simp] theorem eLst_eq (a : AM) (η : Env) (h : Hep) : eLst a η h = (a η h).bind fun xs h1 => if szOk xs.length then .ok (.ref h1.length) (h1 ++ [.lst xs]) else .stuck := id rfl
@[simp] theorem eCall_eq (F : Fn) (a : AM) (η : Env) (h : Hep) : eCall F a η h = (a η h).bind fun xs h1 => F xs h1 := id rfl
@[simp] theorem eIf_eq (c : TM) (a b : EM) (η : Env) (h : Hep) : eIf c a b η h = (c η h).bind fun k h1 => if k then a η h1 else b η h1 := id rfl
@[simp] theorem eAnd_eq (a b : EM) (η : Env) (h : Hep) : eAnd a b η h = (a η h).bind fun x h1 => match x with | .bl true => b η h1 | .bl false => .ok (.bl false) h1 | _ => .stuck := id rfl
@[simp] theorem eOr_eq (a b : EM) (η : Env) (h : Hep) : eOr a b η h = (a η h).bind fun x h1 => match x with | .bl true => .ok (.bl true) h1 | .bl false => b η h1 | _ => .stuck := id rfl
@[simp] theorem eNot_eq (a : EM) (η : Env) (h : Hep) : eNot a η h = (a η h).bind fun x h1 => match x with | .bl k => .ok (.bl (!k)) h1 | _ => .stuck := id rfl
@[simp] theorem tVal_eq (a : EM) (η : Env) (h : Hep) : tVal a η h = (a η h).bind fun x h1 => match x with | .bl k => .ok k h1 | _ => .stuck := id rfl
@[simp] theorem tAnd_eq (a b : TM) (η : Env) (h : Hep) : tAnd a b η h = (a η h).bind fun k h1 => if k then b η h1 else .ok false h1 := id rfl
@[simp] theorem tOr_eq (a b : TM) (η : Env) (h : Hep) : tOr a b η h = (a η h).bind fun k h1 => if k then .ok true h1 else b η h1 := id rfl
@[simp] theorem tNot_eq (a : TM) (η : Env) (h : Hep) : tNot a η h = (a η h).bind fun k h1 => .ok (!k) h1 := id rfl
@[simp] theorem tTru_eq (a : EM) (η : Env) (h : Hep) : tTru a η h = (a η h).bind fun x h1 => ofO (truth h1 x) h1 := id rfl
@[simp] theorem truth_bl (h : Hep) (k : Bool) : truth h (.bl k) = some k := id rfl
@[simp] theorem truth_non (h : Hep) : truth h .non = some false := id rfl
@[simp] theorem truth_int (h : Hep) (i : Int) : truth h (.int i) = some (i != 0) := id rfl
@[simp] theorem truth_tup (h : Hep) (l : List Val) : truth h (.tup l) = some (!l.isEmpty) := id rfl
@[simp] theorem sNop_eq (η : Env) (h : Hep) : sNop η h = .nx η h := id rfl
@[simp] theorem sBrk_eq (η : Env) (h : Hep) : sBrk η h = .brk η h := id rfl
@[simp] theorem sCont_eq (η : Env) (h : Hep) : sCont η h = .cont η h := id rfl
@[simp] theorem sSeq_eq (a b : SM) (η : Env) (h : Hep) : sSeq a b η h = (a η h).bind fun η1 h1 => b η1 h1 := id rfl
@[simp] theorem sSet_eq (i : Nat) (e : EM) (η : Env) (h : Hep) : sSet i e η h = (e η h).thn η fun v h1 => .nx (η.set i (some v)) h1 := id rfl
@[simp] theorem sExpr_eq (e : EM) (η : Env) (h : Hep) : sExpr e η h = (e η h).thn η fun _ h1 => .nx η h1 := id rfl
@[simp] theorem sRet_eq (e : EM) (η : Env) (h : Hep) : sRet e η h = (e η h).thn η fun v h1 => .ret v h1 := id rfl
@[simp] theorem sRetN_eq (η : Env) (h : Hep) : sRetN η h = .ret .non h := id rfl
@[simp] theorem sIf_eq (c : TM) (a b : SM) (η : Env) (h : Hep) : sIf c a b η h = (c η h).thn η fun k h1 => if k then a η h1 else b η h1 := id rfl
@[simp] theorem sAug_eq (i : Nat) (f : Hep → Val → Val → Option Val) (e : EM) (η : Env) (h : Hep) : sAug i f e η h = (ofO (η[i]?).join h).thn η fun x h => (e η h).thn η fun y h1 => (ofO (f h1 x y) h1).thn η fun z h2 => .nx (η.set i (some z)) h2 := by
  unfold sAug
  cases e : η[i]? with
  | none => rfl
  | some o => cases o <;> rfl
@[simp] theorem sAsg_eq (g : GM) (e : EM) (η : Env) (h : Hep) : sAsg g e η h = (e η h).thn η fun v h1 => match g v η with | some η1 => .nx η1 h1 | none => .stuck := id rfl
@[simp] theorem gNam_eq (i : Nat) (v : Val) (η : Env) : gNam i v η = some (η.set i (some v)) := id rfl
@[simp] theorem gsNil_eq (η : Env) : gsNil [] η = some η := id rfl
@[simp] theorem gsCons_eq (g : GM) (r : GMs) (v : Val) (t : List Val) (η : Env) : gsCons g r (v :: t) η = (g v η).bind fun η1 => r t η1 := id rfl
@[simp] theorem gTpl_eq (gs : GMs) (l : List Val) (η : Env) : gTpl gs (.tup l) η = gs l η := id rfl
@[simp] theorem sFor_eq (it : IM) (g : GM) (b : SM) (η : Env) (h : Hep) : sFor it g b η h = (it η h).thn η fun p h1 => forL g p.2 b p.1 η h1 := id rfl
@[simp] theorem iArgs_eq (f : Hep → List Val → Option (List Val × (Hep → Bool))) (a : AM) (η : Env) (h : Hep) : iArgs f a η h = (a η h).bind fun vs h1 => ofO (f h1 vs) h1 := id rfl
@[simp] theorem iVal_eq (e : EM) (η : Env) (h : Hep) : iVal e η h = (e η h).bind fun v h1 => ofO (items h1 v) h1 := id rfl
@[simp] theorem items_tup (h : Hep) (l : List Val) : items h (.tup l) = some (l, fun _ => true) := id rfl
@[simp] theorem items_fl (h : Hep) (l : List Val) : items h (.fl l) = some (l, fun _ => true) := id rfl
@[simp] theorem items_str (h : Hep) (s : List Nat) : items h (.str s) = some (s.map fun c => .str [c], fun _ => true) := id rfl
@[simp] theorem eCallB_eq (F : BFn) (a : AM) (η : Env) (h : Hep) : eCallB F a η h = (a η h).bind fun xs h1 => match F xs h1 with | some (v, h2) => .ok v h2 | none => .stuck := id rfl
/-! operators -/
@[simp] theorem oAdd_int (h : Hep) (i j : Int) : oAdd h (.int i) (.int j) = some (.int (i + j)) := id rfl
@[simp] theorem oSub_int (h : Hep) (i j : Int) : oSub h (.int i) (.int j) = some (.int (i - j)) := id rfl
theorem oMul_int {h : Hep} {i j : Int} (m : mulOk i j) : oMul h (.int i) (.int j) = some (.int (i * j)) := by show (if _ then _ else _) = _; rw [if_pos m]
theorem oDiv_int {h : Hep} {i j : Int} (m : divOk j) : oDiv h (.int i) (.int j) = some (.int (i / j)) := by show (if _ then _ else _) = _; rw [if_pos m]
theorem oMod_int {h : Hep} {i j : Int} (m : 0 < j) : oMod h (.int i) (.int j) = some (.int (i % j)) := by show (if mdOk j then _ else _) = _; rw [if_pos (show mdOk j from m)]
theorem oPow_int {h : Hep} {i j : Int} (m : powOk i j) : oPow h (.int i) (.int j) = some (.int (i ^ j.toNat)) := by show (if _ then _ else _) = _; rw [if_pos m]
@[simp] theorem oNeg_int (h : Hep) (i : Int) : oNeg h (.int i) = some (.int (-i)) := id rfl
@[simp] theorem oLt_int (h : Hep) (i j : Int) : oLt h (.int i) (.int j) = some (.bl (decide (i < j))) := id rfl
@[simp] theorem oLe_int (h : Hep) (i j : Int) : oLe h (.int i) (.int j) = some (.bl (decide (i ≤ j))) := id rfl
@[simp] theorem oGt_int (h : Hep) (i j : Int) : oGt h (.int i) (.int j) = some (.bl (decide (j < i))) := id rfl
@[simp] theorem oGe_int (h : Hep) (i j : Int) : oGe h (.int i) (.int j) = some (.bl (decide (j ≤ i))) := id rfl
@[simp] theorem oEq_int (h : Hep) (i j : Int) : oEq h (.int i) (.int j) = some (.bl (i == j)) := id rfl
@[simp] theorem oEq_str (h : Hep) (i j : List Nat) : oEq h (.str i) (.str j) = some (.bl (i == j)) := id rfl
@[simp] theorem oEq_bl (h : Hep) (i j : Bool) : oEq h (.bl i) (.bl j) = some (.bl (i == j)) := id rfl
@[simp] theorem oNe_int (h : Hep) (i j : Int) : oNe h (.int i) (.int j) = some (.bl (!(i == j))) := id rfl
@[simp] theorem oNe_str (h : Hep) (i j : List Nat) : oNe h (.str i) (.str j) = some (.bl (!(i == j))) := id rfl
@[simp] theorem oNe_bl (h : Hep) (i j : Bool) : oNe h (.bl i) (.bl j) = some (.bl (!(i == j))) := id rfl
theorem oEq_of {h : Hep} {a b : Val} {k : Bool} (e : vEq h a b = some k) : oEq h a b = some (.bl k) := by unfold oEq; rw [e]; rfl
theorem oNe_of {h : Hep} {a b : Val} {k : Bool} (e : vEq h a b = some k) : oNe h a b = some (.bl (!k)) := by unfold oNe; rw [e]; rfl
@[simp] theorem oIsN_eq (h : Hep) (a : Val) : oIsN h a .non = some (.bl (isNon a)) := id rfl
@[simp] theorem oNotN_eq (h : Hep) (a : Val) : oNotN h a .non = some (.bl (!isNon a)) := id rfl
@[simp] theorem oIdx_tup (h : Hep) (l : List Val) (i : Int) : oIdx h (.tup l) (.int i) = atI l i := id rfl
@[simp] theorem oIdx_fl (h : Hep) (l : List Val) (i : Int) : oIdx h (.fl l) (.int i) = atI l i := id rfl
theorem oIdx_ref {h : Hep} {n : Nat} {l : List Val} {i : Int} (e : h[n]? = some (.lst l)) : oIdx h (.ref n) (.int i) = atI l i := by
  show (match h[n]? with | some (.lst l) => atI l i | _ => none) = _
  rw [e]
@[simp] theorem get_new {α : Type} (h : List α) (x : α) : (h ++ [x])[h.length]? = some x := by
  rw [List.getElem?_append_right (Nat.le_refl _), Nat.sub_self]; rfl
@[simp] theorem oIdx_new (h : Hep) (l : List Val) (i : Int) : oIdx (h ++ [.lst l]) (.ref h.length) (.int i) = atI l i := oIdx_ref (get_new _ _)
theorem atI_nat {α : Type} {xs : List α} {j : Nat} (h : j < xs.length) : atI xs (j : Int) = xs[j]? := by
  unfold atI ixN
  rw [if_pos (by omega), if_pos (by omega)]
  simp
theorem atI_of {α : Type} {xs : List α} {i : Int} {v : α} (h0 : 0 ≤ i) (h : xs[i.toNat]? = some v) : atI xs i = some v := by
  have hl : i.toNat < xs.length := (List.getElem?_eq_some_iff.mp h).1
  unfold atI ixN
  rw [if_pos h0, if_pos (by omega)]
  exact h
@[simp] theorem atI_zero {α : Type} (x : α) (xs : List α) : atI (x :: xs) 0 = some x := atI_of (by decide) rfl
@[simp] theorem atI_one {α : Type} (x y : α) (xs : List α) : atI (x :: y :: xs) 1 = some y := atI_of (by decide) rfl
@[simp] theorem atI_two {α : Type} (x y z : α) (xs : List α) : atI (x :: y :: z :: xs) 2 = some z := atI_of (by decide) rfl
@[simp] theorem atI_three {α : Type} (x y z u : α) (xs : List α) : atI (x :: y :: z :: u :: xs) 3 = some u := atI_of (by decide) rfl
@[simp] theorem atI_four {α : Type} (x y z u w : α) (xs : List α) : atI (x :: y :: z :: u :: w :: xs) 4 = some w := atI_of (by decide) rfl
/-! built-ins -/
@[simp] theorem bLen_tup (l : List Val) (h : Hep) : bLen [.tup l] h = some (.int l.length, h) := id rfl
@[simp] theorem bLen_fl (l : List Val) (h : Hep) : bLen [.fl l] h = some (.int l.length, h) := id rfl
theorem bLen_str {s : List Nat} {h : Hep} (l : s.length ≤ 16777216) : bLen [.str s] h = some (.int s.length, h) := by show (if szOk s.length then _ else _) = _; rw [if_pos (szOk_iff.mpr l)]
theorem bLen_ref {h : Hep} {n : Nat} {l : List Val} (e : h[n]? = some (.lst l)) : bLen [.ref n] h = some (.int l.length, h) := by
  show (match h[n]? with | some (.lst l) => some (Val.int l.length, h) | _ => none) = _
  rw [e]
@[simp] theorem bAbs_int (i : Int) (h : Hep) : bAbs [.int i] h = some (.int (if i < 0 then -i else i), h) := id rfl
@[simp] theorem bMax2_int (i j : Int) (h : Hep) : bMax2 [.int i, .int j] h = some (.int (if j > i then j else i), h) := id rfl
@[simp] theorem bMin2_int (i j : Int) (h : Hep) : bMin2 [.int i, .int j] h = some (.int (if j < i then j else i), h) := id rfl
@[simp] theorem bInt_int (i : Int) (h : Hep) : bInt [.int i] h = some (.int i, h) := id rfl
@[simp] theorem bInt_bl (k : Bool) (h : Hep) : bInt [.bl k] h = some (.int (if k then 1 else 0), h) := id rfl
@[simp] theorem typ_int (h : Hep) (i : Int) : typ h (.int i) = some "int" := id rfl
@[simp] theorem typ_bl (h : Hep) (i : Bool) : typ h (.bl i) = some "bool" := id rfl
@[simp] theorem typ_str (h : Hep) (i : List Nat) : typ h (.str i) = some "str" := id rfl
@[simp] theorem typ_tup (h : Hep) (i : List Val) : typ h (.tup i) = some "tuple" := id rfl
@[simp] theorem typ_fl (h : Hep) (i : List Val) : typ h (.fl i) = some "list" := id rfl
@[simp] theorem typ_non (h : Hep) : typ h .non = some "NoneType" := id rfl
@[simp] theorem oIsi_eq (n : String) (h : Hep) (v : Val) : oIsi n h v = (typ h v).map fun t => .bl (isT t n) := id rfl
theorem mulOk_l {i j : Int} (h1 : -(2 ^ 64) < i) (h2 : i < 2 ^ 64) : mulOk i j := .inl ⟨h1, h2⟩
theorem mulOk_r {i j : Int} (h1 : -(2 ^ 64) < j) (h2 : j < 2 ^ 64) : mulOk i j := .inr (.inl ⟨h1, h2⟩)
theorem log2_lt {n k : Nat} (hk : 0 < k) (h : n < 2 ^ k) : n.log2 < k := by
  by_cases e : n = 0
  · subst e; exact hk
  · exact (Nat.log2_lt e).mpr h
theorem mulOk_b {i j : Int} {a b : Nat} (ha : i.natAbs < 2 ^ a) (hb : j.natAbs < 2 ^ b) (h0 : 0 < a) (h1 : 0 < b) (h : a + b ≤ 1000000) : mulOk i j := by
  have h2 := log2_lt h0 ha
  have h3 := log2_lt h1 hb
  exact .inr (.inr (by omega))
theorem divOk_b {j : Int} {b : Nat} (h0 : 0 < j) (hb : j.natAbs < 2 ^ b) (h1 : 0 < b) (h : b ≤ 9000) : divOk j := by
  have h3 := log2_lt h1 hb
  exact ⟨h0, by omega⟩
@[simp] theorem oMul_l {h : Hep} {i j : Int} (h1 : -(2 ^ 64) < i) (h2 : i < 2 ^ 64) : oMul h (.int i) (.int j) = some (.int (i * j)) := oMul_int (mulOk_l h1 h2)
@[simp] theorem oMul_r {h : Hep} {i j : Int} (h1 : -(2 ^ 64) < j) (h2 : j < 2 ^ 64) : oMul h (.int i) (.int j) = some (.int (i * j)) := oMul_int (mulOk_r h1 h2)
@[simp] theorem oDiv_s {h : Hep} {i j : Int} (h1 : 0 < j) (h2 : j < 2 ^ 64) : oDiv h (.int i) (.int j) = some (.int (i / j)) := oDiv_int (divOk_b (b := 64) h1 (by omega) (by decide) (by decide))
@[simp] theorem oMod_s {h : Hep} {i j : Int} (h1 : 0 < j) : oMod h (.int i) (.int j) = some (.int (i % j)) := oMod_int h1
@[simp] theorem oPow_s {h : Hep} {i j : Int} (h0 : 0 ≤ j) (h1 : j ≤ 1000000) (h2 : -1000 < i) (h3 : i < 1000) : oPow h (.int i) (.int j) = some (.int (i ^ j.toNat)) := oPow_int ⟨h0, h1, by omega⟩
@[simp] theorem fRng1_s {h : Hep} {j : Int} (h1 : -(2 ^ 62) ≤ j) (h2 : j < 2 ^ 62) : fRng1 h [.int j] = some (rng 0 j.toNat, fun _ => true) := by
  show (if i62 j then _ else _) = _
  rw [if_pos ⟨h1, h2⟩]
@[simp] theorem forL_nil (g : GM) (chk : Hep → Bool) (b : SM) (η : Env) (h : Hep) : forL g chk b [] η h = if chk h then .nx η h else .stuck := id rfl
@[simp] theorem forL_cons (g : GM) (chk : Hep → Bool) (b : SM) (x : Val) (xs : List Val) (η : Env) (h : Hep) : forL g chk b (x :: xs) η h = if chk h then
      match g x η with
      | some η1 => match b η1 h with
        | .nx η' h' => forL g chk b xs η' h'
        | .cont η' h' => forL g chk b xs η' h'
        | .brk η' h' => .nx η' h'
        | r => r
      | none => .stuck
    else .stuck := rfl
/-- what is wanted behind a turn -/
def SR.turn (P : Env → Hep → Prop) (Q : SR → Prop) : SR → Prop
  | .nx η h => P η h
  | .cont η h => P η h
  | .brk η h => Q (.nx η h)
  | .ret v h => Q (.ret v h)
  | .exc e η h => Q (.exc e η h)
  | .stuck => Q .stuck
@[simp] theorem SR.turn_nx (P : Env → Hep → Prop) (Q : SR → Prop) (η : Env) (h : Hep) : (SR.nx η h).turn P Q = P η h := id rfl
@[simp] theorem SR.turn_cont (P : Env → Hep → Prop) (Q : SR → Prop) (η : Env) (h : Hep) : (SR.cont η h).turn P Q = P η h := id rfl
@[simp] theorem SR.turn_brk (P : Env → Hep → Prop) (Q : SR → Prop) (η : Env) (h : Hep) : (SR.brk η h).turn P Q = Q (.nx η h) := id rfl
@[simp] theorem SR.turn_ret (P : Env → Hep → Prop) (Q : SR → Prop) (v : Val) (h : Hep) : (SR.ret v h).turn P Q = Q (.ret v h) := id rfl
@[simp] theorem SR.turn_exc (P : Env → Hep → Prop) (Q : SR → Prop) (e : Exc) (η : Env) (h : Hep) : (SR.exc e η h).turn P Q = Q (.exc e η h) := id rfl
/-- what a for comes to: P holds ahead of each turn -/
theorem forL_gen {g : GM} {chk : Hep → Bool} {b : SM} (Q : SR → Prop) : ∀ (xs : List Val) (P : Nat → Env → Hep → Prop) (η : Env) (h : Hep), P 0 η h →
    (∀ i x η h, xs[i]? = some x → P i η h → chk h = true ∧ ∃ η1, g x η = some η1 ∧ (b η1 h).turn (P (i + 1)) Q) →
    (∀ η h, P xs.length η h → chk h = true ∧ Q (.nx η h)) → Q (forL g chk b xs η h)
  | [], P, η, h, h0, step, fin => by
    obtain ⟨c, q⟩ := fin η h h0
    rw [forL, if_pos c]; exact q
  | x :: xs, P, η, h, h0, step, fin => by
    obtain ⟨c, η1, e1, q⟩ := step 0 x η h rfl h0
    rw [forL, if_pos c, e1]
    simp only
    have go : ∀ η' h', P 1 η' h' → Q (forL g chk b xs η' h') := fun η' h' p =>
      forL_gen Q xs (fun i => P (i + 1)) η' h' p (fun i x η h e p => step (i + 1) x η h e p) fun η h p => fin η h p
    cases eb : b η1 h with
    | nx η' h' => rw [eb] at q; exact go η' h' q
    | cont η' h' => rw [eb] at q; exact go η' h' q
    | brk η' h' => rw [eb] at q; exact q
    | ret v h' => rw [eb] at q; exact q
    | exc e η' h' => rw [eb] at q; exact q
    | stuck => rw [eb] at q; exact q
theorem rng_get {lo : Int} {n i : Nat} {x : Val} (e : (rng lo n)[i]? = some x) : i < n ∧ x = .int (lo + i) := by
  have hi : i < n := by
    have := (List.getElem?_eq_some_iff.mp e).1
    simpa [rng] using this
  unfold rng at e
  rw [List.getElem?_map, List.getElem?_range hi] at e
  exact ⟨hi, (Option.some.inj e).symm⟩
@[simp] theorem rng_length (lo : Int) (n : Nat) : (rng lo n).length = n := by simp [rng]
theorem fRng1_of {h : Hep} {j : Int} (h1 : -(2 ^ 62) ≤ j) (h2 : j < 2 ^ 62) : fRng1 h [.int j] = some (rng 0 j.toNat, fun _ => true) := by
  show (if i62 j then _ else _) = _
  rw [if_pos ⟨h1, h2⟩]
theorem fRng2_of {h : Hep} {i j : Int} (h1 : -(2 ^ 62) ≤ i) (h2 : i < 2 ^ 62) (h3 : -(2 ^ 62) ≤ j) (h4 : j < 2 ^ 62) : fRng2 h [.int i, .int j] = some (rng i (j - i).toNat, fun _ => true) := by
  show (if i62 i ∧ i62 j then _ else _) = _
  rw [if_pos ⟨⟨h1, h2⟩, h3, h4⟩]
/-- a body's end as the def's -/
def SR.res : SR → Res Val
  | .nx _ h' => .ok .non h'
  | .ret v h' => .ok v h'
  | .exc e _ h' => .exc e h'
  | _ => .stuck
@[simp] theorem SR.res_nx (η : Env) (h : Hep) : (SR.nx η h).res = .ok .non h := id rfl
@[simp] theorem SR.res_ret (v : Val) (h : Hep) : (SR.ret v h).res = .ok v h := id rfl
@[simp] theorem SR.res_exc (e : Exc) (η : Env) (h : Hep) : (SR.exc e η h).res = .exc e h := id rfl
theorem fn_eq {n N : Nat} {b : SM} {vs : List Val} {h : Hep} (e : vs.length = n) : fn n N b vs h = (b (vs.map some ++ List.replicate (N - n) none) h).res := by
  unfold fn
  rw [if_pos e]
  rfl
@[simp] theorem fn_1 (N : Nat) (b : SM) (v : Val) (h : Hep) : fn 1 N b [v] h = (b (some v :: List.replicate (N - 1) none) h).res := id rfl
@[simp] theorem fn_2 (N : Nat) (b : SM) (v1 v2 : Val) (h : Hep) : fn 2 N b [v1, v2] h = (b (some v1 :: some v2 :: List.replicate (N - 2) none) h).res := id rfl
@[simp] theorem fn_3 (N : Nat) (b : SM) (v1 v2 v3 : Val) (h : Hep) : fn 3 N b [v1, v2, v3] h = (b (some v1 :: some v2 :: some v3 :: List.replicate (N - 3) none) h).res := id rfl
@[simp] theorem fn_4 (N : Nat) (b : SM) (v1 v2 v3 v4 : Val) (h : Hep) : fn 4 N b [v1, v2, v3, v4] h = (b (some v1 :: some v2 :: some v3 :: some v4 :: List.replicate (N - 4) none) h).res := id rfl
end Cd

set_option maxRecDepth 100000
namespace Mir
open Cd
noncomputable def B_v_law_cell : Cd.SM := (Cd.sSeq (Cd.sIf (Cd.tVal (Cd.eBin Cd.oLt (Cd.eVar 1) (Cd.eCallB Cd.bLen (Cd.aCons (Cd.eVar 0) Cd.aNil)))) (Cd.sRet (Cd.eCallB Cd.bInt (Cd.aCons (Cd.eBin Cd.oIdx (Cd.eVar 0) (Cd.eVar 1)) Cd.aNil))) Cd.sNop) (Cd.sRet (Cd.eC (.int 0))))
noncomputable def M_v_law_cell : Cd.Fn := Cd.fn 2 2 B_v_law_cell
noncomputable def L_power_1 : Cd.SM := (Cd.sAug 1 Cd.oMul (Cd.eC (.int 10)))
noncomputable def B_power : Cd.SM := (Cd.sSeq (Cd.sSet 1 (Cd.eC (.int 1))) (Cd.sSeq (Cd.sFor (Cd.iArgs Cd.fRng1 (Cd.aCons (Cd.eVar 0) Cd.aNil)) (Cd.gNam 2) L_power_1) (Cd.sRet (Cd.eVar 1))))
noncomputable def M_power : Cd.Fn := Cd.fn 1 3 B_power
noncomputable def B_quotient : Cd.SM := (Cd.sSeq (Cd.sSet 3 (Cd.eBin Cd.oDiv (Cd.eCallB Cd.bAbs (Cd.aCons (Cd.eVar 0) Cd.aNil)) (Cd.eCallB Cd.bAbs (Cd.aCons (Cd.eVar 1) Cd.aNil)))) (Cd.sSeq (Cd.sIf (Cd.tAnd (Cd.tTru (Cd.eVar 2)) (Cd.tVal (Cd.eBin Cd.oGe (Cd.eBin Cd.oMul (Cd.eC (.int 2)) (Cd.eBin Cd.oSub (Cd.eCallB Cd.bAbs (Cd.aCons (Cd.eVar 0) Cd.aNil)) (Cd.eBin Cd.oMul (Cd.eVar 3) (Cd.eCallB Cd.bAbs (Cd.aCons (Cd.eVar 1) Cd.aNil))))) (Cd.eCallB Cd.bAbs (Cd.aCons (Cd.eVar 1) Cd.aNil))))) (Cd.sAug 3 Cd.oIAdd (Cd.eC (.int 1))) Cd.sNop) (Cd.sSeq (Cd.sIf (Cd.tVal (Cd.eBin Cd.oNe (Cd.eBin Cd.oLt (Cd.eVar 0) (Cd.eC (.int 0))) (Cd.eBin Cd.oLt (Cd.eVar 1) (Cd.eC (.int 0))))) (Cd.sRet (Cd.eUn Cd.oNeg (Cd.eVar 3))) Cd.sNop) (Cd.sRet (Cd.eVar 3)))))
noncomputable def M_quotient : Cd.Fn := Cd.fn 3 4 B_quotient
noncomputable def B_divide : Cd.SM := (Cd.sSeq (Cd.sIf (Cd.tVal (Cd.eBin Cd.oEq (Cd.eBin Cd.oIdx (Cd.eVar 1) (Cd.eC (.int 0))) (Cd.eC (.int 0)))) (Cd.sRaise "BadDecimal") Cd.sNop) (Cd.sRet (Cd.eCall M_quotient (Cd.aCons (Cd.eBin Cd.oMul (Cd.eBin Cd.oIdx (Cd.eVar 0) (Cd.eC (.int 0))) (Cd.eCall M_power (Cd.aCons (Cd.eBin Cd.oAdd (Cd.eBin Cd.oIdx (Cd.eVar 1) (Cd.eC (.int 1))) (Cd.eVar 2)) Cd.aNil))) (Cd.aCons (Cd.eBin Cd.oMul (Cd.eBin Cd.oIdx (Cd.eVar 1) (Cd.eC (.int 0))) (Cd.eCall M_power (Cd.aCons (Cd.eBin Cd.oIdx (Cd.eVar 0) (Cd.eC (.int 1))) Cd.aNil))) (Cd.aCons (Cd.eVar 3) Cd.aNil))))))
noncomputable def M_divide : Cd.Fn := Cd.fn 4 4 B_divide
noncomputable def B_v_law_divide : Cd.SM := (Cd.sTry [("BadDecimal", true)] 4 (Cd.sRet (Cd.eCall M_divide (Cd.aCons (Cd.eVar 0) (Cd.aCons (Cd.eVar 1) (Cd.aCons (Cd.eVar 2) (Cd.aCons (Cd.eVar 3) Cd.aNil)))))) (fun x_ a_ => (Cd.sRet (Cd.eTup (Cd.aCons (Cd.eC (.str (Cd.S "refused"))) (Cd.aCons (Cd.eIsE [("BadDecimal", true)] x_ a_ (Cd.eVar 4)) Cd.aNil))))))
noncomputable def M_v_law_divide : Cd.Fn := Cd.fn 4 5 B_v_law_divide
noncomputable def L_v_law_decimal_1 : Cd.SM := (Cd.sIf (Cd.tVal (Cd.eBin Cd.oEq (Cd.eBin Cd.oMod (Cd.eCallB Cd.bInt (Cd.aCons (Cd.eVar 0) Cd.aNil)) (Cd.eC (.int 10))) (Cd.eC (.int 0)))) (Cd.sSeq (Cd.sSet 0 (Cd.eBin Cd.oDiv (Cd.eVar 0) (Cd.eC (.int 10)))) (Cd.sSet 1 (Cd.eBin Cd.oSub (Cd.eVar 1) (Cd.eC (.int 1))))) (Cd.sRet (Cd.eTup (Cd.aCons (Cd.eVar 0) (Cd.aCons (Cd.eVar 1) Cd.aNil)))))
noncomputable def B_v_law_decimal : Cd.SM := (Cd.sSeq (Cd.sFor (Cd.iArgs Cd.fRng1 (Cd.aCons (Cd.eVar 1) Cd.aNil)) (Cd.gNam 2) L_v_law_decimal_1) (Cd.sRet (Cd.eTup (Cd.aCons (Cd.eVar 0) (Cd.aCons (Cd.eVar 1) Cd.aNil)))))
noncomputable def M_v_law_decimal : Cd.Fn := Cd.fn 2 3 B_v_law_decimal
noncomputable def T_v_law_number_1 : Cd.SM := (Cd.sSeq (Cd.sIf (Cd.tVal (Cd.eBin Cd.oLt (Cd.eVar 1) (Cd.eC (.int 4)))) (Cd.sRet (Cd.eCall M_v_law_decimal (Cd.aCons (Cd.eBin Cd.oSub (Cd.eBin Cd.oMod (Cd.eVar 2) (Cd.eC (.int 20001))) (Cd.eC (.int 10000))) (Cd.aCons (Cd.eBin Cd.oMod (Cd.eBin Cd.oDiv (Cd.eVar 2) (Cd.eC (.int 20001))) (Cd.eC (.int 5))) Cd.aNil)))) Cd.sNop) (Cd.sRet (Cd.eCall M_v_law_decimal (Cd.aCons (Cd.eBin Cd.oSub (Cd.eBin Cd.oMod (Cd.eVar 2) (Cd.eBin Cd.oMul (Cd.eC (.int 2)) (Cd.eBin Cd.oPow (Cd.eC (.int 10)) (Cd.eC (.int 18))))) (Cd.eBin Cd.oPow (Cd.eC (.int 10)) (Cd.eC (.int 18)))) (Cd.aCons (Cd.eBin Cd.oMod (Cd.eBin Cd.oDiv (Cd.eVar 2) (Cd.eBin Cd.oPow (Cd.eC (.int 10)) (Cd.eC (.int 15)))) (Cd.eC (.int 19))) Cd.aNil)))))
noncomputable def B_v_law_number : Cd.SM := (Cd.sSeq (Cd.sSet 1 (Cd.eBin Cd.oMod (Cd.eVar 0) (Cd.eC (.int 6)))) (Cd.sSeq (Cd.sSet 2 (Cd.eBin Cd.oDiv (Cd.eVar 0) (Cd.eC (.int 6)))) (Cd.sSeq (Cd.sIf (Cd.tVal (Cd.eBin Cd.oEq (Cd.eVar 1) (Cd.eC (.int 0)))) (Cd.sRet (Cd.eCall M_v_law_decimal (Cd.aCons (Cd.eBin Cd.oIdx (Cd.eLst (Cd.aCons (Cd.eC (.int 0)) (Cd.aCons (Cd.eC (.int 1)) (Cd.aCons (Cd.eUn Cd.oNeg (Cd.eC (.int 1))) (Cd.aCons (Cd.eC (.int 10)) (Cd.aCons (Cd.eUn Cd.oNeg (Cd.eC (.int 100))) (Cd.aCons (Cd.eC (.int 5)) Cd.aNil))))))) (Cd.eBin Cd.oMod (Cd.eVar 2) (Cd.eC (.int 6)))) (Cd.aCons (Cd.eBin Cd.oMod (Cd.eBin Cd.oDiv (Cd.eVar 2) (Cd.eC (.int 6))) (Cd.eC (.int 3))) Cd.aNil)))) Cd.sNop) T_v_law_number_1)))
noncomputable def M_v_law_number : Cd.Fn := Cd.fn 1 3 B_v_law_number
noncomputable def B_v_law_rich : Cd.SM := (Cd.sSeq (Cd.sIf (Cd.tVal (Cd.eBin Cd.oGe (Cd.eVar 0) (Cd.eBin Cd.oPow (Cd.eC (.int 10)) (Cd.eC (.int 18))))) (Cd.sRet (Cd.eCallB Cd.bInt (Cd.aCons (Cd.eVar 0) Cd.aNil))) Cd.sNop) (Cd.sSeq (Cd.sSet 2 (Cd.eBin Cd.oMod (Cd.eCallB Cd.bInt (Cd.aCons (Cd.eBin Cd.oAdd (Cd.eBin Cd.oAdd (Cd.eBin Cd.oMul (Cd.eVar 0) (Cd.eC (.int 48271))) (Cd.eBin Cd.oMul (Cd.eVar 1) (Cd.eC (.int 69621)))) (Cd.eC (.int 11))) Cd.aNil)) (Cd.eC (.int 2147483647)))) (Cd.sRet (Cd.eBin Cd.oAdd (Cd.eBin Cd.oMul (Cd.eVar 2) (Cd.eC (.int 2147483629))) (Cd.eBin Cd.oMod (Cd.eCallB Cd.bInt (Cd.aCons (Cd.eBin Cd.oAdd (Cd.eBin Cd.oMul (Cd.eVar 2) (Cd.eC (.int 16807))) (Cd.eVar 0)) Cd.aNil)) (Cd.eC (.int 2147483629)))))))
noncomputable def M_v_law_rich : Cd.Fn := Cd.fn 2 3 B_v_law_rich
noncomputable def T_v_law_right_1 : Cd.SM := (Cd.sSeq (Cd.sIf (Cd.tNot (Cd.tTru (Cd.eVar 3))) (Cd.sRet (Cd.eAnd (Cd.eBin Cd.oLe (Cd.eBin Cd.oMul (Cd.eVar 4) (Cd.eVar 6)) (Cd.eVar 5)) (Cd.eBin Cd.oLt (Cd.eVar 5) (Cd.eBin Cd.oMul (Cd.eBin Cd.oAdd (Cd.eVar 4) (Cd.eC (.int 1))) (Cd.eVar 6))))) Cd.sNop) (Cd.sRet (Cd.eAnd (Cd.eBin Cd.oLe (Cd.eBin Cd.oMul (Cd.eBin Cd.oSub (Cd.eBin Cd.oMul (Cd.eC (.int 2)) (Cd.eVar 4)) (Cd.eC (.int 1))) (Cd.eVar 6)) (Cd.eBin Cd.oMul (Cd.eC (.int 2)) (Cd.eVar 5))) (Cd.eBin Cd.oLt (Cd.eBin Cd.oMul (Cd.eC (.int 2)) (Cd.eVar 5)) (Cd.eBin Cd.oMul (Cd.eBin Cd.oAdd (Cd.eBin Cd.oMul (Cd.eC (.int 2)) (Cd.eVar 4)) (Cd.eC (.int 1))) (Cd.eVar 6))))))
noncomputable def T_v_law_right_2 : Cd.SM := (Cd.sSeq (Cd.sSet 4 (Cd.eCallB Cd.bAbs (Cd.aCons (Cd.eVar 0) Cd.aNil))) (Cd.sSeq (Cd.sSet 5 (Cd.eCallB Cd.bAbs (Cd.aCons (Cd.eVar 1) Cd.aNil))) (Cd.sSeq (Cd.sSet 6 (Cd.eCallB Cd.bAbs (Cd.aCons (Cd.eVar 2) Cd.aNil))) (Cd.sSeq (Cd.sIf (Cd.tAnd (Cd.tVal (Cd.eBin Cd.oNe (Cd.eVar 4) (Cd.eC (.int 0)))) (Cd.tVal (Cd.eBin Cd.oNe (Cd.eBin Cd.oLt (Cd.eVar 0) (Cd.eC (.int 0))) (Cd.eBin Cd.oNe (Cd.eBin Cd.oLt (Cd.eVar 1) (Cd.eC (.int 0))) (Cd.eBin Cd.oLt (Cd.eVar 2) (Cd.eC (.int 0))))))) (Cd.sRet (Cd.eC (.bl false))) Cd.sNop) T_v_law_right_1))))
noncomputable def B_v_law_right : Cd.SM := (Cd.sSeq (Cd.sIf (Cd.tOr (Cd.tNot (Cd.tTru (Cd.eUn (Cd.oIsi "int") (Cd.eVar 0)))) (Cd.tTru (Cd.eUn (Cd.oIsi "bool") (Cd.eVar 0)))) (Cd.sRet (Cd.eC (.bl false))) Cd.sNop) T_v_law_right_2)
noncomputable def M_v_law_right : Cd.Fn := Cd.fn 4 7 B_v_law_right
noncomputable def L_v_law_ten_1 : Cd.SM := (Cd.sSet 1 (Cd.eBin Cd.oMul (Cd.eVar 1) (Cd.eC (.int 10))))
noncomputable def B_v_law_ten : Cd.SM := (Cd.sSeq (Cd.sSet 1 (Cd.eC (.int 1))) (Cd.sSeq (Cd.sFor (Cd.iArgs Cd.fRng1 (Cd.aCons (Cd.eVar 0) Cd.aNil)) (Cd.gNam 2) L_v_law_ten_1) (Cd.sRet (Cd.eVar 1))))
noncomputable def M_v_law_ten : Cd.Fn := Cd.fn 1 3 B_v_law_ten
noncomputable def B_aligned : Cd.SM := (Cd.sRet (Cd.eBin Cd.oMul (Cd.eBin Cd.oIdx (Cd.eVar 0) (Cd.eC (.int 0))) (Cd.eCall M_power (Cd.aCons (Cd.eBin Cd.oSub (Cd.eVar 1) (Cd.eBin Cd.oIdx (Cd.eVar 0) (Cd.eC (.int 1)))) Cd.aNil))))
noncomputable def M_aligned : Cd.Fn := Cd.fn 2 2 B_aligned
noncomputable def B_units_at : Cd.SM := (Cd.sSeq (Cd.sIf (Cd.tVal (Cd.eBin Cd.oLe (Cd.eBin Cd.oIdx (Cd.eVar 0) (Cd.eC (.int 1))) (Cd.eVar 1))) (Cd.sRet (Cd.eCall M_aligned (Cd.aCons (Cd.eVar 0) (Cd.aCons (Cd.eVar 1) Cd.aNil)))) Cd.sNop) (Cd.sRet (Cd.eCall M_quotient (Cd.aCons (Cd.eBin Cd.oIdx (Cd.eVar 0) (Cd.eC (.int 0))) (Cd.aCons (Cd.eCall M_power (Cd.aCons (Cd.eBin Cd.oSub (Cd.eBin Cd.oIdx (Cd.eVar 0) (Cd.eC (.int 1))) (Cd.eVar 1)) Cd.aNil)) (Cd.aCons (Cd.eVar 2) Cd.aNil))))))
noncomputable def M_units_at : Cd.Fn := Cd.fn 3 3 B_units_at
noncomputable def T_law_1 : Cd.SM := (Cd.sSeq (Cd.sSet 9 (Cd.eCall M_v_law_divide (Cd.aCons (Cd.eVar 6) (Cd.aCons (Cd.eVar 7) (Cd.aCons (Cd.eVar 8) (Cd.aCons (Cd.eVar 3) Cd.aNil)))))) (Cd.sIf (Cd.tVal (Cd.eBin Cd.oEq (Cd.eBin Cd.oIdx (Cd.eVar 7) (Cd.eC (.int 0))) (Cd.eC (.int 0)))) (Cd.sIf (Cd.tVal (Cd.eBin Cd.oNe (Cd.eVar 9) (Cd.eTup (Cd.aCons (Cd.eC (.str (Cd.S "refused"))) (Cd.aCons (Cd.eC (.bl true)) Cd.aNil))))) (Cd.sRet (Cd.eC (.bl false))) Cd.sNop) (Cd.sIf (Cd.tNot (Cd.tTru (Cd.eCall M_v_law_right (Cd.aCons (Cd.eVar 9) (Cd.aCons (Cd.eBin Cd.oMul (Cd.eBin Cd.oIdx (Cd.eVar 6) (Cd.eC (.int 0))) (Cd.eCall M_v_law_ten (Cd.aCons (Cd.eBin Cd.oAdd (Cd.eBin Cd.oIdx (Cd.eVar 7) (Cd.eC (.int 1))) (Cd.eVar 8)) Cd.aNil))) (Cd.aCons (Cd.eBin Cd.oMul (Cd.eBin Cd.oIdx (Cd.eVar 7) (Cd.eC (.int 0))) (Cd.eCall M_v_law_ten (Cd.aCons (Cd.eBin Cd.oIdx (Cd.eVar 6) (Cd.eC (.int 1))) Cd.aNil))) (Cd.aCons (Cd.eVar 3) Cd.aNil))))))) (Cd.sRet (Cd.eC (.bl false))) Cd.sNop)))
noncomputable def T_law_2 : Cd.SM := (Cd.sSeq (Cd.sSet 6 (Cd.eCall M_v_law_number (Cd.aCons (Cd.eBin Cd.oDiv (Cd.eVar 2) (Cd.eC (.int 3))) Cd.aNil))) (Cd.sSeq (Cd.sSet 7 (Cd.eCall M_v_law_number (Cd.aCons (Cd.eBin Cd.oAdd (Cd.eBin Cd.oDiv (Cd.eVar 2) (Cd.eC (.int 77))) (Cd.eBin Cd.oMul (Cd.eC (.int 5)) (Cd.eVar 1))) Cd.aNil))) (Cd.sSeq (Cd.sSet 8 (Cd.eBin Cd.oMod (Cd.eBin Cd.oDiv (Cd.eVar 2) (Cd.eC (.int 11))) (Cd.eC (.int 21)))) (Cd.sSeq (Cd.sIf (Cd.tNot (Cd.tTru (Cd.eCall M_v_law_right (Cd.aCons (Cd.eCall M_units_at (Cd.aCons (Cd.eVar 6) (Cd.aCons (Cd.eVar 8) (Cd.aCons (Cd.eVar 3) Cd.aNil)))) (Cd.aCons (Cd.eBin Cd.oMul (Cd.eBin Cd.oIdx (Cd.eVar 6) (Cd.eC (.int 0))) (Cd.eCall M_v_law_ten (Cd.aCons (Cd.eVar 8) Cd.aNil))) (Cd.aCons (Cd.eCall M_v_law_ten (Cd.aCons (Cd.eBin Cd.oIdx (Cd.eVar 6) (Cd.eC (.int 1))) Cd.aNil)) (Cd.aCons (Cd.eVar 3) Cd.aNil))))))) (Cd.sRet (Cd.eC (.bl false))) Cd.sNop) T_law_1))))
noncomputable def T_law_3 : Cd.SM := (Cd.sSeq (Cd.sIf (Cd.tNot (Cd.tTru (Cd.eCall M_v_law_right (Cd.aCons (Cd.eCall M_quotient (Cd.aCons (Cd.eVar 5) (Cd.aCons (Cd.eVar 4) (Cd.aCons (Cd.eVar 3) Cd.aNil)))) (Cd.aCons (Cd.eVar 5) (Cd.aCons (Cd.eVar 4) (Cd.aCons (Cd.eVar 3) Cd.aNil))))))) (Cd.sRet (Cd.eC (.bl false))) Cd.sNop) T_law_2)
noncomputable def T_law_4 : Cd.SM := (Cd.sSeq (Cd.sSet 5 (Cd.eBin Cd.oSub (Cd.eBin Cd.oMod (Cd.eBin Cd.oDiv (Cd.eVar 2) (Cd.eC (.int 4002))) (Cd.eBin Cd.oPow (Cd.eC (.int 10)) (Cd.eC (.int 30)))) (Cd.eBin Cd.oPow (Cd.eC (.int 10)) (Cd.eC (.int 29))))) (Cd.sSeq (Cd.sIf (Cd.tVal (Cd.eBin Cd.oEq (Cd.eBin Cd.oMod (Cd.eVar 2) (Cd.eC (.int 5))) (Cd.eC (.int 0)))) (Cd.sSeq (Cd.sSet 4 (Cd.eBin Cd.oMul (Cd.eC (.int 2)) (Cd.eVar 4))) (Cd.sSet 5 (Cd.eBin Cd.oMul (Cd.eBin Cd.oDiv (Cd.eVar 4) (Cd.eC (.int 2))) (Cd.eBin Cd.oSub (Cd.eBin Cd.oMod (Cd.eBin Cd.oDiv (Cd.eVar 2) (Cd.eC (.int 9))) (Cd.eC (.int 31))) (Cd.eC (.int 15)))))) Cd.sNop) T_law_3))
noncomputable def L_law_5 : Cd.SM := (Cd.sSeq (Cd.sSet 2 (Cd.eCall M_v_law_rich (Cd.aCons (Cd.eCall M_v_law_cell (Cd.aCons (Cd.eVar 0) (Cd.aCons (Cd.eVar 1) Cd.aNil))) (Cd.aCons (Cd.eVar 1) Cd.aNil)))) (Cd.sSeq (Cd.sSet 3 (Cd.eBin Cd.oEq (Cd.eBin Cd.oMod (Cd.eVar 2) (Cd.eC (.int 2))) (Cd.eC (.int 1)))) (Cd.sSeq (Cd.sSet 4 (Cd.eBin Cd.oSub (Cd.eBin Cd.oMod (Cd.eBin Cd.oDiv (Cd.eVar 2) (Cd.eC (.int 2))) (Cd.eC (.int 2001))) (Cd.eC (.int 1000)))) (Cd.sSeq (Cd.sIf (Cd.tVal (Cd.eBin Cd.oEq (Cd.eVar 4) (Cd.eC (.int 0)))) (Cd.sSet 4 (Cd.eC (.int 7))) Cd.sNop) T_law_4))))
noncomputable def B_law : Cd.SM := (Cd.sSeq (Cd.sFor (Cd.iArgs Cd.fRng1 (Cd.aCons (Cd.eCallB Cd.bMax2 (Cd.aCons (Cd.eC (.int 1)) (Cd.aCons (Cd.eCallB Cd.bMin2 (Cd.aCons (Cd.eC (.int 12)) (Cd.aCons (Cd.eCallB Cd.bLen (Cd.aCons (Cd.eVar 0) Cd.aNil)) Cd.aNil))) Cd.aNil))) Cd.aNil)) (Cd.gNam 1) L_law_5) (Cd.sRet (Cd.eC (.bl true))))
noncomputable def M_law : Cd.Fn := Cd.fn 1 10 B_law
end Mir

set_option maxRecDepth 100000
/-! CdLib2: how the later combinators reckon -/
namespace Cd
open Classical
@[simp] theorem fn_0 (N : Nat) (b : SM) (h : Hep) : fn 0 N b [] h = (b (List.replicate (N - 0) none) h).res := id rfl
@[simp] theorem fn_5 (N : Nat) (b : SM) (v1 v2 v3 v4 v5 : Val) (h : Hep) : fn 5 N b [v1, v2, v3, v4, v5] h = (b (some v1 :: some v2 :: some v3 :: some v4 :: some v5 :: List.replicate (N - 5) none) h).res := id rfl
@[simp] theorem fn_6 (N : Nat) (b : SM) (v1 v2 v3 v4 v5 v6 : Val) (h : Hep) : fn 6 N b [v1, v2, v3, v4, v5, v6] h = (b (some v1 :: some v2 :: some v3 :: some v4 :: some v5 :: some v6 :: List.replicate (N - 6) none) h).res := id rfl
@[simp] theorem oIAdd_int (h : Hep) (i j : Int) : oIAdd h (.int i) (.int j) = some (.int (i + j)) := id rfl
theorem oIAdd_str {h : Hep} {s t : List Nat} (l : s.length + t.length ≤ 16777216) : oIAdd h (.str s) (.str t) = some (.str (s ++ t)) := by
  show (if szOk _ then _ else _) = _
  rw [if_pos (szOk_iff.mpr l)]
@[simp] theorem sRaise_eq (c : String) (η : Env) (h : Hep) : sRaise c η h = .exc ⟨c, []⟩ η h := id rfl
@[simp] theorem sTry_eq (tbl : List (String × Bool)) (i : Nat) (b : SM) (hd : Exc → Nat → SM) (η : Env) (h : Hep) : sTry tbl i b hd η h = match b η h with
  | .exc x η' h' => match tbl.lookup x.cls with
    | some true => if ∀ a, (hd x a (η'.set i (some (.exo a))) h').forget i = (hd x 0 (η'.set i (some (.exo 0))) h').forget i then (hd x 0 (η'.set i (some (.exo 0))) h').forget i else .stuck
    | some false => .exc x η' h'
    | none => .stuck
  | r => r := id rfl
@[simp] theorem sTryO_eq (tbl : List (String × Bool)) (b : SM) (hd : SM) (η : Env) (h : Hep) : sTryO tbl b hd η h = match b η h with
  | .exc x η' h' => match tbl.lookup x.cls with
    | some true => (hd η' h').quiet
    | some false => .exc x η' h'
    | none => .stuck
  | r => r := id rfl
@[simp] theorem forget_nx (i : Nat) (η : Env) (h : Hep) : (SR.nx η h).forget i = .nx (η.set i none) h := id rfl
@[simp] theorem forget_ret (i : Nat) (v : Val) (h : Hep) : (SR.ret v h).forget i = .ret v h := id rfl
@[simp] theorem quiet_nx (η : Env) (h : Hep) : (SR.nx η h).quiet = .nx η h := id rfl
@[simp] theorem quiet_ret (v : Val) (h : Hep) : (SR.ret v h).quiet = .ret v h := id rfl
@[simp] theorem eIsE_eq (tbl : List (String × Bool)) (x : Exc) (a : Nat) (m : EM) (η : Env) (h : Hep) : eIsE tbl x a m η h = (m η h).bind fun v h1 => match v with
  | .exo b => if b = a then (if x.args = [] then (match tbl.lookup x.cls with | some k => .ok (.bl k) h1 | none => .stuck) else .stuck) else .stuck
  | _ => .stuck := id rfl
@[simp] theorem eMth_eq (T : String) (F : Val → BFn) (o : EM) (a : AM) (η : Env) (h : Hep) : eMth T F o a η h = (o η h).bind fun x h1 => if typ h1 x = some T then (a η h1).bind fun xs h2 => (match F x xs h2 with | some (v, h3) => .ok v h3 | none => .stuck) else .stuck := id rfl
@[simp] theorem eSl_eq (o : EM) (lo hi : PM) (η : Env) (h : Hep) : eSl o lo hi η h = (o η h).bind fun x h1 => (lo η h1).bind fun l h2 => (hi η h2).bind fun u h3 => match oSl h3 x l u with | some (v, h4) => .ok v h4 | none => .stuck := id rfl
@[simp] theorem pNo_eq (η : Env) (h : Hep) : pNo η h = .ok none h := id rfl
@[simp] theorem pSome_eq (e : EM) (η : Env) (h : Hep) : pSome e η h = (e η h).bind fun x h1 => match x with | .int i => .ok (some i) h1 | _ => .stuck := id rfl
@[simp] theorem sSetIx_eq (o i e : EM) (η : Env) (h : Hep) : sSetIx o i e η h = (e η h).thn η fun v h1 => (o η h1).thn η fun x h2 => (i η h2).thn η fun k h3 => match setIx h3 x k v with
  | some h4 => .nx η h4
  | none => .stuck := id rfl
@[simp] theorem eComp_eq (vs : List Nat) (it : IM) (g : GM) (c : TM) (e : EM) (η : Env) (h : Hep) : eComp vs it g c e η h = (it η h).bind fun p h1 => (compL g p.2 c e (wipe η vs) p.1 h1).bind fun ys h2 => if szOk ys.length then .ok (.ref h2.length) (h2 ++ [.lst ys]) else .stuck := id rfl
@[simp] theorem oIn_ch (h : Hep) (c : Nat) (s : List Nat) : oIn h (.str [c]) (.str s) = some (.bl (decide (c ∈ s))) := id rfl
@[simp] theorem oNin_ch (h : Hep) (c : Nat) (s : List Nat) : oNin h (.str [c]) (.str s) = some (.bl (!decide (c ∈ s))) := id rfl
@[simp] theorem bOrd_ch (c : Nat) (h : Hep) : bOrd [.str [c]] h = some (.int c, h) := id rfl
@[simp] theorem oLt_str (h : Hep) (i j : List Nat) : oLt h (.str i) (.str j) = some (.bl (decide (i < j))) := id rfl
@[simp] theorem oGt_str (h : Hep) (i j : List Nat) : oGt h (.str i) (.str j) = some (.bl (decide (j < i))) := id rfl
theorem oAdd_str {h : Hep} {s t : List Nat} (l : s.length + t.length ≤ 16777216) : oAdd h (.str s) (.str t) = some (.str (s ++ t)) := by
  show (if szOk _ then _ else _) = _
  rw [if_pos (szOk_iff.mpr l)]
theorem oIdx_str {h : Hep} {s : List Nat} {i : Int} {c : Nat} (l : s.length ≤ 16777216) (e : atI s i = some c) : oIdx h (.str s) (.int i) = some (.str [c]) := by
  show (if szOk _ then _ else _) = _
  rw [if_pos (szOk_iff.mpr l), e]
  rfl
theorem atI_ex {α : Type} {xs : List α} {i : Int} (h0 : 0 ≤ i) (h1 : i < xs.length) : ∃ c, atI xs i = some c := by
  have : i.toNat < xs.length := by omega
  exact ⟨xs[i.toNat], atI_of h0 (List.getElem?_eq_getElem this)⟩
theorem atI_last {α : Type} {xs : List α} (h1 : 0 < xs.length) : ∃ c, atI xs (-1) = some c := by
  refine ⟨xs[xs.length - 1], ?_⟩
  unfold atI ixN
  rw [if_neg (by decide), if_pos (by omega)]
  show xs[(-1 + (xs.length : Int)).toNat]? = _
  rw [show (-1 + (xs.length : Int)).toNat = xs.length - 1 by omega]
  exact List.getElem?_eq_getElem _
theorem in_tup (h : Hep) (s : List Nat) (l : List Val) (q : l.all flat = true) : oIn h (.str s) (.tup l) = some (.bl (l.any fun y => eqF y (.str s))) := by
  have e : isIn h (.str s) (.tup l) = if flat (.str s) && l.all flat then some (l.any fun y => eqF y (.str s)) else none := by
    cases s with
    | nil => rfl
    | cons c t => cases t <;> rfl
  unfold oIn
  rw [e, q]
  rfl
theorem in_ref (h : Hep) (s : List Nat) (n : Nat) (l : List Val) (e1 : h[n]? = some (.lst l)) (q : l.all flat = true) : oIn h (.str s) (.ref n) = some (.bl (l.any fun y => eqF y (.str s))) := by
  have e : isIn h (.str s) (.ref n) = match seqOf h (.ref n) with | some l => if flat (.str s) && l.all flat then some (l.any fun y => eqF y (.str s)) else none | none => none := by
    cases s with
    | nil => rfl
    | cons c t => cases t <;> rfl
  have e2 : seqOf h (.ref n) = some l := by
    show (match h[n]? with | some (.lst l) => some l | _ => none) = _
    rw [e1]
  unfold oIn
  rw [e, e2]
  show ((if flat (.str s) && l.all flat then some (l.any fun y => eqF y (.str s)) else none).map Val.bl) = _
  rw [q]
  rfl
theorem split_ok {h : Hep} {s : List Nat} {c : Nat} (hc : c < 256) (l : s.length + 2 ≤ 16777216) : mSplit (.str s) [.str [c]] h = some (.ref h.length, h ++ [.lst ((cutAt c [] s).map .str)]) := by
  show (if splitOk _ _ then _ else _) = _
  rw [if_pos ⟨hc, by rw [line_is]; exact l⟩]
theorem oSl_str {h : Hep} {s : List Nat} (l : s.length ≤ 16777216) (lo hi : Option Int) : oSl h (.str s) lo hi = some (.str (cut s lo hi), h) := by
  show (if szOk _ then _ else _) = _
  rw [if_pos (szOk_iff.mpr l)]
theorem cut_len {α : Type} (l : List α) (lo hi : Option Int) : (cut l lo hi).length ≤ l.length := by
  unfold cut
  rw [List.length_take, List.length_drop]
  omega
@[simp] theorem ch_lt (c d : Nat) : ([c] < [d]) ↔ c < d := by
  constructor
  · intro h
    cases h with
    | rel h => exact h
    | cons h => cases h
  · intro h; exact .rel h
/-- a walk along a text that ends at the first sign that is not wanted -/
theorem all_loop (i : Nat) (b : SM) (p : Nat → Bool) (E : Option Val → Env) (hset : ∀ x v, (E x).set i v = E v)
    (hb : ∀ c h, b (E (some (.str [c]))) h = if p c then .nx (E (some (.str [c]))) h else .ret (.bl false) h) : ∀ (s : List Nat) (v : Option Val) (h : Hep),
    (forL (gNam i) (fun _ => true) b (s.map fun c => .str [c]) (E v) h).bind (fun _ h1 => .ret (.bl true) h1) = .ret (.bl (s.all p)) h
  | [], v, h => rfl
  | c :: s, v, h => by
    have ih := all_loop i b p E hset hb s (some (.str [c])) h
    rw [List.map_cons, forL_cons, if_pos rfl, gNam_eq, hset]
    simp only [hb]
    by_cases q : p c = true
    · rw [if_pos q]
      simp only [ih, List.all_cons, q, Bool.true_and]
    · rw [if_neg q]
      have q2 : p c = false := by simpa using q
      simp only [SR.bind_ret, List.all_cons, q2, Bool.false_and]
end Cd

set_option maxRecDepth 100000
set_option maxHeartbeats 1000000
set_option linter.all false
set_option exponentiation.threshold 20000
namespace Law
open Cd Mir
theorem pow10_lt (k : Nat) : ((10 : Int) ^ k).natAbs < 2 ^ (4 * k + 1) := by
  rw [Int.natAbs_pow]
  show 10 ^ k < _
  have h1 : 10 ^ k ≤ 16 ^ k := Nat.pow_le_pow_left (by decide) k
  have h2 : (16 : Nat) ^ k = 2 ^ (4 * k) := by rw [Nat.pow_mul]
  have h3 : 2 ^ (4 * k) < 2 ^ (4 * k + 1) := Nat.pow_lt_pow_right (by decide) (by omega)
  omega
/-- the end of a def whose last row returns a slot -/
def endV (i : Nat) (r : SR) : Res Val := (r.bind fun η1 h1 => (ofO (η1[i]?).join h1).thn η1 fun v h1 => SR.ret v h1).res
theorem ten_loop (b : SM) (hb : ∀ (n : Val) (x : Int) (y : Option Val) (h : Hep), b [some n, some (.int x), y] h = .nx [some n, some (.int (x * 10)), y] h) (n : Int) (h : Hep) :
    ((forL (gNam 2) (fun _ => true) b (rng 0 n.toNat) [some (.int n), some (.int 1), none] h).bind fun η1 h1 => (ofO (η1[1]?).join h1).thn η1 fun v h1 => SR.ret v h1).res = .ok (.int (10 ^ n.toNat)) h := by
  refine forL_gen (fun r => (r.bind fun η1 h1 => (ofO (η1[1]?).join h1).thn η1 fun v h1 => SR.ret v h1).res = .ok (.int (10 ^ n.toNat)) h) _ (fun i η h' => h' = h ∧ ∃ v, η = [some (.int n), some (.int (10 ^ i)), v]) _ _ ⟨rfl, _, rfl⟩ ?_ ?_
  · rintro i x η h' hx ⟨rfl, v, rfl⟩
    refine ⟨rfl, _, rfl, ?_⟩
    simp only [List.set_cons_succ, List.set_cons_zero, hb]
    exact ⟨rfl, _, by rw [Int.pow_succ]⟩
  · rintro η h' ⟨rfl, v, rfl⟩
    simp
theorem power_ok (n : Int) (hn : n < 1000) (h0 : -1000 < n) (h : Hep) : M_power [.int n] h = .ok (.int (10 ^ n.toNat)) h := by
  simp (disch := omega) [M_power, B_power]
  refine ten_loop _ (fun n x y h => ?_) n h
  simp (disch := omega) [L_power_1]
theorem ten_ok (n : Int) (hn : n < 1000) (h0 : -1000 < n) (h : Hep) : M_v_law_ten [.int n] h = .ok (.int (10 ^ n.toNat)) h := by
  simp (disch := omega) [M_v_law_ten, B_v_law_ten]
  refine ten_loop _ (fun n x y h => ?_) n h
  simp (disch := omega) [L_v_law_ten_1]
/-- the decimal with the least scale -/
def dec : Nat → Int → Int × Nat
  | 0, u => (u, 0)
  | s + 1, u => if u % 10 = 0 then dec s (u / 10) else (u, s + 1)
/-- what stands at the least scale -/
def Can (d : Int × Nat) : Prop := d.2 = 0 ∨ d.1 % 10 ≠ 0
theorem dec_can : ∀ (s : Nat) (u : Int), Can (dec s u)
  | 0, u => .inl rfl
  | s + 1, u => by
    rw [dec]
    split
    · exact dec_can s _
    · rename_i h; exact .inr h
theorem dec_le : ∀ (s : Nat) (u : Int), (dec s u).2 ≤ s
  | 0, u => Nat.le_refl _
  | s + 1, u => by
    rw [dec]
    split
    · exact Nat.le_succ_of_le (dec_le s _)
    · exact Nat.le_refl _
theorem dec_val : ∀ (s : Nat) (u : Int), (dec s u).1 * 10 ^ (s - (dec s u).2) = u
  | 0, u => by simp [dec]
  | s + 1, u => by
    rw [dec]
    split
    · rename_i h
      have e := dec_val s (u / 10)
      have l := dec_le s (u / 10)
      rw [show s + 1 - (dec s (u / 10)).2 = (s - (dec s (u / 10)).2) + 1 by omega, Int.pow_succ, ← Int.mul_assoc, e]
      omega
    · simp
theorem dec_abs (s : Nat) (u : Int) : (dec s u).1.natAbs ≤ u.natAbs := by
  have e := dec_val s u
  have h : (dec s u).1.natAbs * (10 ^ (s - (dec s u).2)) = u.natAbs := by
    rw [← e, Int.natAbs_mul, Int.natAbs_pow]; simp [e]
  have h2 : 1 ≤ 10 ^ (s - (dec s u).2) := Nat.one_le_pow _ _ (by decide)
  calc (dec s u).1.natAbs = (dec s u).1.natAbs * 1 := by omega
    _ ≤ (dec s u).1.natAbs * (10 ^ (s - (dec s u).2)) := Nat.mul_le_mul_left _ h2
    _ = u.natAbs := h
theorem law_decimal_ok (u : Int) (s : Nat) (hs : s < 1000) (h : Hep) : M_v_law_decimal [.int u, .int s] h = .ok (.tup [.int (dec s u).1, .int (dec s u).2]) h := by
  simp (disch := omega) [M_v_law_decimal, B_v_law_decimal]
  refine forL_gen (fun r => (r.bind fun η1 h1 => (((ofO (η1[0]?).join h1).bind fun x h1 => ((ofO (η1[1]?).join h1).bind fun x h1 => Res.ok [x] h1).bind fun xs h2 => Res.ok (x :: xs) h2).bind
            fun xs h1 => if xs.length ≤ 16777216 then Res.ok (Val.tup xs) h1 else Res.stuck).thn η1 fun v h1 => SR.ret v h1).res = .ok (.tup [.int (dec s u).1, .int (dec s u).2]) h) _
    (fun i η h' => h' = h ∧ i ≤ s ∧ ∃ v w, η = [some (.int v), some (.int ((s - i : Nat) : Int)), w] ∧ dec (s - i) v = dec s u) _ _ ⟨rfl, Nat.zero_le _, _, _, rfl, rfl⟩ ?_ ?_
  · rintro i x η h' hx ⟨rfl, hi, v, w, rfl, e⟩
    obtain ⟨hi2, rfl⟩ := rng_get hx
    refine ⟨rfl, _, rfl, ?_⟩
    by_cases q : v % 10 = 0
    · have c : ((s - i : Nat) : Int) - 1 = ((s - (i + 1) : Nat) : Int) := by omega
      simp (disch := omega) [L_v_law_decimal_1, q, c]
      refine ⟨by omega, ?_⟩
      rw [← e, show s - i = (s - (i + 1)) + 1 by omega, dec, if_pos q]
    · have e2 : dec (s - i) v = (v, s - i) := by
        rw [show s - i = (s - (i + 1)) + 1 by omega, dec, if_neg q]
      rw [← e, e2]
      simp (disch := omega) [L_v_law_decimal_1, q]
  · rintro η h' ⟨rfl, hi, v, w, rfl, e⟩
    have e0 : dec (s - s) v = (v, 0) := by rw [Nat.sub_self]; rfl
    simp only [rng_length, Int.toNat_natCast] at e ⊢
    rw [← e, e0]
    simp
/-- what the law's numbers are -/
theorem law_number_ok (r : Int) (h : Hep) : ∃ (u : Int) (s : Nat) (h' : Hep), M_v_law_number [.int r] h = .ok (.tup [.int u, .int s]) h' ∧ s ≤ 18 ∧ u.natAbs ≤ 10 ^ 18 ∧ Can (u, s) := by
  have fin : ∀ (u : Int) (s : Nat) (h' : Hep), s ≤ 18 → u.natAbs ≤ 10 ^ 18 → ∃ (u' : Int) (s' : Nat) (h'' : Hep), M_v_law_decimal [.int u, .int s] h' = .ok (.tup [.int u', .int s']) h'' ∧ s' ≤ 18 ∧ u'.natAbs ≤ 10 ^ 18 ∧ Can (u', s') := fun u s h' hs hu =>
    ⟨_, _, h', law_decimal_ok u s (by omega) h', Nat.le_trans (dec_le s u) hs, Nat.le_trans (dec_abs s u) hu, dec_can s u⟩
  by_cases q0 : r % 6 = 0
  · have hb : 0 ≤ r / 6 / 6 % 3 ∧ r / 6 / 6 % 3 < 3 := by omega
    obtain ⟨s, hs⟩ := Int.eq_ofNat_of_zero_le hb.1
    have go : ∀ (u : Int) (h' : Hep), u.natAbs ≤ 10 ^ 18 → ∃ (u' : Int) (s' : Nat) (h'' : Hep), M_v_law_decimal [.int u, .int (r / 6 / 6 % 3)] h' = .ok (.tup [.int u', .int s']) h'' ∧ s' ≤ 18 ∧ u'.natAbs ≤ 10 ^ 18 ∧ Can (u', s') := fun u h' hu => by
      rw [hs]
      exact fin u s h' (by omega) hu
    have c : r / 6 % 6 = 0 ∨ r / 6 % 6 = 1 ∨ r / 6 % 6 = 2 ∨ r / 6 % 6 = 3 ∨ r / 6 % 6 = 4 ∨ r / 6 % 6 = 5 := by omega
    have fin2 : ∀ x : Int, [Val.int 0, Val.int 1, Val.int (-1), Val.int 10, Val.int (-100), Val.int 5][(r / 6 % 6).toNat]? = some (.int x) → x.natAbs ≤ 10 ^ 18 → ∃ (u : Int) (s : Nat) (h' : Hep), M_v_law_number [.int r] h = .ok (.tup [.int u, .int s]) h' ∧ s ≤ 18 ∧ u.natAbs ≤ 10 ^ 18 ∧ Can (u, s) := fun x hx hb => by
      obtain ⟨u', s', h'', e, k⟩ := go x (h ++ [.lst [Val.int 0, Val.int 1, Val.int (-1), Val.int 10, Val.int (-100), Val.int 5]]) hb
      refine ⟨u', s', h'', ?_, k⟩
      simp (disch := omega) [M_v_law_number, B_v_law_number, T_v_law_number_1, q0, atI_of (show 0 ≤ r / 6 % 6 by omega) hx, e]
    rcases c with c | c | c | c | c | c <;> rw [c] at fin2
    · exact fin2 0 rfl (by decide)
    · exact fin2 1 rfl (by decide)
    · exact fin2 (-1) rfl (by decide)
    · exact fin2 10 rfl (by decide)
    · exact fin2 (-100) rfl (by decide)
    · exact fin2 5 rfl (by decide)
  · by_cases q1 : r % 6 < 4
    · obtain ⟨s, hs⟩ := Int.eq_ofNat_of_zero_le (show 0 ≤ r / 6 / 20001 % 5 by omega)
      obtain ⟨u', s', h'', e, k⟩ := fin (r / 6 % 20001 - 10000) s h (by omega) (by omega)
      refine ⟨u', s', h'', ?_, k⟩
      simp (disch := omega) [M_v_law_number, B_v_law_number, T_v_law_number_1, q0, q1, hs, e]
    · obtain ⟨s, hs⟩ := Int.eq_ofNat_of_zero_le (show 0 ≤ r / 6 / 1000000000000000 % 19 by omega)
      obtain ⟨u', s', h'', e, k⟩ := fin (r / 6 % 2000000000000000000 - 1000000000000000000) s h (by omega) (by omega)
      refine ⟨u', s', h'', ?_, k⟩
      simp (disch := omega) [M_v_law_number, B_v_law_number, T_v_law_number_1, q0, q1, hs, e]
theorem toNat_sub (s t : Nat) : ((s : Int) - t).toNat = s - t := by omega
theorem aligned_ok (u : Int) (s t : Nat) (h : Hep) (hu : -(2 ^ 64) < u) (hu2 : u < 2 ^ 64) (ht : t < 900) (hs : s < 900) : M_aligned [.tup [.int u, .int s], .int t] h = .ok (.int (u * 10 ^ (t - s))) h := by
  have e := power_ok ((t : Int) - s) (by omega) (by omega) h
  rw [toNat_sub] at e
  simp (disch := omega) [M_aligned, B_aligned, e]
theorem cell_ok (ns : List Int) (k : Nat) (h : Hep) : M_v_law_cell [.fl (ns.map .int), .int k] h = .ok (.int (ns.getD k 0)) h := by
  by_cases q : k < ns.length
  · have e : (ns.map Val.int)[k]? = some (.int (ns.getD k 0)) := by
      rw [List.getElem?_map, List.getD_eq_getElem?_getD, List.getElem?_eq_getElem q]; rfl
    have e2 : atI (ns.map Val.int) (k : Int) = some (.int (ns.getD k 0)) := atI_of (by omega) (by simpa using e)
    simp [M_v_law_cell, B_v_law_cell, q, e2]
  · have e : ns.getD k 0 = 0 := by rw [List.getD_eq_getElem?_getD, List.getElem?_eq_none (by omega)]; rfl
    simp [M_v_law_cell, B_v_law_cell, q, e]
theorem rich_ok (c k : Int) (h : Hep) (hk : -1000 < k) (hk2 : k < 1000) : ∃ r, M_v_law_rich [.int c, .int k] h = .ok (.int r) h := by
  by_cases q : 1000000000000000000 ≤ c
  · exact ⟨c, by simp (disch := omega) [M_v_law_rich, B_v_law_rich, q]⟩
  · refine ⟨_, by simp (disch := omega) [M_v_law_rich, B_v_law_rich, q]; rfl⟩

def abv (x : Int) : Int := if x < 0 then -x else x
theorem bAbs_abv (i : Int) (h : Hep) : bAbs [.int i] h = some (.int (abv i), h) := id rfl
theorem abv_natAbs (x : Int) : abv x = (x.natAbs : Int) := by unfold abv; split <;> omega
theorem abv_mul (x : Int) (c : Int) (hc : 0 < c) : abv (x * c) = abv x * c := by
  rw [abv_natAbs, abv_natAbs, Int.natAbs_mul, Int.natCast_mul]
  congr 1
  omega
theorem neg_mul_iff (x c : Int) (hc : 0 < c) : x * c < 0 ↔ x < 0 := by
  constructor
  · intro h
    apply Classical.byContradiction
    intro q
    have := Int.mul_nonneg (show 0 ≤ x by omega) (Int.le_of_lt hc)
    omega
  · intro h
    exact Int.mul_neg_of_neg_of_pos h hc
structure Right (q a b : Int) (k : Bool) : Prop where
  sg : q ≠ 0 → (q < 0 ↔ ¬ (a < 0 ↔ b < 0))
  cut : k = false → abv q * abv b ≤ abv a ∧ abv a < (abv q + 1) * abv b
  rnd : k = true → (2 * abv q - 1) * abv b ≤ 2 * abv a ∧ 2 * abv a < (2 * abv q + 1) * abv b
theorem Right.scale {q a b : Int} {k : Bool} (R : Right q a b k) (c : Int) (hc : 0 < c) : Right q (a * c) (b * c) k := by
  refine ⟨fun h => ?_, fun h => ?_, fun h => ?_⟩
  · rw [neg_mul_iff a c hc, neg_mul_iff b c hc]; exact R.sg h
  · obtain ⟨h1, h2⟩ := R.cut h
    rw [abv_mul _ _ hc, abv_mul _ _ hc, ← Int.mul_assoc, ← Int.mul_assoc]
    exact ⟨Int.mul_le_mul_of_nonneg_right h1 (Int.le_of_lt hc), Int.mul_lt_mul_of_pos_right h2 hc⟩
  · obtain ⟨h1, h2⟩ := R.rnd h
    rw [abv_mul _ _ hc, abv_mul _ _ hc, ← Int.mul_assoc, ← Int.mul_assoc, ← Int.mul_assoc]
    exact ⟨Int.mul_le_mul_of_nonneg_right h1 (Int.le_of_lt hc), Int.mul_lt_mul_of_pos_right h2 hc⟩
theorem Right.one (q : Int) (k : Bool) : Right q q 1 k := by
  have e : abv 1 = 1 := rfl
  have n : 0 ≤ abv q := by rw [abv_natAbs]; omega
  refine ⟨fun h => by omega, fun h => by rw [e]; omega, fun h => by rw [e]; omega⟩
theorem right_ok (q a b : Int) (k : Bool) (R : Right q a b k) (hq : q.natAbs < 2 ^ 400) (hb : b.natAbs < 2 ^ 400) (h : Hep) : M_v_law_right [.int q, .int a, .int b, .bl k] h = .ok (.bl true) h := by
  obtain ⟨sg, ct, rd⟩ := R
  have m : ∀ x : Int, x.natAbs < 2 ^ 403 → mulOk x (abv b) := fun x hx => mulOk_b (a := 403) (b := 400) hx (by rw [abv_natAbs]; omega) (by decide) (by decide) (by decide)
  have nq := abv_natAbs q
  have m1 : ∀ h, oMul h (.int (abv q)) (.int (abv b)) = some (.int (abv q * abv b)) := fun h => oMul_int (m _ (by omega))
  have m2 : ∀ h, oMul h (.int (abv q + 1)) (.int (abv b)) = some (.int ((abv q + 1) * abv b)) := fun h => oMul_int (m _ (by omega))
  have m3 : ∀ h, oMul h (.int (2 * abv q - 1)) (.int (abv b)) = some (.int ((2 * abv q - 1) * abv b)) := fun h => oMul_int (m _ (by omega))
  have m4 : ∀ h, oMul h (.int (2 * abv q + 1)) (.int (abv b)) = some (.int ((2 * abv q + 1) * abv b)) := fun h => oMul_int (m _ (by omega))
  have tail : ∀ v, T_v_law_right_1 [some (.int q), some (.int a), some (.int b), some (.bl k), some (.int (abv q)), some (.int (abv a)), some (.int (abv b))] h = v → v = .ret (.bl true) h := by
    intro v e
    subst e
    cases k with
    | false =>
      obtain ⟨h1, h2⟩ := ct rfl
      simp (disch := omega) [T_v_law_right_1, m1, m2, h1, h2]
    | true =>
      obtain ⟨h1, h2⟩ := rd rfl
      simp (disch := omega) [T_v_law_right_1, m3, m4, h1, h2]
  have tail := tail _ rfl
  have test : (abv q == 0) = true ∨ ((abv q == 0) = false ∧ (decide (q < 0) == !(decide (a < 0) == decide (b < 0))) = true) := by
    by_cases z : q = 0
    · subst z; exact .inl rfl
    · refine .inr ⟨beq_false_of_ne (by omega), ?_⟩
      have s := sg z
      by_cases x1 : q < 0 <;> by_cases x2 : a < 0 <;> by_cases x3 : b < 0 <;> first | (exfalso; simp [x1, x2, x3] at s; done) | simp [x1, x2, x3]
  rcases test with t | ⟨t, t2⟩
  · simp only [M_v_law_right, B_v_law_right, T_v_law_right_2, fn_4, sSeq_eq, sIf_eq, tOr_eq, tNot_eq, tTru_eq, eUn_eq, eVar_eq, get_0, get_S, Option.join_some, ofO_some, Res.bind_ok, oIsi_eq, typ_int, Option.map_some, show isT "int" "int" = true from rfl, show isT "int" "bool" = false from rfl, truth_bl, Res.thn_ok, Bool.not_true, if_false, Bool.false_eq_true, sNop_eq, SR.bind_nx, sSet_eq, eCallB_eq, aCons_eq, aNil_eq, bAbs_abv, List.set_cons_zero, List.set_cons_succ, List.replicate, tAnd_eq, tVal_eq, eBin_eq, eC_eq, oNe_int, t, tail, SR.res_ret]
  · simp only [M_v_law_right, B_v_law_right, T_v_law_right_2, fn_4, sSeq_eq, sIf_eq, tOr_eq, tNot_eq, tTru_eq, eUn_eq, eVar_eq, get_0, get_S, Option.join_some, ofO_some, Res.bind_ok, oIsi_eq, typ_int, Option.map_some, show isT "int" "int" = true from rfl, show isT "int" "bool" = false from rfl, truth_bl, Res.thn_ok, Bool.not_true, if_false, Bool.false_eq_true, sNop_eq, SR.bind_nx, sSet_eq, eCallB_eq, aCons_eq, aNil_eq, bAbs_abv, List.set_cons_zero, List.set_cons_succ, List.replicate, tAnd_eq, tVal_eq, eBin_eq, eC_eq, oNe_int, t, Bool.not_false, if_true, oLt_int, oNe_bl, t2, tail, SR.res_ret]
def siz (A B : Int) (k : Bool) : Int := if k = true ∧ B ≤ 2 * (A - A / B * B) then A / B + 1 else A / B
def qv (a b : Int) (k : Bool) : Int := if (decide (a < 0) == decide (b < 0)) = true then siz (abv a) (abv b) k else -siz (abv a) (abv b) k
theorem quotient_ok (a b : Int) (k : Bool) (hb : b ≠ 0) (ha : a.natAbs < 2 ^ 300) (hb2 : b.natAbs < 2 ^ 300) (h : Hep) : M_quotient [.int a, .int b, .bl k] h = .ok (.int (qv a b k)) h := by
  have na := abv_natAbs a
  have nb := abv_natAbs b
  have pb : 0 < abv b := by omega
  have le : (abv a / abv b).natAbs < 2 ^ 300 := by
    have := Int.natAbs_ediv_le_natAbs (abv a) (abv b)
    omega
  have d1 : ∀ h, oDiv h (.int (abv a)) (.int (abv b)) = some (.int (abv a / abv b)) := fun h => oDiv_int (divOk_b (b := 300) pb (by omega) (by decide) (by decide))
  have m1 : ∀ h, oMul h (.int (abv a / abv b)) (.int (abv b)) = some (.int (abv a / abv b * abv b)) := fun h => oMul_int (mulOk_b (a := 300) (b := 300) le (by omega) (by decide) (by decide) (by decide))
  have m2 : ∀ h x, oMul h (.int 2) (.int x) = some (.int (2 * x)) := fun h x => oMul_l (by decide) (by decide)
  unfold qv
  cases k with
  | false =>
    have s : siz (abv a) (abv b) false = abv a / abv b := by unfold siz; rw [if_neg (by simp)]
    rw [s]
    by_cases c : (decide (a < 0) == decide (b < 0)) = true
    · simp only [M_quotient, B_quotient, fn_3, sSeq_eq, sSet_eq, eBin_eq, eCallB_eq, aCons_eq, aNil_eq, eVar_eq, eC_eq, get_0, get_S, Option.join_some, ofO_some, Res.bind_ok, bAbs_abv, d1, Res.thn_ok, SR.bind_nx, List.set_cons_zero, List.set_cons_succ, List.replicate, sIf_eq, tAnd_eq, tTru_eq, truth_bl, if_false, Bool.false_eq_true, sNop_eq, tVal_eq, oLt_int, oNe_bl, c, Bool.not_true, if_true, sRet_eq, SR.res_ret]
    · have c2 : (decide (a < 0) == decide (b < 0)) = false := by simpa using c
      simp only [M_quotient, B_quotient, fn_3, sSeq_eq, sSet_eq, eBin_eq, eCallB_eq, aCons_eq, aNil_eq, eVar_eq, eC_eq, get_0, get_S, Option.join_some, ofO_some, Res.bind_ok, bAbs_abv, d1, Res.thn_ok, SR.bind_nx, List.set_cons_zero, List.set_cons_succ, List.replicate, sIf_eq, tAnd_eq, tTru_eq, truth_bl, if_false, Bool.false_eq_true, sNop_eq, tVal_eq, oLt_int, oNe_bl, c2, Bool.not_false, if_true, sRet_eq, eUn_eq, oNeg_int, SR.bind_ret, SR.res_ret]
  | true =>
    by_cases g : abv b ≤ 2 * (abv a - abv a / abv b * abv b)
    · have s : siz (abv a) (abv b) true = abv a / abv b + 1 := by unfold siz; rw [if_pos ⟨rfl, g⟩]
      rw [s]
      by_cases c : (decide (a < 0) == decide (b < 0)) = true
      · simp only [M_quotient, B_quotient, fn_3, sSeq_eq, sSet_eq, eBin_eq, eCallB_eq, aCons_eq, aNil_eq, eVar_eq, eC_eq, get_0, get_S, Option.join_some, ofO_some, Res.bind_ok, bAbs_abv, d1, m1, m2, oSub_int, oGe_int, g, decide_true, sAug_eq, oIAdd_int, Res.thn_ok, SR.bind_nx, List.set_cons_zero, List.set_cons_succ, List.replicate, sIf_eq, tAnd_eq, tTru_eq, truth_bl, if_false, Bool.false_eq_true, sNop_eq, tVal_eq, oLt_int, oNe_bl, c, Bool.not_true, if_true, sRet_eq, SR.res_ret]
      · have c2 : (decide (a < 0) == decide (b < 0)) = false := by simpa using c
        simp only [M_quotient, B_quotient, fn_3, sSeq_eq, sSet_eq, eBin_eq, eCallB_eq, aCons_eq, aNil_eq, eVar_eq, eC_eq, get_0, get_S, Option.join_some, ofO_some, Res.bind_ok, bAbs_abv, d1, m1, m2, oSub_int, oGe_int, g, decide_true, sAug_eq, oIAdd_int, Res.thn_ok, SR.bind_nx, List.set_cons_zero, List.set_cons_succ, List.replicate, sIf_eq, tAnd_eq, tTru_eq, truth_bl, if_false, Bool.false_eq_true, sNop_eq, tVal_eq, oLt_int, oNe_bl, c2, Bool.not_false, if_true, sRet_eq, eUn_eq, oNeg_int, SR.bind_ret, SR.res_ret]
    · have s : siz (abv a) (abv b) true = abv a / abv b := by unfold siz; rw [if_neg (fun z => g z.2)]
      rw [s]
      by_cases c : (decide (a < 0) == decide (b < 0)) = true
      · simp only [M_quotient, B_quotient, fn_3, sSeq_eq, sSet_eq, eBin_eq, eCallB_eq, aCons_eq, aNil_eq, eVar_eq, eC_eq, get_0, get_S, Option.join_some, ofO_some, Res.bind_ok, bAbs_abv, d1, m1, m2, oSub_int, oGe_int, g, decide_false, sAug_eq, oIAdd_int, Res.thn_ok, SR.bind_nx, List.set_cons_zero, List.set_cons_succ, List.replicate, sIf_eq, tAnd_eq, tTru_eq, truth_bl, if_false, Bool.false_eq_true, sNop_eq, tVal_eq, oLt_int, oNe_bl, c, Bool.not_true, if_true, sRet_eq, SR.res_ret]
      · have c2 : (decide (a < 0) == decide (b < 0)) = false := by simpa using c
        simp only [M_quotient, B_quotient, fn_3, sSeq_eq, sSet_eq, eBin_eq, eCallB_eq, aCons_eq, aNil_eq, eVar_eq, eC_eq, get_0, get_S, Option.join_some, ofO_some, Res.bind_ok, bAbs_abv, d1, m1, m2, oSub_int, oGe_int, g, decide_false, sAug_eq, oIAdd_int, Res.thn_ok, SR.bind_nx, List.set_cons_zero, List.set_cons_succ, List.replicate, sIf_eq, tAnd_eq, tTru_eq, truth_bl, if_false, Bool.false_eq_true, sNop_eq, tVal_eq, oLt_int, oNe_bl, c2, Bool.not_false, if_true, sRet_eq, eUn_eq, oNeg_int, SR.bind_ret, SR.res_ret]
theorem siz_nn (A B : Int) (k : Bool) (hA : 0 ≤ A) (hB : 0 < B) : 0 ≤ siz A B k := by
  have := Int.ediv_nonneg hA (Int.le_of_lt hB)
  unfold siz
  split <;> omega
theorem qv_abv (a b : Int) (k : Bool) (hb : b ≠ 0) : abv (qv a b k) = siz (abv a) (abv b) k := by
  have na := abv_natAbs a
  have nb := abv_natAbs b
  have n := siz_nn (abv a) (abv b) k (by omega) (by omega)
  unfold qv
  generalize siz (abv a) (abv b) k = z at n ⊢
  split <;> (rw [abv_natAbs]; omega)
theorem qv_right (a b : Int) (k : Bool) (hb : b ≠ 0) : Right (qv a b k) a b k := by
  have na := abv_natAbs a
  have nb := abv_natAbs b
  have n := siz_nn (abv a) (abv b) k (by omega) (by omega)
  have qa := qv_abv a b k hb
  have e := Int.mul_ediv_add_emod (abv a) (abv b)
  have e1 := Int.emod_nonneg (abv a) (show abv b ≠ 0 by omega)
  have e2 := Int.emod_lt_of_pos (abv a) (show 0 < abv b by omega)
  rw [Int.mul_comm] at e
  refine ⟨fun h => ?_, fun h => ?_, fun h => ?_⟩
  · unfold qv at h ⊢
    split at h
    · rename_i c
      rw [if_pos c]
      have c2 : (a < 0 ↔ b < 0) := by simpa using c
      constructor
      · intro; omega
      · intro z; exact absurd c2 z
    · rename_i c
      rw [if_neg c]
      have c2 : ¬ (a < 0 ↔ b < 0) := by simpa using c
      constructor
      · intro; exact c2
      · intro z; omega
  · subst h
    rw [qa]
    have s : siz (abv a) (abv b) false = abv a / abv b := by unfold siz; rw [if_neg (by simp)]
    rw [s, Int.add_mul, Int.one_mul]
    omega
  · subst h
    rw [qa]
    unfold siz
    split
    · rename_i c
      have c2 := c.2
      have x1 : (2 * (abv a / abv b + 1) - 1) * abv b = 2 * (abv a / abv b * abv b) + abv b := by
        rw [show 2 * (abv a / abv b + 1) - 1 = 2 * (abv a / abv b) + 1 by omega, Int.add_mul, Int.mul_assoc, Int.one_mul]
      have x2 : (2 * (abv a / abv b + 1) + 1) * abv b = 2 * (abv a / abv b * abv b) + 3 * abv b := by
        rw [show 2 * (abv a / abv b + 1) + 1 = 2 * (abv a / abv b) + 3 by omega, Int.add_mul, Int.mul_assoc]
      rw [x1, x2]
      omega
    · rename_i c
      have c2 : ¬ abv b ≤ 2 * (abv a - abv a / abv b * abv b) := fun z => c ⟨rfl, z⟩
      have x1 : (2 * (abv a / abv b) - 1) * abv b = 2 * (abv a / abv b * abv b) - abv b := by
        rw [Int.sub_mul, Int.mul_assoc, Int.one_mul]
      have x2 : (2 * (abv a / abv b) + 1) * abv b = 2 * (abv a / abv b * abv b) + abv b := by
        rw [Int.add_mul, Int.mul_assoc, Int.one_mul]
      rw [x1, x2]
      omega
theorem qv_small (a b : Int) (k : Bool) (hb : b ≠ 0) (ha : a.natAbs < 2 ^ 300) : (qv a b k).natAbs < 2 ^ 301 := by
  have na := abv_natAbs a
  have nb := abv_natAbs b
  have q := qv_abv a b k hb
  have le := Int.natAbs_ediv_le_natAbs (abv a) (abv b)
  have s : siz (abv a) (abv b) k ≤ abv a / abv b + 1 := by unfold siz; split <;> omega
  have nq := abv_natAbs (qv a b k)
  omega
theorem pow_pos10 (n : Nat) : (0 : Int) < 10 ^ n := Int.pow_pos (by decide)
theorem pow_abs (n : Nat) (m : Nat) (h : n ≤ m) : ((10 : Int) ^ n).natAbs ≤ 10 ^ m := by
  rw [Int.natAbs_pow]
  exact Nat.pow_le_pow_right (by decide) h
theorem mul_abs {x y : Int} {n m : Nat} (hx : x.natAbs ≤ 10 ^ n) (hy : y.natAbs ≤ 10 ^ m) : (x * y).natAbs ≤ 10 ^ (n + m) := by
  rw [Int.natAbs_mul, Nat.pow_add]
  exact Nat.mul_le_mul hx hy
theorem small_of {x : Int} {n : Nat} (h : x.natAbs ≤ 10 ^ n) (hn : n ≤ 60) : x.natAbs < 2 ^ 300 := by
  have h1 : 10 ^ n ≤ 10 ^ 60 := Nat.pow_le_pow_right (by decide) hn
  have h2 : 10 ^ 60 < 2 ^ 300 := by decide
  omega
theorem lift400 {x : Int} (h : x.natAbs < 2 ^ 301) : x.natAbs < 2 ^ 400 := Nat.lt_of_lt_of_le h (Nat.pow_le_pow_right (by decide) (by decide))
theorem lift301 {x : Int} (h : x.natAbs < 2 ^ 300) : x.natAbs < 2 ^ 301 := Nat.lt_of_lt_of_le h (Nat.pow_le_pow_right (by decide) (by decide))
/-- right of the quotient of the same numbers -/
theorem q_right_ok (a b : Int) (k : Bool) (hb : b ≠ 0) (ha : a.natAbs < 2 ^ 300) (hb2 : b.natAbs < 2 ^ 300) (h : Hep) : M_v_law_right [.int (qv a b k), .int a, .int b, .bl k] h = .ok (.bl true) h :=
  right_ok _ _ _ _ (qv_right a b k hb) (lift400 (qv_small a b k hb ha)) (lift400 (lift301 hb2)) h
section
variable (u : Int) (s : Nat) (hs : s ≤ 18) (hu : u.natAbs ≤ 10 ^ 18)
include hs hu
theorem units_at_ok (t : Nat) (ht : t ≤ 20) (k : Bool) (h : Hep) : ∃ q, M_units_at [.tup [.int u, .int s], .int t, .bl k] h = .ok (.int q) h ∧ M_v_law_right [.int q, .int (u * 10 ^ t), .int (10 ^ s), .bl k] h = .ok (.bl true) h := by
  have bs : ((10 : Int) ^ s).natAbs < 2 ^ 400 := lift400 (lift301 (small_of (pow_abs s 18 hs) (by decide)))
  by_cases c : s ≤ t
  · have c2 : (s : Int) ≤ t := by omega
    have e := aligned_ok u s t h (by omega) (by omega) (by omega) (by omega)
    refine ⟨u * 10 ^ (t - s), by simp [M_units_at, B_units_at, c, e], right_ok _ _ _ _ ?_ ?_ bs h⟩
    · have r := (Right.one (u * 10 ^ (t - s)) k).scale (10 ^ s) (pow_pos10 s)
      rw [Int.one_mul, Int.mul_assoc, ← Int.pow_add, show t - s + s = t by omega] at r
      exact r
    · exact lift400 (lift301 (small_of (mul_abs hu (pow_abs (t - s) 20 (by omega))) (by decide)))
  · have c2 : ¬ (s : Int) ≤ t := by omega
    have e := power_ok ((s : Int) - t) (by omega) (by omega) h
    rw [toNat_sub] at e
    have p0 : (10 : Int) ^ (s - t) ≠ 0 := by have := pow_pos10 (s - t); omega
    have bu := small_of hu (by decide)
    have e2 := quotient_ok u (10 ^ (s - t)) k p0 bu (small_of (pow_abs (s - t) 18 (by omega)) (by decide)) h
    refine ⟨qv u (10 ^ (s - t)) k, by simp [M_units_at, B_units_at, c, e, e2], right_ok _ _ _ _ ?_ (lift400 (qv_small _ _ _ p0 bu)) bs h⟩
    have r := (qv_right u (10 ^ (s - t)) k p0).scale (10 ^ t) (pow_pos10 t)
    rw [← Int.pow_add, show s - t + t = s by omega] at r
    exact r
theorem divide_ok (v : Int) (t : Nat) (ht : t ≤ 18) (hv : v.natAbs ≤ 10 ^ 18) (n : Nat) (hn : n ≤ 20) (k : Bool) (h : Hep) (hz : v ≠ 0) :
    ∃ q, M_v_law_divide [.tup [.int u, .int s], .tup [.int v, .int t], .int n, .bl k] h = .ok (.int q) h ∧ M_v_law_right [.int q, .int (u * 10 ^ (t + n)), .int (v * 10 ^ s), .bl k] h = .ok (.bl true) h := by
  have e1 := power_ok ((t : Int) + n) (by omega) (by omega) h
  rw [show ((t : Int) + n).toNat = t + n by omega] at e1
  have e2 := power_ok s (by omega) (by omega) h
  rw [Int.toNat_natCast] at e2
  have p0 : v * 10 ^ s ≠ 0 := Int.mul_ne_zero hz (by have := pow_pos10 s; omega)
  have b1 : (u * 10 ^ (t + n)).natAbs < 2 ^ 300 := small_of (mul_abs hu (pow_abs (t + n) 38 (by omega))) (by decide)
  have b2 : (v * 10 ^ s).natAbs < 2 ^ 300 := small_of (mul_abs hv (pow_abs s 18 hs)) (by decide)
  have e3 := quotient_ok (u * 10 ^ (t + n)) (v * 10 ^ s) k p0 b1 b2 h
  have d : M_divide [.tup [.int u, .int s], .tup [.int v, .int t], .int n, .bl k] h = .ok (.int (qv (u * 10 ^ (t + n)) (v * 10 ^ s) k)) h := by
    simp (disch := omega) [M_divide, B_divide, hz, e1, e2, e3]
  exact ⟨_, by simp [M_v_law_divide, B_v_law_divide, d], q_right_ok _ _ k p0 b1 b2 h⟩
theorem refused_ok (t : Nat) (n : Int) (k : Bool) (h : Hep) :
    M_v_law_divide [.tup [.int u, .int s], .tup [.int 0, .int t], .int n, .bl k] h = .ok (.tup [.str (S "refused"), .bl true]) h := by
  have d : M_divide [.tup [.int u, .int s], .tup [.int 0, .int t], .int n, .bl k] h = .exc ⟨"BadDecimal", []⟩ h := by
    simp [M_divide, B_divide]
  simp [M_v_law_divide, B_v_law_divide, d, List.lookup]
end
theorem refused_eq (h : Hep) : vEq h (.tup [.str (S "refused"), .bl true]) (.tup [.str (S "refused"), .bl true]) = some true := by
  have c : chOk (S "refused") := by unfold chOk; decide
  simp [vEq, scl, rsl, rsls, Dat.eqv, Dat.eqvs, c]
section
variable (f k : Val) (r : Int) (b a : Int) (kk : Bool) (v6 v7 v8 v9 : Option Val) (h : Hep)
theorem t1_ok (u v : Int) (s t : Nat) (n : Nat) (hn : n ≤ 20) (hs : s ≤ 18) (ht : t ≤ 18) (hu : u.natAbs ≤ 10 ^ 18) (hv : v.natAbs ≤ 10 ^ 18) : ∃ w9,
    T_law_1 [some f, some k, some (.int r), some (.bl kk), some (.int b), some (.int a), some (.tup [.int u, .int s]), some (.tup [.int v, .int t]), some (.int n), v9] h =
    .nx [some f, some k, some (.int r), some (.bl kk), some (.int b), some (.int a), some (.tup [.int u, .int s]), some (.tup [.int v, .int t]), some (.int n), w9] h := by
  by_cases z : v = 0
  · subst z
    have e := refused_ok u s hs hu t n kk h
    exact ⟨some (.tup [.str (S "refused"), .bl true]), by simp [T_law_1, e, oNe_of (refused_eq h)]⟩
  · obtain ⟨q, e1, e2⟩ := divide_ok u s hs hu v t ht hv n hn kk h z
    have t1 := ten_ok ((t : Int) + n) (by omega) (by omega) h
    rw [show ((t : Int) + n).toNat = t + n by omega] at t1
    have t2 := ten_ok s (by omega) (by omega) h
    rw [Int.toNat_natCast] at t2
    exact ⟨some (.int q), by simp (disch := omega) [T_law_1, e1, z, t1, t2, e2]⟩
theorem t2_ok (kn : Int) (hk : k = .int kn) (hk1 : -1000 < kn) (hk2 : kn < 1000) : ∃ w6 w7 w8 w9 h',
    T_law_2 [some f, some k, some (.int r), some (.bl kk), some (.int b), some (.int a), v6, v7, v8, v9] h =
    .nx [some f, some k, some (.int r), some (.bl kk), some (.int b), some (.int a), w6, w7, w8, w9] h' := by
  subst hk
  obtain ⟨u, s, h1, e1, hs, hu, _⟩ := law_number_ok (r / 3) h
  obtain ⟨v, t, h2, e2, ht, hv, _⟩ := law_number_ok (r / 77 + 5 * kn) h1
  obtain ⟨n, hn⟩ := Int.eq_ofNat_of_zero_le (show 0 ≤ r / 11 % 21 by omega)
  obtain ⟨q, e3, e4⟩ := units_at_ok u s hs hu n (by omega) kk h2
  have t1 := ten_ok n (by omega) (by omega) h2
  have t2 := ten_ok s (by omega) (by omega) h2
  rw [Int.toNat_natCast] at t1 t2
  obtain ⟨w9, e⟩ := t1_ok f (.int kn) r b a kk v9 h2 u v s t n (by omega) hs ht hu hv
  refine ⟨some (.tup [.int u, .int s]), some (.tup [.int v, .int t]), some (.int n), w9, h2, ?_⟩
  rw [← e]
  simp (disch := omega) [T_law_2, e1, e2, hn, e3, t1, t2, e4]
theorem t3_ok (kn : Int) (hk : k = .int kn) (hk1 : -1000 < kn) (hk2 : kn < 1000) (hb : b ≠ 0) (hb2 : b.natAbs < 2 ^ 300) (ha : a.natAbs < 2 ^ 300) : ∃ w6 w7 w8 w9 h',
    T_law_3 [some f, some k, some (.int r), some (.bl kk), some (.int b), some (.int a), v6, v7, v8, v9] h =
    .nx [some f, some k, some (.int r), some (.bl kk), some (.int b), some (.int a), w6, w7, w8, w9] h' := by
  have e1 := quotient_ok a b kk hb ha hb2 h
  have e2 := q_right_ok a b kk hb ha hb2 h
  obtain ⟨w6, w7, w8, w9, h', e⟩ := t2_ok f k r b a kk v6 v7 v8 v9 h kn hk hk1 hk2
  refine ⟨w6, w7, w8, w9, h', ?_⟩
  rw [← e]
  simp [T_law_3, e1, e2]
theorem t4_ok (v5 : Option Val) (kn : Int) (hk : k = .int kn) (hk1 : -1000 < kn) (hk2 : kn < 1000) (hb : b ≠ 0) (hb1 : -1001 < b) (hb2 : b < 1001) : ∃ w4 w5 w6 w7 w8 w9 h',
    T_law_4 [some f, some k, some (.int r), some (.bl kk), some (.int b), v5, v6, v7, v8, v9] h =
    .nx [some f, some k, some (.int r), some (.bl kk), w4, w5, w6, w7, w8, w9] h' := by
  have sm : ∀ x : Int, -(10 ^ 40) < x → x < 10 ^ 40 → x.natAbs < 2 ^ 300 := fun x h1 h2 => small_of (n := 40) (by omega) (by decide)
  by_cases c : r % 5 = 0
  · have bb : (b * (r / 9 % 31 - 15)).natAbs < 2 ^ 300 := by
      refine small_of (n := 4 + 4) (mul_abs ?_ ?_) (by decide) <;> omega
    obtain ⟨w6, w7, w8, w9, h', e⟩ := t3_ok f k r (2 * b) (b * (r / 9 % 31 - 15)) kk v6 v7 v8 v9 h kn hk hk1 hk2 (by omega) (sm _ (by omega) (by omega)) bb
    refine ⟨some (.int (2 * b)), some (.int (b * (r / 9 % 31 - 15))), w6, w7, w8, w9, h', ?_⟩
    rw [← e]
    have d : 2 * b / 2 = b := by omega
    simp (disch := omega) [T_law_4, c, d]
  · obtain ⟨w6, w7, w8, w9, h', e⟩ := t3_ok f k r b (r / 4002 % 10 ^ 30 - 10 ^ 29) kk v6 v7 v8 v9 h kn hk hk1 hk2 hb (sm _ (by omega) (by omega)) (sm _ (by omega) (by omega))
    refine ⟨some (.int b), some (.int (r / 4002 % 10 ^ 30 - 10 ^ 29)), w6, w7, w8, w9, h', ?_⟩
    rw [← e]
    simp (disch := omega) [T_law_4, c]
end
theorem turn_ok (ns : List Int) (k : Nat) (hk : k < 12) (h : Hep) (v2 v3 v4 v5 v6 v7 v8 v9 : Option Val) :
    ∃ (h' : Hep) (w2 w3 w4 w5 w6 w7 w8 w9 : Option Val), L_law_5 [some (.fl (ns.map .int)), some (.int k), v2, v3, v4, v5, v6, v7, v8, v9] h = .nx [some (.fl (ns.map .int)), some (.int k), w2, w3, w4, w5, w6, w7, w8, w9] h' := by
  have e1 := cell_ok ns k h
  generalize ns.getD k 0 = c at e1
  obtain ⟨r, e2⟩ := rich_ok c k h (by omega) (by omega)
  by_cases z : r / 2 % 2001 - 1000 = 0
  · obtain ⟨w4, w5, w6, w7, w8, w9, h', e⟩ := t4_ok (.fl (ns.map .int)) (.int k) r 7 (r % 2 == 1) v6 v7 v8 v9 h v5 k rfl (by omega) (by omega) (by omega) (by omega) (by omega)
    exact ⟨h', some (.int r), some (.bl (r % 2 == 1)), w4, w5, w6, w7, w8, w9, by simp (disch := omega) [L_law_5, e1, e2, z, e]⟩
  · obtain ⟨w4, w5, w6, w7, w8, w9, h', e⟩ := t4_ok (.fl (ns.map .int)) (.int k) r (r / 2 % 2001 - 1000) (r % 2 == 1) v6 v7 v8 v9 h v5 k rfl (by omega) (by omega) z (by omega) (by omega)
    exact ⟨h', some (.int r), some (.bl (r % 2 == 1)), w4, w5, w6, w7, w8, w9, by simp (disch := omega) [L_law_5, e1, e2, z, e]⟩
theorem law_true (ns : List Int) (hl : ns.length ≤ 63) : ∃ h, M_law [.fl (ns.map .int)] [] = .ok (.bl true) h := by
  have sz : (if (if ((ns.map Val.int).length : Int) < 12 then ((ns.map Val.int).length : Int) else 12) > 1 then (if ((ns.map Val.int).length : Int) < 12 then ((ns.map Val.int).length : Int) else 12) else 1) = ((max 1 (min 12 ns.length) : Nat) : Int) := by
    rw [List.length_map]
    split <;> split <;> omega
  simp (disch := omega) only [M_law, B_law, fn_1, sSeq_eq, sFor_eq, iArgs_eq, eCallB_eq, aCons_eq, aNil_eq, eC_eq, eVar_eq, List.replicate, get_0, Option.join_some, ofO_some, Res.bind_ok, Res.thn_ok, bLen_fl, bMin2_int, bMax2_int, sz, fRng1_s]
  refine forL_gen (fun r => ∃ h, (r.bind fun η1 h1 => sRet (eC (.bl true)) η1 h1).res = .ok (.bl true) h) _ (fun i η h' => ∃ v1 v2 v3 v4 v5 v6 v7 v8 v9, η = [some (.fl (ns.map .int)), v1, v2, v3, v4, v5, v6, v7, v8, v9]) _ _ ⟨_, _, _, _, _, _, _, _, _, rfl⟩ ?_ ?_
  · rintro i x η h hx ⟨v1, v2, v3, v4, v5, v6, v7, v8, v9, rfl⟩
    obtain ⟨hi, rfl⟩ := rng_get hx
    obtain ⟨h', w2, w3, w4, w5, w6, w7, w8, w9, e⟩ := turn_ok ns i (by omega) h v2 v3 v4 v5 v6 v7 v8 v9
    refine ⟨rfl, _, rfl, ?_⟩
    simp only [List.set_cons_succ, List.set_cons_zero, Int.zero_add, e]
    exact ⟨_, _, _, _, _, _, _, _, _, rfl⟩
  · rintro η h' ⟨v1, v2, v3, v4, v5, v6, v7, v8, v9, rfl⟩
    exact ⟨rfl, h', rfl⟩
end Law

set_option Elab.async false
set_option linter.all false
set_option maxRecDepth 100000
set_option maxHeartbeats 4000000
namespace Ok
open PySem PySem.Spec PyProof.Rows L2 Cb Mir
def top (i : Nat) : Stmt := PySem.Challenge.pw_cardhouse_k03_cutting_and_rounding.main.body.getD i (.Pass ⟨0, 0, 0, 0⟩)
abbrev s_v_law_cell : Stmt := top 10
theorem sc_v_law_cell : FnScope ["script", "k"] ["script", "k"] (defScope s_v_law_cell) := ⟨rfl, rfl, rfl, by decide +kernel, rfl, by decide +kernel, by decide +kernel⟩
abbrev s_power : Stmt := top 4
theorem sc_power : FnScope ["exponent", "result", "_"] ["exponent"] (defScope s_power) := ⟨rfl, rfl, rfl, by decide +kernel, rfl, by decide +kernel, by decide +kernel⟩
abbrev s_quotient : Stmt := top 6
theorem sc_quotient : FnScope ["above", "below", "is_rounded", "size"] ["above", "below", "is_rounded"] (defScope s_quotient) := ⟨rfl, rfl, rfl, by decide +kernel, rfl, by decide +kernel, by decide +kernel⟩
abbrev s_divide : Stmt := top 8
theorem sc_divide : FnScope ["a", "b", "scale", "is_rounded"] ["a", "b", "scale", "is_rounded"] (defScope s_divide) := ⟨rfl, rfl, rfl, by decide +kernel, rfl, by decide +kernel, by decide +kernel⟩
abbrev s_v_law_divide : Stmt := top 16
theorem sc_v_law_divide : FnScope ["a", "b", "scale", "is_rounded", "e"] ["a", "b", "scale", "is_rounded"] (defScope s_v_law_divide) := ⟨rfl, rfl, rfl, by decide +kernel, rfl, by decide +kernel, by decide +kernel⟩
abbrev s_v_law_decimal : Stmt := top 12
theorem sc_v_law_decimal : FnScope ["units", "scale", "k"] ["units", "scale"] (defScope s_v_law_decimal) := ⟨rfl, rfl, rfl, by decide +kernel, rfl, by decide +kernel, by decide +kernel⟩
abbrev s_v_law_number : Stmt := top 13
theorem sc_v_law_number : FnScope ["rich", "choice", "rest"] ["rich"] (defScope s_v_law_number) := ⟨rfl, rfl, rfl, by decide +kernel, rfl, by decide +kernel, by decide +kernel⟩
abbrev s_v_law_rich : Stmt := top 11
theorem sc_v_law_rich : FnScope ["cell", "k", "mixed"] ["cell", "k"] (defScope s_v_law_rich) := ⟨rfl, rfl, rfl, by decide +kernel, rfl, by decide +kernel, by decide +kernel⟩
abbrev s_v_law_right : Stmt := top 15
theorem sc_v_law_right : FnScope ["actual", "above", "below", "is_rounded", "size", "above_size", "below_size"] ["actual", "above", "below", "is_rounded"] (defScope s_v_law_right) := ⟨rfl, rfl, rfl, by decide +kernel, rfl, by decide +kernel, by decide +kernel⟩
abbrev s_v_law_ten : Stmt := top 14
theorem sc_v_law_ten : FnScope ["scale", "result", "k"] ["scale"] (defScope s_v_law_ten) := ⟨rfl, rfl, rfl, by decide +kernel, rfl, by decide +kernel, by decide +kernel⟩
abbrev s_aligned : Stmt := top 5
theorem sc_aligned : FnScope ["number", "scale"] ["number", "scale"] (defScope s_aligned) := ⟨rfl, rfl, rfl, by decide +kernel, rfl, by decide +kernel, by decide +kernel⟩
abbrev s_units_at : Stmt := top 7
theorem sc_units_at : FnScope ["a", "scale", "is_rounded"] ["a", "scale", "is_rounded"] (defScope s_units_at) := ⟨rfl, rfl, rfl, by decide +kernel, rfl, by decide +kernel, by decide +kernel⟩
abbrev s_law : Stmt := top 17
theorem sc_law : FnScope ["script", "k", "rich", "is_rounded", "below", "above", "a", "b", "scale", "actual"] ["script"] (defScope s_law) := ⟨rfl, rfl, rfl, by decide +kernel, rfl, by decide +kernel, by decide +kernel⟩
structure Txt (K : PySem.W.Frag) (mg : Str → Option Value) : Type where
  f_v_law_cell : Addr
  fd_v_law_cell : FuncData
  F_v_law_cell : Fun K "_law_cell" "_law_cell" s_v_law_cell f_v_law_cell fd_v_law_cell
  g_v_law_cell : mg "_law_cell" = some (.ref f_v_law_cell)
  b_v_law_cell : Binds K fd_v_law_cell ["script", "k"] []
  f_power : Addr
  fd_power : FuncData
  F_power : Fun K "power" "power" s_power f_power fd_power
  g_power : mg "power" = some (.ref f_power)
  b_power : Binds K fd_power ["exponent"] []
  f_quotient : Addr
  fd_quotient : FuncData
  F_quotient : Fun K "quotient" "quotient" s_quotient f_quotient fd_quotient
  g_quotient : mg "quotient" = some (.ref f_quotient)
  b_quotient : Binds K fd_quotient ["above", "below", "is_rounded"] []
  f_divide : Addr
  fd_divide : FuncData
  F_divide : Fun K "divide" "divide" s_divide f_divide fd_divide
  g_divide : mg "divide" = some (.ref f_divide)
  b_divide : Binds K fd_divide ["a", "b", "scale", "is_rounded"] []
  f_v_law_divide : Addr
  fd_v_law_divide : FuncData
  F_v_law_divide : Fun K "_law_divide" "_law_divide" s_v_law_divide f_v_law_divide fd_v_law_divide
  g_v_law_divide : mg "_law_divide" = some (.ref f_v_law_divide)
  b_v_law_divide : Binds K fd_v_law_divide ["a", "b", "scale", "is_rounded"] []
  f_v_law_decimal : Addr
  fd_v_law_decimal : FuncData
  F_v_law_decimal : Fun K "_law_decimal" "_law_decimal" s_v_law_decimal f_v_law_decimal fd_v_law_decimal
  g_v_law_decimal : mg "_law_decimal" = some (.ref f_v_law_decimal)
  b_v_law_decimal : Binds K fd_v_law_decimal ["units", "scale"] []
  f_v_law_number : Addr
  fd_v_law_number : FuncData
  F_v_law_number : Fun K "_law_number" "_law_number" s_v_law_number f_v_law_number fd_v_law_number
  g_v_law_number : mg "_law_number" = some (.ref f_v_law_number)
  b_v_law_number : Binds K fd_v_law_number ["rich"] []
  f_v_law_rich : Addr
  fd_v_law_rich : FuncData
  F_v_law_rich : Fun K "_law_rich" "_law_rich" s_v_law_rich f_v_law_rich fd_v_law_rich
  g_v_law_rich : mg "_law_rich" = some (.ref f_v_law_rich)
  b_v_law_rich : Binds K fd_v_law_rich ["cell", "k"] []
  f_v_law_right : Addr
  fd_v_law_right : FuncData
  F_v_law_right : Fun K "_law_right" "_law_right" s_v_law_right f_v_law_right fd_v_law_right
  g_v_law_right : mg "_law_right" = some (.ref f_v_law_right)
  b_v_law_right : Binds K fd_v_law_right ["actual", "above", "below", "is_rounded"] []
  f_v_law_ten : Addr
  fd_v_law_ten : FuncData
  F_v_law_ten : Fun K "_law_ten" "_law_ten" s_v_law_ten f_v_law_ten fd_v_law_ten
  g_v_law_ten : mg "_law_ten" = some (.ref f_v_law_ten)
  b_v_law_ten : Binds K fd_v_law_ten ["scale"] []
  f_aligned : Addr
  fd_aligned : FuncData
  F_aligned : Fun K "aligned" "aligned" s_aligned f_aligned fd_aligned
  g_aligned : mg "aligned" = some (.ref f_aligned)
  b_aligned : Binds K fd_aligned ["number", "scale"] []
  f_units_at : Addr
  fd_units_at : FuncData
  F_units_at : Fun K "units_at" "units_at" s_units_at f_units_at fd_units_at
  g_units_at : mg "units_at" = some (.ref f_units_at)
  b_units_at : Binds K fd_units_at ["a", "scale", "is_rounded"] []
  f_law : Addr
  fd_law : FuncData
  F_law : Fun K "law" "law" s_law f_law fd_law
  g_law : mg "law" = some (.ref f_law)
  b_law : Binds K fd_law ["script"] []
  m_abs : mg "abs" = none
  m_bool : mg "bool" = none
  m_int : mg "int" = none
  m_isinstance : mg "isinstance" = none
  m_len : mg "len" = none
  m_max : mg "max" = none
  m_min : mg "min" = none
  m_range : mg "range" = none
  C_BadDecimal : Addr
  cg_BadDecimal : mg "BadDecimal" = some (.ref C_BadDecimal)
  C_CardError : Addr
  cg_CardError : mg "CardError" = some (.ref C_CardError)
  xr_BadDecimal : ExR K C_BadDecimal
  ex_BadDecimal_CardError : PySem.W.exmOne K (.ref C_BadDecimal) (.ref C_CardError) = some true
  ec_BadDecimal : ExcC K C_BadDecimal
  kt_BadDecimal_BadDecimal : PySem.W.kitOne K (.ref C_BadDecimal) (.ref C_BadDecimal) = some true
def ca {K : PySem.W.Frag} {mg : Str → Option Value} (T : Txt K mg) : String → Value := fun s => if s = "BadDecimal" then .ref T.C_BadDecimal else if s = "CardError" then .ref T.C_CardError else .none
section
variable {P : Program} {w : World} {K : PySem.W.Frag} {mg : Str → Option Value} {base : Heap}
theorem ca_BadDecimal (T : Txt K mg) : ca T "BadDecimal" = .ref T.C_BadDecimal := by unfold ca; simp
theorem ca_CardError (T : Txt K mg) : ca T "CardError" = .ref T.C_CardError := by unfold ca; simp
theorem tab_CardError (T : Txt K mg) : ∀ c b, ([("BadDecimal", true)] : List (String × Bool)).lookup c = some b → PySem.W.exmOne K (ca T c) (.ref T.C_CardError) = some b := (tab_cons (by have q := T.ex_BadDecimal_CardError; rw [← ca_BadDecimal T] at q; exact q) tab_nil)
theorem tai_BadDecimal (T : Txt K mg) : ∀ c b, ([("BadDecimal", true)] : List (String × Bool)).lookup c = some b → ∃ C, ca T c = .ref C ∧ ExcC K C ∧ PySem.W.kitOne K (.ref C) (.ref T.C_BadDecimal) = some b := (tab_cons ⟨_, ca_BadDecimal T, T.ec_BadDecimal, T.kt_BadDecimal_BadDecimal⟩ tab_nil)
theorem ok_v_law_cell (T : Txt K mg) : FnOk P w K mg base (L2.CX P w) 1 T.f_v_law_cell T.fd_v_law_cell ["script", "k"] (spF K (ca T) 2 M_v_law_cell) :=
  k_def (N := ["script", "k"]) (body := B_v_law_cell) T.F_v_law_cell sc_v_law_cell (fun cdv A outer s H E hr tk po => (kss_cons (ks_if (kt_cmp op_ltA bf_lt (k_var 1) (k_callB call_len bf_len T.m_len (ka_cons (k_var 0) ka_nil)) (nomark _)) (kss_one (ks_ret (k_callTy call_int1 bf_int T.m_int (ka_cons (k_idx (k_var 0) (k_var 1)) ka_nil)))) kss_nil) (kss_one (ks_ret k_int))))
theorem ok_power (T : Txt K mg) : FnOk P w K mg base (L2.CX P w) 1 T.f_power T.fd_power ["exponent"] (spF K (ca T) 1 M_power) :=
  k_def (N := ["exponent", "result", "_"]) (body := B_power) T.F_power sc_power (fun cdv A outer s H E hr tk po => (kss_cons (ks_set 1 sc_power.nd k_int) (kss_cons (ks_for po rfl (ki_rng1 T.m_range (ka_cons (k_var 0) ka_nil)) (kg_name 2 sc_power.nd) (kss_one (ks_aug 1 iop_mulA bf_mul sc_power.nd k_int))) (kss_one (ks_ret (k_var 1))))))
theorem ok_quotient (T : Txt K mg) : FnOk P w K mg base (L2.CX P w) 1 T.f_quotient T.fd_quotient ["above", "below", "is_rounded"] (spF K (ca T) 3 M_quotient) :=
  k_def (N := ["above", "below", "is_rounded", "size"]) (body := B_quotient) T.F_quotient sc_quotient (fun cdv A outer s H E hr tk po => (kss_cons (ks_set 3 sc_quotient.nd (k_bin op_fdivW bf_div (k_callB call_abs bf_abs T.m_abs (ka_cons (k_var 0) ka_nil)) (k_callB call_abs bf_abs T.m_abs (ka_cons (k_var 1) ka_nil)))) (kss_cons (ks_if (kt_pw (kw_and (kt_tru (k_var 2)) (kw_and1 (kt_cmp op_geA bf_ge (k_bin op_mulA bf_mul k_int (k_bin op_sub bf_sub (k_callB call_abs bf_abs T.m_abs (ka_cons (k_var 0) ka_nil)) (k_bin op_mulA bf_mul (k_var 3) (k_callB call_abs bf_abs T.m_abs (ka_cons (k_var 1) ka_nil))))) (k_callB call_abs bf_abs T.m_abs (ka_cons (k_var 1) ka_nil)) (nomark _))))) (kss_one (ks_aug 3 iop_addB bf_iadd sc_quotient.nd k_int)) kss_nil) (kss_cons (ks_if (kt_cmp (op_neA hr.units) bf_ne (k_cmp op_ltA bf_lt (k_var 0) k_int (nomark _)) (k_cmp op_ltA bf_lt (k_var 1) k_int (nomark _)) (nomark _)) (kss_one (ks_ret (k_un un_neg uf_neg (k_var 3)))) kss_nil) (kss_one (ks_ret (k_var 3)))))))
theorem ok_divide (T : Txt K mg) : FnOk P w K mg base (L2.CX P w) 2 T.f_divide T.fd_divide ["a", "b", "scale", "is_rounded"] (spF K (ca T) 4 M_divide) :=
  k_def (N := ["a", "b", "scale", "is_rounded"]) (body := B_divide) T.F_divide sc_divide (fun cdv A outer s H E hr tk po => (kss_cons (ks_if (kt_cmp (op_eqA hr.units) bf_eq (k_idx (k_var 1) k_int) k_int (nomark _)) (kss_one (ks_raise0 "BadDecimal" rfl tk T.xr_BadDecimal T.cg_BadDecimal (ca_BadDecimal T))) kss_nil) (kss_one (ks_ret (k_call (ok_quotient T) tk (hr.mono (by decide)) (by rfl) T.g_quotient T.F_quotient.kp T.b_quotient rfl (ka_cons (k_bin op_mulA bf_mul (k_idx (k_var 0) k_int) (k_call (ok_power T) tk (hr.mono (by decide)) (by rfl) T.g_power T.F_power.kp T.b_power rfl (ka_cons (k_bin op_addA bf_add (k_idx (k_var 1) k_int) (k_var 2)) ka_nil) (al_cons al_nil))) (ka_cons (k_bin op_mulA bf_mul (k_idx (k_var 1) k_int) (k_call (ok_power T) tk (hr.mono (by decide)) (by rfl) T.g_power T.F_power.kp T.b_power rfl (ka_cons (k_idx (k_var 0) k_int) ka_nil) (al_cons al_nil))) (ka_cons (k_var 3) ka_nil))) (al_cons (al_cons (al_cons al_nil))))))))
theorem ok_v_law_divide (T : Txt K mg) : FnOk P w K mg base (L2.CX P w) 3 T.f_v_law_divide T.fd_v_law_divide ["a", "b", "scale", "is_rounded"] (spF K (ca T) 4 M_v_law_divide) :=
  k_def (N := ["a", "b", "scale", "is_rounded", "e"]) (body := B_v_law_divide) T.F_v_law_divide sc_v_law_divide (fun cdv A outer s H E hr tk po => (kss_one (ks_try 4 sc_v_law_divide.nd tk T.cg_CardError (tab_CardError T) (fun _ _ _ tk po => (kss_one (ks_ret (k_call (ok_divide T) tk (hr.mono (by decide)) (by rfl) T.g_divide T.F_divide.kp T.b_divide rfl (ka_cons (k_var 0) (ka_cons (k_var 1) (ka_cons (k_var 2) (ka_cons (k_var 3) ka_nil)))) (al_cons (al_cons (al_cons (al_cons al_nil)))))))) (fun a_ oe_ x_ d_ pn_ hz_ hf_ hd_ => (kss_one (ks_ret (k_tup (ka_cons k_str (ka_cons (k_isE 4 hz_ hf_ hd_ (tai_BadDecimal T) T.m_isinstance T.cg_BadDecimal) ka_nil)))))))))
theorem ok_v_law_decimal (T : Txt K mg) : FnOk P w K mg base (L2.CX P w) 1 T.f_v_law_decimal T.fd_v_law_decimal ["units", "scale"] (spF K (ca T) 2 M_v_law_decimal) :=
  k_def (N := ["units", "scale", "k"]) (body := B_v_law_decimal) T.F_v_law_decimal sc_v_law_decimal (fun cdv A outer s H E hr tk po => (kss_cons (ks_for po rfl (ki_rng1 T.m_range (ka_cons (k_var 1) ka_nil)) (kg_name 2 sc_v_law_decimal.nd) (kss_one (ks_if (kt_cmp (op_eqA hr.units) bf_eq (k_bin op_mod bf_mod (k_callTy call_int1 bf_int T.m_int (ka_cons (k_var 0) ka_nil)) k_int) k_int (nomark _)) (kss_cons (ks_set 0 sc_v_law_decimal.nd (k_bin op_fdivW bf_div (k_var 0) k_int)) (kss_one (ks_set 1 sc_v_law_decimal.nd (k_bin op_sub bf_sub (k_var 1) k_int)))) (kss_one (ks_ret (k_tup (ka_cons (k_var 0) (ka_cons (k_var 1) ka_nil)))))))) (kss_one (ks_ret (k_tup (ka_cons (k_var 0) (ka_cons (k_var 1) ka_nil)))))))
theorem ok_v_law_number (T : Txt K mg) : FnOk P w K mg base (L2.CX P w) 2 T.f_v_law_number T.fd_v_law_number ["rich"] (spF K (ca T) 1 M_v_law_number) :=
  k_def (N := ["rich", "choice", "rest"]) (body := B_v_law_number) T.F_v_law_number sc_v_law_number (fun cdv A outer s H E hr tk po => (kss_cons (ks_set 1 sc_v_law_number.nd (k_bin op_mod bf_mod (k_var 0) k_int)) (kss_cons (ks_set 2 sc_v_law_number.nd (k_bin op_fdivW bf_div (k_var 0) k_int)) (kss_cons (ks_if (kt_cmp (op_eqA hr.units) bf_eq (k_var 1) k_int (nomark _)) (kss_one (ks_ret (k_call (ok_v_law_decimal T) tk (hr.mono (by decide)) (by rfl) T.g_v_law_decimal T.F_v_law_decimal.kp T.b_v_law_decimal rfl (ka_cons (k_idx (k_lst (ka_cons k_int (ka_cons k_int (ka_cons (k_un un_neg uf_neg k_int) (ka_cons k_int (ka_cons (k_un un_neg uf_neg k_int) (ka_cons k_int ka_nil))))))) (k_bin op_mod bf_mod (k_var 2) k_int)) (ka_cons (k_bin op_mod bf_mod (k_bin op_fdivW bf_div (k_var 2) k_int) k_int) ka_nil)) (al_cons (al_cons al_nil))))) kss_nil) (kss_cons (ks_if (kt_cmp op_ltA bf_lt (k_var 1) k_int (nomark _)) (kss_one (ks_ret (k_call (ok_v_law_decimal T) tk (hr.mono (by decide)) (by rfl) T.g_v_law_decimal T.F_v_law_decimal.kp T.b_v_law_decimal rfl (ka_cons (k_bin op_sub bf_sub (k_bin op_mod bf_mod (k_var 2) k_int) k_int) (ka_cons (k_bin op_mod bf_mod (k_bin op_fdivW bf_div (k_var 2) k_int) k_int) ka_nil)) (al_cons (al_cons al_nil))))) kss_nil) (kss_one (ks_ret (k_call (ok_v_law_decimal T) tk (hr.mono (by decide)) (by rfl) T.g_v_law_decimal T.F_v_law_decimal.kp T.b_v_law_decimal rfl (ka_cons (k_bin op_sub bf_sub (k_bin op_mod bf_mod (k_var 2) (k_bin op_mulA bf_mul k_int (k_bin op_pow bf_pow k_int k_int))) (k_bin op_pow bf_pow k_int k_int)) (ka_cons (k_bin op_mod bf_mod (k_bin op_fdivW bf_div (k_var 2) (k_bin op_pow bf_pow k_int k_int)) k_int) ka_nil)) (al_cons (al_cons al_nil))))))))))
theorem ok_v_law_rich (T : Txt K mg) : FnOk P w K mg base (L2.CX P w) 1 T.f_v_law_rich T.fd_v_law_rich ["cell", "k"] (spF K (ca T) 2 M_v_law_rich) :=
  k_def (N := ["cell", "k", "mixed"]) (body := B_v_law_rich) T.F_v_law_rich sc_v_law_rich (fun cdv A outer s H E hr tk po => (kss_cons (ks_if (kt_cmp op_geA bf_ge (k_var 0) (k_bin op_pow bf_pow k_int k_int) (nomark _)) (kss_one (ks_ret (k_callTy call_int1 bf_int T.m_int (ka_cons (k_var 0) ka_nil)))) kss_nil) (kss_cons (ks_set 2 sc_v_law_rich.nd (k_bin op_mod bf_mod (k_callTy call_int1 bf_int T.m_int (ka_cons (k_bin op_addA bf_add (k_bin op_addA bf_add (k_bin op_mulA bf_mul (k_var 0) k_int) (k_bin op_mulA bf_mul (k_var 1) k_int)) k_int) ka_nil)) k_int)) (kss_one (ks_ret (k_bin op_addA bf_add (k_bin op_mulA bf_mul (k_var 2) k_int) (k_bin op_mod bf_mod (k_callTy call_int1 bf_int T.m_int (ka_cons (k_bin op_addA bf_add (k_bin op_mulA bf_mul (k_var 2) k_int) (k_var 0)) ka_nil)) k_int)))))))
theorem ok_v_law_right (T : Txt K mg) : FnOk P w K mg base (L2.CX P w) 1 T.f_v_law_right T.fd_v_law_right ["actual", "above", "below", "is_rounded"] (spF K (ca T) 4 M_v_law_right) :=
  k_def (N := ["actual", "above", "below", "is_rounded", "size", "above_size", "below_size"]) (body := B_v_law_right) T.F_v_law_right sc_v_law_right (fun cdv A outer s H E hr tk po => (kss_cons (ks_if (kt_pw (kw_or (kt_not (kt_tru (k_isi "int" T.m_isinstance T.m_int (k_var 0)))) (kw_or1 (kt_tru (k_isi "bool" T.m_isinstance T.m_bool (k_var 0)))))) (kss_one (ks_ret k_bl)) kss_nil) (kss_cons (ks_set 4 sc_v_law_right.nd (k_callB call_abs bf_abs T.m_abs (ka_cons (k_var 0) ka_nil))) (kss_cons (ks_set 5 sc_v_law_right.nd (k_callB call_abs bf_abs T.m_abs (ka_cons (k_var 1) ka_nil))) (kss_cons (ks_set 6 sc_v_law_right.nd (k_callB call_abs bf_abs T.m_abs (ka_cons (k_var 2) ka_nil))) (kss_cons (ks_if (kt_pw (kw_and (kt_cmp (op_neA hr.units) bf_ne (k_var 4) k_int (nomark _)) (kw_and1 (kt_cmp (op_neA hr.units) bf_ne (k_cmp op_ltA bf_lt (k_var 0) k_int (nomark _)) (k_cmp (op_neA hr.units) bf_ne (k_cmp op_ltA bf_lt (k_var 1) k_int (nomark _)) (k_cmp op_ltA bf_lt (k_var 2) k_int (nomark _)) (nomark _)) (nomark _))))) (kss_one (ks_ret k_bl)) kss_nil) (kss_cons (ks_if (kt_not (kt_tru (k_var 3))) (kss_one (ks_ret (k_and (k_cmp op_leA bf_le (k_bin op_mulA bf_mul (k_var 4) (k_var 6)) (k_var 5) (nomark _)) (k_one (k_cmp op_ltA bf_lt (k_var 5) (k_bin op_mulA bf_mul (k_bin op_addA bf_add (k_var 4) k_int) (k_var 6)) (nomark _)))))) kss_nil) (kss_one (ks_ret (k_and (k_cmp op_leA bf_le (k_bin op_mulA bf_mul (k_bin op_sub bf_sub (k_bin op_mulA bf_mul k_int (k_var 4)) k_int) (k_var 6)) (k_bin op_mulA bf_mul k_int (k_var 5)) (nomark _)) (k_one (k_cmp op_ltA bf_lt (k_bin op_mulA bf_mul k_int (k_var 5)) (k_bin op_mulA bf_mul (k_bin op_addA bf_add (k_bin op_mulA bf_mul k_int (k_var 4)) k_int) (k_var 6)) (nomark _)))))))))))))
theorem ok_v_law_ten (T : Txt K mg) : FnOk P w K mg base (L2.CX P w) 1 T.f_v_law_ten T.fd_v_law_ten ["scale"] (spF K (ca T) 1 M_v_law_ten) :=
  k_def (N := ["scale", "result", "k"]) (body := B_v_law_ten) T.F_v_law_ten sc_v_law_ten (fun cdv A outer s H E hr tk po => (kss_cons (ks_set 1 sc_v_law_ten.nd k_int) (kss_cons (ks_for po rfl (ki_rng1 T.m_range (ka_cons (k_var 0) ka_nil)) (kg_name 2 sc_v_law_ten.nd) (kss_one (ks_set 1 sc_v_law_ten.nd (k_bin op_mulA bf_mul (k_var 1) k_int)))) (kss_one (ks_ret (k_var 1))))))
theorem ok_aligned (T : Txt K mg) : FnOk P w K mg base (L2.CX P w) 2 T.f_aligned T.fd_aligned ["number", "scale"] (spF K (ca T) 2 M_aligned) :=
  k_def (N := ["number", "scale"]) (body := B_aligned) T.F_aligned sc_aligned (fun cdv A outer s H E hr tk po => (kss_one (ks_ret (k_bin op_mulA bf_mul (k_idx (k_var 0) k_int) (k_call (ok_power T) tk (hr.mono (by decide)) (by rfl) T.g_power T.F_power.kp T.b_power rfl (ka_cons (k_bin op_sub bf_sub (k_var 1) (k_idx (k_var 0) k_int)) ka_nil) (al_cons al_nil))))))
theorem ok_units_at (T : Txt K mg) : FnOk P w K mg base (L2.CX P w) 3 T.f_units_at T.fd_units_at ["a", "scale", "is_rounded"] (spF K (ca T) 3 M_units_at) :=
  k_def (N := ["a", "scale", "is_rounded"]) (body := B_units_at) T.F_units_at sc_units_at (fun cdv A outer s H E hr tk po => (kss_cons (ks_if (kt_cmp op_leA bf_le (k_idx (k_var 0) k_int) (k_var 1) (nomark _)) (kss_one (ks_ret (k_call (ok_aligned T) tk (hr.mono (by decide)) (by rfl) T.g_aligned T.F_aligned.kp T.b_aligned rfl (ka_cons (k_var 0) (ka_cons (k_var 1) ka_nil)) (al_cons (al_cons al_nil))))) kss_nil) (kss_one (ks_ret (k_call (ok_quotient T) tk (hr.mono (by decide)) (by rfl) T.g_quotient T.F_quotient.kp T.b_quotient rfl (ka_cons (k_idx (k_var 0) k_int) (ka_cons (k_call (ok_power T) tk (hr.mono (by decide)) (by rfl) T.g_power T.F_power.kp T.b_power rfl (ka_cons (k_bin op_sub bf_sub (k_idx (k_var 0) k_int) (k_var 1)) ka_nil) (al_cons al_nil)) (ka_cons (k_var 2) ka_nil))) (al_cons (al_cons (al_cons al_nil))))))))
theorem ok_law (T : Txt K mg) : FnOk P w K mg base (L2.CX P w) 4 T.f_law T.fd_law ["script"] (spF K (ca T) 1 M_law) :=
  k_def (N := ["script", "k", "rich", "is_rounded", "below", "above", "a", "b", "scale", "actual"]) (body := B_law) T.F_law sc_law (fun cdv A outer s H E hr tk po => (kss_cons (ks_for po rfl (ki_rng1 T.m_range (ka_cons (k_callB (call_max2 rfl) bf_max2 T.m_max (ka_cons k_int (ka_cons (k_callB (call_min2 rfl) bf_min2 T.m_min (ka_cons k_int (ka_cons (k_callB call_len bf_len T.m_len (ka_cons (k_var 0) ka_nil)) ka_nil))) ka_nil))) ka_nil)) (kg_name 1 sc_law.nd) (kss_cons (ks_set 2 sc_law.nd (k_call (ok_v_law_rich T) tk (hr.mono (by decide)) (by rfl) T.g_v_law_rich T.F_v_law_rich.kp T.b_v_law_rich rfl (ka_cons (k_call (ok_v_law_cell T) tk (hr.mono (by decide)) (by rfl) T.g_v_law_cell T.F_v_law_cell.kp T.b_v_law_cell rfl (ka_cons (k_var 0) (ka_cons (k_var 1) ka_nil)) (al_cons (al_cons al_nil))) (ka_cons (k_var 1) ka_nil)) (al_cons (al_cons al_nil)))) (kss_cons (ks_set 3 sc_law.nd (k_cmp (op_eqA hr.units) bf_eq (k_bin op_mod bf_mod (k_var 2) k_int) k_int (nomark _))) (kss_cons (ks_set 4 sc_law.nd (k_bin op_sub bf_sub (k_bin op_mod bf_mod (k_bin op_fdivW bf_div (k_var 2) k_int) k_int) k_int)) (kss_cons (ks_if (kt_cmp (op_eqA hr.units) bf_eq (k_var 4) k_int (nomark _)) (kss_one (ks_set 4 sc_law.nd k_int)) kss_nil) (kss_cons (ks_set 5 sc_law.nd (k_bin op_sub bf_sub (k_bin op_mod bf_mod (k_bin op_fdivW bf_div (k_var 2) k_int) (k_bin op_pow bf_pow k_int k_int)) (k_bin op_pow bf_pow k_int k_int))) (kss_cons (ks_if (kt_cmp (op_eqA hr.units) bf_eq (k_bin op_mod bf_mod (k_var 2) k_int) k_int (nomark _)) (kss_cons (ks_set 4 sc_law.nd (k_bin op_mulA bf_mul k_int (k_var 4))) (kss_one (ks_set 5 sc_law.nd (k_bin op_mulA bf_mul (k_bin op_fdivW bf_div (k_var 4) k_int) (k_bin op_sub bf_sub (k_bin op_mod bf_mod (k_bin op_fdivW bf_div (k_var 2) k_int) k_int) k_int))))) kss_nil) (kss_cons (ks_if (kt_not (kt_tru (k_call (ok_v_law_right T) tk (hr.mono (by decide)) (by rfl) T.g_v_law_right T.F_v_law_right.kp T.b_v_law_right rfl (ka_cons (k_call (ok_quotient T) tk (hr.mono (by decide)) (by rfl) T.g_quotient T.F_quotient.kp T.b_quotient rfl (ka_cons (k_var 5) (ka_cons (k_var 4) (ka_cons (k_var 3) ka_nil))) (al_cons (al_cons (al_cons al_nil)))) (ka_cons (k_var 5) (ka_cons (k_var 4) (ka_cons (k_var 3) ka_nil)))) (al_cons (al_cons (al_cons (al_cons al_nil))))))) (kss_one (ks_ret k_bl)) kss_nil) (kss_cons (ks_set 6 sc_law.nd (k_call (ok_v_law_number T) tk (hr.mono (by decide)) (by rfl) T.g_v_law_number T.F_v_law_number.kp T.b_v_law_number rfl (ka_cons (k_bin op_fdivW bf_div (k_var 2) k_int) ka_nil) (al_cons al_nil))) (kss_cons (ks_set 7 sc_law.nd (k_call (ok_v_law_number T) tk (hr.mono (by decide)) (by rfl) T.g_v_law_number T.F_v_law_number.kp T.b_v_law_number rfl (ka_cons (k_bin op_addA bf_add (k_bin op_fdivW bf_div (k_var 2) k_int) (k_bin op_mulA bf_mul k_int (k_var 1))) ka_nil) (al_cons al_nil))) (kss_cons (ks_set 8 sc_law.nd (k_bin op_mod bf_mod (k_bin op_fdivW bf_div (k_var 2) k_int) k_int)) (kss_cons (ks_if (kt_not (kt_tru (k_call (ok_v_law_right T) tk (hr.mono (by decide)) (by rfl) T.g_v_law_right T.F_v_law_right.kp T.b_v_law_right rfl (ka_cons (k_call (ok_units_at T) tk (hr.mono (by decide)) (by rfl) T.g_units_at T.F_units_at.kp T.b_units_at rfl (ka_cons (k_var 6) (ka_cons (k_var 8) (ka_cons (k_var 3) ka_nil))) (al_cons (al_cons (al_cons al_nil)))) (ka_cons (k_bin op_mulA bf_mul (k_idx (k_var 6) k_int) (k_call (ok_v_law_ten T) tk (hr.mono (by decide)) (by rfl) T.g_v_law_ten T.F_v_law_ten.kp T.b_v_law_ten rfl (ka_cons (k_var 8) ka_nil) (al_cons al_nil))) (ka_cons (k_call (ok_v_law_ten T) tk (hr.mono (by decide)) (by rfl) T.g_v_law_ten T.F_v_law_ten.kp T.b_v_law_ten rfl (ka_cons (k_idx (k_var 6) k_int) ka_nil) (al_cons al_nil)) (ka_cons (k_var 3) ka_nil)))) (al_cons (al_cons (al_cons (al_cons al_nil))))))) (kss_one (ks_ret k_bl)) kss_nil) (kss_cons (ks_set 9 sc_law.nd (k_call (ok_v_law_divide T) tk (hr.mono (by decide)) (by rfl) T.g_v_law_divide T.F_v_law_divide.kp T.b_v_law_divide rfl (ka_cons (k_var 6) (ka_cons (k_var 7) (ka_cons (k_var 8) (ka_cons (k_var 3) ka_nil)))) (al_cons (al_cons (al_cons (al_cons al_nil)))))) (kss_one (ks_if (kt_cmp (op_eqA hr.units) bf_eq (k_idx (k_var 7) k_int) k_int (nomark _)) (kss_one (ks_if (kt_cmp (op_neA hr.units) bf_ne (k_var 9) (k_tup (ka_cons k_str (ka_cons k_bl ka_nil))) (nomark _)) (kss_one (ks_ret k_bl)) kss_nil)) (kss_one (ks_if (kt_not (kt_tru (k_call (ok_v_law_right T) tk (hr.mono (by decide)) (by rfl) T.g_v_law_right T.F_v_law_right.kp T.b_v_law_right rfl (ka_cons (k_var 9) (ka_cons (k_bin op_mulA bf_mul (k_idx (k_var 6) k_int) (k_call (ok_v_law_ten T) tk (hr.mono (by decide)) (by rfl) T.g_v_law_ten T.F_v_law_ten.kp T.b_v_law_ten rfl (ka_cons (k_bin op_addA bf_add (k_idx (k_var 7) k_int) (k_var 8)) ka_nil) (al_cons al_nil))) (ka_cons (k_bin op_mulA bf_mul (k_idx (k_var 7) k_int) (k_call (ok_v_law_ten T) tk (hr.mono (by decide)) (by rfl) T.g_v_law_ten T.F_v_law_ten.kp T.b_v_law_ten rfl (ka_cons (k_idx (k_var 6) k_int) ka_nil) (al_cons al_nil))) (ka_cons (k_var 3) ka_nil)))) (al_cons (al_cons (al_cons (al_cons al_nil))))))) (kss_one (ks_ret k_bl)) kss_nil))))))))))))))))) (kss_one (ks_ret k_bl))))
end
theorem all_mk {l : PySem.W.OpenLaw} {w : World} {K : PySem.W.Frag} {h : Heap} {mg : Str → Option Value} {fa : Addr} (X : K.In h) (G : h.Ns mainGlobals mg) (hfa : mg "law" = some (.ref fa))
    {f0 : Addr} {od0 an0 : Option Addr} {sl0 : Array (Option Value)} {oc0 kV0 dc0 pm0 cd0 ct0 : Value}
    (a0 : PySem.W.nsIn K mainGlobals "_law_cell" = some (some (.ref f0))) (l0 : K.lookup f0 = some ⟨oc0, od0, .func (PySem.W.fnOf "_law_cell" "_law_cell" (defArgs s_v_law_cell) (defBody s_v_law_cell) (defScope s_v_law_cell) .none kV0 dc0 pm0 an0 cd0 ct0), sl0⟩) (c0 : PySem.W.codeIn K cd0 "_law_cell" = true) (k0 : PySem.W.keepIn K (.ref f0) = true)
    {f1 : Addr} {od1 an1 : Option Addr} {sl1 : Array (Option Value)} {oc1 kV1 dc1 pm1 cd1 ct1 : Value}
    (a1 : PySem.W.nsIn K mainGlobals "power" = some (some (.ref f1))) (l1 : K.lookup f1 = some ⟨oc1, od1, .func (PySem.W.fnOf "power" "power" (defArgs s_power) (defBody s_power) (defScope s_power) .none kV1 dc1 pm1 an1 cd1 ct1), sl1⟩) (c1 : PySem.W.codeIn K cd1 "power" = true) (k1 : PySem.W.keepIn K (.ref f1) = true)
    {f2 : Addr} {od2 an2 : Option Addr} {sl2 : Array (Option Value)} {oc2 kV2 dc2 pm2 cd2 ct2 : Value}
    (a2 : PySem.W.nsIn K mainGlobals "quotient" = some (some (.ref f2))) (l2 : K.lookup f2 = some ⟨oc2, od2, .func (PySem.W.fnOf "quotient" "quotient" (defArgs s_quotient) (defBody s_quotient) (defScope s_quotient) .none kV2 dc2 pm2 an2 cd2 ct2), sl2⟩) (c2 : PySem.W.codeIn K cd2 "quotient" = true) (k2 : PySem.W.keepIn K (.ref f2) = true)
    {f3 : Addr} {od3 an3 : Option Addr} {sl3 : Array (Option Value)} {oc3 kV3 dc3 pm3 cd3 ct3 : Value}
    (a3 : PySem.W.nsIn K mainGlobals "divide" = some (some (.ref f3))) (l3 : K.lookup f3 = some ⟨oc3, od3, .func (PySem.W.fnOf "divide" "divide" (defArgs s_divide) (defBody s_divide) (defScope s_divide) .none kV3 dc3 pm3 an3 cd3 ct3), sl3⟩) (c3 : PySem.W.codeIn K cd3 "divide" = true) (k3 : PySem.W.keepIn K (.ref f3) = true)
    {f4 : Addr} {od4 an4 : Option Addr} {sl4 : Array (Option Value)} {oc4 kV4 dc4 pm4 cd4 ct4 : Value}
    (a4 : PySem.W.nsIn K mainGlobals "_law_divide" = some (some (.ref f4))) (l4 : K.lookup f4 = some ⟨oc4, od4, .func (PySem.W.fnOf "_law_divide" "_law_divide" (defArgs s_v_law_divide) (defBody s_v_law_divide) (defScope s_v_law_divide) .none kV4 dc4 pm4 an4 cd4 ct4), sl4⟩) (c4 : PySem.W.codeIn K cd4 "_law_divide" = true) (k4 : PySem.W.keepIn K (.ref f4) = true)
    {f5 : Addr} {od5 an5 : Option Addr} {sl5 : Array (Option Value)} {oc5 kV5 dc5 pm5 cd5 ct5 : Value}
    (a5 : PySem.W.nsIn K mainGlobals "_law_decimal" = some (some (.ref f5))) (l5 : K.lookup f5 = some ⟨oc5, od5, .func (PySem.W.fnOf "_law_decimal" "_law_decimal" (defArgs s_v_law_decimal) (defBody s_v_law_decimal) (defScope s_v_law_decimal) .none kV5 dc5 pm5 an5 cd5 ct5), sl5⟩) (c5 : PySem.W.codeIn K cd5 "_law_decimal" = true) (k5 : PySem.W.keepIn K (.ref f5) = true)
    {f6 : Addr} {od6 an6 : Option Addr} {sl6 : Array (Option Value)} {oc6 kV6 dc6 pm6 cd6 ct6 : Value}
    (a6 : PySem.W.nsIn K mainGlobals "_law_number" = some (some (.ref f6))) (l6 : K.lookup f6 = some ⟨oc6, od6, .func (PySem.W.fnOf "_law_number" "_law_number" (defArgs s_v_law_number) (defBody s_v_law_number) (defScope s_v_law_number) .none kV6 dc6 pm6 an6 cd6 ct6), sl6⟩) (c6 : PySem.W.codeIn K cd6 "_law_number" = true) (k6 : PySem.W.keepIn K (.ref f6) = true)
    {f7 : Addr} {od7 an7 : Option Addr} {sl7 : Array (Option Value)} {oc7 kV7 dc7 pm7 cd7 ct7 : Value}
    (a7 : PySem.W.nsIn K mainGlobals "_law_rich" = some (some (.ref f7))) (l7 : K.lookup f7 = some ⟨oc7, od7, .func (PySem.W.fnOf "_law_rich" "_law_rich" (defArgs s_v_law_rich) (defBody s_v_law_rich) (defScope s_v_law_rich) .none kV7 dc7 pm7 an7 cd7 ct7), sl7⟩) (c7 : PySem.W.codeIn K cd7 "_law_rich" = true) (k7 : PySem.W.keepIn K (.ref f7) = true)
    {f8 : Addr} {od8 an8 : Option Addr} {sl8 : Array (Option Value)} {oc8 kV8 dc8 pm8 cd8 ct8 : Value}
    (a8 : PySem.W.nsIn K mainGlobals "_law_right" = some (some (.ref f8))) (l8 : K.lookup f8 = some ⟨oc8, od8, .func (PySem.W.fnOf "_law_right" "_law_right" (defArgs s_v_law_right) (defBody s_v_law_right) (defScope s_v_law_right) .none kV8 dc8 pm8 an8 cd8 ct8), sl8⟩) (c8 : PySem.W.codeIn K cd8 "_law_right" = true) (k8 : PySem.W.keepIn K (.ref f8) = true)
    {f9 : Addr} {od9 an9 : Option Addr} {sl9 : Array (Option Value)} {oc9 kV9 dc9 pm9 cd9 ct9 : Value}
    (a9 : PySem.W.nsIn K mainGlobals "_law_ten" = some (some (.ref f9))) (l9 : K.lookup f9 = some ⟨oc9, od9, .func (PySem.W.fnOf "_law_ten" "_law_ten" (defArgs s_v_law_ten) (defBody s_v_law_ten) (defScope s_v_law_ten) .none kV9 dc9 pm9 an9 cd9 ct9), sl9⟩) (c9 : PySem.W.codeIn K cd9 "_law_ten" = true) (k9 : PySem.W.keepIn K (.ref f9) = true)
    {f10 : Addr} {od10 an10 : Option Addr} {sl10 : Array (Option Value)} {oc10 kV10 dc10 pm10 cd10 ct10 : Value}
    (a10 : PySem.W.nsIn K mainGlobals "aligned" = some (some (.ref f10))) (l10 : K.lookup f10 = some ⟨oc10, od10, .func (PySem.W.fnOf "aligned" "aligned" (defArgs s_aligned) (defBody s_aligned) (defScope s_aligned) .none kV10 dc10 pm10 an10 cd10 ct10), sl10⟩) (c10 : PySem.W.codeIn K cd10 "aligned" = true) (k10 : PySem.W.keepIn K (.ref f10) = true)
    {f11 : Addr} {od11 an11 : Option Addr} {sl11 : Array (Option Value)} {oc11 kV11 dc11 pm11 cd11 ct11 : Value}
    (a11 : PySem.W.nsIn K mainGlobals "units_at" = some (some (.ref f11))) (l11 : K.lookup f11 = some ⟨oc11, od11, .func (PySem.W.fnOf "units_at" "units_at" (defArgs s_units_at) (defBody s_units_at) (defScope s_units_at) .none kV11 dc11 pm11 an11 cd11 ct11), sl11⟩) (c11 : PySem.W.codeIn K cd11 "units_at" = true) (k11 : PySem.W.keepIn K (.ref f11) = true)
    {f12 : Addr} {od12 an12 : Option Addr} {sl12 : Array (Option Value)} {oc12 kV12 dc12 pm12 cd12 ct12 : Value}
    (a12 : PySem.W.nsIn K mainGlobals "law" = some (some (.ref f12))) (l12 : K.lookup f12 = some ⟨oc12, od12, .func (PySem.W.fnOf "law" "law" (defArgs s_law) (defBody s_law) (defScope s_law) .none kV12 dc12 pm12 an12 cd12 ct12), sl12⟩) (c12 : PySem.W.codeIn K cd12 "law" = true) (k12 : PySem.W.keepIn K (.ref f12) = true)
    (z0 : PySem.W.nsIn K mainGlobals "abs" = some none)
    (z1 : PySem.W.nsIn K mainGlobals "bool" = some none)
    (z2 : PySem.W.nsIn K mainGlobals "int" = some none)
    (z3 : PySem.W.nsIn K mainGlobals "isinstance" = some none)
    (z4 : PySem.W.nsIn K mainGlobals "len" = some none)
    (z5 : PySem.W.nsIn K mainGlobals "max" = some none)
    (z6 : PySem.W.nsIn K mainGlobals "min" = some none)
    (z7 : PySem.W.nsIn K mainGlobals "range" = some none)
    {cc0 : Addr} (nc0 : PySem.W.nsIn K mainGlobals "BadDecimal" = some (some (.ref cc0)))
    (xF0 : PySem.W.excIn K cc0 [.type "ValueError", .type "Exception", .type "BaseException", .type "object"] "ValueError.__new__" = true) (kF0 : PySem.W.keepIn K (.ref cc0) = true)
    (bF0 : PySem.W.subIn K (.ref cc0) (.type "BaseException") = some true) (tF0 : PySem.W.typeIn K (.ref cc0) = some (.type "type"))
    (dF0 : PySem.W.hasDictIn K cc0 = true)
    (ga0 : PySem.W.findIn K (.ref cc0) "__getattribute__" = some (some (.builtin "BaseException.__getattribute__"))) (gk0 : PySem.W.findIn K (.ref cc0) "__getattr__" = some none) (gc0 : PySem.W.findIn K (.ref cc0) "__class__" = some (some (.builtin "object.__class__"))) (mo0 : PySem.W.mroIn K cc0 (.type "object") = some true)
    {cc1 : Addr} (nc1 : PySem.W.nsIn K mainGlobals "CardError" = some (some (.ref cc1)))
    (bF1 : PySem.W.subIn K (.ref cc1) (.type "BaseException") = some true) (tF1 : PySem.W.typeIn K (.ref cc1) = some (.type "type"))
    (dF1 : PySem.W.hasDictIn K cc1 = true)
    (sn0 : PySem.W.specialIn K (.builtin "object.__class__") "__get__" = some (some (.builtin "getset_descriptor.__get__"))) (st0 : PySem.W.takesIn K (.builtin "object.__class__") = some true)
    (su0x1 : PySem.W.subIn K (.ref cc0) (.ref cc1) = some true)
    (ki0x0 : PySem.W.kitOne K (.ref cc0) (.ref cc0) = some true)
    : ∃ fd : FuncData, (∀ (s : Shared) (v : Value), BindsTo s fd ⟨[v], []⟩ [("script", v)]) ∧ ∀ base : Heap, K.In base → base.Ns mainGlobals mg → FnOk l.prog w K mg base (L2.CX l.prog w) 4 fa fd ["script"] (spO K 1 M_law) := by
  have e := hfa.symm.trans (PySem.W.mg_of X G a12)
  cases e
  have F0 := fun_mk (st := s_v_law_cell) l0 c0 k0
  have F1 := fun_mk (st := s_power) l1 c1 k1
  have F2 := fun_mk (st := s_quotient) l2 c2 k2
  have F3 := fun_mk (st := s_divide) l3 c3 k3
  have F4 := fun_mk (st := s_v_law_divide) l4 c4 k4
  have F5 := fun_mk (st := s_v_law_decimal) l5 c5 k5
  have F6 := fun_mk (st := s_v_law_number) l6 c6 k6
  have F7 := fun_mk (st := s_v_law_rich) l7 c7 k7
  have F8 := fun_mk (st := s_v_law_right) l8 c8 k8
  have F9 := fun_mk (st := s_v_law_ten) l9 c9 k9
  have F10 := fun_mk (st := s_aligned) l10 c10 k10
  have F11 := fun_mk (st := s_units_at) l11 c11 k11
  have F12 := fun_mk (st := s_law) l12 c12 k12
  let T : Txt K mg := {
    f_v_law_cell := f0,
    fd_v_law_cell := _,
    F_v_law_cell := F0,
    g_v_law_cell := PySem.W.mg_of X G a0,
    b_v_law_cell := (F0.binds (ps := ["script", "k"]) (fun _ _ _ _ _ _ us hl => match us, hl with | [_, _], _ => rfl)),
    f_power := f1,
    fd_power := _,
    F_power := F1,
    g_power := PySem.W.mg_of X G a1,
    b_power := (F1.binds (ps := ["exponent"]) (fun _ _ _ _ _ _ us hl => match us, hl with | [_], _ => rfl)),
    f_quotient := f2,
    fd_quotient := _,
    F_quotient := F2,
    g_quotient := PySem.W.mg_of X G a2,
    b_quotient := (F2.binds (ps := ["above", "below", "is_rounded"]) (fun _ _ _ _ _ _ us hl => match us, hl with | [_, _, _], _ => rfl)),
    f_divide := f3,
    fd_divide := _,
    F_divide := F3,
    g_divide := PySem.W.mg_of X G a3,
    b_divide := (F3.binds (ps := ["a", "b", "scale", "is_rounded"]) (fun _ _ _ _ _ _ us hl => match us, hl with | [_, _, _, _], _ => rfl)),
    f_v_law_divide := f4,
    fd_v_law_divide := _,
    F_v_law_divide := F4,
    g_v_law_divide := PySem.W.mg_of X G a4,
    b_v_law_divide := (F4.binds (ps := ["a", "b", "scale", "is_rounded"]) (fun _ _ _ _ _ _ us hl => match us, hl with | [_, _, _, _], _ => rfl)),
    f_v_law_decimal := f5,
    fd_v_law_decimal := _,
    F_v_law_decimal := F5,
    g_v_law_decimal := PySem.W.mg_of X G a5,
    b_v_law_decimal := (F5.binds (ps := ["units", "scale"]) (fun _ _ _ _ _ _ us hl => match us, hl with | [_, _], _ => rfl)),
    f_v_law_number := f6,
    fd_v_law_number := _,
    F_v_law_number := F6,
    g_v_law_number := PySem.W.mg_of X G a6,
    b_v_law_number := (F6.binds (ps := ["rich"]) (fun _ _ _ _ _ _ us hl => match us, hl with | [_], _ => rfl)),
    f_v_law_rich := f7,
    fd_v_law_rich := _,
    F_v_law_rich := F7,
    g_v_law_rich := PySem.W.mg_of X G a7,
    b_v_law_rich := (F7.binds (ps := ["cell", "k"]) (fun _ _ _ _ _ _ us hl => match us, hl with | [_, _], _ => rfl)),
    f_v_law_right := f8,
    fd_v_law_right := _,
    F_v_law_right := F8,
    g_v_law_right := PySem.W.mg_of X G a8,
    b_v_law_right := (F8.binds (ps := ["actual", "above", "below", "is_rounded"]) (fun _ _ _ _ _ _ us hl => match us, hl with | [_, _, _, _], _ => rfl)),
    f_v_law_ten := f9,
    fd_v_law_ten := _,
    F_v_law_ten := F9,
    g_v_law_ten := PySem.W.mg_of X G a9,
    b_v_law_ten := (F9.binds (ps := ["scale"]) (fun _ _ _ _ _ _ us hl => match us, hl with | [_], _ => rfl)),
    f_aligned := f10,
    fd_aligned := _,
    F_aligned := F10,
    g_aligned := PySem.W.mg_of X G a10,
    b_aligned := (F10.binds (ps := ["number", "scale"]) (fun _ _ _ _ _ _ us hl => match us, hl with | [_, _], _ => rfl)),
    f_units_at := f11,
    fd_units_at := _,
    F_units_at := F11,
    g_units_at := PySem.W.mg_of X G a11,
    b_units_at := (F11.binds (ps := ["a", "scale", "is_rounded"]) (fun _ _ _ _ _ _ us hl => match us, hl with | [_, _, _], _ => rfl)),
    f_law := fa,
    fd_law := _,
    F_law := F12,
    g_law := PySem.W.mg_of X G a12,
    b_law := (F12.binds (ps := ["script"]) (fun _ _ _ _ _ _ us hl => match us, hl with | [_], _ => rfl)),
    m_abs := PySem.W.mg_none_of X G z0,
    m_bool := PySem.W.mg_none_of X G z1,
    m_int := PySem.W.mg_none_of X G z2,
    m_isinstance := PySem.W.mg_none_of X G z3,
    m_len := PySem.W.mg_none_of X G z4,
    m_max := PySem.W.mg_none_of X G z5,
    m_min := PySem.W.mg_none_of X G z6,
    m_range := PySem.W.mg_none_of X G z7,
    C_BadDecimal := cc0,
    cg_BadDecimal := PySem.W.mg_of X G nc0,
    C_CardError := cc1,
    cg_CardError := PySem.W.mg_of X G nc1,
    xr_BadDecimal := ⟨xF0, kF0, bF0, tF0⟩,
    ex_BadDecimal_CardError := exm_of bF1 dF1 tF1 su0x1,
    ec_BadDecimal := ⟨ga0, gk0, bF0, dF0, gc0, sn0, st0, mo0⟩,
    kt_BadDecimal_BadDecimal := ki0x0 }
  exact ⟨PySem.W.fnOf "law" "law" (defArgs s_law) (defBody s_law) (defScope s_law) .none kV12 dc12 pm12 an12 cd12 ct12, fun s v => .of_eq rfl, fun base _ _ => (ok_law T).imp spO_of⟩
theorem walk {l : PySem.W.OpenLaw} {q : Program} {loose : List Str} {XP : (Str → Option Value) → Heap → Prop} {YP : World → Heap → Prop} {d : DefRec} {K : Params → PySem.W.Frag} (hn : l.most = some 63) (hdf : d.params.defaults = [])
    (hY : ∀ (w : World) (h : Heap), YP w h → (K w.params).In h)
    (F : ∀ (w : World) (mg : Str → Option Value) (fa : Addr) (h : Heap), (K w.params).In h → h.Ns mainGlobals mg → mg d.name = some (.ref fa) →
      ∃ fd : FuncData, (∀ (s : Shared) (u : Value), BindsTo s fd ⟨[u], []⟩ [("script", u)]) ∧ ∀ base : Heap, (K w.params).In base → base.Ns mainGlobals mg → FnOk l.prog w (K w.params) mg base (L2.CX l.prog w) 4 fa fd ["script"] (spO (K w.params) 1 M_law))
    (hlaw : ∀ ns : List Int, ns.length ≤ 63 → ∃ h, M_law [.fl (ns.map .int)] [] = .ok (.bl true) h) :
    PySem.W.WalkO q loose XP YP l.row.toRowW d [] (fun f vs => PySem.call f vs) := by
  refine L2.walk_of (n := 63) (k := 4) (x := "script") (CX := fun w => L2.CX l.prog w) (sp := fun w => spO (K w.params) 1 M_law) hn (by decide) hdf ⟨rfl, by decide, by decide⟩ hY F (fun w H a ns hl hO hS => ?_) (fun w H s e s' h => ?_)
  · obtain ⟨h, e⟩ := hlaw ns hl
    exact law_spO hO hS e
  · exact cx_no h
end Ok

set_option Elab.async false
open PySem PySem.W PyProof.Rows in
set_option maxRecDepth 100000 in
set_option maxHeartbeats 0 in
theorem PySem.Challenge.cw_cardhouse_k03_cutting_and_rounding_holds : PySem.Challenge.rw_cardhouse_k03_cutting_and_rounding.Holds := by
  w_on; o_law; k_head; (case hw => w_witness2)
  k_fill
  refine Ok.walk (l := PySem.Challenge.rw_cardhouse_k03_cutting_and_rounding) rfl rfl (fun w h Y => PySem.W.kIn_of Y) ?F Law.law_true
  case F =>
    intro w mg fa h KX G hmg
    refine' Ok.all_mk KX G hmg ?a0 ?l0 ?c0 ?k0 ?a1 ?l1 ?c1 ?k1 ?a2 ?l2 ?c2 ?k2 ?a3 ?l3 ?c3 ?k3 ?a4 ?l4 ?c4 ?k4 ?a5 ?l5 ?c5 ?k5 ?a6 ?l6 ?c6 ?k6 ?a7 ?l7 ?c7 ?k7 ?a8 ?l8 ?c8 ?k8 ?a9 ?l9 ?c9 ?k9 ?a10 ?l10 ?c10 ?k10 ?a11 ?l11 ?c11 ?k11 ?a12 ?l12 ?c12 ?k12 ?z0 ?z1 ?z2 ?z3 ?z4 ?z5 ?z6 ?z7 ?nc0 ?xF0 ?kF0 ?bF0 ?tF0 ?dF0 ?ga0 ?gk0 ?gc0 ?mo0 ?nc1 ?bF1 ?tF1 ?dF1 ?sn0 ?st0 ?su0x1 ?ki0x0
    (case a0 => k_is)
    (case l0 => k_is)
    (case c0 => k_is)
    (case k0 => k_is)
    (case a1 => k_is)
    (case l1 => k_is)
    (case c1 => k_is)
    (case k1 => k_is)
    (case a2 => k_is)
    (case l2 => k_is)
    (case c2 => k_is)
    (case k2 => k_is)
    (case a3 => k_is)
    (case l3 => k_is)
    (case c3 => k_is)
    (case k3 => k_is)
    (case a4 => k_is)
    (case l4 => k_is)
    (case c4 => k_is)
    (case k4 => k_is)
    (case a5 => k_is)
    (case l5 => k_is)
    (case c5 => k_is)
    (case k5 => k_is)
    (case a6 => k_is)
    (case l6 => k_is)
    (case c6 => k_is)
    (case k6 => k_is)
    (case a7 => k_is)
    (case l7 => k_is)
    (case c7 => k_is)
    (case k7 => k_is)
    (case a8 => k_is)
    (case l8 => k_is)
    (case c8 => k_is)
    (case k8 => k_is)
    (case a9 => k_is)
    (case l9 => k_is)
    (case c9 => k_is)
    (case k9 => k_is)
    (case a10 => k_is)
    (case l10 => k_is)
    (case c10 => k_is)
    (case k10 => k_is)
    (case a11 => k_is)
    (case l11 => k_is)
    (case c11 => k_is)
    (case k11 => k_is)
    (case a12 => k_is)
    (case l12 => k_is)
    (case c12 => k_is)
    (case k12 => k_is)
    (case z0 => k_is)
    (case z1 => k_is)
    (case z2 => k_is)
    (case z3 => k_is)
    (case z4 => k_is)
    (case z5 => k_is)
    (case z6 => k_is)
    (case z7 => k_is)
    (case nc0 => k_is)
    (case xF0 => k_exc)
    (case kF0 => k_is)
    (case bF0 => k_is)
    (case tF0 => k_is)
    (case dF0 => k_is)
    (case ga0 => k_is)
    (case gk0 => k_is)
    (case gc0 => k_is)
    (case mo0 => k_is)
    (case nc1 => k_is)
    (case bF1 => k_is)
    (case tF1 => k_is)
    (case dF1 => k_is)
    (case sn0 => k_is)
    (case st0 => k_is)
    (case su0x1 => first | k_is | rfl | decide +kernel)
    (case ki0x0 => first | k_is | rfl | decide +kernel)
#print axioms PySem.Challenge.cw_cardhouse_k03_cutting_and_rounding_holds

