import PyProof.Rows.All
import Wide.All
import OpenK.AllK
import Wide.FinOn
import HandS.ForMost
import HandS.ForExc
import HandS.IsInst
import HandS.Wide
import HandS.Flow
import HandS.ExcOwn
import HandS.Zip
import HandS.TupAny
import KE.GoesEnum
import KE.GoesMore
import HandS.StrMore
import HandS.ExcIs
import HandS.TryOnly
import HandS.SortInts
import HandS.Codes
import HandS.Style
import HandS.Iter
import HandS.Dict
import HandS.Small
import HandS.More
import HandS.Replace
import HandS.ReplaceLit
import PyProof.StrLawsIn
import Wide.Txt
import HandS.FStr
import HandS.Deep
import PySem.Challenge.RW_cardhouse_k11_texts_of_pictures
set_option Elab.async false
/-! CdCore: a small functional reading of the Python that the laws use: values, a heap of lists, results, combinators. No program in sight. -/
namespace Cd
noncomputable section
open Classical

/-- a value: tuples lie inline, a list (a dict, an instance) is a place of the heap -/
inductive Val where
  | non | bl (b : Bool) | int (i : Int) | str (s : List Nat) | tup (l : List Val) | fl (l : List Val) | ref (n : Nat) | exo (a : Nat)

/-- what stands at a place: a list, a dict, an instance; a list that is only read lies inline (fl) -/
inductive Obj where
  | lst (l : List Val)
  | dct (l : List (Val × Val))
  | ins (c : String) (fs : List (String × Val))

abbrev Hep := List Obj
/-- a written text -/
def S (s : String) : List Nat := s.toList.map Char.toNat
/-- an exception: its class, its arguments (fields) -/
structure Exc where
  cls : String
  args : List Val

inductive Res (α : Type) where
  | ok (a : α) (h : Hep)
  | exc (e : Exc) (h : Hep)
  | stuck

def Res.bind {α β : Type} (r : Res α) (f : α → Hep → Res β) : Res β :=
  match r with
  | .ok a h => f a h
  | .exc e h => .exc e h
  | .stuck => .stuck
@[simp] theorem Res.bind_ok {α β : Type} (a : α) (h : Hep) (f : α → Hep → Res β) : (Res.ok a h).bind f = f a h := id rfl
@[simp] theorem Res.bind_exc {α β : Type} (e : Exc) (h : Hep) (f : α → Hep → Res β) : (Res.exc e h : Res α).bind f = .exc e h := id rfl
@[simp] theorem Res.bind_stuck {α β : Type} (f : α → Hep → Res β) : (Res.stuck : Res α).bind f = .stuck := id rfl

abbrev Env := List (Option Val)
abbrev EM := Env → Hep → Res Val
abbrev TM := Env → Hep → Res Bool
abbrev AM := Env → Hep → Res (List Val)
abbrev Fn := List Val → Hep → Res Val

/-- how a statement ends -/
inductive SR where
  | nx (η : Env) (h : Hep)
  | brk (η : Env) (h : Hep)
  | cont (η : Env) (h : Hep)
  | ret (v : Val) (h : Hep)
  | exc (e : Exc) (η : Env) (h : Hep)
  | stuck
abbrev SM := Env → Hep → SR
def SR.bind (r : SR) (f : Env → Hep → SR) : SR :=
  match r with
  | .nx η h => f η h
  | r => r
@[simp] theorem SR.bind_nx (η : Env) (h : Hep) (f : Env → Hep → SR) : (SR.nx η h).bind f = f η h := id rfl
@[simp] theorem SR.bind_brk (η : Env) (h : Hep) (f : Env → Hep → SR) : (SR.brk η h).bind f = .brk η h := id rfl
@[simp] theorem SR.bind_cont (η : Env) (h : Hep) (f : Env → Hep → SR) : (SR.cont η h).bind f = .cont η h := id rfl
@[simp] theorem SR.bind_ret (v : Val) (h : Hep) (f : Env → Hep → SR) : (SR.ret v h).bind f = .ret v h := id rfl
@[simp] theorem SR.bind_exc (e : Exc) (η : Env) (h : Hep) (f : Env → Hep → SR) : (SR.exc e η h).bind f = .exc e η h := id rfl
@[simp] theorem SR.bind_stuck (f : Env → Hep → SR) : SR.stuck.bind f = .stuck := id rfl
/-- an expression's result within a statement -/
def Res.thn {α : Type} (r : Res α) (η : Env) (f : α → Hep → SR) : SR :=
  match r with
  | .ok a h => f a h
  | .exc e h => .exc e η h
  | .stuck => .stuck
@[simp] theorem Res.thn_ok {α : Type} (a : α) (h : Hep) (η : Env) (f : α → Hep → SR) : (Res.ok a h).thn η f = f a h := id rfl
@[simp] theorem Res.thn_exc {α : Type} (e : Exc) (h : Hep) (η : Env) (f : α → Hep → SR) : (Res.exc e h : Res α).thn η f = .exc e η h := id rfl
@[simp] theorem Res.thn_stuck {α : Type} (η : Env) (f : α → Hep → SR) : (Res.stuck : Res α).thn η f = .stuck := id rfl

/-- a choice that may be missing -/
def ofO {α : Type} (o : Option α) (h : Hep) : Res α :=
  match o with
  | some a => .ok a h
  | none => .stuck
@[simp] theorem ofO_some {α : Type} (a : α) (h : Hep) : ofO (some a) h = .ok a h := id rfl
@[simp] theorem ofO_none {α : Type} (h : Hep) : ofO (none : Option α) h = .stuck := id rfl

/-! ### expressions -/
def eVar (i : Nat) : EM := fun η h => match η[i]? with | some (some v) => .ok v h | _ => .stuck
def eC (v : Val) : EM := fun _ h => .ok v h
/-- an operator on two values that makes no object -/
def eBin (f : Hep → Val → Val → Option Val) (a b : EM) : EM := fun η h => (a η h).bind fun x h1 => (b η h1).bind fun y h2 => ofO (f h2 x y) h2
def eUn (f : Hep → Val → Option Val) (a : EM) : EM := fun η h => (a η h).bind fun x h1 => ofO (f h1 x) h1
def aNil : AM := fun _ h => .ok [] h
def aCons (a : EM) (r : AM) : AM := fun η h => (a η h).bind fun x h1 => (r η h1).bind fun xs h2 => .ok (x :: xs) h2
/-- the largest size of a list, a tuple, a text -/
def line : Nat := Classical.choose (⟨16777216, rfl⟩ : ∃ n : Nat, n = 16777216)
theorem line_is : line = 16777216 := Classical.choose_spec (⟨16777216, rfl⟩ : ∃ n : Nat, n = 16777216)
def szOk (n : Nat) : Prop := n ≤ line
def eTup (a : AM) : EM := fun η h => (a η h).bind fun xs h1 => if szOk xs.length then .ok (.tup xs) h1 else .stuck
def eLst (a : AM) : EM := fun η h => (a η h).bind fun xs h1 => if szOk xs.length then .ok (.ref h1.length) (h1 ++ [.lst xs]) else .stuck
/-- a def, or a built-in function, of the argument list -/
def eCall (F : Fn) (a : AM) : EM := fun η h => (a η h).bind fun xs h1 => F xs h1
def eIf (c : TM) (a b : EM) : EM := fun η h => (c η h).bind fun k h1 => if k then a η h1 else b η h1
/-- x and y, x or y, as values: all but the last are truths -/
def eAnd (a b : EM) : EM := fun η h => (a η h).bind fun x h1 => match x with | .bl true => b η h1 | .bl false => .ok (.bl false) h1 | _ => .stuck
def eOr (a b : EM) : EM := fun η h => (a η h).bind fun x h1 => match x with | .bl true => .ok (.bl true) h1 | .bl false => b η h1 | _ => .stuck
def eNot (a : EM) : EM := fun η h => (a η h).bind fun x h1 => match x with | .bl k => .ok (.bl (!k)) h1 | _ => .stuck

/-! ### tests -/
def tVal (a : EM) : TM := fun η h => (a η h).bind fun x h1 => match x with | .bl k => .ok k h1 | _ => .stuck
def tAnd (a b : TM) : TM := fun η h => (a η h).bind fun k h1 => if k then b η h1 else .ok false h1
def tOr (a b : TM) : TM := fun η h => (a η h).bind fun k h1 => if k then .ok true h1 else b η h1
def tNot (a : TM) : TM := fun η h => (a η h).bind fun k h1 => .ok (!k) h1
/-- the truth of a value -/
def truth (h : Hep) : Val → Option Bool
  | .non => some false
  | .bl k => some k
  | .int i => some (i != 0)
  | .str s => if szOk s.length then some (s.length != 0) else none
  | .tup l => some (!l.isEmpty)
  | .fl l => some (!l.isEmpty)
  | .ref n => match h[n]? with
    | some (.lst l) => some (!l.isEmpty)
    | some (.dct l) => some (!l.isEmpty)
    | _ => none
  | .exo _ => none
def tTru (a : EM) : TM := fun η h => (a η h).bind fun x h1 => ofO (truth h1 x) h1

/-! ### operators -/
def mulOk (i j : Int) : Prop := (-(2 ^ 64) < i ∧ i < 2 ^ 64) ∨ (-(2 ^ 64) < j ∧ j < 2 ^ 64) ∨ i.natAbs.log2 + j.natAbs.log2 < 1000000
def divOk (j : Int) : Prop := 0 < j ∧ j.natAbs.log2 < 9000
def powOk (i j : Int) : Prop := 0 ≤ j ∧ j ≤ 1000000 ∧ i.natAbs < 2 ^ 64
def mdOk (j : Int) : Prop := 0 < j
def oAdd (_ : Hep) : Val → Val → Option Val
  | .int i, .int j => some (.int (i + j))
  | .str s, .str t => if szOk (s.length + t.length) then some (.str (s ++ t)) else none
  | .tup l, .tup m => if l.isEmpty then none else if szOk (l.length + m.length) then some (.tup (l ++ m)) else none
  | _, _ => none
/-- += of integers, of texts -/
def oIAdd (_ : Hep) : Val → Val → Option Val
  | .int i, .int j => some (.int (i + j))
  | .str s, .str t => if szOk (s.length + t.length) then some (.str (s ++ t)) else none
  | _, _ => none
def oSub (_ : Hep) : Val → Val → Option Val
  | .int i, .int j => some (.int (i - j))
  | _, _ => none
def oMul (_ : Hep) : Val → Val → Option Val
  | .int i, .int j => if mulOk i j then some (.int (i * j)) else none
  | _, _ => none
def oDiv (_ : Hep) : Val → Val → Option Val
  | .int i, .int j => if divOk j then some (.int (i / j)) else none
  | _, _ => none
def oMod (_ : Hep) : Val → Val → Option Val
  | .int i, .int j => if mdOk j then some (.int (i % j)) else none
  | _, _ => none
def oPow (_ : Hep) : Val → Val → Option Val
  | .int i, .int j => if powOk i j then some (.int (i ^ j.toNat)) else none
  | _, _ => none
def oNeg (_ : Hep) : Val → Option Val
  | .int i => some (.int (-i))
  | _ => none
def oLt (_ : Hep) : Val → Val → Option Val
  | .int i, .int j => some (.bl (decide (i < j)))
  | .str s, .str t => some (.bl (decide (s < t)))
  | _, _ => none
def oLe (_ : Hep) : Val → Val → Option Val
  | .int i, .int j => some (.bl (decide (i ≤ j)))
  | .str s, .str t => some (.bl (!decide (t < s)))
  | _, _ => none
def oGt (_ : Hep) : Val → Val → Option Val
  | .int i, .int j => some (.bl (decide (j < i)))
  | .str s, .str t => some (.bl (decide (t < s)))
  | _, _ => none
def oGe (_ : Hep) : Val → Val → Option Val
  | .int i, .int j => some (.bl (decide (j ≤ i)))
  | .str s, .str t => some (.bl (!decide (s < t)))
  | _, _ => none
/-- data: a value with all that lies in it -/
inductive Dat where
  | non | bl (b : Bool) | int (i : Int) | str (s : List Nat) | lst (l : List Dat) | tup (l : List Dat)
mutual
def Dat.eqv : Dat → Dat → Bool
  | .non, .non => true
  | .bl a, .bl b => a == b
  | .bl a, .int j => (if a then 1 else 0) == j
  | .int i, .bl b => i == (if b then 1 else 0)
  | .int i, .int j => i == j
  | .str s, .str t => s == t
  | .lst l, .lst m => Dat.eqvs l m
  | .tup l, .tup m => Dat.eqvs l m
  | _, _ => false
def Dat.eqvs : List Dat → List Dat → Bool
  | [], [] => true
  | a :: l, b :: m => Dat.eqv a b && Dat.eqvs l m
  | _, _ => false
end
/-- characters that there are -/
def chOk (s : List Nat) : Prop := ∀ c ∈ s, c < 1114112
mutual
/-- the data of a value, at most n deep -/
def rsl (h : Hep) : Nat → Val → Option Dat
  | _, .non => some .non
  | _, .bl b => some (.bl b)
  | _, .int i => some (.int i)
  | _, .str s => if chOk s then some (.str s) else none
  | 0, _ => none
  | n + 1, .tup l => (rsls h n l).map .tup
  | n + 1, .fl l => (rsls h n l).map .lst
  | n + 1, .ref a => match h[a]? with
    | some (.lst l) => (rsls h n l).map .lst
    | _ => none
  | _ + 1, .exo _ => none
def rsls (h : Hep) (n : Nat) : List Val → Option (List Dat)
  | [] => some []
  | v :: l => match rsl h n v with
    | some d => (rsls h n l).map (d :: ·)
    | none => none
end

/-- == of data -/
def scl : Val → Val → Option Bool
  | .int i, .int j => some (i == j)
  | .str s, .str t => some (s == t)
  | .bl a, .bl b => some (a == b)
  | .non, .non => some true
  | .non, .int _ => some false
  | .non, .bl _ => some false
  | .non, .str _ => some false
  | .int _, .non => some false
  | .bl _, .non => some false
  | .str _, .non => some false
  | .int _, .str _ => some false
  | .str _, .int _ => some false
  | .bl _, .str _ => some false
  | .str _, .bl _ => some false
  | _, _ => none
def vEq (h : Hep) (a b : Val) : Option Bool :=
  match scl a b with
  | some k => some k
  | none => match rsl h 40 a, rsl h 40 b with
    | some x, some y => some (x.eqv y)
    | _, _ => none
def oEq (h : Hep) (a b : Val) : Option Val := (vEq h a b).map .bl
def oNe (h : Hep) (a b : Val) : Option Val := (vEq h a b).map fun k => .bl (!k)
def isNon : Val → Bool
  | .non => true
  | _ => false
def oIsN (_ : Hep) (a b : Val) : Option Val := match b with | .non => some (.bl (isNon a)) | _ => none
def oNotN (_ : Hep) (a b : Val) : Option Val := match b with | .non => some (.bl (!isNon a)) | _ => none
/-- the place of a subscript -/
def ixN (n : Nat) (i : Int) : Option Nat := if 0 ≤ i then (if i < n then some i.toNat else none) else if -(n : Int) ≤ i then some (i + n).toNat else none
def atI {α : Type} (xs : List α) (i : Int) : Option α := (ixN xs.length i).bind fun j => xs[j]?
def oIdx (h : Hep) : Val → Val → Option Val
  | .tup l, .int i => atI l i
  | .fl l, .int i => atI l i
  | .str s, .int i => if szOk s.length then (atI s i).map fun c => .str [c] else none
  | .ref n, .int i => match h[n]? with
    | some (.lst l) => atI l i
    | _ => none
  | _, _ => none
/-! ### statements -/
def sNop : SM := fun η h => .nx η h
def sBrk : SM := fun η h => .brk η h
def sCont : SM := fun η h => .cont η h
def sSeq (a b : SM) : SM := fun η h => (a η h).bind fun η1 h1 => b η1 h1
def sSet (i : Nat) (e : EM) : SM := fun η h => (e η h).thn η fun v h1 => .nx (η.set i (some v)) h1
def sExpr (e : EM) : SM := fun η h => (e η h).thn η fun _ h1 => .nx η h1
def sRet (e : EM) : SM := fun η h => (e η h).thn η fun v h1 => .ret v h1
def sRetN : SM := fun _ h => .ret .non h
def sIf (c : TM) (a b : SM) : SM := fun η h => (c η h).thn η fun k h1 => if k then a η h1 else b η h1
def sAug (i : Nat) (f : Hep → Val → Val → Option Val) (e : EM) : SM := fun η h => match η[i]? with
  | some (some x) => (e η h).thn η fun y h1 => (ofO (f h1 x y) h1).thn η fun z h2 => .nx (η.set i (some z)) h2
  | _ => .stuck
/-- n turns of a while at most -/
def whileN (c : TM) (b : SM) : Nat → Env → Hep → SR
  | 0, _, _ => .stuck
  | n + 1, η, h => (c η h).thn η fun k h1 => if k then
      match b η h1 with
      | .nx η' h' => whileN c b n η' h'
      | .cont η' h' => whileN c b n η' h'
      | .brk η' h' => .nx η' h'
      | r => r
    else .nx η h1
def sWhile (c : TM) (b : SM) : SM := fun η h => if q : ∃ n, whileN c b n η h ≠ .stuck then whileN c b q.choose η h else .stuck
theorem whileN_mono {c : TM} {b : SM} : ∀ (n : Nat) (η : Env) (h : Hep), whileN c b n η h ≠ .stuck → whileN c b (n + 1) η h = whileN c b n η h
  | 0, η, h, q => absurd rfl q
  | n + 1, η, h, q => by
    rw [whileN] at q ⊢
    rw [whileN]
    cases ec : c η h with
    | ok k h1 =>
      rw [ec] at q
      simp only [Res.thn_ok] at q ⊢
      cases k with
      | false => rfl
      | true =>
        simp only [if_true] at q ⊢
        cases eb : b η h1 with
        | nx η' h' => rw [eb] at q; simp only at q ⊢; exact whileN_mono n η' h' q
        | cont η' h' => rw [eb] at q; simp only at q ⊢; exact whileN_mono n η' h' q
        | brk η' h' => rfl
        | ret v h' => rfl
        | exc e η' h' => rfl
        | stuck => rfl
    | exc e h1 => rfl
    | stuck => rfl
theorem whileN_le {c : TM} {b : SM} {η : Env} {h : Hep} {n m : Nat} (q : whileN c b n η h ≠ .stuck) (l : n ≤ m) : whileN c b m η h = whileN c b n η h := by
  induction l with
  | refl => rfl
  | step l ih => rw [whileN_mono _ _ _ (by rw [ih]; exact q), ih]
theorem sWhile_of {c : TM} {b : SM} {η : Env} {h : Hep} {n : Nat} (q : whileN c b n η h ≠ .stuck) : sWhile c b η h = whileN c b n η h := by
  have e : ∃ n, whileN c b n η h ≠ .stuck := ⟨n, q⟩
  unfold sWhile
  rw [dif_pos e]
  rcases Nat.le_total n e.choose with l | l
  · exact whileN_le q l
  · exact (whileN_le e.choose_spec l).symm
theorem sWhile_stuck {c : TM} {b : SM} {η : Env} {h : Hep} (q : ¬ ∃ n, whileN c b n η h ≠ .stuck) : sWhile c b η h = .stuck := by
  unfold sWhile
  rw [dif_neg q]
/-- one turn of a while -/
theorem sWhile_eq (c : TM) (b : SM) (η : Env) (h : Hep) : sWhile c b η h = (c η h).thn η fun k h1 => if k then
      match b η h1 with
      | .nx η' h' => sWhile c b η' h'
      | .cont η' h' => sWhile c b η' h'
      | .brk η' h' => .nx η' h'
      | r => r
    else .nx η h1 := by
  by_cases q : ∃ n, whileN c b n η h ≠ .stuck
  · obtain ⟨n, q⟩ := q
    rw [sWhile_of q]
    cases n with
    | zero => exact absurd rfl q
    | succ n =>
      rw [whileN] at q ⊢
      cases ec : c η h with
      | ok k h1 =>
        rw [ec] at q
        simp only [Res.thn_ok] at q ⊢
        cases k with
        | false => rfl
        | true =>
          simp only [if_true] at q ⊢
          cases eb : b η h1 with
          | nx η' h' => rw [eb] at q; simp only at q ⊢; exact (sWhile_of q).symm
          | cont η' h' => rw [eb] at q; simp only at q ⊢; exact (sWhile_of q).symm
          | brk η' h' => rfl
          | ret v h' => rfl
          | exc e η' h' => rfl
          | stuck => rfl
      | exc e h1 => rfl
      | stuck => rfl
  · have all : ∀ n, whileN c b n η h = .stuck := fun n => Classical.byContradiction fun z => q ⟨n, z⟩
    rw [sWhile_stuck q]
    have q1 : ∀ n, whileN c b (n + 1) η h = .stuck := fun n => all (n + 1)
    simp only [whileN] at q1
    cases ec : c η h with
    | ok k h1 =>
      rw [ec] at q1
      simp only [Res.thn_ok] at q1 ⊢
      cases k with
      | false => exact absurd (q1 0) (by simp)
      | true =>
        simp only [if_true] at q1 ⊢
        cases eb : b η h1 with
        | nx η' h' =>
          rw [eb] at q1
          exact (sWhile_stuck fun ⟨n, z⟩ => z (q1 n)).symm
        | cont η' h' =>
          rw [eb] at q1
          exact (sWhile_stuck fun ⟨n, z⟩ => z (q1 n)).symm
        | brk η' h' => rw [eb] at q1; exact absurd (q1 0) (by simp)
        | ret v h' => rw [eb] at q1; exact absurd (q1 0) (by simp)
        | exc e η' h' => rw [eb] at q1; exact absurd (q1 0) (by simp)
        | stuck => rfl
    | exc e h1 => rw [ec] at q1; exact absurd (q1 0) (by simp)
    | stuck => rfl
/-- the targets of a store -/
abbrev GM := Val → Env → Option Env
def gNam (i : Nat) : GM := fun v η => some (η.set i (some v))
abbrev GMs := List Val → Env → Option Env
def gsNil : GMs := fun vs η => match vs with | [] => some η | _ => none
def gsCons (g : GM) (r : GMs) : GMs := fun vs η => match vs with | v :: t => (g v η).bind fun η1 => r t η1 | [] => none
def gTpl (gs : GMs) : GM := fun v η => match v with | .tup l => gs l η | _ => none
def sAsg (g : GM) (e : EM) : SM := fun η h => (e η h).thn η fun v h1 => match g v η with | some η1 => .nx η1 h1 | none => .stuck
/-- what a for walks: the items, and whether what they come from still stands -/
abbrev IM := Env → Hep → Res (List Val × (Hep → Bool))
def forL (g : GM) (chk : Hep → Bool) (b : SM) : List Val → Env → Hep → SR
  | [], η, h => if chk h then .nx η h else .stuck
  | x :: xs, η, h => if chk h then
      match g x η with
      | some η1 => match b η1 h with
        | .nx η' h' => forL g chk b xs η' h'
        | .cont η' h' => forL g chk b xs η' h'
        | .brk η' h' => .nx η' h'
        | r => r
      | none => .stuck
    else .stuck
def sFor (it : IM) (g : GM) (b : SM) : SM := fun η h => (it η h).thn η fun p h1 => forL g p.2 b p.1 η h1
def isLst (n : Nat) (l : List Val) (h : Hep) : Prop := h[n]? = some (.lst l)
/-- the items of a value -/
def items (h : Hep) : Val → Option (List Val × (Hep → Bool))
  | .tup l => some (l, fun _ => true)
  | .fl l => some (l, fun _ => true)
  | .str s => some (s.map fun c => .str [c], fun _ => true)
  | .ref n => match h[n]? with
    | some (.lst l) => some (l, fun h' => decide (isLst n l h'))
    | _ => none
  | _ => none
def iVal (e : EM) : IM := fun η h => (e η h).bind fun v h1 => ofO (items h1 v) h1
def rng (lo : Int) (n : Nat) : List Val := (List.range n).map fun (i : Nat) => .int (lo + (i : Int))
def i62 (i : Int) : Prop := -(2 ^ 62) ≤ i ∧ i < 2 ^ 62
/-- what a call of a built-in walks, by its arguments -/
def iArgs (f : Hep → List Val → Option (List Val × (Hep → Bool))) (a : AM) : IM := fun η h => (a η h).bind fun vs h1 => ofO (f h1 vs) h1
def fRng1 (_ : Hep) : List Val → Option (List Val × (Hep → Bool))
  | [.int j] => if i62 j then some (rng 0 j.toNat, fun _ => true) else none
  | _ => none
def fRng2 (_ : Hep) : List Val → Option (List Val × (Hep → Bool))
  | [.int i, .int j] => if i62 i ∧ i62 j then some (rng i (j - i).toNat, fun _ => true) else none
  | _ => none
/-- a def: n parameters, all names' slots, the body -/
def fn (n N : Nat) (b : SM) : Fn := fun vs h => if vs.length = n then
    match b (vs.map some ++ List.replicate (N - n) none) h with
    | .nx _ h' => .ok .non h'
    | .ret v h' => .ok v h'
    | .exc e _ h' => .exc e h'
    | _ => .stuck
  else .stuck
/-- a built-in function -/
abbrev BFn := List Val → Hep → Option (Val × Hep)
def eCallB (F : BFn) (a : AM) : EM := fun η h => (a η h).bind fun xs h1 => match F xs h1 with | some (v, h2) => .ok v h2 | none => .stuck
/-! ### exceptions -/
def sRaise (c : String) : SM := fun η h => .exc ⟨c, []⟩ η h
/-- behind a suite: the name of the exception is gone; a suite that raises is not told -/
def SR.forget (i : Nat) : SR → SR
  | .nx η h => .nx (η.set i none) h
  | .brk η h => .brk (η.set i none) h
  | .cont η h => .cont (η.set i none) h
  | .exc _ _ _ => .stuck
  | r => r
/-- try .. except C as e: tbl tells of each class whether C names it -/
def sTry (tbl : List (String × Bool)) (i : Nat) (b : SM) (hd : Exc → Nat → SM) : SM := fun η h => match b η h with
  | .exc x η' h' => match tbl.lookup x.cls with
    | some true => if ∀ a, (hd x a (η'.set i (some (.exo a))) h').forget i = (hd x 0 (η'.set i (some (.exo 0))) h').forget i then (hd x 0 (η'.set i (some (.exo 0))) h').forget i else .stuck
    | some false => .exc x η' h'
    | none => .stuck
  | r => r
def SR.quiet : SR → SR
  | .exc _ _ _ => .stuck
  | r => r
/-- try .. except C -/
def sTryO (tbl : List (String × Bool)) (b : SM) (hd : SM) : SM := fun η h => match b η h with
  | .exc x η' h' => match tbl.lookup x.cls with
    | some true => (hd η' h').quiet
    | some false => .exc x η' h'
    | none => .stuck
  | r => r
/-- isinstance(e, D), e the exception that the suite holds -/
def eIsE (tbl : List (String × Bool)) (x : Exc) (a : Nat) (m : EM) : EM := fun η h => (m η h).bind fun v h1 => match v with
  | .exo b => if b = a then (if x.args = [] then (match tbl.lookup x.cls with | some k => .ok (.bl k) h1 | none => .stuck) else .stuck) else .stuck
  | _ => .stuck
/-! ### built-in functions -/
def bLen : BFn := fun vs h => match vs with
  | [.str s] => if szOk s.length then some (.int s.length, h) else none
  | [.tup l] => some (.int l.length, h)
  | [.fl l] => some (.int l.length, h)
  | [.ref n] => match h[n]? with
    | some (.lst l) => some (.int l.length, h)
    | _ => none
  | _ => none
def bAbs : BFn := fun vs h => match vs with
  | [.int i] => some (.int (if i < 0 then -i else i), h)
  | _ => none
def bMax2 : BFn := fun vs h => match vs with
  | [.int i, .int j] => some (.int (if j > i then j else i), h)
  | _ => none
def bMin2 : BFn := fun vs h => match vs with
  | [.int i, .int j] => some (.int (if j < i then j else i), h)
  | _ => none
def bInt : BFn := fun vs h => match vs with
  | [.int i] => some (.int i, h)
  | [.bl k] => some (.int (if k then 1 else 0), h)
  | _ => none
/-- list(..) of a list or a tuple; tuple(..) -/
def bList : BFn := fun vs h => match vs with
  | [.tup l] => some (.ref h.length, h ++ [.lst l])
  | [.fl l] => some (.ref h.length, h ++ [.lst l])
  | [.ref n] => match h[n]? with
    | some (.lst l) => some (.ref h.length, h ++ [.lst l])
    | _ => none
  | _ => none
def bTuple : BFn := fun vs h => match vs with
  | [.tup l] => some (.tup l, h)
  | [.fl l] => some (.tup l, h)
  | [.ref n] => match h[n]? with
    | some (.lst l) => some (.tup l, h)
    | _ => none
  | _ => none
def bls : List Val → Option (List Bool)
  | [] => some []
  | .bl b :: l => (bls l).map (b :: ·)
  | _ :: _ => none
def itsL (h : Hep) : Val → Option (List Val)
  | .fl l => some l
  | .ref n => match h[n]? with
    | some (.lst l) => some l
    | _ => none
  | _ => none
def bAll : BFn := fun vs h => match vs with
  | [v] => match (itsL h v).bind bls with
    | some bs => some (.bl (bs.all id), h)
    | none => none
  | _ => none
def bAny : BFn := fun vs h => match vs with
  | [v] => match (itsL h v).bind bls with
    | some bs => some (.bl (bs.any id), h)
    | none => none
  | _ => none
/-! ### isinstance -/
/-- the name of a value's built-in type -/
def typ (h : Hep) : Val → Option String
  | .non => some "NoneType"
  | .bl _ => some "bool"
  | .int _ => some "int"
  | .str _ => some "str"
  | .tup _ => some "tuple"
  | .fl _ => some "list"
  | .ref n => match h[n]? with
    | some (.lst _) => some "list"
    | some (.dct _) => some "dict"
    | _ => none
  | .exo _ => none
def isT (t n : String) : Bool := t == n || (t == "bool" && n == "int")
def oIsi (n : String) (h : Hep) (v : Val) : Option Val := (typ h v).map fun t => .bl (isT t n)
/-! ### lists that change -/
def setIx (h : Hep) : Val → Val → Val → Option Hep
  | .ref n, .int k, v => match h[n]? with
    | some (.lst l) => match ixN l.length k with
      | some j => some (h.set n (.lst (l.set j v)))
      | none => none
    | _ => none
  | _, _, _ => none
/-- o[i] = e: the value first -/
def sSetIx (o i e : EM) : SM := fun η h => (e η h).thn η fun v h1 => (o η h1).thn η fun x h2 => (i η h2).thn η fun k h3 => match setIx h3 x k v with
  | some h4 => .nx η h4
  | none => .stuck
/-- an item of a list that may change -/
def oIdxL (h : Hep) : Val → Val → Option Val
  | .ref n, .int i => match h[n]? with
    | some (.lst l) => atI l i
    | _ => none
  | _, _ => none
/-- o[i] op= e -/
def sAugIx (f : Hep → Val → Val → Option Val) (o i e : EM) : SM := fun η h => (o η h).thn η fun x h1 => (i η h1).thn η fun k h2 => (ofO (oIdxL h2 x k) h2).thn η fun y h3 => (e η h3).thn η fun z h4 => (ofO (f h4 y z) h4).thn η fun v h5 =>
  match setIx h5 x k v with
  | some h6 => .nx η h6
  | none => .stuck
/-- o.m(..), a method of a built-in type T -/
def eMth (T : String) (F : Val → BFn) (o : EM) (a : AM) : EM := fun η h => (o η h).bind fun x h1 => if typ h1 x = some T then (a η h1).bind fun xs h2 => (match F x xs h2 with | some (v, h3) => .ok v h3 | none => .stuck) else .stuck
def mAppend : Val → BFn := fun x vs h => match x, vs with
  | .ref n, [v] => match h[n]? with
    | some (.lst l) => if szOk (l.length + 1) then some (.non, h.set n (.lst (l ++ [v]))) else none
    | _ => none
  | _, _ => none
def mExtend : Val → BFn := fun x vs h => match x, vs with
  | .ref n, [.ref m] => match h[n]?, h[m]? with
    | some (.lst l), some (.lst k) => if szOk (l.length + k.length) then some (.non, h.set n (.lst (l ++ k))) else none
    | _, _ => none
  | _, _ => none
def mPop : Val → BFn := fun x vs h => match x, vs with
  | .ref n, [] => match h[n]? with
    | some (.lst l) => match l[l.length - 1]? with
      | some v => some (v, h.set n (.lst l.dropLast))
      | none => none
    | _ => none
  | _, _ => none
/-! ### slices -/
def sIx (n d : Nat) : Option Int → Nat
  | none => d
  | some v => if v < 0 then (v + (n : Int)).toNat else min v.toNat n
def cut {α : Type} (l : List α) (lo hi : Option Int) : List α := (l.drop (sIx l.length 0 lo)).take (sIx l.length l.length hi - sIx l.length 0 lo)
abbrev PM := Env → Hep → Res (Option Int)
def pNo : PM := fun _ h => .ok none h
def pSome (e : EM) : PM := fun η h => (e η h).bind fun x h1 => match x with | .int i => .ok (some i) h1 | _ => .stuck
def oSl (h : Hep) (x : Val) (lo hi : Option Int) : Option (Val × Hep) := match x with
  | .str s => if szOk s.length then some (.str (cut s lo hi), h) else none
  | .tup l => some (.tup (cut l lo hi), h)
  | .fl l => some (.ref h.length, h ++ [.lst (cut l lo hi)])
  | .ref n => match h[n]? with
    | some (.lst l) => some (.ref h.length, h ++ [.lst (cut l lo hi)])
    | _ => none
  | _ => none
def eSl (o : EM) (lo hi : PM) : EM := fun η h => (o η h).bind fun x h1 => (lo η h1).bind fun l h2 => (hi η h2).bind fun u h3 => match oSl h3 x l u with | some (v, h4) => .ok v h4 | none => .stuck
/-! ### comprehensions -/
/-- the block's own slots forgotten -/
def wipe (η : Env) : List Nat → Env
  | [] => η
  | v :: vs => (wipe η vs).set v none
def compL (g : GM) (chk : Hep → Bool) (c : TM) (e : EM) (η : Env) : List Val → Hep → Res (List Val)
  | [], h => if chk h then .ok [] h else .stuck
  | x :: xs, h => if chk h then
      match g x η with
      | some η1 => match c η1 h with
        | .ok k h1 => if k then
            match e η1 h1 with
            | .ok y h2 => (compL g chk c e η xs h2).bind fun ys h3 => .ok (y :: ys) h3
            | _ => .stuck
          else compL g chk c e η xs h1
        | _ => .stuck
      | none => .stuck
    else .stuck
def tTrue : TM := fun _ h => .ok true h
def eComp (vs : List Nat) (it : IM) (g : GM) (c : TM) (e : EM) : EM := fun η h => (it η h).bind fun p h1 => (compL g p.2 c e (wipe η vs) p.1 h1).bind fun ys h2 => if szOk ys.length then .ok (.ref h2.length) (h2 ++ [.lst ys]) else .stuck
/-! ### in -/
def flat : Val → Bool
  | .non => true
  | .bl _ => true
  | .int _ => true
  | .str _ => true
  | _ => false
def eqF : Val → Val → Bool
  | .non, .non => true
  | .bl a, .bl b => a == b
  | .bl a, .int b => (if a then 1 else 0) == b
  | .int a, .bl b => a == (if b then 1 else 0)
  | .int a, .int b => a == b
  | .str a, .str b => a == b
  | _, _ => false
def seqOf (h : Hep) : Val → Option (List Val)
  | .tup l => some l
  | .fl l => some l
  | .ref n => match h[n]? with
    | some (.lst l) => some l
    | _ => none
  | _ => none
def isIn (h : Hep) (a b : Val) : Option Bool :=
  match a, b with
  | .str [c], .str s => some (decide (c ∈ s))
  | _, .str _ => none
  | _, _ => match seqOf h b with
    | some l => if flat a && l.all flat then some (l.any fun y => eqF y a) else none
    | none => none
def oIn (h : Hep) (a b : Val) : Option Val := (isIn h a b).map .bl
def oNin (h : Hep) (a b : Val) : Option Val := (isIn h a b).map fun k => .bl (!k)
/-! ### what a for walks, more -/
/-- the items of a list or tuple, and whether it stands -/
def itemsS (h : Hep) : Val → Option (List Val × (Hep → Bool))
  | .tup l => some (l, fun _ => true)
  | .fl l => some (l, fun _ => true)
  | .ref n => match h[n]? with
    | some (.lst l) => some (l, fun h' => decide (isLst n l h'))
    | _ => none
  | _ => none
def enumL (l : List Val) : List Val := l.zipIdx.map fun p => .tup [.int (p.2 : Nat), p.1]
def fEnum (h : Hep) : List Val → Option (List Val × (Hep → Bool))
  | [v] => (itemsS h v).map fun p => (enumL p.1, p.2)
  | _ => none
def zipL (l m : List Val) : List Val := (l.zip m).map fun p => .tup [p.1, p.2]
def isT2 : Val → Val → Bool
  | .tup _, .tup _ => true
  | .tup _, _ => false
  | _, .tup _ => false
  | _, _ => true
def fZip (h : Hep) : List Val → Option (List Val × (Hep → Bool))
  | [v, w] => match itemsS h v, itemsS h w with
    | some p, some q => if isT2 v w then some (zipL p.1 q.1, fun h' => p.2 h' && q.2 h') else none
    | _, _ => none
  | _ => none
/-! ### texts -/
def bOrd : BFn := fun vs h => match vs with
  | [.str [c]] => some (.int (c : Nat), h)
  | _ => none
/-- a text cut at a sign -/
def cutAt (s : Nat) : List Nat → List Nat → List (List Nat)
  | acc, [] => [acc]
  | acc, c :: r => if c = s then acc :: cutAt s [] r else cutAt s (acc ++ [c]) r
def splitOk (c n : Nat) : Prop := c < 256 ∧ n + 2 ≤ line
def mSplit : Val → BFn := fun x vs h => match x, vs with
  | .str s, [.str [c]] => if splitOk c s.length then some (.ref h.length, h ++ [.lst ((cutAt c [] s).map .str)]) else none
  | _, _ => none
def strOk (i : Int) : Prop := i.natAbs.log2 < 1920
/-- str(int) -/
def bStr : BFn := fun vs h => match vs with
  | [.int i] => if strOk i then some (.str (S (toString i)), h) else none
  | _ => none
/-- the parts with the sign between them -/
def joinL (s : List Nat) : List (List Nat) → List Nat
  | [] => []
  | [p] => p
  | p :: q :: r => p ++ (s ++ joinL s (q :: r))
def strsL : List Val → Option (List (List Nat))
  | [] => some []
  | .str s :: l => (strsL l).map (s :: ·)
  | _ :: _ => none
def joinOk (s : List Nat) (ps : List (List Nat)) : Prop := (ps.map List.length).sum + ps.length * s.length ≤ line
def mJoin : Val → BFn := fun x vs h => match x, vs with
  | .str s, [v] => match (seqOf h v).bind strsL with
    | some ps => if joinOk s ps then some (.str (joinL s ps), h) else none
    | none => none
  | _, _ => none
/-- filled with 0 behind the sign -/
def zfillL (s : List Nat) (i : Int) : List Nat := if i ≤ s.length then s else match s with
  | 43 :: r => 43 :: (List.replicate (i.toNat - s.length) 48 ++ r)
  | 45 :: r => 45 :: (List.replicate (i.toNat - s.length) 48 ++ r)
  | _ => List.replicate (i.toNat - s.length) 48 ++ s
def padOk (i : Int) : Prop := i ≤ line ∧ -1000 < i
def mZfill : Val → BFn := fun x vs h => match x, vs with
  | .str s, [.int i] => if padOk i then some (.str (zfillL s i), h) else none
  | _, _ => none
def mStarts : Val → BFn := fun x vs h => match x, vs with
  | .str s, [.str t] => some (.bl (decide (s.take t.length = t)), h)
  | _, _ => none
def mEnds : Val → BFn := fun x vs h => match x, vs with
  | .str s, [.str t] => some (.bl (decide (t.length ≤ s.length) && decide (s.drop (s.length - t.length) = t)), h)
  | _, _ => none
/-! ### more of lists -/
def oCat (h : Hep) : Val → Val → Option (Val × Hep)
  | .ref n, .ref m => match h[n]?, h[m]? with
    | some (.lst l), some (.lst k) => if szOk (l.length + k.length) then some (.ref h.length, h ++ [.lst (l ++ k)]) else none
    | _, _ => none
  | _, _ => none
/-- list + list -/
def eCat (a b : EM) : EM := fun η h => (a η h).bind fun x h1 => (b η h1).bind fun y h2 => match oCat h2 x y with | some (v, h3) => .ok v h3 | none => .stuck
/-- l[::-1] -/
def eRev (a : EM) : EM := fun η h => (a η h).bind fun x h1 => match itsL h1 x with | some l => .ok (.ref h1.length) (h1 ++ [.lst l.reverse]) | none => .stuck
def digV (s : List Nat) : Nat := s.foldl (fun t c => t * 10 + (c - 48)) 0
def digOk (s : List Nat) : Prop := (s.all fun c => decide (48 ≤ c) && decide (c ≤ 57)) = true ∧ s ≠ [] ∧ s.length ≤ 640
/-- int(figures) -/
def bIntS : BFn := fun vs h => match vs with
  | [.str s] => if digOk s then some (.int (digV s), h) else none
  | _ => none
def intsL : List Val → Option (List Int)
  | [] => some []
  | .int i :: l => (intsL l).map (i :: ·)
  | _ :: _ => none
def maxL : Int → List Int → Int
  | m, [] => m
  | m, i :: l => maxL (if m < i then i else m) l
def bMaxL : BFn := fun vs h => match vs with
  | [v] => match (itsL h v).bind intsL with
    | some (i :: l) => some (.int (maxL i l), h)
    | _ => none
  | _ => none
def insI (i : Int) : List Int → List Int
  | [] => [i]
  | j :: l => if i ≤ j then i :: j :: l else j :: insI i l
def srtI : List Int → List Int
  | [] => []
  | i :: l => insI i (srtI l)
/-- sorted(a list of integers) -/
def bSortI : BFn := fun vs h => match vs with
  | [v] => match (itsL h v).bind intsL with
    | some ns => some (.ref h.length, h ++ [.lst ((srtI ns).map .int)])
    | none => none
  | _ => none
/-- text * int, int * int -/
def repL (s : List Nat) (n : Nat) : List Nat := (List.replicate n s).flatten
def repOk (n : Nat) (i : Int) : Prop := -1000000 < i ∧ i ≤ line ∧ n * i.toNat ≤ line
def oMulS (_ : Hep) : Val → Val → Option Val
  | .int i, .int j => if mulOk i j then some (.int (i * j)) else none
  | .str s, .int i => if repOk s.length i then some (.str (repL s i.toNat)) else none
  | _, _ => none
/-- range of three, upward -/
def rngC (lo c : Int) (n : Nat) : List Val := (List.range n).map fun (i : Nat) => .int (lo + (i : Int) * c)
def i40 (i : Int) : Prop := -(2 ^ 40) ≤ i ∧ i < 2 ^ 40
def stepN (i j c : Int) : Nat := if i < j then ((j - i - 1) / c + 1).toNat else 0
def fRng3 (_ : Hep) : List Val → Option (List Val × (Hep → Bool))
  | [.int i, .int j, .int c] => if i40 i ∧ i40 j ∧ 0 < c ∧ c < 2 ^ 29 then some (rngC i c (stepN i j c), fun _ => true) else none
  | _ => none
/-- a def that is not reckoned any deeper -/
def fnStuck : Fn := fun _ _ => .stuck
/-! ### dicts: keys integers and texts -/
def isKey : Val → Bool
  | .int _ => true
  | .str _ => true
  | _ => false
def keyEq : Val → Val → Bool
  | .int i, .int j => i == j
  | .str s, .str t => s == t
  | _, _ => false
def dGet : List (Val × Val) → Val → Option Val
  | [], _ => none
  | p :: l, k => if keyEq p.1 k then some p.2 else dGet l k
def dHas (l : List (Val × Val)) (k : Val) : Bool := (dGet l k).isSome
def dUpd (k v : Val) : List (Val × Val) → List (Val × Val)
  | [] => []
  | p :: l => (if keyEq p.1 k then (p.1, v) else p) :: dUpd k v l
/-- in its place, or at the end -/
def dPut (l : List (Val × Val)) (k v : Val) : List (Val × Val) := if dHas l k then dUpd k v l else l ++ [(k, v)]
/-- {} -/
def eDNew : EM := fun _ h => .ok (.ref h.length) (h ++ [.dct []])
/-- {k: v, ..} of written texts -/
def eDTxt (l : List (String × String)) : EM := fun _ h => .ok (.ref h.length) (h ++ [.dct (l.map fun p => (.str (S p.1), .str (S p.2)))])
/-- d[k] -/
def oDIdx (h : Hep) (x k : Val) : Option Val := match x with
  | .ref n => match h[n]? with
    | some (.dct l) => if isKey k then dGet l k else none
    | _ => none
  | _ => none
/-- k in d -/
def oDIn (h : Hep) (k x : Val) : Option Val := match x with
  | .ref n => match h[n]? with
    | some (.dct l) => if isKey k then some (.bl (dHas l k)) else none
    | _ => none
  | _ => none
def oDNin (h : Hep) (k x : Val) : Option Val := match x with
  | .ref n => match h[n]? with
    | some (.dct l) => if isKey k then some (.bl (!dHas l k)) else none
    | _ => none
  | _ => none
def setDx (h : Hep) (x k v : Val) : Option Hep := match x with
  | .ref n => match h[n]? with
    | some (.dct l) => if isKey k then (if szOk (l.length + 1) then some (h.set n (.dct (dPut l k v))) else none) else none
    | _ => none
  | _ => none
/-- d[k] = e: the value first -/
def sSetDx (o i e : EM) : SM := fun η h => (e η h).thn η fun v h1 => (o η h1).thn η fun x h2 => (i η h2).thn η fun k h3 => match setDx h3 x k v with
  | some h4 => .nx η h4
  | none => .stuck
/-- d.get(k, v) -/
def isDct (h : Hep) : Val → Bool
  | .ref n => match h[n]? with
    | some (.dct _) => true
    | _ => false
  | _ => false
def oDGet2 (h : Hep) (x y z : Val) : Option Val := match x with
  | .ref n => match h[n]? with
    | some (.dct l) => if isKey y then some ((dGet l y).getD z) else none
    | _ => none
  | _ => none
def eDGet2 (o k v : EM) : EM := fun η h => (o η h).bind fun x h1 => if isDct h1 x then (k η h1).bind fun y h2 => (v η h2).bind fun z h3 => ofO (oDGet2 h3 x y z) h3 else .stuck
/-- what a written dict of texts holds, for the texts that are told -/
def tblGet (tbl : List (String × Option String)) (s : List Nat) : Option (Option String) := (tbl.find? fun p => S p.1 == s).map (·.2)
def oKIn (tbl : List (String × Option String)) (_ : Hep) (x : Val) : Option Val := match x with
  | .str s => (tblGet tbl s).map fun r => .bl r.isSome
  | _ => none
def oKNin (tbl : List (String × Option String)) (_ : Hep) (x : Val) : Option Val := match x with
  | .str s => (tblGet tbl s).map fun r => .bl (!r.isSome)
  | _ => none
def oKGet (tbl : List (String × Option String)) (_ : Hep) (x : Val) : Option Val := match x with
  | .str s => match tblGet tbl s with
    | some (some t) => some (.str (S t))
    | _ => none
  | _ => none
/-- upper of ASCII -/
def up1 (c : Nat) : Nat := if 97 ≤ c ∧ c ≤ 122 then c - 32 else c
def upOk (s : List Nat) : Prop := (s.all fun c => decide (c < 128)) = true ∧ s.length ≤ 1000000
def mUpper : Val → BFn := fun x vs h => match x, vs with
  | .str s, [] => if upOk s then some (.str (s.map up1), h) else none
  | _, _ => none
/-- e.replace(a sign, a text) -/
def replOk (c n m : Nat) : Prop := c < 256 ∧ n + (n + 1) * m + 2 ≤ line
def eRepl (c : Nat) (z : List Nat) (o : EM) : EM := fun η h => (o η h).bind fun x h1 => match x with
  | .str s => if replOk c s.length z.length then .ok (.str (joinL z (cutAt c [] s))) h1 else .stuck
  | _ => .stuck
end
end Cd

set_option Elab.async false
set_option linter.all false
set_option maxRecDepth 100000
set_option maxHeartbeats 4000000
/-! CdB1: the bridge: the functional reading over the hand layer: relations. -/
namespace Cb
open PySem PySem.Spec PyProof.Rows L2

def toS (l : List Nat) : Str := ⟨l.toArray⟩
/-- a list that is only read -/
def FzL (K : PySem.W.Frag) (H : Hp) (a : Addr) (xs : List V) : Prop :=
  (∃ o, H a = some (.frz o (.lst xs))) ∨
    ∃ (o : Obj) (its : Array Value) (n : Nat), K.lookup a = some o ∧ o.cls = .type "list" ∧ o.dict = none ∧ o.data = .seq its n ∧ its.size ≤ sizeLine ∧ Vals xs its.toList
theorem FzL.sq {K : PySem.W.Frag} {H : Hp} {a : Addr} {xs : List V} (h : FzL K H a xs) : SqL K H a xs := by
  rcases h with ⟨o, h⟩ | h
  · exact .inl (.inr ⟨o, h⟩)
  · exact .inr h
section
variable (K : PySem.W.Frag) (ρ : List Addr) (H : Hp)
mutual
inductive RV : Cd.Val → V → Prop
  | non : RV .non .non
  | bl (b : Bool) : RV (.bl b) (.bl b)
  | int (i : Int) : RV (.int i) (.int i)
  | str (s : List Nat) : RV (.str s) (.str (toS s))
  | tup {a : Addr} {ds : List Cd.Val} {vs : List V} (h : SqT K H a vs) (r : RVs ds vs) : RV (.tup ds) (.ref a)
  | fl {a : Addr} {ds : List Cd.Val} {vs : List V} (h : FzL K H a vs) (r : RVs ds vs) : RV (.fl ds) (.ref a)
  | ref {n : Nat} {a : Addr} (h : ρ[n]? = some a) : RV (.ref n) (.ref a)
  | exo (a : Addr) : RV (.exo a) (.ref a)
inductive RVs : List Cd.Val → List V → Prop
  | nil : RVs [] []
  | cons {d : Cd.Val} {v : V} {ds : List Cd.Val} {vs : List V} (h : RV d v) (t : RVs ds vs) : RVs (d :: ds) (v :: vs)
end
def keyOf : Cd.Val → Option Key
  | .int i => some (.inl i)
  | .str s => some (.inr (toS s))
  | _ => none
/-- the entries of a dict -/
inductive RD : List (Cd.Val × Cd.Val) → List (Key × V) → Prop
  | nil : RD [] []
  | cons {k d : Cd.Val} {κ : Key} {v : V} {l : List (Cd.Val × Cd.Val)} {kvs : List (Key × V)} (e : keyOf k = some κ) (r : RV K ρ H d v) (t : RD l kvs) : RD ((k, d) :: l) ((κ, v) :: kvs)
/-- what stands at a place -/
def RO : Cd.Obj → Addr → Prop
  | .lst l, a => ∃ vs, H a = some (.lst vs) ∧ RVs K ρ H l vs
  | .dct l, a => ∃ kvs, H a = some (.dK kvs) ∧ RD K ρ H l kvs
  | .ins _ _, _ => False
end
structure Sim (K : PySem.W.Frag) (ρ : List Addr) (h : Cd.Hep) (H : Hp) : Prop where
  len : ρ.length = h.length
  nd : ρ.Nodup
  obj : ∀ (n : Nat) (o : Cd.Obj) (a : Addr), h[n]? = some o → ρ[n]? = some a → RO K ρ H o a
structure Step (ρ : List Addr) (H : Hp) (ρ' : List Addr) (H' : Hp) : Prop where
  pre : ρ <+: ρ'
  fr : ∀ a o, a ∉ ρ → H a = some o → H' a = some o
  new : ∀ a, a ∈ ρ' → a ∉ ρ → H a = none
theorem Step.refl (ρ : List Addr) (H : Hp) : Step ρ H ρ H := ⟨List.prefix_rfl, fun _ _ _ h => h, fun _ h n => absurd h n⟩
theorem Step.trans {ρ ρ1 ρ2 : List Addr} {H H1 H2 : Hp} (a : Step ρ H ρ1 H1) (b : Step ρ1 H1 ρ2 H2) : Step ρ H ρ2 H2 := by
  have f : ∀ x o, x ∉ ρ → H x = some o → x ∉ ρ1 ∧ H1 x = some o := by
    intro x o n e
    refine ⟨fun m => ?_, a.fr x o n e⟩
    have q := a.new x m n
    rw [q] at e
    cases e
  refine ⟨a.pre.trans b.pre, fun x o n e => b.fr x o (f x o n e).1 (f x o n e).2, fun x m n => ?_⟩
  by_cases h1 : x ∈ ρ1
  · exact a.new x h1 n
  · cases q : H x with
    | none => rfl
    | some o =>
      have := b.new x m h1
      rw [(f x o n q).2] at this; cases this
section
variable {K : PySem.W.Frag} {ρ ρ' : List Addr} {H H' : Hp} {h h' : Cd.Hep}
/-- what stands at a place is no tuple, nothing locked -/
theorem Sim.kind (S : Sim K ρ h H) {a : Addr} (m : a ∈ ρ) : ∃ o, H a = some o ∧ (∀ xs, o ≠ .tup xs) ∧ ∀ ob u, o ≠ .frz ob u := by
  obtain ⟨n, hn⟩ := List.mem_iff_getElem?.mp m
  have hl : n < h.length := by rw [← S.len]; exact (List.getElem?_eq_some_iff.mp hn).1
  have q := S.obj n h[n] a (List.getElem?_eq_getElem hl) hn
  cases e : h[n] with
  | lst l =>
    rw [e] at q
    obtain ⟨vs, e1, _⟩ := q
    exact ⟨_, e1, (fun xs z => by cases z), (fun o u z => by cases z)⟩
  | dct l =>
    rw [e] at q
    obtain ⟨vs, e1, _⟩ := q
    exact ⟨_, e1, (fun xs z => by cases z), (fun o u z => by cases z)⟩
  | ins c fs => rw [e] at q; exact q.elim
theorem Sim.some_of (S : Sim K ρ h H) {a : Addr} (m : a ∈ ρ) : H a ≠ none := fun z => by
  obtain ⟨o, e, _⟩ := S.kind m
  rw [z] at e; cases e
theorem Step.sqT (st : Step ρ H ρ' H') (S : Sim K ρ h H) {a : Addr} {vs : List V} (q : SqT K H a vs) : SqT K H' a vs := by
  rcases q with (q | ⟨o, q⟩) | q
  · refine .inl (.inl (st.fr a _ (fun m => ?_) q))
    obtain ⟨o, e, n1, _⟩ := S.kind m
    rw [q] at e; cases e
    exact n1 _ rfl
  · refine .inl (.inr ⟨o, st.fr a _ (fun m => ?_) q⟩)
    obtain ⟨o', e, _, n2⟩ := S.kind m
    rw [q] at e; cases e
    exact n2 _ _ rfl
  · exact .inr q
theorem Step.fzL (st : Step ρ H ρ' H') (S : Sim K ρ h H) {a : Addr} {vs : List V} (q : FzL K H a vs) : FzL K H' a vs := by
  rcases q with ⟨o, q⟩ | q
  · refine .inl ⟨o, st.fr a _ (fun m => ?_) q⟩
    obtain ⟨o', e, _, n2⟩ := S.kind m
    rw [q] at e; cases e
    exact n2 _ _ rfl
  · exact .inr q
theorem Step.ix (st : Step ρ H ρ' H') {n : Nat} {a : Addr} (e : ρ[n]? = some a) : ρ'[n]? = some a := by
  obtain ⟨t, rfl⟩ := st.pre
  rw [List.getElem?_append_left (List.getElem?_eq_some_iff.mp e).1]
  exact e
mutual
theorem RV.mono (st : Step ρ H ρ' H') (S : Sim K ρ h H) : ∀ {d : Cd.Val} {v : V}, RV K ρ H d v → RV K ρ' H' d v
  | _, _, .non => .non
  | _, _, .bl b => .bl b
  | _, _, .int i => .int i
  | _, _, .str s => .str s
  | _, _, .tup h r => .tup (st.sqT S h) (RVs.mono st S r)
  | _, _, .fl h r => .fl (st.fzL S h) (RVs.mono st S r)
  | _, _, .ref h => .ref (st.ix h)
  | _, _, .exo a => .exo a
theorem RVs.mono (st : Step ρ H ρ' H') (S : Sim K ρ h H) : ∀ {ds : List Cd.Val} {vs : List V}, RVs K ρ H ds vs → RVs K ρ' H' ds vs
  | _, _, .nil => .nil
  | _, _, .cons h t => .cons (RV.mono st S h) (RVs.mono st S t)
end
theorem RVs.length : ∀ {ds : List Cd.Val} {vs : List V}, RVs K ρ H ds vs → ds.length = vs.length
  | _, _, .nil => rfl
  | _, _, .cons _ t => by rw [List.length_cons, List.length_cons, RVs.length t]
theorem RVs.get : ∀ {ds : List Cd.Val} {vs : List V} {i : Nat} {d : Cd.Val}, RVs K ρ H ds vs → ds[i]? = some d → ∃ v, vs[i]? = some v ∧ RV K ρ H d v
  | _, _, _, _, .nil, e => by simp at e
  | _, _, 0, d, .cons h t, e => by simp at e; subst e; exact ⟨_, rfl, h⟩
  | _, _, i + 1, d, .cons h t, e => by
    obtain ⟨v, h1, h2⟩ := RVs.get (i := i) (d := d) t (by simpa using e)
    exact ⟨v, by simpa using h1, h2⟩
theorem RVs.append : ∀ {ds es : List Cd.Val} {vs ws : List V}, RVs K ρ H ds vs → RVs K ρ H es ws → RVs K ρ H (ds ++ es) (vs ++ ws)
  | _, _, _, _, .nil, s => s
  | _, _, _, _, .cons h t, s => .cons h (RVs.append t s)
theorem RVs.set {d : Cd.Val} {v : V} (r : RV K ρ H d v) : ∀ {ds : List Cd.Val} {vs : List V} (i : Nat), RVs K ρ H ds vs → RVs K ρ H (ds.set i d) (vs.set i v)
  | _, _, _, .nil => .nil
  | _, _, 0, .cons _ t => .cons r t
  | _, _, i + 1, .cons q t => .cons q (RVs.set r i t)
theorem RVs.take : ∀ {ds : List Cd.Val} {vs : List V} (n : Nat), RVs K ρ H ds vs → RVs K ρ H (ds.take n) (vs.take n)
  | _, _, 0, _ => .nil
  | _, _, _ + 1, .nil => .nil
  | _, _, n + 1, .cons h t => .cons h (RVs.take n t)
theorem RVs.drop : ∀ {ds : List Cd.Val} {vs : List V} (n : Nat), RVs K ρ H ds vs → RVs K ρ H (ds.drop n) (vs.drop n)
  | _, _, 0, r => r
  | _, _, _ + 1, .nil => .nil
  | _, _, n + 1, .cons _ t => RVs.drop n t
theorem RVs.reverse : ∀ {ds : List Cd.Val} {vs : List V}, RVs K ρ H ds vs → RVs K ρ H ds.reverse vs.reverse
  | _, _, .nil => .nil
  | _, _, .cons h t => by
    rw [List.reverse_cons, List.reverse_cons]
    exact RVs.append (RVs.reverse t) (.cons h .nil)
theorem RD.mono (st : Step ρ H ρ' H') (S : Sim K ρ h H) {l : List (Cd.Val × Cd.Val)} {kvs : List (Key × V)} (r : RD K ρ H l kvs) : RD K ρ' H' l kvs := by
  induction r with
  | nil => exact .nil
  | cons e r t ih => exact .cons e (r.mono st S) ih
theorem RO.mono (st : Step ρ H ρ' H') (S : Sim K ρ h H) {o : Cd.Obj} {a : Addr} (e : H' a = H a) (r : RO K ρ H o a) : RO K ρ' H' o a := by
  cases o with
  | lst l =>
    obtain ⟨vs, e1, q⟩ := r
    exact ⟨vs, by rw [e]; exact e1, q.mono st S⟩
  | dct l =>
    obtain ⟨vs, e1, q⟩ := r
    exact ⟨vs, by rw [e]; exact e1, q.mono st S⟩
  | ins c fs => exact r.elim
/-- a new thing that is no place: a tuple -/
theorem Step.out (p : Addr) (o : HO) (n : H p = none) : Step ρ H ρ (upd H p o) :=
  ⟨List.prefix_rfl, fun a u _ e => by rw [upd_ne (ne_of_none e n)]; exact e, fun _ m z => absurd m z⟩
theorem Sim.out (S : Sim K ρ h H) {p : Addr} {o : HO} (n : H p = none) : Sim K ρ h (upd H p o) := by
  refine ⟨S.len, S.nd, fun i u a hi ha => ?_⟩
  have q := S.obj i u a hi ha
  have ne : a ≠ p := fun z => S.some_of (List.mem_iff_getElem?.mpr ⟨i, ha⟩) (z ▸ n)
  exact q.mono (Step.out p o n) S (upd_ne ne)
/-- a new place -/
theorem Step.lay (p : Addr) (o : HO) (n : H p = none) : Step ρ H (ρ ++ [p]) (upd H p o) :=
  ⟨⟨[p], rfl⟩, fun a u _ e => by rw [upd_ne (ne_of_none e n)]; exact e, fun a m z => by
    rcases List.mem_append.mp m with m | m
    · exact absurd m z
    · rw [List.mem_singleton.mp m]; exact n⟩
theorem Sim.lay (S : Sim K ρ h H) {p : Addr} {o : HO} {u : Cd.Obj} (n : H p = none) (r : RO K (ρ ++ [p]) (upd H p o) u p) : Sim K (ρ ++ [p]) (h ++ [u]) (upd H p o) := by
  have np : p ∉ ρ := fun m => S.some_of m n
  refine ⟨by rw [List.length_append, List.length_append, S.len]; rfl, List.nodup_append.mpr ⟨S.nd, by simp, fun a ha b hb => by
    rw [List.mem_singleton.mp hb]
    rintro rfl
    exact np ha⟩, fun i w a hi ha => ?_⟩
  by_cases hl : i < h.length
  · rw [List.getElem?_append_left hl] at hi
    rw [List.getElem?_append_left (by rw [S.len]; exact hl)] at ha
    have q := S.obj i w a hi ha
    have ne : a ≠ p := fun z => np (z ▸ List.mem_iff_getElem?.mpr ⟨i, ha⟩)
    exact q.mono (Step.lay p o n) S (upd_ne ne)
  · have e : i = h.length := by
      have := (List.getElem?_eq_some_iff.mp hi).1
      rw [List.length_append] at this
      simp at this
      omega
    subst e
    rw [List.getElem?_append_right (Nat.le_refl _), Nat.sub_self] at hi
    rw [List.getElem?_append_right (by rw [S.len]; exact Nat.le_refl _), S.len, Nat.sub_self] at ha
    cases hi
    cases ha
    exact r
/-- a place is written -/
theorem Step.put {i : Nat} {a : Addr} {o : HO} (ha : ρ[i]? = some a) : Step ρ H ρ (upd H a o) :=
  ⟨List.prefix_rfl, fun b u n e => by
    have q : b ≠ a := by
      rintro rfl
      exact n (List.mem_iff_getElem?.mpr ⟨i, ha⟩)
    rw [upd_ne q]; exact e, fun _ m z => absurd m z⟩
theorem Sim.put (S : Sim K ρ h H) {i : Nat} {a : Addr} {o : HO} {u : Cd.Obj} (ha : ρ[i]? = some a) (r : RO K ρ (upd H a o) u a) : Sim K ρ (h.set i u) (upd H a o) := by
  refine ⟨by rw [List.length_set, S.len], S.nd, fun j w b hj hb => ?_⟩
  by_cases e : j = i
  · subst e
    rw [ha] at hb; cases hb
    have hl : j < h.length := by rw [← S.len]; exact (List.getElem?_eq_some_iff.mp ha).1
    rw [List.getElem?_set_self hl] at hj
    cases hj
    exact r
  · rw [List.getElem?_set_ne (Ne.symm e)] at hj
    have q := S.obj j w b hj hb
    have ne : b ≠ a := fun z => by
      obtain ⟨h1, e1⟩ := List.getElem?_eq_some_iff.mp hb
      obtain ⟨h2, e2⟩ := List.getElem?_eq_some_iff.mp ha
      exact e ((List.getElem_inj S.nd).mp (e1.trans (z.trans e2.symm)))
    exact q.mono (Step.put ha) S (upd_ne ne)
end
/-- the slots: what the reading knows of them -/
structure RE (K : PySem.W.Frag) (ρ : List Addr) (H : Hp) (η : Cd.Env) (σ : L2.St) : Prop where
  len : η.length = σ.length
  at_ : ∀ (i : Nat) (d : Cd.Val), η[i]? = some (some d) → ∃ v, σ[i]? = some (some v) ∧ RV K ρ H d v
section
variable {K : PySem.W.Frag} {ρ ρ' : List Addr} {H H' : Hp} {h h' : Cd.Hep} {η : Cd.Env} {σ : L2.St}
theorem RE.mono (st : Step ρ H ρ' H') (S : Sim K ρ h H) (r : RE K ρ H η σ) : RE K ρ' H' η σ := ⟨r.len, fun i d e => by
  obtain ⟨v, h1, h2⟩ := r.at_ i d e
  exact ⟨v, h1, h2.mono st S⟩⟩
theorem RE.set {d : Cd.Val} {v : V} (r : RE K ρ H η σ) (q : RV K ρ H d v) (i : Nat) : RE K ρ H (η.set i (some d)) (σ.set i (some v)) := by
  refine ⟨by rw [List.length_set, List.length_set, r.len], fun j e hj => ?_⟩
  by_cases z : j = i
  · subst z
    have hl : j < η.length := by
      have := (List.getElem?_eq_some_iff.mp hj).1
      rwa [List.length_set] at this
    rw [List.getElem?_set_self hl] at hj
    cases hj
    exact ⟨v, List.getElem?_set_self (by rw [← r.len]; exact hl), q⟩
  · rw [List.getElem?_set_ne (Ne.symm z)] at hj
    obtain ⟨u, h1, h2⟩ := r.at_ j e hj
    exact ⟨u, by rw [List.getElem?_set_ne (Ne.symm z)]; exact h1, h2⟩
end
end Cb

set_option Elab.async false
set_option linter.all false
set_option maxRecDepth 100000
set_option maxHeartbeats 4000000
/-! CdB2: the bridge: expressions, tests, arguments. -/
namespace Cb
open PySem PySem.Spec PyProof.Rows L2

/-- an exception as the hand layer tells it -/
def RX (K : PySem.W.Frag) (ca : String → Value) (ρ : List Addr) (H : Hp) (e : Cd.Exc) (cls : Value) (d : Option Addr) : Prop :=
  cls = ca e.cls ∧ ((e.args = [] ∧ d = none) ∨ ∃ dx fs, e.args ≠ [] ∧ d = some dx ∧ H dx = some (.xd fs) ∧ RVs K ρ H e.args (fs.map (·.2)))

section
variable (K : PySem.W.Frag) (ca : String → Value) (W : WX)
/-- what is wanted behind a reading -/
def postG {α β : Type} (R : List Addr → Hp → α → β → Prop) (ρ : List Addr) (H : Hp) (σ : L2.St) (r : Cd.Res α) (Q : β → Hp → Prop) : Prop :=
  match r with
  | .ok v h' => ∀ ρ' H' x, Step ρ H ρ' H' → Sim K ρ' h' H' → R ρ' H' v x → Q x H'
  | .exc e h' => ∀ ρ' H' cls d, Step ρ H ρ' H' → Sim K ρ' h' H' → RX K ca ρ' H' e cls d → W cls d σ H'
  | .stuck => False
def RB : List Addr → Hp → Bool → Bool → Prop := fun _ _ a b => a = b
def tE (m : Cd.EM) : TE := fun σ H Q => ∃ ρ h η, Sim K ρ h H ∧ RE K ρ H η σ ∧ postG K ca W (RV K) ρ H σ (m η h) Q
def tT (m : Cd.TM) : TT := fun σ H Q => ∃ ρ h η, Sim K ρ h H ∧ RE K ρ H η σ ∧ postG K ca W RB ρ H σ (m η h) Q
def tA (m : Cd.AM) : TA := fun σ H Q => ∃ ρ h η, Sim K ρ h H ∧ RE K ρ H η σ ∧ postG K ca W (RVs K) ρ H σ (m η h) Q
end

section
variable {K : PySem.W.Frag} {ca : String → Value} {W : WX} {α β γ δ : Type} {R : List Addr → Hp → α → β → Prop} {ρ ρ1 : List Addr} {H H1 : Hp} {σ : L2.St} {h : Cd.Hep} {η : Cd.Env}
theorem postG.mono {r : Cd.Res α} {Q : β → Hp → Prop} (st : Step ρ H ρ1 H1) (p : postG K ca W R ρ H σ r Q) : postG K ca W R ρ1 H1 σ r Q := by
  cases r with
  | ok v h' => exact fun ρ' H' x s2 S q => p ρ' H' x (st.trans s2) S q
  | exc e h' => exact fun ρ' H' cls d s2 S q => p ρ' H' cls d (st.trans s2) S q
  | stuck => exact p
theorem postG.imp {r : Cd.Res α} {Q Q' : β → Hp → Prop} (p : postG K ca W R ρ H σ r Q) (f : ∀ x H, Q x H → Q' x H) : postG K ca W R ρ H σ r Q' := by
  cases r with
  | ok v h' => exact fun ρ' H' x s2 S q => f _ _ (p ρ' H' x s2 S q)
  | exc e h' => exact p
  | stuck => exact p
/-- the first part's reading, from that of the whole -/
theorem postG.first {S' : List Addr → Hp → γ → δ → Prop} {r : Cd.Res α} {f : α → Cd.Hep → Cd.Res γ} {Q : δ → Hp → Prop} {C : β → Hp → Prop} (p : postG K ca W S' ρ H σ (r.bind f) Q)
    (c : ∀ ρ1 H1 h1 v x, Step ρ H ρ1 H1 → Sim K ρ1 h1 H1 → R ρ1 H1 v x → postG K ca W S' ρ1 H1 σ (f v h1) Q → C x H1) : postG K ca W R ρ H σ r C := by
  cases r with
  | ok v h' => exact fun ρ' H' x st S q => c ρ' H' h' v x st S q (postG.mono st p)
  | exc e h' => exact p
  | stuck => exact p.elim
theorem postG.ofO {o : Option α} {h : Cd.Hep} {Q : β → Hp → Prop} (p : postG K ca W R ρ H σ (Cd.ofO o h) Q) : ∃ v, o = some v ∧ ∀ ρ' H' x, Step ρ H ρ' H' → Sim K ρ' h H' → R ρ' H' v x → Q x H' := by
  cases o with
  | none => exact p.elim
  | some v => exact ⟨v, rfl, p⟩
end

theorem PE.wk {X : Cx} {e : Expr} {t t' : TE} (h : PE X e t) (k : ∀ σ H Q, t' σ H Q → t σ H Q) : PE X e t' := ⟨fun pins s σ H Q I hw => h.run pins s σ H Q I (k _ _ _ hw)⟩
theorem PT.wk {X : Cx} {e : Expr} {t t' : TT} (h : PT X e t) (k : ∀ σ H Q, t' σ H Q → t σ H Q) : PT X e t' := ⟨fun pins s σ H Q I hw => h.run pins s σ H Q I (k _ _ _ hw)⟩
theorem PW.wk {X : Cx} {e : Expr} {t t' : TT} (h : PW X e t) (k : ∀ σ H Q, t' σ H Q → t σ H Q) : PW X e t' := ⟨fun whole pins s σ H Q I hw => h.run whole pins s σ H Q I (k _ _ _ hw)⟩
theorem PA.wk {X : Cx} {es : List Expr} {t t' : TA} (h : PA X es t) (k : ∀ σ H Q, t' σ H Q → t σ H Q) : PA X es t' := ⟨fun pos pins s σ H Q I hw => h.run pos pins s σ H Q I (k _ _ _ hw)⟩
theorem PS.wk {X : Cx} {st : Stmt} {t t' : TS} (h : PS X st t) (k : ∀ D σ H, t' D σ H → t D σ H) : PS X st t' := ⟨fun pins s σ H D I hw => h.run pins s σ H D I (k _ _ _ hw)⟩
theorem PSs.wk {X : Cx} {st : List Stmt} {t t' : TS} (h : PSs X st t) (k : ∀ D σ H, t' D σ H → t D σ H) : PSs X st t' := ⟨fun pins s σ H D I hw => h.run pins s σ H D I (k _ _ _ hw)⟩

/-- the judgements over the functional reading -/
abbrev KE (X : Cx) (ca : String → Value) (W : WX) (e : Expr) (m : Cd.EM) : Prop := PE X e (tE X.K ca W m)
abbrev KT (X : Cx) (ca : String → Value) (W : WX) (e : Expr) (m : Cd.TM) : Prop := PT X e (tT X.K ca W m)
abbrev KW (X : Cx) (ca : String → Value) (W : WX) (e : Expr) (m : Cd.TM) : Prop := PW X e (tT X.K ca W m)
abbrev KA (X : Cx) (ca : String → Value) (W : WX) (es : List Expr) (m : Cd.AM) : Prop := PA X es (tA X.K ca W m)

section
variable {X : Cx} {ca : String → Value} {W : WX} {a b c : Expr} {ma mb : Cd.EM} {pos : Pos}

theorem k_var (i : Nat) {x : Str} {pos : Pos} (hN : X.N[i]? = some x := by rfl) (hv : Vis X.env.scope x := by first | exact Or.inl rfl | exact Or.inr (Or.inl rfl) | exact Or.inr (Or.inr rfl)) (hd : (x == ("__debug__" : Str)) = false := by decide)
    (hcd : (x == ("__classdict__" : Str)) = false := by decide) : KE X ca W (.Name x pos) (Cd.eVar i) := by
  refine PE.wk (pv i hN hv hd hcd) fun σ H Q ⟨ρ, h, η, S, r, p⟩ => ?_
  unfold Cd.eVar at p
  split at p
  · rename_i d e
    obtain ⟨v, h1, h2⟩ := r.at_ i d e
    exact ⟨v, h1, p ρ H v (Step.refl _ _) S h2⟩
  · exact p.elim
theorem k_const {e : Expr} {d : Cd.Val} {v : V} (h : PE X e (tC v)) (r : ∀ ρ H, RV X.K ρ H d v) : KE X ca W e (Cd.eC d) := by
  refine PE.wk h fun σ H Q ⟨ρ, h, η, S, _, p⟩ => ?_
  exact p ρ H v (Step.refl _ _) S (r ρ H)
theorem k_int {i : Int} {j pos} : KE X ca W (.Constant (.int i) j pos) (Cd.eC (.int i)) := k_const pe_int fun _ _ => .int i
theorem k_bl {b : Bool} {j pos} : KE X ca W (.Constant (.bool b) j pos) (Cd.eC (.bl b)) := k_const pe_bl fun _ _ => .bl b
theorem k_non {j pos} : KE X ca W (.Constant .none j pos) (Cd.eC .non) := k_const pe_non fun _ _ => .non
theorem toS_S (s : String) : toS (Cd.S s) = Str.ofString s := by
  unfold toS Cd.S Str.ofString
  rw [PySem.cpsOfBytes_string]
theorem k_str {s : String} {j pos} : KE X ca W (.Constant (.str (Str.ofString s)) j pos) (Cd.eC (.str (Cd.S s))) := k_const pe_str fun ρ H => by
  rw [← toS_S s]
  exact .str _
/-- a constant of the module -/
theorem k_glob {x : Str} {d : Cd.Val} {v : V} {u : Value} {pos : Pos} (hg : Gl X x) (hm : X.mg x = some u) (r : RelV v u) (q : ∀ ρ H, RV X.K ρ H d v) (hd : (x == ("__debug__" : Str)) = false := by decide) : KE X ca W (.Name x pos) (Cd.eC d) :=
  k_const (pe_glob hg hm r hd) q

/-- what an operator's reading must be worth -/
def BinF (K : PySem.W.Frag) (f : Cd.Hep → Cd.Val → Cd.Val → Option Cd.Val) (r : R2) : Prop := ∀ (ρ : List Addr) (h : Cd.Hep) (H : Hp) (d e u : Cd.Val) (x y : V) (Q : VK), Sim K ρ h H → RV K ρ H d x → RV K ρ H e y → f h d e = some u →
  (∀ ρ' H' w, Step ρ H ρ' H' → Sim K ρ' h H' → RV K ρ' H' u w → Q w H') → r x y H Q
def UnF (K : PySem.W.Frag) (f : Cd.Hep → Cd.Val → Option Cd.Val) (r : V → Hp → VK → Prop) : Prop := ∀ (ρ : List Addr) (h : Cd.Hep) (H : Hp) (d u : Cd.Val) (x : V) (Q : VK), Sim K ρ h H → RV K ρ H d x → f h d = some u →
  (∀ ρ' H' w, Step ρ H ρ' H' → Sim K ρ' h H' → RV K ρ' H' u w → Q w H') → r x H Q
theorem tOp_of {f : Cd.Hep → Cd.Val → Cd.Val → Option Cd.Val} {r : R2} (hf : BinF X.K f r) : ∀ σ H Q, tE X.K ca W (Cd.eBin f ma mb) σ H Q → tOp r (tE X.K ca W ma) (tE X.K ca W mb) σ H Q := by
  rintro σ H Q ⟨ρ, h, η, S, re, p⟩
  refine ⟨ρ, h, η, S, re, postG.first p fun ρ1 H1 h1 d x st1 S1 r1 p1 => ?_⟩
  refine ⟨ρ1, h1, η, S1, re.mono st1 S, postG.first p1 fun ρ2 H2 h2 e y st2 S2 r2 p2 => ?_⟩
  obtain ⟨u, hu, k⟩ := p2.ofO
  exact hf ρ2 h2 H2 d e u x y Q S2 (r1.mono st2 S1) r2 hu k
theorem k_bin {op : Operator} {f : Cd.Hep → Cd.Val → Cd.Val → Option Cd.Val} {r : R2} (ho : OpR X (binaryOp op) r) (hf : BinF X.K f r) (ha : KE X ca W a ma) (hb : KE X ca W b mb) : KE X ca W (.BinOp a op b pos) (Cd.eBin f ma mb) :=
  PE.wk (pe_op ho ha hb) (tOp_of hf)
theorem k_cmp {op : CmpOp} {f : Cd.Hep → Cd.Val → Cd.Val → Option Cd.Val} {r : R2} (ho : OpR X (compareOp op) r) (hf : BinF X.K f r) (ha : KE X ca W a ma) (hb : KE X ca W b mb) (hm : behindInMarks op b = false) : KE X ca W (.Compare a [op] [b] pos) (Cd.eBin f ma mb) :=
  PE.wk (pe_cmpR ho ha hb hm) (tOp_of hf)
theorem k_un {op : UnaryOp} {f : Cd.Hep → Cd.Val → Option Cd.Val} {r : V → Hp → VK → Prop} (ho : UnR X (unaryOp op) r) (hf : UnF X.K f r) (ha : KE X ca W a ma) : KE X ca W (.UnaryOp op a pos) (Cd.eUn f ma) := by
  refine PE.wk (pe_un ho ha) fun σ H Q ⟨ρ, h, η, S, re, p⟩ => ?_
  refine ⟨ρ, h, η, S, re, postG.first p fun ρ1 H1 h1 d x st1 S1 r1 p1 => ?_⟩
  obtain ⟨u, hu, k⟩ := p1.ofO
  exact hf ρ1 h1 H1 d u x Q S1 r1 hu k

/-! ### tests -/
theorem bl_of {ρ : List Addr} {H : Hp} {k : Bool} {x : V} (r : RV X.K ρ H (.bl k) x) : x = .bl k := by cases r; rfl
/-- an expression's truth value as a test -/
theorem tB_of : ∀ σ H Q, tT X.K ca W (Cd.tVal ma) σ H Q → tTest (tE X.K ca W ma) σ H Q := by
  rintro σ H Q ⟨ρ, h, η, S, re, p⟩
  refine ⟨ρ, h, η, S, re, postG.first p fun ρ1 H1 h1 d x st1 S1 r1 p1 => ?_⟩
  cases d with
  | bl k => exact ⟨k, bl_of r1, p1 ρ1 H1 k (Step.refl _ _) S1 rfl⟩
  | _ => exact p1.elim
theorem kt_cmp {op : CmpOp} {f : Cd.Hep → Cd.Val → Cd.Val → Option Cd.Val} {r : R2} (ho : OpR X (compareOp op) r) (hf : BinF X.K f r) (ha : KE X ca W a ma) (hb : KE X ca W b mb) (hm : behindInMarks op b = false) :
    KT X ca W (.Compare a [op] [b] pos) (Cd.tVal (Cd.eBin f ma mb)) := by
  refine PT.wk (pt_cmpR ho ha hb hm) fun σ H Q p => ?_
  obtain ⟨ρ, h, η, S, re, p⟩ := tB_of σ H Q p
  exact tOp_of hf σ H _ ⟨ρ, h, η, S, re, p⟩
theorem kt_val {e : Expr} {m : Cd.EM} (h : KE X ca W e m) (he : ∀ whole, isTrue e X.env whole = (do let v ← whole; standAt e.pos; holding [v] (truthy v)) := by intro _; rfl) : KT X ca W e (Cd.tVal m) :=
  PT.wk (pt_val h he) fun σ H Q p => tB_of σ H Q p
theorem isE_map (f : α → β) (l : List α) : (l.map f).isEmpty = l.isEmpty := by cases l <;> rfl
theorem RVs.isEmpty {K : PySem.W.Frag} {ρ : List Addr} {H : Hp} {ds : List Cd.Val} {vs : List V} (r : RVs K ρ H ds vs) : vs.isEmpty = ds.isEmpty := by cases r <;> rfl
theorem line_eq {n : Nat} : Cd.szOk n ↔ n ≤ sizeLine := by
  unfold Cd.szOk
  rw [Cd.line_is, sizeLine_eq]
theorem tru_of {K : PySem.W.Frag} {ρ : List Addr} {h : Cd.Hep} {H : Hp} {d : Cd.Val} {x : V} {k : Bool} (S : Sim K ρ h H) (r : RV K ρ H d x) (e : Cd.truth h d = some k) : TruV K x H k := by
  cases r with
  | non => simp only [Cd.truth, Option.some.injEq] at e; subst e; rfl
  | bl b => simp only [Cd.truth, Option.some.injEq] at e; subst e; rfl
  | int i => simp only [Cd.truth, Option.some.injEq] at e; subst e; rfl
  | str s =>
    simp only [Cd.truth] at e
    split at e
    · rename_i hl
      simp only [Option.some.injEq] at e
      subst e
      rw [line_eq] at hl
      refine ⟨hl, ?_⟩
      show (s.length != 0) = (((s.length : Nat) : Int) != 0)
      rw [Bool.eq_iff_iff, bne_iff_ne, bne_iff_ne]
      omega
    · cases e
  | @tup a ds vs q t =>
    simp only [Cd.truth, Option.some.injEq] at e; subst e
    exact .inr (.inl ⟨vs, q, by rw [t.isEmpty]⟩)
  | @fl a ds vs q t =>
    simp only [Cd.truth, Option.some.injEq] at e; subst e
    exact .inl ⟨vs, q.sq, by rw [t.isEmpty]⟩
  | exo a => cases e
  | @ref n a q =>
    simp only [Cd.truth] at e
    split at e
    · rename_i l hl
      simp only [Option.some.injEq] at e; subst e
      obtain ⟨vs, e1, t⟩ := S.obj n _ a hl q
      exact .inl ⟨vs, SqL.of e1, by rw [t.isEmpty]⟩
    · rename_i l hl
      simp only [Option.some.injEq] at e; subst e
      obtain ⟨kvs, e1, t⟩ := S.obj n _ a hl q
      exact .inr (.inr ⟨kvs, e1, by cases t <;> rfl⟩)
    · cases e
theorem kt_tru (ha : KE X ca W a ma) (he : ∀ whole, isTrue a X.env whole = (do let v ← whole; standAt a.pos; holding [v] (truthy v)) := by intro _; rfl) : KT X ca W a (Cd.tTru ma) := by
  refine PT.wk (pt_truth ha he) fun σ H Q ⟨ρ, h, η, S, re, p⟩ => ?_
  refine ⟨ρ, h, η, S, re, postG.first p fun ρ1 H1 h1 d x st1 S1 r1 p1 => ?_⟩
  obtain ⟨k, hk, q⟩ := p1.ofO
  exact ⟨k, tru_of S1 r1 hk, q ρ1 H1 k (Step.refl _ _) S1 rfl⟩
variable {ta tb tc : Cd.TM}
theorem kt_pw {e : Expr} {m : Cd.TM} (h : KW X ca W e m) : KT X ca W e m := h.pt
theorem kw_and1 (ha : KT X ca W a ta) : KW X ca W (.BoolOp .And [a] pos) ta := pw_and1 ha
theorem kw_or1 (ha : KT X ca W a ta) : KW X ca W (.BoolOp .Or [a] pos) ta := pw_or1 ha
variable {rest : List Expr}
theorem kw_and (ha : KT X ca W a ta) (hb : KW X ca W (.BoolOp .And (b :: rest) pos) tb) : KW X ca W (.BoolOp .And (a :: b :: rest) pos) (Cd.tAnd ta tb) := by
  refine PW.wk (pw_and ha hb) fun σ H Q ⟨ρ, h, η, S, re, p⟩ => ?_
  refine ⟨ρ, h, η, S, re, postG.first p fun ρ1 H1 h1 k x st1 S1 r1 p1 => ?_⟩
  cases (show k = x from r1)
  cases k with
  | true => exact ⟨ρ1, h1, η, S1, re.mono st1 S, p1⟩
  | false => exact p1 ρ1 H1 false (Step.refl _ _) S1 rfl
theorem kw_or (ha : KT X ca W a ta) (hb : KW X ca W (.BoolOp .Or (b :: rest) pos) tb) : KW X ca W (.BoolOp .Or (a :: b :: rest) pos) (Cd.tOr ta tb) := by
  refine PW.wk (pw_or ha hb) fun σ H Q ⟨ρ, h, η, S, re, p⟩ => ?_
  refine ⟨ρ, h, η, S, re, postG.first p fun ρ1 H1 h1 k x st1 S1 r1 p1 => ?_⟩
  cases (show k = x from r1)
  cases k with
  | true => exact p1 ρ1 H1 true (Step.refl _ _) S1 rfl
  | false => exact ⟨ρ1, h1, η, S1, re.mono st1 S, p1⟩
theorem kt_not (ha : KT X ca W a ta) : KT X ca W (.UnaryOp .Not a pos) (Cd.tNot ta) := by
  refine PT.wk (pt_not ha) fun σ H Q ⟨ρ, h, η, S, re, p⟩ => ?_
  refine ⟨ρ, h, η, S, re, postG.first p fun ρ1 H1 h1 k x st1 S1 r1 p1 => ?_⟩
  cases (show k = x from r1)
  exact p1 ρ1 H1 (!k) (Step.refl _ _) S1 rfl
theorem k_ifE (hc : KT X ca W c tc) (ha : KE X ca W a ma) (hb : KE X ca W b mb) : KE X ca W (.IfExp c a b pos) (Cd.eIf tc ma mb) := by
  refine PE.wk (pe_ifExp hc ha hb) fun σ H Q ⟨ρ, h, η, S, re, p⟩ => ?_
  refine ⟨ρ, h, η, S, re, postG.first p fun ρ1 H1 h1 k x st1 S1 r1 p1 => ?_⟩
  cases (show k = x from r1)
  cases k with
  | true => exact ⟨ρ1, h1, η, S1, re.mono st1 S, p1⟩
  | false => exact ⟨ρ1, h1, η, S1, re.mono st1 S, p1⟩
theorem k_one {op : BoolOp} {m : Cd.EM} (h : KE X ca W a m) : KE X ca W (.BoolOp op [a] pos) m := pe_one h
theorem k_and (ha : KE X ca W a ma) (hb : KE X ca W (.BoolOp .And (b :: rest) pos) mb) : KE X ca W (.BoolOp .And (a :: b :: rest) pos) (Cd.eAnd ma mb) := by
  refine PE.wk (pe_and ha hb) fun σ H Q ⟨ρ, h, η, S, re, p⟩ => ?_
  refine ⟨ρ, h, η, S, re, postG.first p fun ρ1 H1 h1 d x st1 S1 r1 p1 => ?_⟩
  cases d with
  | bl k =>
    refine ⟨k, bl_of r1, ?_⟩
    cases k with
    | true => exact ⟨ρ1, h1, η, S1, re.mono st1 S, p1⟩
    | false => exact p1 ρ1 H1 _ (Step.refl _ _) S1 (.bl false)
  | _ => exact p1.elim
theorem k_or (ha : KE X ca W a ma) (hb : KE X ca W (.BoolOp .Or (b :: rest) pos) mb) : KE X ca W (.BoolOp .Or (a :: b :: rest) pos) (Cd.eOr ma mb) := by
  refine PE.wk (pe_or ha hb) fun σ H Q ⟨ρ, h, η, S, re, p⟩ => ?_
  refine ⟨ρ, h, η, S, re, postG.first p fun ρ1 H1 h1 d x st1 S1 r1 p1 => ?_⟩
  cases d with
  | bl k =>
    refine ⟨k, bl_of r1, ?_⟩
    cases k with
    | true => exact p1 ρ1 H1 _ (Step.refl _ _) S1 (.bl true)
    | false => exact ⟨ρ1, h1, η, S1, re.mono st1 S, p1⟩
  | _ => exact p1.elim
theorem k_not (ha : KE X ca W a ma) : KE X ca W (.UnaryOp .Not a pos) (Cd.eNot ma) := by
  refine PE.wk (pe_not ha) fun σ H Q ⟨ρ, h, η, S, re, p⟩ => ?_
  refine ⟨ρ, h, η, S, re, postG.first p fun ρ1 H1 h1 d x st1 S1 r1 p1 => ?_⟩
  cases d with
  | bl k => exact ⟨k, bl_of r1, p1 ρ1 H1 _ (Step.refl _ _) S1 (.bl _)⟩
  | _ => exact p1.elim

/-! ### arguments, displays -/
theorem ka_nil : KA X ca W [] Cd.aNil := PA.wk pa_nil fun σ H Q ⟨ρ, h, η, S, re, p⟩ => p ρ H [] (Step.refl _ _) S .nil
variable {es : List Expr} {e : Expr} {me : Cd.EM} {ms : Cd.AM}
theorem ka_cons (ha : KE X ca W e me) (hr : KA X ca W es ms) (hs : starEach (e :: es) X.env = (false, eval e X.env) :: starEach es X.env := by rfl) : KA X ca W (e :: es) (Cd.aCons me ms) := by
  refine PA.wk (pa_cons ha hr hs) fun σ H Q ⟨ρ, h, η, S, re, p⟩ => ?_
  refine ⟨ρ, h, η, S, re, postG.first p fun ρ1 H1 h1 d x st1 S1 r1 p1 => ?_⟩
  refine ⟨ρ1, h1, η, S1, re.mono st1 S, postG.first p1 fun ρ2 H2 h2 ds xs st2 S2 r2 p2 => ?_⟩
  exact p2 ρ2 H2 _ (Step.refl _ _) S2 (.cons (r1.mono st2 S1) r2)
theorem k_tup {x1} (h : KA X ca W es ms) : KE X ca W (.Tuple es x1 pos) (Cd.eTup ms) := by
  refine PE.wk (pe_tup h) fun σ H Q ⟨ρ, h, η, S, re, p⟩ => ?_
  refine ⟨ρ, h, η, S, re, postG.first p fun ρ1 H1 h1 ds xs st1 S1 r1 p1 => ?_⟩
  split at p1
  · rename_i hl
    rw [line_eq, r1.length] at hl
    refine ⟨hl, fun q nq => ?_⟩
    exact p1 ρ1 _ _ (Step.out q _ nq) (S1.out nq) (.tup (SqT.of upd_same) (r1.mono (Step.out q _ nq) S1))
  · exact p1.elim
theorem k_lst (h : KA X ca W es ms) : KE X ca W (.List es pos) (Cd.eLst ms) := by
  refine PE.wk (pe_lst h) fun σ H Q ⟨ρ, h, η, S, re, p⟩ => ?_
  refine ⟨ρ, h, η, S, re, postG.first p fun ρ1 H1 h1 ds xs st1 S1 r1 p1 => ?_⟩
  split at p1
  · rename_i hl
    rw [line_eq, r1.length] at hl
    refine ⟨hl, fun q nq => ?_⟩
    have st := Step.lay (ρ := ρ1) q (.lst xs) nq
    exact p1 _ _ _ st (S1.lay nq ⟨xs, upd_same, r1.mono st S1⟩) (.ref (by rw [← S1.len, List.getElem?_append_right (Nat.le_refl _), Nat.sub_self]; rfl))
  · exact p1.elim
end
end Cb

set_option Elab.async false
set_option linter.all false
set_option maxRecDepth 100000
set_option maxHeartbeats 4000000
/-! CdB3: the bridge: operators, subscripts. -/
namespace Cb
open PySem PySem.Spec PyProof.Rows L2

theorem toS_app (s t : List Nat) : toS (s ++ t) = toS s ++ toS t := by
  show (⟨(s ++ t).toArray⟩ : Str) = ⟨s.toArray ++ t.toArray⟩
  simp
theorem toS_len (s : List Nat) : (toS s).length = s.length := rfl
theorem toS_inj {s t : List Nat} : (toS s = toS t) ↔ s = t := by
  constructor
  · intro e
    have := congrArg (fun z : Str => z.cps.toList) e
    simpa [toS] using this
  · rintro rfl; rfl

section
variable {X : Cx} {K : PySem.W.Frag}
/-- the ways of oAdd -/
theorem bf_add : BinF K Cd.oAdd (fun x y H Q => (rI0 fun i j => .int (i + j)) x y H Q ∨ (fun x y H Q => ∃ i j, x = V.str i ∧ y = V.str j ∧ i.length + j.length ≤ sizeLine ∧ Q (V.str (i ++ j)) H) x y H Q ∨ rCatT K x y H Q) := by
  intro ρ h H d e u x y Q S r1 r2 hu k
  unfold Cd.oAdd at hu
  split at hu
  · cases hu
    cases r1
    cases r2
    exact .inl ⟨_, _, rfl, rfl, k ρ H _ (Step.refl _ _) S (.int _)⟩
  · rename_i s t
    split at hu
    · rename_i hl
      cases hu
      cases r1
      cases r2
      rw [line_eq] at hl
      exact .inr (.inl ⟨_, _, rfl, rfl, hl, by rw [← toS_app]; exact k ρ H _ (Step.refl _ _) S (.str _)⟩)
    · cases hu
  · rename_i l m
    split at hu
    · cases hu
    · rename_i hn
      split at hu
      · rename_i hl
        cases hu
        cases r1 with
        | @tup a _ vs q1 t1 =>
          cases r2 with
          | @tup b _ ws q2 t2 =>
            rw [line_eq, t1.length, t2.length] at hl
            refine .inr (.inr ⟨a, b, vs, ws, rfl, rfl, q1, q2, ?_, hl, ?_, ?_⟩)
            · intro z
              subst z
              cases t1
              exact hn rfl
            · intro z
              subst z
              cases t2
              rw [List.append_nil] at k
              exact k ρ H _ (Step.refl _ _) S (.tup q1 t1)
            · intro _ p np
              have st := Step.out (ρ := ρ) p (.tup (vs ++ ws)) np
              exact k ρ _ _ st (S.out np) (.tup (SqT.of upd_same) (RVs.append (t1.mono st S) (t2.mono st S)))
      · cases hu
  · cases hu
theorem op_addA : OpR X (binaryOp .Add) (fun x y H Q => (rI0 fun i j => .int (i + j)) x y H Q ∨ (fun x y H Q => ∃ i j, x = V.str i ∧ y = V.str j ∧ i.length + j.length ≤ sizeLine ∧ Q (V.str (i ++ j)) H) x y H Q ∨ rCatT X.K x y H Q) :=
  op_add.or (op_add_str.or op_catT)
theorem bf_sub : BinF K Cd.oSub (rI0 fun i j => .int (i - j)) := by
  intro ρ h H d e u x y Q S r1 r2 hu k
  unfold Cd.oSub at hu
  split at hu
  · cases hu; cases r1; cases r2
    exact ⟨_, _, rfl, rfl, k ρ H _ (Step.refl _ _) S (.int _)⟩
  · cases hu
def CMulA (i j : Int) : Prop := CMul i j ∨ CMulW i j
theorem op_mulA : OpR X (binaryOp .Mult) (rI CMulA fun i j => .int (i * j)) := opI fun _ _ _ _ _ _ _ hc q => mul_int q (by rcases hc with hc | hc; exact hc.ok; exact hc.ok)
theorem iop_mulA : OpR X (inplaceOp .Mult) (rI CMulA fun i j => .int (i * j)) := opI fun _ _ _ _ _ _ _ hc q => imul_int q (by rcases hc with hc | hc; exact hc.ok; exact hc.ok)
theorem mulA_of {i j : Int} (h : Cd.mulOk i j) : CMulA i j := by
  rcases h with h | h | h
  · exact .inl (.inl h)
  · exact .inl (.inr h)
  · exact .inr h
theorem bf_mul : BinF K Cd.oMul (rI CMulA fun i j => .int (i * j)) := by
  intro ρ h H d e u x y Q S r1 r2 hu k
  unfold Cd.oMul at hu
  split at hu
  · split at hu
    · rename_i hm
      cases hu; cases r1; cases r2
      exact ⟨_, _, rfl, rfl, mulA_of hm, k ρ H _ (Step.refl _ _) S (.int _)⟩
    · cases hu
  · cases hu
theorem bf_div : BinF K Cd.oDiv (rI CDivW fun i j => .int (i / j)) := by
  intro ρ h H d e u x y Q S r1 r2 hu k
  unfold Cd.oDiv at hu
  split at hu
  · split at hu
    · rename_i hm
      cases hu; cases r1; cases r2
      exact ⟨_, _, rfl, rfl, hm, k ρ H _ (Step.refl _ _) S (.int _)⟩
    · cases hu
  · cases hu
theorem bf_mod : BinF K Cd.oMod (rI (fun _ j => 0 < j) fun i j => .int (i % j)) := by
  intro ρ h H d e u x y Q S r1 r2 hu k
  unfold Cd.oMod at hu
  split at hu
  · split at hu
    · rename_i hm
      cases hu; cases r1; cases r2
      exact ⟨_, _, rfl, rfl, hm, k ρ H _ (Step.refl _ _) S (.int _)⟩
    · cases hu
  · cases hu
theorem bf_pow : BinF K Cd.oPow (rI CPow fun i j => .int (i ^ j.toNat)) := by
  intro ρ h H d e u x y Q S r1 r2 hu k
  unfold Cd.oPow at hu
  split at hu
  · split at hu
    · rename_i hm
      cases hu; cases r1; cases r2
      exact ⟨_, _, rfl, rfl, hm, k ρ H _ (Step.refl _ _) S (.int _)⟩
    · cases hu
  · cases hu
theorem uf_neg : UnF K Cd.oNeg (rU fun i => .int (-i)) := by
  intro ρ h H d u x Q S r1 hu k
  unfold Cd.oNeg at hu
  split at hu
  · cases hu; cases r1
    exact ⟨_, rfl, k ρ H _ (Step.refl _ _) S (.int _)⟩
  · cases hu
/-! ### comparisons -/
abbrev rStr (p : List Nat → List Nat → Bool) : R2 := fun x y H Q => ∃ i j : Str, x = .str i ∧ y = .str j ∧ Q (.bl (p i.cps.toList j.cps.toList)) H
theorem bf_ord {f : Cd.Hep → Cd.Val → Cd.Val → Option Cd.Val} {p : Int → Int → Bool} {q : List Nat → List Nat → Bool} (hi : ∀ h i j, f h (.int i) (.int j) = some (.bl (p i j))) (hs : ∀ h i j, f h (.str i) (.str j) = some (.bl (q i j)))
    (hn : ∀ h a b u, f h a b = some u → (∃ i j, a = .int i ∧ b = .int j) ∨ ∃ i j, a = .str i ∧ b = .str j) : BinF K f (fun x y H Q => (rI0 fun i j => .bl (p i j)) x y H Q ∨ rStr q x y H Q) := by
  intro ρ h H d e u x y Q S r1 r2 hu k
  rcases hn h d e u hu with ⟨i, j, rfl, rfl⟩ | ⟨i, j, rfl, rfl⟩
  · rw [hi] at hu; cases hu; cases r1; cases r2
    exact .inl ⟨_, _, rfl, rfl, k ρ H _ (Step.refl _ _) S (.bl _)⟩
  · rw [hs] at hu; cases hu; cases r1; cases r2
    exact .inr ⟨_, _, rfl, rfl, k ρ H _ (Step.refl _ _) S (.bl _)⟩
theorem bf_lt : BinF K Cd.oLt (fun x y H Q => (rI0 fun i j => .bl (decide (i < j))) x y H Q ∨ rStr (fun i j => decide (i < j)) x y H Q) := bf_ord (fun _ _ _ => rfl) (fun _ _ _ => rfl) fun h a b u e => by
  unfold Cd.oLt at e
  split at e
  · exact .inl ⟨_, _, rfl, rfl⟩
  · exact .inr ⟨_, _, rfl, rfl⟩
  · cases e
theorem bf_le : BinF K Cd.oLe (fun x y H Q => (rI0 fun i j => .bl (decide (i ≤ j))) x y H Q ∨ rStr (fun i j => !decide (j < i)) x y H Q) := bf_ord (fun _ _ _ => rfl) (fun _ _ _ => rfl) fun h a b u e => by
  unfold Cd.oLe at e
  split at e
  · exact .inl ⟨_, _, rfl, rfl⟩
  · exact .inr ⟨_, _, rfl, rfl⟩
  · cases e
theorem bf_gt : BinF K Cd.oGt (fun x y H Q => (rI0 fun i j => .bl (decide (j < i))) x y H Q ∨ rStr (fun i j => decide (j < i)) x y H Q) := bf_ord (fun _ _ _ => rfl) (fun _ _ _ => rfl) fun h a b u e => by
  unfold Cd.oGt at e
  split at e
  · exact .inl ⟨_, _, rfl, rfl⟩
  · exact .inr ⟨_, _, rfl, rfl⟩
  · cases e
theorem bf_ge : BinF K Cd.oGe (fun x y H Q => (rI0 fun i j => .bl (decide (j ≤ i))) x y H Q ∨ rStr (fun i j => !decide (i < j)) x y H Q) := bf_ord (fun _ _ _ => rfl) (fun _ _ _ => rfl) fun h a b u e => by
  unfold Cd.oGe at e
  split at e
  · exact .inl ⟨_, _, rfl, rfl⟩
  · exact .inr ⟨_, _, rfl, rfl⟩
  · cases e
theorem op_ltA : OpR X (compareOp .Lt) (fun x y H Q => (rI0 fun i j => .bl (decide (i < j))) x y H Q ∨ rStr (fun i j => decide (i < j)) x y H Q) := op_lt.or op_lt_str
theorem op_leA : OpR X (compareOp .LtE) (fun x y H Q => (rI0 fun i j => .bl (decide (i ≤ j))) x y H Q ∨ rStr (fun i j => !decide (j < i)) x y H Q) := op_le.or op_le_str
theorem op_gtA : OpR X (compareOp .Gt) (fun x y H Q => (rI0 fun i j => .bl (decide (j < i))) x y H Q ∨ rStr (fun i j => decide (j < i)) x y H Q) := op_gt.or op_gt_str
theorem op_geA : OpR X (compareOp .GtE) (fun x y H Q => (rI0 fun i j => .bl (decide (j ≤ i))) x y H Q ∨ rStr (fun i j => !decide (i < j)) x y H Q) := op_ge.or op_ge_str
/-! ### data -/
mutual
def toP : Cd.Dat → PyData
  | .non => .none
  | .bl b => .bool b
  | .int i => .int i
  | .str s => .str (toS s)
  | .lst l => .list (toPs l)
  | .tup l => .tuple (toPs l)
def toPs : List Cd.Dat → List PyData
  | [] => []
  | d :: l => toP d :: toPs l
end
mutual
theorem toP_eqv : ∀ a b : Cd.Dat, PyData.eqv (toP a) (toP b) = a.eqv b
  | .non, b => by cases b <;> simp only [toP, PyData.eqv, Cd.Dat.eqv]
  | .bl _, b => by cases b <;> simp only [toP, PyData.eqv, Cd.Dat.eqv]
  | .int _, b => by cases b <;> simp only [toP, PyData.eqv, Cd.Dat.eqv]
  | .str s, b => by
    cases b with
    | str t =>
      simp only [toP, PyData.eqv, Cd.Dat.eqv]
      rw [Bool.eq_iff_iff, beq_iff_eq, beq_iff_eq]
      exact toS_inj
    | _ => simp only [toP, PyData.eqv, Cd.Dat.eqv]
  | .lst l, b => by
    cases b with
    | lst m => simp only [toP, PyData.eqv, Cd.Dat.eqv]; exact toPs_eqv l m
    | _ => simp only [toP, PyData.eqv, Cd.Dat.eqv]
  | .tup l, b => by
    cases b with
    | tup m => simp only [toP, PyData.eqv, Cd.Dat.eqv]; exact toPs_eqv l m
    | _ => simp only [toP, PyData.eqv, Cd.Dat.eqv]
theorem toPs_eqv : ∀ l m : List Cd.Dat, PyData.eqvAll (toPs l) (toPs m) = Cd.Dat.eqvs l m
  | [], [] => rfl
  | [], _ :: _ => rfl
  | _ :: _, [] => rfl
  | a :: l, b :: m => by simp only [toPs, PyData.eqvAll, Cd.Dat.eqvs, toP_eqv a b, toPs_eqv l m]
end
section
variable {ρ : List Addr} {h : Cd.Hep} {H : Hp}
mutual
theorem rsl_dp (S : Sim K ρ h H) : ∀ (n : Nat) (d : Cd.Val) (x : V) (t : Cd.Dat), RV K ρ H d x → Cd.rsl h n d = some t → Dp K H x (toP t) ∧ PyData.canLay0 (toP t) = true ∧ PyData.depth (toP t) ≤ n
  | n, .non, x, t, r, e => by
    cases r; simp only [Cd.rsl, Option.some.injEq] at e; subst e
    exact ⟨.non, rfl, Nat.zero_le _⟩
  | n, .bl b, x, t, r, e => by
    cases r; simp only [Cd.rsl, Option.some.injEq] at e; subst e
    exact ⟨.bl b, rfl, Nat.zero_le _⟩
  | n, .int i, x, t, r, e => by
    cases r; simp only [Cd.rsl, Option.some.injEq] at e; subst e
    exact ⟨.int i, rfl, Nat.zero_le _⟩
  | n, .str s, x, t, r, e => by
    cases r
    simp only [Cd.rsl] at e
    split at e
    · rename_i hs
      cases e
      refine ⟨.str _, ?_, Nat.zero_le _⟩
      show ((toS s).cps.all fun c => decide (c < 0x110000)) = true
      rw [toS, List.all_toArray, List.all_eq_true]
      exact fun c hc => decide_eq_true (hs c hc)
    · cases e
  | 0, .tup l, x, t, r, e => by simp only [Cd.rsl] at e; cases e
  | 0, .fl l, x, t, r, e => by simp only [Cd.rsl] at e; cases e
  | 0, .ref a, x, t, r, e => by simp only [Cd.rsl] at e; cases e
  | 0, .exo a, x, t, r, e => by simp only [Cd.rsl] at e; cases e
  | n + 1, .exo a, x, t, r, e => by simp only [Cd.rsl] at e; cases e
  | n + 1, .tup l, x, t, r, e => by
    cases r with
    | tup q rs =>
      simp only [Cd.rsl] at e
      cases el : Cd.rsls h n l with
      | none => rw [el] at e; cases e
      | some ts =>
        rw [el] at e; cases e
        obtain ⟨a, b, c⟩ := rsls_dp S n l _ ts rs el
        exact ⟨.tup q a, b, by show PyData.depthAll _ + 1 ≤ _; omega⟩
  | n + 1, .fl l, x, t, r, e => by
    cases r with
    | fl q rs =>
      simp only [Cd.rsl] at e
      cases el : Cd.rsls h n l with
      | none => rw [el] at e; cases e
      | some ts =>
        rw [el] at e; cases e
        obtain ⟨a, b, c⟩ := rsls_dp S n l _ ts rs el
        exact ⟨.lst q.sq a, b, by show PyData.depthAll _ + 1 ≤ _; omega⟩
  | n + 1, .ref i, x, t, r, e => by
    cases r with
    | @ref _ a q =>
      simp only [Cd.rsl] at e
      split at e
      · rename_i l hl
        obtain ⟨vs, e1, rs⟩ := S.obj i _ a hl q
        cases el : Cd.rsls h n l with
        | none => rw [el] at e; cases e
        | some ts =>
          rw [el] at e; cases e
          obtain ⟨a, b, c⟩ := rsls_dp S n l _ ts rs el
          exact ⟨.lst (SqL.of e1) a, b, by show PyData.depthAll _ + 1 ≤ _; omega⟩
      · cases e
theorem rsls_dp (S : Sim K ρ h H) : ∀ (n : Nat) (ds : List Cd.Val) (xs : List V) (ts : List Cd.Dat), RVs K ρ H ds xs → Cd.rsls h n ds = some ts → DpAll K H xs (toPs ts) ∧ PyData.canLayAll0 (toPs ts) = true ∧ PyData.depthAll (toPs ts) ≤ n
  | n, [], xs, ts, r, e => by
    cases r; simp only [Cd.rsls, Option.some.injEq] at e; subst e
    exact ⟨.nil, rfl, Nat.zero_le _⟩
  | n, d :: ds, xs, ts, r, e => by
    cases r with
    | cons r1 r2 =>
      simp only [Cd.rsls] at e
      cases e1 : Cd.rsl h n d with
      | none => rw [e1] at e; cases e
      | some t =>
        rw [e1] at e
        simp only at e
        cases e2 : Cd.rsls h n ds with
        | none => rw [e2] at e; cases e
        | some us =>
          rw [e2] at e; cases e
          obtain ⟨a, b, c⟩ := rsl_dp S n d _ t r1 e1
          obtain ⟨a', b', c'⟩ := rsls_dp S n ds _ us r2 e2
          refine ⟨.cons a a', ?_, ?_⟩
          · show (_ && _) = true
            rw [b, b']; rfl
          · show max _ _ ≤ n
            exact Nat.max_le.mpr ⟨c, c'⟩
end
end
theorem shaped_of {t : Cd.Dat} (h1 : PyData.canLay0 (toP t) = true) (h2 : PyData.depth (toP t) ≤ 40) : SeqAt.shaped (toP t) = true := by
  show (_ && decide _) = true
  rw [h1, Bool.true_and]
  exact decide_eq_true (by omega)
theorem scl_of {ρ : List Addr} {H : Hp} {d e : Cd.Val} {x y : V} {k : Bool} (r1 : RV K ρ H d x) (r2 : RV K ρ H e y) (h : Cd.scl d e = some k) : scal x y = true ∧ decide (x = y) = k := by
  cases r1 <;> cases r2 <;> simp only [Cd.scl, Option.some.injEq, reduceCtorEq] at h <;> subst h <;> refine ⟨rfl, ?_⟩ <;> try simp
  · rename_i a b
    cases a <;> cases b <;> rfl
  · rw [Bool.eq_iff_iff]; simp
  · rw [Bool.eq_iff_iff]; simp [toS_inj]
theorem bf_eq : BinF K Cd.oEq (fun x y H Q => rEq x y H Q ∨ rEqD K x y H Q) := by
  intro ρ h H d e u x y Q S r1 r2 hu k
  unfold Cd.oEq Cd.vEq at hu
  cases es : Cd.scl d e with
  | some b =>
    rw [es] at hu; cases hu
    obtain ⟨h1, h2⟩ := scl_of r1 r2 es
    exact .inl ⟨h1, by rw [h2]; exact k ρ H _ (Step.refl _ _) S (.bl _)⟩
  | none =>
    rw [es] at hu
    simp only at hu
    split at hu
    · rename_i t1 t2 e1 e2
      cases hu
      obtain ⟨a, b, c⟩ := rsl_dp S _ _ _ _ r1 e1
      obtain ⟨a', b', c'⟩ := rsl_dp S _ _ _ _ r2 e2
      refine .inr ⟨_, _, a, a', shaped_of b c, shaped_of b' c', ?_⟩
      rw [toP_eqv]
      exact k ρ H _ (Step.refl _ _) S (.bl _)
    · cases hu
theorem bf_ne : BinF K Cd.oNe (fun x y H Q => rNe x y H Q ∨ rNeD K x y H Q) := by
  intro ρ h H d e u x y Q S r1 r2 hu k
  unfold Cd.oNe Cd.vEq at hu
  cases es : Cd.scl d e with
  | some b =>
    rw [es] at hu; cases hu
    obtain ⟨h1, h2⟩ := scl_of r1 r2 es
    exact .inl ⟨h1, by rw [h2]; exact k ρ H _ (Step.refl _ _) S (.bl _)⟩
  | none =>
    rw [es] at hu
    simp only at hu
    split at hu
    · rename_i t1 t2 e1 e2
      cases hu
      obtain ⟨a, b, c⟩ := rsl_dp S _ _ _ _ r1 e1
      obtain ⟨a', b', c'⟩ := rsl_dp S _ _ _ _ r2 e2
      refine .inr ⟨_, _, a, a', shaped_of b c, shaped_of b' c', ?_⟩
      rw [toP_eqv]
      exact k ρ H _ (Step.refl _ _) S (.bl _)
    · cases hu
theorem op_eqA (hu : X.A.units + 64 < cLine) : OpR X (compareOp .Eq) (fun x y H Q => rEq x y H Q ∨ rEqD X.K x y H Q) := op_eq.or (op_eqD hu)
theorem op_neA (hu : X.A.units + 64 < cLine) : OpR X (compareOp .NotEq) (fun x y H Q => rNe x y H Q ∨ rNeD X.K x y H Q) := op_ne.or (op_neD hu)
theorem isNon_of {ρ : List Addr} {H : Hp} {d : Cd.Val} {x : V} (r : RV K ρ H d x) : decide (x = .non) = Cd.isNon d := by cases r <;> rfl
theorem bf_isN : BinF K Cd.oIsN (fun x y H Q => y = .non ∧ Q (.bl (decide (x = .non))) H) := by
  intro ρ h H d e u x y Q S r1 r2 hu k
  unfold Cd.oIsN at hu
  split at hu
  · cases hu; cases r2
    exact ⟨rfl, by rw [isNon_of r1]; exact k ρ H _ (Step.refl _ _) S (.bl _)⟩
  · cases hu
theorem bf_notN : BinF K Cd.oNotN (fun x y H Q => y = .non ∧ Q (.bl (!decide (x = .non))) H) := by
  intro ρ h H d e u x y Q S r1 r2 hu k
  unfold Cd.oNotN at hu
  split at hu
  · cases hu; cases r2
    exact ⟨rfl, by rw [isNon_of r1]; exact k ρ H _ (Step.refl _ _) S (.bl _)⟩
  · cases hu
/-! ### subscripts -/
theorem atI_eq {α : Type} (xs : List α) (i : Int) : L2.atI xs i = Cd.atI xs i := rfl
theorem atI_rv {ρ : List Addr} {H : Hp} {ds : List Cd.Val} {vs : List V} {i : Int} {d : Cd.Val} (r : RVs K ρ H ds vs) (e : Cd.atI ds i = some d) : ∃ v, L2.atI vs i = some v ∧ RV K ρ H d v := by
  unfold Cd.atI at e
  unfold L2.atI
  rw [show L2.ixN vs.length i = Cd.ixN ds.length i from by rw [r.length]; rfl]
  cases q : Cd.ixN ds.length i with
  | none => rw [q] at e; cases e
  | some j =>
    rw [q] at e
    exact r.get e
theorem bf_idx : BinF K Cd.oIdx (rIx K) := by
  intro ρ h H d e u x y Q S r1 r2 hu k
  unfold Cd.oIdx at hu
  split at hu
  · cases r1 with
    | tup q rs =>
      cases r2
      obtain ⟨v, e1, r⟩ := atI_rv rs hu
      exact .inr (.inl ⟨_, _, _, v, rfl, rfl, q, e1, k ρ H _ (Step.refl _ _) S r⟩)
  · cases r1 with
    | fl q rs =>
      cases r2
      obtain ⟨v, e1, r⟩ := atI_rv rs hu
      exact .inl ⟨_, _, _, v, rfl, rfl, q.sq, e1, k ρ H _ (Step.refl _ _) S r⟩
  · rename_i s i
    split at hu
    · rename_i hl
      cases ec : Cd.atI s i with
      | none => rw [ec] at hu; cases hu
      | some c =>
        rw [ec] at hu; cases hu
        cases r1; cases r2
        rw [line_eq] at hl
        exact .inr (.inr ⟨_, _, c, rfl, rfl, hl, ec, k ρ H _ (Step.refl _ _) S (.str [c])⟩)
    · cases hu
  · split at hu
    · rename_i l hl
      cases r1 with
      | ref q =>
        cases r2
        obtain ⟨vs, e1, rs⟩ := S.obj _ _ _ hl q
        obtain ⟨v, e2, r⟩ := atI_rv rs hu
        exact .inl ⟨_, _, _, v, rfl, rfl, SqL.of e1, e2, k ρ H _ (Step.refl _ _) S r⟩
    · cases hu
  · cases hu
theorem k_idx {ca : String → Value} {W : WX} {a b : Expr} {ma mb : Cd.EM} {pos : Pos} (ha : KE X ca W a ma) (hb : KE X ca W b mb) (hs : PlainIx b := by exact fun _ _ => rfl) : KE X ca W (.Subscript a b pos) (Cd.eBin Cd.oIdx ma mb) :=
  PE.wk (pe_ix ix_seq ha hb hs) (tOp_of bf_idx)
end
end Cb

set_option Elab.async false
set_option linter.all false
set_option maxRecDepth 100000
set_option maxHeartbeats 4000000
/-! CdB4: the bridge: statements, loops, defs. -/
namespace Cb
open PySem PySem.Spec PyProof.Rows L2

section
variable (K : PySem.W.Frag) (ca : String → Value) (W : WX)
/-- what is wanted behind a statement's reading -/
def postS (ρ : List Addr) (H : Hp) (r : Cd.SR) (D : Ends) : Prop :=
  match r with
  | .nx η' h' => ∀ ρ' H' σ', Step ρ H ρ' H' → Sim K ρ' h' H' → RE K ρ' H' η' σ' → D.nx σ' H'
  | .brk η' h' => ∀ ρ' H' σ', Step ρ H ρ' H' → Sim K ρ' h' H' → RE K ρ' H' η' σ' → D.bk σ' H'
  | .cont η' h' => ∀ ρ' H' σ', Step ρ H ρ' H' → Sim K ρ' h' H' → RE K ρ' H' η' σ' → D.ct σ' H'
  | .ret v h' => ∀ ρ' H' x, Step ρ H ρ' H' → Sim K ρ' h' H' → RV K ρ' H' v x → D.rt x H'
  | .exc e η' h' => ∀ ρ' H' cls d σ', Step ρ H ρ' H' → Sim K ρ' h' H' → RE K ρ' H' η' σ' → RX K ca ρ' H' e cls d → W cls d σ' H'
  | .stuck => False
def tS (m : Cd.SM) : TS := fun D σ H => ∃ ρ h η, Sim K ρ h H ∧ RE K ρ H η σ ∧ postS K ca W ρ H (m η h) D
def tG (g : Cd.GM) : TG := fun x σ H Q => ∃ ρ h η d η', Sim K ρ h H ∧ RE K ρ H η σ ∧ RV K ρ H d x ∧ g d η = some η' ∧ ∀ σ', RE K ρ H η' σ' → Q σ' H
def tGs (g : Cd.GMs) : TGs := fun xs σ H Q => ∃ ρ h η ds η', Sim K ρ h H ∧ RE K ρ H η σ ∧ RVs K ρ H ds xs ∧ g ds η = some η' ∧ ∀ σ', RE K ρ H η' σ' → Q σ' H
end
abbrev KS (X : Cx) (ca : String → Value) (W : WX) (st : Stmt) (m : Cd.SM) : Prop := PS X st (tS X.K ca W m)
abbrev KSs (X : Cx) (ca : String → Value) (W : WX) (st : List Stmt) (m : Cd.SM) : Prop := PSs X st (tS X.K ca W m)
abbrev KG (X : Cx) (tg : Expr) (g : Cd.GM) : Prop := PG X tg (tG X.K g)
abbrev KGs (X : Cx) (ts : List Expr) (g : Cd.GMs) : Prop := PGs X ts (tGs X.K g)

section
variable {K : PySem.W.Frag} {ca : String → Value} {W : WX} {ρ ρ1 : List Addr} {H H1 : Hp} {σ : L2.St} {h : Cd.Hep} {η : Cd.Env}
theorem postS.mono {r : Cd.SR} {D : Ends} (st : Step ρ H ρ1 H1) (p : postS K ca W ρ H r D) : postS K ca W ρ1 H1 r D := by
  cases r with
  | nx η' h' => exact fun ρ' H' σ' s2 S q => p ρ' H' σ' (st.trans s2) S q
  | brk η' h' => exact fun ρ' H' σ' s2 S q => p ρ' H' σ' (st.trans s2) S q
  | cont η' h' => exact fun ρ' H' σ' s2 S q => p ρ' H' σ' (st.trans s2) S q
  | ret v h' => exact fun ρ' H' x s2 S q => p ρ' H' x (st.trans s2) S q
  | exc e η' h' => exact fun ρ' H' cls d σ' s2 S q => p ρ' H' cls d σ' (st.trans s2) S q
  | stuck => exact p
/-- an expression within a statement -/
theorem postS.first {α β : Type} {R : List Addr → Hp → α → β → Prop} {r : Cd.Res α} {f : α → Cd.Hep → Cd.SR} {D : Ends} {C : β → Hp → Prop} (S0 : Sim K ρ h H) (re : RE K ρ H η σ) (p : postS K ca W ρ H (r.thn η f) D)
    (c : ∀ ρ1 H1 h1 v x, Step ρ H ρ1 H1 → Sim K ρ1 h1 H1 → R ρ1 H1 v x → RE K ρ1 H1 η σ → postS K ca W ρ1 H1 (f v h1) D → C x H1) : postG K ca W R ρ H σ r C := by
  cases r with
  | ok v h' => exact fun ρ' H' x st S q => c ρ' H' h' v x st S q (re.mono st S0) (postS.mono st p)
  | exc e h' => exact fun ρ' H' cls d st S q => p ρ' H' cls d σ st S (re.mono st S0) q
  | stuck => exact p.elim
/-- a statement ahead of another -/
theorem postS.seq {r : Cd.SR} {f : Cd.Env → Cd.Hep → Cd.SR} {D : Ends} {C : L2.St → Hp → Prop} (p : postS K ca W ρ H (r.bind f) D)
    (c : ∀ ρ1 H1 h1 η1 σ1, Step ρ H ρ1 H1 → Sim K ρ1 h1 H1 → RE K ρ1 H1 η1 σ1 → postS K ca W ρ1 H1 (f η1 h1) D → C σ1 H1) : postS K ca W ρ H r { D with nx := C } := by
  cases r with
  | nx η' h' => exact fun ρ' H' σ' st S q => c ρ' H' h' η' σ' st S q (postS.mono st p)
  | brk η' h' => exact p
  | cont η' h' => exact p
  | ret v h' => exact p
  | exc e η' h' => exact p
  | stuck => exact p
end

section
variable {X : Cx} {ca : String → Value} {W : WX} {a b c e : Expr} {ma mb me : Cd.EM} {pos : Pos} {st : Stmt} {rest : List Stmt} {ms mt : Cd.SM}
theorem ks_wk_nx {t : TS} (h : PS X st t) (k : ∀ D σ H, D.nx σ H → t D σ H) : KS X ca W st Cd.sNop := PS.wk h fun D σ H ⟨ρ, h, η, S, re, p⟩ => k D σ H (p ρ H σ (Step.refl _ _) S re)
theorem ks_pass : KS X ca W (.Pass pos) Cd.sNop := ks_wk_nx ps_pass fun _ _ _ h => h
theorem ks_doc {x j pos pos'} : KS X ca W (.Expr (.Constant (.str x) j pos) pos') Cd.sNop := ks_wk_nx ps_doc fun _ _ _ h => h
theorem ks_break : KS X ca W (.Break pos) Cd.sBrk := PS.wk ps_break fun D σ H ⟨ρ, h, η, S, re, p⟩ => p ρ H σ (Step.refl _ _) S re
theorem ks_continue : KS X ca W (.Continue pos) Cd.sCont := PS.wk ps_continue fun D σ H ⟨ρ, h, η, S, re, p⟩ => p ρ H σ (Step.refl _ _) S re
theorem kss_nil : KSs X ca W [] Cd.sNop := PSs.wk pss_nil fun D σ H ⟨ρ, h, η, S, re, p⟩ => p ρ H σ (Step.refl _ _) S re
theorem kss_one (h : KS X ca W st ms) : KSs X ca W [st] ms := pss_one h
theorem kss_cons (h1 : KS X ca W st ms) (h2 : KSs X ca W rest mt) : KSs X ca W (st :: rest) (Cd.sSeq ms mt) := by
  refine PSs.wk (pss_cons h1 h2) fun D σ H ⟨ρ, h, η, S, re, p⟩ => ?_
  exact ⟨ρ, h, η, S, re, postS.seq p fun ρ1 H1 h1 η1 σ1 st1 S1 re1 p1 => ⟨ρ1, h1, η1, S1, re1, p1⟩⟩
theorem ks_expr (he : KE X ca W e me) (hs : swapsWith e none pos.line X.env = pure false := by rfl) : KS X ca W (.Expr e pos) (Cd.sExpr me) := by
  refine PS.wk (ps_expr he hs) fun D σ H ⟨ρ, h, η, S, re, p⟩ => ?_
  exact ⟨ρ, h, η, S, re, postS.first S re p fun ρ1 H1 h1 v x st1 S1 r1 re1 p1 => p1 ρ1 H1 σ (Step.refl _ _) S1 re1⟩
theorem ks_ret (he : KE X ca W e me) : KS X ca W (.Return (some e) pos) (Cd.sRet me) := by
  refine PS.wk (ps_ret he) fun D σ H ⟨ρ, h, η, S, re, p⟩ => ?_
  exact ⟨ρ, h, η, S, re, postS.first S re p fun ρ1 H1 h1 v x st1 S1 r1 re1 p1 => p1 ρ1 H1 x (Step.refl _ _) S1 r1⟩
theorem ks_retN : KS X ca W (.Return none pos) Cd.sRetN := PS.wk ps_retN fun D σ H ⟨ρ, h, η, S, re, p⟩ => p ρ H .non (Step.refl _ _) S .non
theorem ks_if {tc : Cd.TM} {sa sb : List Stmt} (hc : KT X ca W c tc) (ha : KSs X ca W sa ms) (hb : KSs X ca W sb mt) : KS X ca W (.If c sa sb pos) (Cd.sIf tc ms mt) := by
  refine PS.wk (ps_if hc ha hb) fun D σ H ⟨ρ, h, η, S, re, p⟩ => ?_
  refine ⟨ρ, h, η, S, re, postS.first S re p fun ρ1 H1 h1 k x st1 S1 r1 re1 p1 => ?_⟩
  cases (show k = x from r1)
  cases k with
  | true => exact ⟨ρ1, h1, η, S1, re1, p1⟩
  | false => exact ⟨ρ1, h1, η, S1, re1, p1⟩
theorem ks_set (i : Nat) {x : Str} {pos' : Pos} (hN : X.N.Nodup) (he : KE X ca W e me) (hi : X.N[i]? = some x := by rfl) (hx : Loc X.env.scope x := by first | exact Or.inl rfl | exact Or.inr rfl) (hs : swapsWith e (some (.Name x pos')) pos.line X.env = pure false := by rfl)
    (hf : X.fn x = true ∨ X.env.scope.names.lookup x = some .local := by first | exact .inl rfl | exact .inr rfl | assumption) : KS X ca W (.Assign [.Name x pos'] e pos) (Cd.sSet i me) := by
  refine PS.wk (ps_set hN hi hx he hs hf) fun D σ H ⟨ρ, h, η, S, re, p⟩ => ?_
  refine ⟨ρ, h, η, S, re, postS.first S re p fun ρ1 H1 h1 v x st1 S1 r1 re1 p1 => ?_⟩
  exact p1 ρ1 H1 _ (Step.refl _ _) S1 (re1.set r1 i)
/-! ### targets -/
theorem PG.wk {tg : Expr} {t t' : TG} (h : PG X tg t) (k : ∀ v σ H Q, t' v σ H Q → t v σ H Q) : PG X tg t' := ⟨fun pins s σ H v u Q I r hw => h.run pins s σ H v u Q I r (k _ _ _ _ hw)⟩
theorem PGs.wk {ts : List Expr} {t t' : TGs} (h : PGs X ts t) (k : ∀ v σ H Q, t' v σ H Q → t v σ H Q) : PGs X ts t' := ⟨fun pins s σ H v u Q I r hw => h.run pins s σ H v u Q I r (k _ _ _ _ hw)⟩
theorem kg_name (i : Nat) {x : Str} (hN : X.N.Nodup) (hi : X.N[i]? = some x := by rfl) (hx : Loc X.env.scope x := by first | exact Or.inl rfl | exact Or.inr rfl) (hf : X.fn x = true ∨ X.env.scope.names.lookup x = some .local := by first | exact .inl rfl | exact .inr rfl | assumption) :
    KG X (.Name x pos) (Cd.gNam i) := by
  refine PG.wk (pg_name hN hi hx hf) fun v σ H Q ⟨ρ, h, η, d, η', S, re, r, e, k⟩ => ?_
  cases e
  exact k _ (re.set r i)
theorem kgs_nil : KGs X [] Cd.gsNil := by
  refine PGs.wk pgs_nil fun vs σ H Q ⟨ρ, h, η, ds, η', S, re, r, e, k⟩ => ?_
  cases r with
  | nil => cases e; exact ⟨rfl, k _ re⟩
  | cons _ _ => cases e
theorem kgs_cons {t : Expr} {ts : List Expr} {g : Cd.GM} {gs : Cd.GMs} (h1 : KG X t g) (h2 : KGs X ts gs) (hs : (assignEach (t :: ts) X.env).map (·.2) = assign t X.env :: (assignEach ts X.env).map (·.2) := by rfl) : KGs X (t :: ts) (Cd.gsCons g gs) := by
  refine PGs.wk (pgs_cons h1 h2 hs) fun vs σ H Q ⟨ρ, h, η, ds, η', S, re, r, e, k⟩ => ?_
  cases r with
  | nil => cases e
  | @cons d v ds vs r1 r2 =>
    simp only [Cd.gsCons] at e
    cases eg : g d η with
    | none => rw [eg] at e; cases e
    | some η1 =>
      rw [eg] at e
      exact ⟨v, vs, rfl, ρ, h, η, d, η1, S, re, r1, eg, fun σ1 re1 => ⟨ρ, h, η1, ds, η', S, re1, r2, e, k⟩⟩
theorem gs_len : ∀ {ts : List Expr} {gs : Cd.GMs}, (∀ ds η η', gs ds η = some η' → ds.length = ts.length) → True := fun _ => trivial
theorem kg_tup {ts : List Expr} {kk : Nat} {gs : Cd.GMs} {n : Nat} (hc : X.calm = true) (h : KGs X ts gs) (hl : ∀ ds η η', gs ds η = some η' → ds.length = n)
    (hn : (assignEach ts X.env).length = n := by rfl) (hst : (assignEach ts X.env).findIdx? (·.1) = none := by rfl) : KG X (.Tuple ts kk pos) (Cd.gTpl gs) := by
  refine PG.wk (pg_tup hc h hn hst) fun v σ H Q ⟨ρ, h, η, d, η', S, re, r, e, k⟩ => ?_
  cases r with
  | tup q rs =>
    refine ⟨_, _, rfl, q, by rw [← rs.length]; exact hl _ _ _ e, ρ, h, η, _, η', S, re, rs, e, k⟩
  | _ => cases e
theorem gl_nil : ∀ ds η η', Cd.gsNil ds η = some η' → ds.length = 0 := fun ds η η' e => by
  cases ds with
  | nil => rfl
  | cons => cases e
theorem gl_cons {g : Cd.GM} {gs : Cd.GMs} {n : Nat} (h : ∀ ds η η', gs ds η = some η' → ds.length = n) : ∀ ds η η', Cd.gsCons g gs ds η = some η' → ds.length = n + 1 := fun ds η η' e => by
  cases ds with
  | nil => cases e
  | cons d ds =>
    simp only [Cd.gsCons] at e
    cases eg : g d η with
    | none => rw [eg] at e; cases e
    | some η1 => rw [eg] at e; rw [List.length_cons, h _ _ _ e]
theorem ks_asg {tg : Expr} {g : Cd.GM} (he : KE X ca W e me) (hg : KG X tg g) (hs : swapsWithSole [tg] e pos.line X.env = pure false := by rfl) (hw : swappedStores [tg] e X.env = pure none := by rfl) (h1 : (assignEach [tg] X.env).map (·.2) = [assign tg X.env] := by rfl) : KS X ca W (.Assign [tg] e pos) (Cd.sAsg g me) := by
  refine PS.wk (ps_asg he hg hs hw h1) fun D σ H ⟨ρ, h, η, S, re, p⟩ => ?_
  refine ⟨ρ, h, η, S, re, postS.first S re p fun ρ1 H1 h1 v x st1 S1 r1 re1 p1 => ?_⟩
  cases eg : g v η with
  | none => rw [eg] at p1; exact p1.elim
  | some η1 =>
    rw [eg] at p1
    exact ⟨ρ1, h1, η, v, η1, S1, re1, r1, eg, fun σ' re' => p1 ρ1 H1 σ' (Step.refl _ _) S1 re'⟩
/-! ### x op= e -/
theorem ks_aug (i : Nat) {x : Str} {op : Operator} {f : Cd.Hep → Cd.Val → Cd.Val → Option Cd.Val} {r : R2} {pos' : Pos} (ho : OpR X (inplaceOp op) r) (hf : BinF X.K f r) (hN : X.N.Nodup) (he : KE X ca W e me) (hi : X.N[i]? = some x := by rfl) (hx : Loc X.env.scope x := by first | exact Or.inl rfl | exact Or.inr rfl)
    (hff : X.fn x = true ∨ X.env.scope.names.lookup x = some .local := by first | exact .inl rfl | exact .inr rfl | assumption) : KS X ca W (.AugAssign (.Name x pos') op e pos) (Cd.sAug i f me) := by
  refine PS.wk (ps_aug (ti := r) hN hi hx he ho hff) fun D σ H ⟨ρ, h, η, S, re, p⟩ => ?_
  unfold Cd.sAug at p
  split at p
  · rename_i d ed
    obtain ⟨v, e1, r1⟩ := re.at_ i d ed
    refine ⟨v, e1, ρ, h, η, S, re, postS.first S re p fun ρ1 H1 h1 d2 y st1 S1 r2 re1 p1 => ?_⟩
    cases ef : f h1 d d2 with
    | none => rw [ef] at p1; exact p1.elim
    | some z =>
      rw [ef] at p1
      exact hf ρ1 h1 H1 d d2 z v y _ S1 (r1.mono st1 S) r2 ef fun ρ2 H2 w st2 S2 rw2 => p1 ρ2 H2 _ st2 S2 ((re1.mono st2 S1).set rw2 i)
  · exact p.elim
/-! ### while -/
theorem ks_while {tc : Cd.TM} {body : List Stmt} (hp : PassesOwn (model X.prog X.w) X.A X.env X.xe) (hc : KT X ca W c tc) (hb : KSs X ca W body ms) : KS X ca W (.While c body [] pos) (Cd.sWhile tc ms) := by
  refine PS.wk (ps_while hp hc hb) fun D σ H ⟨ρ, h, η, S, re, p⟩ => ?_
  by_cases q : ∃ n, Cd.whileN tc ms n η h ≠ .stuck
  · obtain ⟨n, q⟩ := q
    rw [Cd.sWhile_of q] at p
    refine ⟨fun m σ H => ∃ ρ h η, Sim X.K ρ h H ∧ RE X.K ρ H η σ ∧ postS X.K ca W ρ H (Cd.whileN tc ms m η h) D, ⟨n, ρ, h, η, S, re, p⟩, ?_⟩
    rintro m σ H ⟨ρ, h, η, S, re, p⟩
    cases m with
    | zero => exact p.elim
    | succ m =>
      rw [Cd.whileN] at p
      refine ⟨ρ, h, η, S, re, postS.first S re p fun ρ1 H1 h1 k x st1 S1 r1 re1 p1 => ?_⟩
      cases (show k = x from r1)
      cases k with
      | false => exact p1 ρ1 H1 σ (Step.refl _ _) S1 re1
      | true =>
        refine ⟨fun σ' H' => ∃ ρ h η, Sim X.K ρ h H' ∧ RE X.K ρ H' η σ' ∧ postS X.K ca W ρ H' (Cd.whileN tc ms m η h) D, fun σ' H' w => ⟨m, Nat.lt_succ_self _, w⟩, ρ1, h1, η, S1, re1, ?_⟩
        simp only [if_true] at p1
        cases eb : ms η h1 with
        | nx η' h' => rw [eb] at p1; exact fun ρ2 H2 σ2 st2 S2 re2 => ⟨ρ2, h', η', S2, re2, postS.mono st2 p1⟩
        | cont η' h' => rw [eb] at p1; exact fun ρ2 H2 σ2 st2 S2 re2 => ⟨ρ2, h', η', S2, re2, postS.mono st2 p1⟩
        | brk η' h' => rw [eb] at p1; exact p1
        | ret v h' => rw [eb] at p1; exact p1
        | exc e η' h' => rw [eb] at p1; exact p1
        | stuck => rw [eb] at p1; exact p1
  · rw [Cd.sWhile_stuck q] at p
    exact p.elim
/-! ### for -/
/-- an iterator that yields the items while chk holds -/
structure ItF (K : PySem.W.Frag) (J : It) (ds : List Cd.Val) (chk : Cd.Hep → Bool) (ρ0 : List Addr) (H0 : Hp) : Prop where
  go : ∀ ρ H h i, Step ρ0 H0 ρ H → Sim K ρ h H → chk h = true → i < ds.length → J.go i H
  stop : ∀ ρ H h i, Step ρ0 H0 ρ H → Sim K ρ h H → chk h = true → i = ds.length → J.stop i H
  yld : ∀ ρ H h i d x H', Step ρ0 H0 ρ H → Sim K ρ h H → chk h = true → ds[i]? = some d → J.yld i H x H' → Step ρ H ρ H' ∧ Sim K ρ h H' ∧ RV K ρ H' d x
def tI (K : PySem.W.Frag) (ca : String → Value) (W : WX) (m : Cd.IM) : TI := fun σ H R => ∃ ρ h η, Sim K ρ h H ∧ RE K ρ H η σ ∧
  match m η h with
  | .ok p h' => ∀ ρ' H' J, Step ρ H ρ' H' → Sim K ρ' h' H' → ItF K J p.1 p.2 ρ' H' → R J H'
  | .exc e h' => ∀ ρ' H' cls d, Step ρ H ρ' H' → Sim K ρ' h' H' → RX K ca ρ' H' e cls d → W cls d σ H'
  | .stuck => False
abbrev KI (X : Cx) (ca : String → Value) (W : WX) (tg iter : Expr) (m : Cd.IM) : Prop := PI X tg iter (tI X.K ca W m)
theorem forL_post {K : PySem.W.Frag} {g : Cd.GM} {gt : TG} {tb : TS} (hg : ∀ v σ H Q, tG K g v σ H Q → gt v σ H Q) (hb : ∀ D σ H, tS K ca W ms D σ H → tb D σ H) {J : It} {ds : List Cd.Val} {chk : Cd.Hep → Bool} {ρ0 : List Addr} {H0 : Hp} {h0 : Cd.Hep} {η0 : Cd.Env} {σ0 : L2.St} {D : Ends}
    (F : ItF K J ds chk ρ0 H0) (S : Sim K ρ0 h0 H0) (re : RE K ρ0 H0 η0 σ0) (p : postS K ca W ρ0 H0 (Cd.forL g chk ms ds η0 h0) D) :
    ∃ Wv : Nat → Nat → L2.St → Hp → Prop, (∃ m, Wv 0 m σ0 H0) ∧ ∀ i m σ H, Wv i m σ H →
      (J.stop i H ∧ D.nx σ H) ∨ (J.go i H ∧ ∃ N : L2.St → Hp → Prop, (∀ σ' H', N σ' H' → ∃ m', m' < m ∧ Wv (i + 1) m' σ' H') ∧ ∀ x H', J.yld i H x H' → gt x σ H' fun σ2 H2 => tb { D with nx := N, ct := N, bk := D.nx } σ2 H2) := by
  refine ⟨fun i m σ H => (m + i = ds.length + 1 ∧ i ≤ ds.length) ∧ ∃ ρ h η, Step ρ0 H0 ρ H ∧ Sim K ρ h H ∧ RE K ρ H η σ ∧ postS K ca W ρ H (Cd.forL g chk ms (ds.drop i) η h) D, ⟨ds.length + 1, ⟨rfl, Nat.zero_le _⟩, ρ0, h0, η0, Step.refl _ _, S, re, p⟩, ?_⟩
  rintro i m σ H ⟨⟨em, eil⟩, ρ, h, η, st, S, re, p⟩
  by_cases hi : i < ds.length
  · rw [List.drop_eq_getElem_cons hi, Cd.forL] at p
    split at p
    · rename_i hc
      refine .inr ⟨F.go ρ H h i st S hc hi, fun σ' H' => ∃ ρ h η, Step ρ0 H0 ρ H' ∧ Sim K ρ h H' ∧ RE K ρ H' η σ' ∧ postS K ca W ρ H' (Cd.forL g chk ms (ds.drop (i + 1)) η h) D, fun σ' H' w => ⟨m - 1, by omega, ⟨by omega, by omega⟩, w⟩, fun x H' y => ?_⟩
      obtain ⟨st1, S1, r1⟩ := F.yld ρ H h i ds[i] x H' st S hc (List.getElem?_eq_getElem hi) y
      cases eg : g ds[i] η with
      | none => rw [eg] at p; exact p.elim
      | some η1 =>
        rw [eg] at p
        simp only at p
        refine hg _ _ _ _ ⟨ρ, h, η, ds[i], η1, S1, re.mono st1 S, r1, eg, fun σ2 re2 => hb _ _ _ ⟨ρ, h, η1, S1, re2, ?_⟩⟩
        have p := postS.mono st1 p
        cases eb : ms η1 h with
        | nx η' h' => rw [eb] at p; exact fun ρ2 H2 σ3 st2 S2 re3 => ⟨ρ2, h', η', st.trans (st1.trans st2), S2, re3, postS.mono st2 p⟩
        | cont η' h' => rw [eb] at p; exact fun ρ2 H2 σ3 st2 S2 re3 => ⟨ρ2, h', η', st.trans (st1.trans st2), S2, re3, postS.mono st2 p⟩
        | brk η' h' => rw [eb] at p; exact p
        | ret v h' => rw [eb] at p; exact p
        | exc e η' h' => rw [eb] at p; exact p
        | stuck => rw [eb] at p; exact p
    · exact p.elim
  · rw [List.drop_eq_nil_of_le (by omega), Cd.forL] at p
    split at p
    · rename_i hc
      exact .inl ⟨F.stop ρ H h i st S hc (by omega), p ρ H σ (Step.refl _ _) S re⟩
    · exact p.elim
theorem ks_for {tg iter : Expr} {body : List Stmt} {mi : Cd.IM} {g : Cd.GM} (hp : PassesOwn (model X.prog X.w) X.A X.env X.xe) (hc : X.calm = true) (hi : KI X ca W tg iter mi) (hg : KG X tg g) (hb : KSs X ca W body ms)
    (hs : ∀ x, foldedSetIterable iter X.env x = pure x := by intro _; rfl) : KS X ca W (.For tg iter body [] pos) (Cd.sFor mi g ms) := by
  refine PS.wk (ps_for hp hc hi hg hb hs) fun D σ H ⟨ρ, h, η, S, re, p⟩ => ?_
  refine ⟨ρ, h, η, S, re, ?_⟩
  unfold Cd.sFor at p
  cases em : mi η h with
  | ok q h' =>
    rw [em] at p
    exact fun ρ' H' J st S' F => forL_post (fun _ _ _ _ x => x) (fun _ _ _ x => x) F S' (re.mono st S) (postS.mono st p)
  | exc e h' =>
    rw [em] at p
    exact fun ρ' H' cls d st S' q => p ρ' H' cls d σ st S' (re.mono st S) q
  | stuck => rw [em] at p; exact p.elim
theorem PI.wk {tg iter : Expr} {t t' : TI} (h : PI X tg iter t) (k : ∀ σ H R, t' σ H R → t σ H R) : PI X tg iter t' := ⟨fun pins s σ H R I hw => h.run pins s σ H R I (k _ _ _ hw)⟩
theorem PI.or {tg iter : Expr} {t t' : TI} (h : PI X tg iter t) (h' : PI X tg iter t') : PI X tg iter (fun σ H R => t σ H R ∨ t' σ H R) := ⟨fun pins s σ H R I hw => by
  rcases hw with hw | hw
  · exact h.run pins s σ H R I hw
  · exact h'.run pins s σ H R I hw⟩
theorem SqL.inj' {K : PySem.W.Frag} {H : Hp} {a : Addr} {xs ys : List V} (h : FzL K H a xs) (n : ∀ vs, H a = some (.lst vs) → False) (h' : SqL K H a ys) : True := trivial
theorem itf_tup {K : PySem.W.Frag} {ρ : List Addr} {H : Hp} {h : Cd.Hep} {a : Addr} {ds : List Cd.Val} {vs : List V} (S : Sim K ρ h H) (q : SqT K H a vs) (r : RVs K ρ H ds vs) : ItF K (Itt K a) ds (fun _ => true) ρ H where
  go := fun ρ1 H1 h1 i st S1 _ hi => ⟨vs, vs[i]'(by rw [← r.length]; exact hi), st.sqT S q, List.getElem?_eq_getElem _⟩
  stop := fun ρ1 H1 h1 i st S1 _ hi => ⟨vs, st.sqT S q, by rw [← r.length]; omega⟩
  yld := fun ρ1 H1 h1 i d x H' st S1 _ hd y => by
    obtain ⟨rfl, y⟩ := y
    obtain ⟨v, e1, e2⟩ := r.get hd
    have := y vs (st.sqT S q)
    rw [e1] at this; cases this
    exact ⟨Step.refl _ _, S1, e2.mono st S⟩
theorem itf_fl {K : PySem.W.Frag} {ρ : List Addr} {H : Hp} {h : Cd.Hep} {a : Addr} {ds : List Cd.Val} {vs : List V} (S : Sim K ρ h H) (q : FzL K H a vs) (r : RVs K ρ H ds vs) : ItF K (Itl K a) ds (fun _ => true) ρ H where
  go := fun ρ1 H1 h1 i st S1 _ hi => ⟨vs, vs[i]'(by rw [← r.length]; exact hi), (st.fzL S q).sq, List.getElem?_eq_getElem _⟩
  stop := fun ρ1 H1 h1 i st S1 _ hi => ⟨vs, (st.fzL S q).sq, by rw [← r.length]; omega⟩
  yld := fun ρ1 H1 h1 i d x H' st S1 _ hd y => by
    obtain ⟨rfl, y⟩ := y
    obtain ⟨v, e1, e2⟩ := r.get hd
    have := y vs (st.fzL S q).sq
    rw [e1] at this; cases this
    exact ⟨Step.refl _ _, S1, e2.mono st S⟩
theorem itf_lst {K : PySem.W.Frag} {ρ : List Addr} {H : Hp} {a : Addr} {n : Nat} {ds : List Cd.Val} (q : ρ[n]? = some a) (chk : Cd.Hep → Bool) (hc : ∀ h', chk h' = true → h'[n]? = some (.lst ds)) : ItF K (Itl K a) ds chk ρ H where
  go := fun ρ1 H1 h1 i st S1 c hi => by
    obtain ⟨vs, e1, r⟩ := S1.obj n _ a (hc h1 c) (st.ix q)
    exact ⟨vs, vs[i]'(by rw [← r.length]; exact hi), SqL.of e1, List.getElem?_eq_getElem _⟩
  stop := fun ρ1 H1 h1 i st S1 c hi => by
    obtain ⟨vs, e1, r⟩ := S1.obj n _ a (hc h1 c) (st.ix q)
    exact ⟨vs, SqL.of e1, by rw [← r.length]; omega⟩
  yld := fun ρ1 H1 h1 i d x H' st S1 c hd y => by
    obtain ⟨rfl, y⟩ := y
    obtain ⟨vs, e1, r⟩ := S1.obj n _ a (hc h1 c) (st.ix q)
    obtain ⟨v, e2, e3⟩ := r.get hd
    have := y vs (SqL.of e1)
    rw [e2] at this; cases this
    exact ⟨Step.refl _ _, S1, e3⟩
theorem itf_str {K : PySem.W.Frag} {ρ : List Addr} {H : Hp} (s : List Nat) : ItF K (Its (toS s)) (s.map fun c => .str [c]) (fun _ => true) ρ H where
  go := fun ρ1 H1 h1 i st S1 _ hi => by rw [List.length_map] at hi; exact hi
  stop := fun ρ1 H1 h1 i st S1 _ hi => by rw [List.length_map] at hi; exact Nat.le_of_eq hi.symm
  yld := fun ρ1 H1 h1 i d x H' st S1 _ hd y => by
    obtain ⟨rfl, c, e1, rfl⟩ := y
    have e2 : s[i]? = some c := by
      have : (toS s).cps[i]? = s[i]? := by simp [toS]
      rw [← this]; exact e1
    rw [List.getElem?_map, e2] at hd
    cases hd
    exact ⟨Step.refl _ _, S1, .str [c]⟩
theorem itf_rng {K : PySem.W.Frag} {ρ : List Addr} {H : Hp} (lo : Int) (n : Nat) : ItF K (Itr lo n) (Cd.rng lo n) (fun _ => true) ρ H where
  go := fun ρ1 H1 h1 i st S1 _ hi => by
    have : i < n := by simpa [Cd.rng] using hi
    exact this
  stop := fun ρ1 H1 h1 i st S1 _ hi => by
    have : i = n := by simpa [Cd.rng] using hi
    exact Nat.le_of_eq this.symm
  yld := fun ρ1 H1 h1 i d x H' st S1 _ hd y => by
    obtain ⟨rfl, rfl⟩ := y
    have hi : i < n := by
      have := (List.getElem?_eq_some_iff.mp hd).1
      simpa [Cd.rng] using this
    unfold Cd.rng at hd
    rw [List.getElem?_map, List.getElem?_range hi] at hd
    cases hd
    exact ⟨Step.refl _ _, S1, .int _⟩
theorem ki_val {tg : Expr} (he : KE X ca W e me) : KI X ca W tg e (Cd.iVal me) := by
  refine PI.wk (PI.or (pi_tup he) (PI.or (pi_list he) (pi_str he))) fun σ H R ⟨ρ, h, η, S, re, p⟩ => ?_
  unfold Cd.iVal at p
  cases em : me η h with
  | stuck => rw [em] at p; exact p.elim
  | exc e h' => rw [em] at p; exact .inl ⟨ρ, h, η, S, re, by rw [em]; exact p⟩
  | ok v h' =>
    rw [em] at p
    simp only [Cd.Res.bind_ok] at p
    cases ei : Cd.items h' v with
    | none => rw [ei] at p; exact p.elim
    | some q =>
      rw [ei] at p
      simp only [Cd.ofO_some] at p
      unfold Cd.items at ei
      split at ei
      · cases ei
        refine .inl ⟨ρ, h, η, S, re, ?_⟩
        rw [em]
        intro ρ1 H1 x st1 S1 r1
        cases r1 with
        | tup q1 rs => exact ⟨_, rfl, ⟨_, q1⟩, p ρ1 H1 _ st1 S1 (itf_tup S1 q1 rs)⟩
      · cases ei
        refine .inr (.inl ⟨ρ, h, η, S, re, ?_⟩)
        rw [em]
        intro ρ1 H1 x st1 S1 r1
        cases r1 with
        | fl q1 rs => exact ⟨_, rfl, ⟨_, q1.sq⟩, p ρ1 H1 _ st1 S1 (itf_fl S1 q1 rs)⟩
      · cases ei
        refine .inr (.inr ⟨ρ, h, η, S, re, ?_⟩)
        rw [em]
        intro ρ1 H1 x st1 S1 r1
        cases r1
        exact ⟨_, rfl, p ρ1 H1 _ st1 S1 (itf_str _)⟩
      · split at ei
        · rename_i l hl
          cases ei
          refine .inr (.inl ⟨ρ, h, η, S, re, ?_⟩)
          rw [em]
          intro ρ1 H1 x st1 S1 r1
          cases r1 with
          | ref q1 =>
            obtain ⟨vs, e1, rs⟩ := S1.obj _ _ _ hl q1
            exact ⟨_, rfl, ⟨vs, SqL.of e1⟩, p ρ1 H1 _ st1 S1 (itf_lst q1 _ fun h' c => @of_decide_eq_true _ (Classical.propDecidable _) c)⟩
        · cases ei
      · cases ei
theorem tI_args {f : Cd.Hep → List Cd.Val → Option (List Cd.Val × (Cd.Hep → Bool))} {mas : Cd.AM} {σ : L2.St} {H : Hp} {R : It → Hp → Prop} {C : List V → Hp → Prop} (p : tI X.K ca W (Cd.iArgs f mas) σ H R)
    (c : ∀ ρ1 H1 h1 ds xs q, Sim X.K ρ1 h1 H1 → RVs X.K ρ1 H1 ds xs → f h1 ds = some q → (∀ ρ' H' J, Step ρ1 H1 ρ' H' → Sim X.K ρ' h1 H' → ItF X.K J q.1 q.2 ρ' H' → R J H') → C xs H1) : tA X.K ca W mas σ H C := by
  obtain ⟨ρ, h, η, S, re, p⟩ := p
  refine ⟨ρ, h, η, S, re, ?_⟩
  unfold Cd.iArgs at p
  cases em : mas η h with
  | stuck => rw [em] at p; exact p.elim
  | exc e h' => rw [em] at p; exact p
  | ok v h' =>
    rw [em] at p
    simp only [Cd.Res.bind_ok] at p
    intro ρ1 H1 xs st1 S1 r1
    cases ef : f h' v with
    | none => rw [ef] at p; exact p.elim
    | some q =>
      rw [ef] at p
      exact c ρ1 H1 h' v xs q S1 r1 ef fun ρ' H' J st' S' F => p ρ' H' J (st1.trans st') S' F
theorem ki_rng1 {tg : Expr} {p : Pos} {mas : Cd.AM} (hm : X.mg "range" = none) (ha : KA X ca W [a] mas) (hg : Gl X "range" := by rfl) (hs : starEach [a] X.env = [(false, eval a X.env)] := by rfl) : KI X ca W tg (.Call (.Name "range" p) [a] [] pos) (Cd.iArgs Cd.fRng1 mas) := by
  refine PI.wk (pi_range1 hg hm ha hs) fun σ H R p => tI_args p fun ρ1 H1 h1 ds xs q S1 r1 ef k => ?_
  unfold Cd.fRng1 at ef
  split at ef
  · rename_i j
    split at ef
    · rename_i hj
      cases ef
      cases r1 with
      | cons r2 r3 =>
        cases r2; cases r3
        exact ⟨j, rfl, hj.1, hj.2, k ρ1 H1 _ (Step.refl _ _) S1 (itf_rng 0 _)⟩
    · cases ef
  · cases ef
theorem ki_rng2 {tg : Expr} {p : Pos} {mas : Cd.AM} (hm : X.mg "range" = none) (ha : KA X ca W [a, b] mas) (hg : Gl X "range" := by rfl) (hs : starEach [a, b] X.env = [(false, eval a X.env), (false, eval b X.env)] := by rfl) (hs2 : starEach [b] X.env = [(false, eval b X.env)] := by rfl) :
    KI X ca W tg (.Call (.Name "range" p) [a, b] [] pos) (Cd.iArgs Cd.fRng2 mas) := by
  refine PI.wk (pi_range2 hg hm ha hs hs2) fun σ H R p => tI_args p fun ρ1 H1 h1 ds xs q S1 r1 ef k => ?_
  unfold Cd.fRng2 at ef
  split at ef
  · rename_i i j
    split at ef
    · rename_i hj
      cases ef
      cases r1 with
      | cons r2 r3 =>
        cases r2
        cases r3 with
        | cons r4 r5 =>
          cases r4; cases r5
          exact ⟨i, j, rfl, ⟨hj.1.1, hj.1.2, hj.2.1, hj.2.2⟩, k ρ1 H1 _ (Step.refl _ _) S1 (itf_rng i _)⟩
    · cases ef
  · cases ef

/-! ### calls -/
/-- the promise of a def whose reading is F, of n parameters -/
def spF (K : PySem.W.Frag) (ca : String → Value) (n : Nat) (F : Cd.Fn) : Sp := fun vs H Q E => vs.length = n ∧ ∃ ρ h ds, Sim K ρ h H ∧ RVs K ρ H ds vs ∧
  match F ds h with
  | .ok v h' => ∀ ρ' H' x, Step ρ H ρ' H' → Sim K ρ' h' H' → RV K ρ' H' v x → Q x H'
  | .exc e h' => ∀ ρ' H' cls d, Step ρ H ρ' H' → Sim K ρ' h' H' → RX K ca ρ' H' e cls d → E cls d H'
  | .stuck => False
theorem k_call {k n : Nat} {f : Addr} {fd : FuncData} {ps : List Str} {F : Cd.Fn} {x : Str} {p : Pos} {es : List Expr} {mas : Cd.AM} (G : FnOk X.prog X.w X.K X.mg X.base (L2.CX X.prog X.w) k f fd ps (spF X.K ca n F)) (tk : Takes X W) (hr : Room k X.A) (hg : Gl X x) (hm : X.mg x = some (.ref f))
    (hk : PySem.W.keepIn X.K (.ref f) = true) (hb : Binds X.K fd ps []) (hn : n = (e :: es).length) (ha : KA X ca W (e :: es) mas) (hal : ∀ η h vs h', mas η h = .ok vs h' → vs.length = (e :: es).length) (hdb : (x == ("__debug__" : Str)) = false := by decide)
    (he : starEach (e :: es) X.env = (false, eval e X.env) :: starEach es X.env := by rfl) (hpl : (backTo pos (starEach es X.env)).any (·.1) = false := by rfl) : KE X ca W (.Call (.Name x p) (e :: es) [] pos) (Cd.eCall F mas) := by
  refine PE.wk (pe_callS G hr hg hm hk hb (fun σ => passAt tk σ) ha hdb he hpl) fun σ H Q ⟨ρ, h, η, S, re, p⟩ => ?_
  refine ⟨ρ, h, η, S, re, ?_⟩
  unfold Cd.eCall at p
  cases em : mas η h with
  | stuck => rw [em] at p; exact p.elim
  | exc e h' => rw [em] at p; exact p
  | ok ds h1 =>
    rw [em] at p
    simp only [Cd.Res.bind_ok] at p
    intro ρ1 H1 xs st1 S1 r1
    refine ⟨by rw [← r1.length, hal _ _ _ _ em, hn], ρ1, h1, ds, S1, r1, ?_⟩
    cases eF : F ds h1 with
    | stuck => rw [eF] at p; exact p.elim
    | ok v h2 => rw [eF] at p; exact fun ρ2 H2 x st2 S2 r2 => p ρ2 H2 x (st1.trans st2) S2 r2
    | exc ex h2 => rw [eF] at p; exact fun ρ2 H2 cls d st2 S2 r2 => p ρ2 H2 cls d (st1.trans st2) S2 r2
theorem al_nil : ∀ η h vs h', Cd.aNil η h = .ok vs h' → vs.length = 0 := fun η h vs h' e => by cases e; rfl
theorem al_cons {m : Cd.EM} {r : Cd.AM} {n : Nat} (hr : ∀ η h vs h', r η h = .ok vs h' → vs.length = n) : ∀ η h vs h', Cd.aCons m r η h = .ok vs h' → vs.length = n + 1 := fun η h vs h' e => by
  unfold Cd.aCons at e
  cases em : m η h with
  | stuck => rw [em] at e; cases e
  | exc _ _ => rw [em] at e; cases e
  | ok v h1 =>
    rw [em] at e
    simp only [Cd.Res.bind_ok] at e
    cases er : r η h1 with
    | stuck => rw [er] at e; cases e
    | exc _ _ => rw [er] at e; cases e
    | ok vs1 h2 =>
      rw [er] at e
      cases e
      rw [List.length_cons, hr _ _ _ _ er]
/-- a built-in function -/
def BFnF (K : PySem.W.Frag) (F : Cd.BFn) (r : List V → Hp → VK → Prop) : Prop := ∀ (ρ : List Addr) (h h' : Cd.Hep) (H : Hp) (ds : List Cd.Val) (u : Cd.Val) (xs : List V) (Q : VK), Sim K ρ h H → RVs K ρ H ds xs → F ds h = some (u, h') →
  (∀ ρ' H' w, Step ρ H ρ' H' → Sim K ρ' h' H' → RV K ρ' H' u w → Q w H') → r xs H Q
theorem tCB_of {F : Cd.BFn} {r : List V → Hp → VK → Prop} {mas : Cd.AM} (hf : BFnF X.K F r) : ∀ σ H Q, tE X.K ca W (Cd.eCallB F mas) σ H Q → tCB r (tA X.K ca W mas) σ H Q := by
  rintro σ H Q ⟨ρ, h, η, S, re, p⟩
  refine ⟨ρ, h, η, S, re, postG.first p fun ρ1 H1 h1 ds xs st1 S1 r1 p1 => ?_⟩
  cases e : F ds h1 with
  | none => rw [e] at p1; exact p1.elim
  | some q =>
    obtain ⟨u, h2⟩ := q
    rw [e] at p1
    exact hf ρ1 h1 h2 H1 ds u xs Q S1 r1 e p1
theorem k_callB {id : String} {F : Cd.BFn} {r : List V → Hp → VK → Prop} {x : Str} {p : Pos} {es : List Expr} {mas : Cd.AM} (hc : CallR X (.builtin id) r) (hf : BFnF X.K F r) (hm : X.mg x = none) (ha : KA X ca W (e :: es) mas) (hg : Gl X x := by rfl) (hv : bootBuiltins x = some (.builtin id) := by decide +kernel) (hn : x ≠ "__name__" := by decide) (hdb : (x == ("__debug__" : Str)) = false := by decide)
    (he : starEach (e :: es) X.env = (false, eval e X.env) :: starEach es X.env := by rfl) (hpl : (backTo pos (starEach es X.env)).any (·.1) = false := by rfl) : KE X ca W (.Call (.Name x p) (e :: es) [] pos) (Cd.eCallB F mas) :=
  PE.wk (pe_callB hc hg hm hv ha hn hdb he hpl) (tCB_of hf)
theorem k_callTy {T : String} {F : Cd.BFn} {r : List V → Hp → VK → Prop} {x : Str} {p : Pos} {es : List Expr} {mas : Cd.AM} (hc : CallR X (.type T) r) (hf : BFnF X.K F r) (hm : X.mg x = none) (ha : KA X ca W (e :: es) mas) (hg : Gl X x := by rfl) (hv : bootBuiltins x = some (.type T) := by decide +kernel) (hn : x ≠ "__name__" := by decide) (hdb : (x == ("__debug__" : Str)) = false := by decide)
    (he : starEach (e :: es) X.env = (false, eval e X.env) :: starEach es X.env := by rfl) (hpl : (backTo pos (starEach es X.env)).any (·.1) = false := by rfl) : KE X ca W (.Call (.Name x p) (e :: es) [] pos) (Cd.eCallB F mas) :=
  PE.wk (pe_callTy hc hg hm hv ha hn hdb he hpl) (tCB_of hf)
end

/-! ### a def -/
section
variable {P : Program} {w : World} {K : PySem.W.Frag} {mg : Str → Option Value} {base : Heap} {ca : String → Value}
/-- the wish of a def's body: what is raised goes out -/
abbrev WD (E : XK) : WX := fun cls d _ H => E cls d H
theorem re_start {ρ : List Addr} {H : Hp} {ds : List Cd.Val} {vs : List V} {N : List Str} (r : RVs K ρ H ds vs) : RE K ρ H (ds.map some ++ List.replicate (N.length - ds.length) none) (L2.start N vs) := by
  refine ⟨?_, fun i d e => ?_⟩
  · unfold L2.start
    simp only [List.length_append, List.length_map, List.length_replicate, r.length]
  · unfold L2.start
    by_cases hi : i < ds.length
    · rw [List.getElem?_append_left (by simpa using hi), List.getElem?_map] at e
      cases ed : ds[i]? with
      | none => rw [ed] at e; cases e
      | some d' =>
        rw [ed] at e
        cases e
        obtain ⟨v, e1, e2⟩ := r.get ed
        refine ⟨v, ?_, e2⟩
        rw [List.getElem?_append_left (by rw [List.length_map, ← r.length]; exact hi), List.getElem?_map, e1]
        rfl
    · rw [List.getElem?_append_right (by simpa using hi)] at e
      have := List.mem_of_getElem? e
      rw [List.mem_replicate] at this
      cases this.2
theorem k_def {x qual : Str} {st : Stmt} {f : Addr} {fd : FuncData} {N ps : List Str} {k : Nat} {body : Cd.SM} (F : Fun K x qual st f fd) (S : FnScope N ps (defScope st))
    (hb : ∀ (cdv : Value) (A : Around) (outer : List Env) (s : Shared) (H : Hp) (E : XK), Room k (A.deeper (envOfC qual (defScope st) s.heap.objs.size f cdv)) →
      Takes (cxOf (L2.CX P w) P w K mg base N qual (defScope st) f cdv A outer s H E) (WD E) →
      PassesOwn (model P w) (cxOf (L2.CX P w) P w K mg base N qual (defScope st) f cdv A outer s H E).A (cxOf (L2.CX P w) P w K mg base N qual (defScope st) f cdv A outer s H E).env (cxOf (L2.CX P w) P w K mg base N qual (defScope st) f cdv A outer s H E).xe →
      KSs (cxOf (L2.CX P w) P w K mg base N qual (defScope st) f cdv A outer s H E) ca (WD E) (defBody st) body) :
    FnOk P w K mg base (L2.CX P w) (k + 1) f fd ps (spF K ca ps.length (Cd.fn ps.length N.length body)) := by
  refine F.okX S (fun vs H Q E h => h.1) (fun cdv A outer s H vs Q E hr h => ?_)
  obtain ⟨hl, ρ, h0, ds, Si, r, p⟩ := h
  have tk : Takes (cxOf (L2.CX P w) P w K mg base N qual (defScope st) f cdv A outer s H E) (WD E) := takes_of rfl rfl rfl rfl
  refine ⟨_, hb cdv A outer s H E hr tk (passes_of rfl), ρ, h0, _, Si, re_start (N := N) r, ?_⟩
  unfold Cd.fn at p
  rw [if_pos (by rw [r.length, hl])] at p
  have el : ds.length = ps.length := by rw [r.length, hl]
  rw [← el] at p
  cases eb : body (ds.map some ++ List.replicate (N.length - ds.length) none) h0 with
  | nx η' h' => rw [eb] at p; exact fun ρ' H' σ' st S' _ => p ρ' H' .non st S' .non
  | ret v h' => rw [eb] at p; exact p
  | exc e η' h' => rw [eb] at p; exact fun ρ' H' cls d σ' st S' _ q => p ρ' H' cls d st S' q
  | brk _ _ => rw [eb] at p; exact p.elim
  | cont _ _ => rw [eb] at p; exact p.elim
  | stuck => rw [eb] at p; exact p.elim
end
end Cb

set_option Elab.async false
set_option linter.all false
set_option maxRecDepth 100000
set_option maxHeartbeats 4000000
/-! CdB5: the bridge: built-in functions. -/
namespace Cb
open PySem PySem.Spec PyProof.Rows L2
section
variable {X : Cx} {K : PySem.W.Frag} {ca : String → Value} {W : WX}
theorem one_rv {ρ : List Addr} {H : Hp} {d : Cd.Val} {xs : List V} (r : RVs K ρ H [d] xs) : ∃ x, xs = [x] ∧ RV K ρ H d x := by
  cases r with
  | cons a b => cases b; exact ⟨_, rfl, a⟩
theorem two_rv {ρ : List Addr} {H : Hp} {d e : Cd.Val} {xs : List V} (r : RVs K ρ H [d, e] xs) : ∃ x y, xs = [x, y] ∧ RV K ρ H d x ∧ RV K ρ H e y := by
  cases r with
  | cons a b => obtain ⟨y, rfl, q⟩ := one_rv b; exact ⟨_, y, rfl, a, q⟩
/-- a list or tuple by its reading -/
theorem seq_of {ρ : List Addr} {h : Cd.Hep} {H : Hp} {d : Cd.Val} {x : V} {l : List Cd.Val} (S : Sim K ρ h H) (r : RV K ρ H d x) (e : Cd.itsL h d = some l) : ∃ a vs, x = .ref a ∧ SqL K H a vs ∧ RVs K ρ H l vs := by
  cases r with
  | fl q rs => cases e; exact ⟨_, _, rfl, q.sq, rs⟩
  | ref q =>
    simp only [Cd.itsL] at e
    split at e
    · rename_i m hl
      cases e
      obtain ⟨vs, e1, rs⟩ := S.obj _ _ _ hl q
      exact ⟨_, vs, rfl, SqL.of e1, rs⟩
    · cases e
  | _ => cases e
theorem bf_len : BFnF K Cd.bLen (fun xs H Q => ∃ x n, xs = [x] ∧ LenV K x H n ∧ Q (.int n) H) := by
  intro ρ h h' H ds u xs Q S r e k
  unfold Cd.bLen at e
  split at e
  · split at e
    · rename_i s hl
      cases e
      obtain ⟨x, rfl, r0⟩ := one_rv r
      cases r0
      rw [line_eq] at hl
      exact ⟨_, s.length, rfl, (⟨hl, rfl⟩ : _ ∧ _), k ρ H _ (Step.refl _ _) S (.int _)⟩
    · cases e
  · cases e
    obtain ⟨x, rfl, r0⟩ := one_rv r
    cases r0 with
    | tup q rs => exact ⟨_, _, rfl, .inr ⟨_, q, rfl⟩, k ρ H _ (Step.refl _ _) S (by rw [rs.length]; exact .int _)⟩
  · cases e
    obtain ⟨x, rfl, r0⟩ := one_rv r
    cases r0 with
    | fl q rs => exact ⟨_, _, rfl, .inl ⟨_, q.sq, rfl⟩, k ρ H _ (Step.refl _ _) S (by rw [rs.length]; exact .int _)⟩
  · split at e
    · rename_i l hl
      cases e
      obtain ⟨x, rfl, r0⟩ := one_rv r
      cases r0 with
      | ref q =>
        obtain ⟨vs, e1, rs⟩ := S.obj _ _ _ hl q
        exact ⟨_, _, rfl, .inl ⟨_, SqL.of e1, rfl⟩, k ρ H _ (Step.refl _ _) S (by rw [rs.length]; exact .int _)⟩
    · cases e
  · cases e
theorem bf_abs : BFnF K Cd.bAbs (fun xs H Q => ∃ i, xs = [.int i] ∧ Q (.int (if i < 0 then -i else i)) H) := by
  intro ρ h h' H ds u xs Q S r e k
  unfold Cd.bAbs at e
  split at e
  · cases e
    obtain ⟨x, rfl, r0⟩ := one_rv r
    cases r0
    exact ⟨_, rfl, k ρ H _ (Step.refl _ _) S (.int _)⟩
  · cases e
theorem bf_max2 : BFnF K Cd.bMax2 (fun xs H Q => ∃ i j, xs = [.int i, .int j] ∧ Q (.int (if j > i then j else i)) H) := by
  intro ρ h h' H ds u xs Q S r e k
  unfold Cd.bMax2 at e
  split at e
  · cases e
    obtain ⟨x, y, rfl, r0, r2⟩ := two_rv r
    cases r0; cases r2
    exact ⟨_, _, rfl, k ρ H _ (Step.refl _ _) S (.int _)⟩
  · cases e
theorem bf_min2 : BFnF K Cd.bMin2 (fun xs H Q => ∃ i j, xs = [.int i, .int j] ∧ Q (.int (if j < i then j else i)) H) := by
  intro ρ h h' H ds u xs Q S r e k
  unfold Cd.bMin2 at e
  split at e
  · cases e
    obtain ⟨x, y, rfl, r0, r2⟩ := two_rv r
    cases r0; cases r2
    exact ⟨_, _, rfl, k ρ H _ (Step.refl _ _) S (.int _)⟩
  · cases e
theorem bf_int : BFnF K Cd.bInt (fun xs H Q => (∃ i, xs = [.int i] ∧ Q (.int i) H) ∨ ∃ k, xs = [.bl k] ∧ Q (.int (if k then 1 else 0)) H) := by
  intro ρ h h' H ds u xs Q S r e k
  unfold Cd.bInt at e
  split at e
  · cases e
    obtain ⟨x, rfl, r0⟩ := one_rv r
    cases r0
    exact .inl ⟨_, rfl, k ρ H _ (Step.refl _ _) S (.int _)⟩
  · cases e
    obtain ⟨x, rfl, r0⟩ := one_rv r
    cases r0
    exact .inr ⟨_, rfl, k ρ H _ (Step.refl _ _) S (.int _)⟩
  · cases e
theorem lay_k {ρ : List Addr} {h : Cd.Hep} {H : Hp} {ds : List Cd.Val} {vs : List V} {Q : VK} (S : Sim K ρ h H) (rs : RVs K ρ H ds vs) (k : ∀ ρ' H' w, Step ρ H ρ' H' → Sim K ρ' (h ++ [.lst ds]) H' → RV K ρ' H' (.ref h.length) w → Q w H') :
    ∀ l, H l = none → Q (.ref l) (upd H l (.lst vs)) := fun l nl => by
  have st := Step.lay (ρ := ρ) l (.lst vs) nl
  exact k _ _ _ st (S.lay nl ⟨vs, upd_same, rs.mono st S⟩) (.ref (by rw [← S.len, List.getElem?_append_right (Nat.le_refl _), Nat.sub_self]; rfl))
theorem bf_list : BFnF K Cd.bList (fun xs H Q => ∃ p ys, xs = [.ref p] ∧ (SqL K H p ys ∨ SqT K H p ys) ∧ ∀ l, H l = none → Q (.ref l) (upd H l (.lst ys))) := by
  intro ρ h h' H ds u xs Q S r e k
  unfold Cd.bList at e
  split at e
  · cases e
    obtain ⟨x, rfl, r0⟩ := one_rv r
    cases r0 with
    | tup q rs => exact ⟨_, _, rfl, .inr q, lay_k S rs k⟩
  · cases e
    obtain ⟨x, rfl, r0⟩ := one_rv r
    cases r0 with
    | fl q rs => exact ⟨_, _, rfl, .inl q.sq, lay_k S rs k⟩
  · split at e
    · rename_i l hl
      cases e
      obtain ⟨x, rfl, r0⟩ := one_rv r
      cases r0 with
      | ref q =>
        obtain ⟨vs, e1, rs⟩ := S.obj _ _ _ hl q
        exact ⟨_, _, rfl, .inl (SqL.of e1), lay_k S rs k⟩
    · cases e
  · cases e
theorem tup_k {ρ : List Addr} {h : Cd.Hep} {H : Hp} {ds : List Cd.Val} {vs : List V} {Q : VK} (S : Sim K ρ h H) (rs : RVs K ρ H ds vs) (k : ∀ ρ' H' w, Step ρ H ρ' H' → Sim K ρ' h H' → RV K ρ' H' (.tup ds) w → Q w H') :
    ∀ l, H l = none → Q (.ref l) (upd H l (.tup vs)) := fun l nl => by
  have st := Step.out (ρ := ρ) l (.tup vs) nl
  exact k _ _ _ st (S.out nl) (.tup (SqT.of upd_same) (rs.mono st S))
theorem bf_tuple : BFnF K Cd.bTuple (fun xs H Q => ∃ p ys, xs = [.ref p] ∧ ((SqL K H p ys ∧ ∀ l, H l = none → Q (.ref l) (upd H l (.tup ys))) ∨ (SqT K H p ys ∧ Q (.ref p) H))) := by
  intro ρ h h' H ds u xs Q S r e k
  unfold Cd.bTuple at e
  split at e
  · cases e
    obtain ⟨x, rfl, r0⟩ := one_rv r
    cases r0 with
    | tup q rs => exact ⟨_, _, rfl, .inr ⟨q, k ρ H _ (Step.refl _ _) S (.tup q rs)⟩⟩
  · cases e
    obtain ⟨x, rfl, r0⟩ := one_rv r
    cases r0 with
    | fl q rs => exact ⟨_, _, rfl, .inl ⟨q.sq, tup_k S rs k⟩⟩
  · split at e
    · rename_i l hl
      cases e
      obtain ⟨x, rfl, r0⟩ := one_rv r
      cases r0 with
      | ref q =>
        obtain ⟨vs, e1, rs⟩ := S.obj _ _ _ hl q
        exact ⟨_, _, rfl, .inl ⟨SqL.of e1, tup_k S rs k⟩⟩
    · cases e
  · cases e
theorem bls_of {ρ : List Addr} {H : Hp} : ∀ {ds : List Cd.Val} {bs : List Bool} {vs : List V}, Cd.bls ds = some bs → RVs K ρ H ds vs → vs = bs.map V.bl
  | [], bs, vs, e, r => by cases e; cases r; rfl
  | .bl b :: ds, bs, vs, e, r => by
    simp only [Cd.bls] at e
    cases q : Cd.bls ds with
    | none => rw [q] at e; cases e
    | some cs =>
      rw [q] at e; cases e
      cases r with
      | cons r1 r2 =>
        cases r1
        rw [bls_of q r2]; rfl
theorem bf_all : BFnF K Cd.bAll (rAll K) := by
  intro ρ h h' H ds u xs Q S r e k
  unfold Cd.bAll at e
  split at e
  · rename_i v
    split at e
    · rename_i bs hb
      cases e
      obtain ⟨x, rfl, r0⟩ := one_rv r
      cases el : Cd.itsL h v with
      | none => rw [el] at hb; cases hb
      | some l =>
        rw [el] at hb
        obtain ⟨a, vs, rfl, q, rs⟩ := seq_of S r0 el
        exact ⟨a, bs, rfl, by rw [← bls_of hb rs]; exact q, k ρ H _ (Step.refl _ _) S (.bl _)⟩
    · cases e
  · cases e
theorem bf_any : BFnF K Cd.bAny (rAny K) := by
  intro ρ h h' H ds u xs Q S r e k
  unfold Cd.bAny at e
  split at e
  · rename_i v
    split at e
    · rename_i bs hb
      cases e
      obtain ⟨x, rfl, r0⟩ := one_rv r
      cases el : Cd.itsL h v with
      | none => rw [el] at hb; cases hb
      | some l =>
        rw [el] at hb
        obtain ⟨a, vs, rfl, q, rs⟩ := seq_of S r0 el
        exact ⟨a, bs, rfl, by rw [← bls_of hb rs]; exact q, k ρ H _ (Step.refl _ _) S (.bl _)⟩
    · cases e
  · cases e
/-! ### isinstance -/
theorem typ_of {ρ : List Addr} {h : Cd.Hep} {H : Hp} {d : Cd.Val} {x : V} {t : String} (S : Sim K ρ h H) (r : RV K ρ H d x) (e : Cd.typ h d = some t) : TyX K H x (.type t) ∧ t ∈ ["NoneType", "bool", "int", "str", "tuple", "list", "dict"] := by
  cases r with
  | non => cases e; exact ⟨.base .non, by simp⟩
  | bl b => cases e; exact ⟨.base (.bl b), by simp⟩
  | int i => cases e; exact ⟨.base (.int i), by simp⟩
  | str s => cases e; exact ⟨.base (.str _), by simp⟩
  | tup q rs =>
    cases e
    refine ⟨?_, by simp⟩
    rcases q with (q | ⟨o, q⟩) | ⟨o, its, n, q1, q2, _⟩
    · exact .base (.tup q)
    · exact .fTuple q
    · exact .kTuple q1 q2
  | fl q rs =>
    cases e
    refine ⟨?_, by simp⟩
    rcases q with ⟨o, q⟩ | ⟨o, its, n, q1, q2, _⟩
    · exact .base (.frz q)
    · exact .kList q1 q2
  | exo a => cases e
  | ref q =>
    simp only [Cd.typ] at e
    split at e
    · rename_i l hl
      cases e
      obtain ⟨vs, e1, rs⟩ := S.obj _ _ _ hl q
      exact ⟨.base (.lst e1), by simp⟩
    · rename_i l hl
      cases e
      obtain ⟨kvs, e1, rd⟩ := S.obj _ _ _ hl q
      exact ⟨.base (.dK e1), by simp⟩
    · cases e
def tyAll : Bool := ["NoneType", "bool", "int", "str", "tuple", "list", "dict"].all fun t => ["bool", "int", "str", "tuple", "list", "dict"].all fun n => kitB t n == some (Cd.isT t n)
theorem tyAll_ok : tyAll = true := by decide +kernel
theorem kit_isT {t n : String} (ht : t ∈ ["NoneType", "bool", "int", "str", "tuple", "list", "dict"]) (hn : n ∈ ["bool", "int", "str", "tuple", "list", "dict"]) : kitB t n = some (Cd.isT t n) := by
  have h := tyAll_ok
  unfold tyAll at h
  rw [List.all_eq_true] at h
  have h1 := h t ht
  rw [List.all_eq_true] at h1
  exact beq_iff_eq.mp (h1 n hn)
theorem k_isi (n : String) {a : Expr} {ma : Cd.EM} {x : Str} {p p2 pos : Pos} (hm : X.mg "isinstance" = none) (hm2 : X.mg x = none) (ha : KE X ca W a ma) (hv : bootBuiltins x = some (.type n) := by decide +kernel) (hn : n ∈ ["bool", "int", "str", "tuple", "list", "dict"] := by decide) (hg : Gl X "isinstance" := by rfl) (hg2 : Gl X x := by rfl) (hnn : x ≠ "__name__" := by decide) (hdb : (x == ("__debug__" : Str)) = false := by decide)
    (he : starEach [a, .Name x p2] X.env = (false, eval a X.env) :: starEach [.Name x p2] X.env := by rfl) (he2 : starEach [.Name x p2] X.env = (false, eval (.Name x p2) X.env) :: starEach [] X.env := by rfl) (hpl : (backTo pos (starEach [.Name x p2] X.env)).any (·.1) = false := by rfl) :
    KE X ca W (.Call (.Name "isinstance" p) [a, .Name x p2] [] pos) (Cd.eUn (Cd.oIsi n) ma) := by
  refine PE.wk (pe_callB call_isi hg hm (by decide +kernel) (pa_cons ha (pa_cons (pe_bltn (v := .ty n) hg2 hm2 hv rfl hnn hdb) pa_nil he2) he) (by decide) (by decide) he hpl) fun σ H Q ⟨ρ, h, η, S, re, p⟩ => ?_
  refine ⟨ρ, h, η, S, re, postG.first p fun ρ1 H1 h1 d x st1 S1 r1 p1 => ?_⟩
  obtain ⟨u, hu, k⟩ := p1.ofO
  unfold Cd.oIsi at hu
  cases et : Cd.typ h1 d with
  | none => rw [et] at hu; cases hu
  | some t =>
    rw [et] at hu; cases hu
    obtain ⟨q, ht⟩ := typ_of S1 r1 et
    exact ⟨x, .ty n, .type t, .type n, _, rfl, .ty n, q, kit_ty (kit_isT ht hn), k ρ1 H1 _ (Step.refl _ _) S1 (.bl _)⟩
end
theorem iop_addA {X : Cx} : OpR X (inplaceOp .Add) (rI0 fun i j => .int (i + j)) := iop_add
section
variable {K : PySem.W.Frag} {ca : String → Value}
theorem rvs_ints {ρ : List Addr} {H : Hp} : ∀ ns : List Int, RVs K ρ H (ns.map .int) (ns.map V.int)
  | [] => .nil
  | n :: ns => .cons (.int n) (rvs_ints ns)
theorem law_sp {H : Hp} {a : Addr} {ns : List Int} {M : Cd.Fn} {h : Cd.Hep} (hO : Only H) (hS : SqL K H a (ns.map V.int)) (e : M [.fl (ns.map .int)] [] = .ok (.bl true) h) : spF K ca 1 M [.ref a] H (fun v _ => v = .bl true) fun _ _ _ => False := by
  have fz : FzL K H a (ns.map V.int) := by
    rcases hS with (q | ⟨o, q⟩) | q
    · rcases hO a with z | ⟨o, xs, z⟩
      · rw [z] at q; cases q
      · rw [z] at q; cases q
    · exact .inl ⟨o, q⟩
    · exact .inr q
  refine ⟨rfl, [], [], [.fl (ns.map .int)], ⟨rfl, List.nodup_nil, fun n o a h1 => by simp at h1⟩, .cons (.fl fz (rvs_ints ns)) .nil, ?_⟩
  rw [e]
  intro ρ' H' x st S r
  cases r
  rfl
theorem cx_no {P : Program} {w : World} {H : Hp} {s : Shared} {e : Value} {s' : Shared} (h : L2.CX P w [] H s (fun _ _ _ => False) e s') : False := by
  obtain ⟨_, _, _, _, _, _, _, _, _, _, _, _, z⟩ := h
  exact z
end
end Cb

set_option Elab.async false
set_option linter.all false
set_option maxRecDepth 100000
set_option maxHeartbeats 4000000
/-! CdB6: the bridge: lists that change, slices, comprehensions. -/
namespace Cb
open PySem PySem.Spec PyProof.Rows L2
section
variable {X : Cx} {K : PySem.W.Frag} {ca : String → Value} {W : WX} {a b c e : Expr} {ma mb me mo : Cd.EM} {pos : Pos}
theorem setIx_of {ρ : List Addr} {h h' : Cd.Hep} {H : Hp} {x k v : Cd.Val} {ox ik vv : V} (S : Sim K ρ h H) (r1 : RV K ρ H x ox) (r2 : RV K ρ H k ik) (r3 : RV K ρ H v vv) (e : Cd.setIx h x k v = some h') {Q : Hp → Prop} (q : ∀ H', Step ρ H ρ H' → Sim K ρ h' H' → Q H') : rSetL ox ik vv H Q := by
  unfold Cd.setIx at e
  split at e
  · split at e
    · rename_i l hl
      split at e
      · rename_i j hj
        cases e
        cases r1 with
        | ref qa =>
          cases r2
          obtain ⟨vs, e1, rs⟩ := S.obj _ _ _ hl qa
          have st := Step.put (ρ := ρ) (H := H) (o := .lst (vs.set j vv)) qa
          exact ⟨_, vs, _, j, rfl, rfl, e1, (by rw [← rs.length]; exact hj), q _ st (S.put qa ⟨_, upd_same, (RVs.set r3 j rs).mono st S⟩)⟩
      · cases e
    · cases e
  · cases e
theorem ks_setIx (he : KE X ca W e me) (ho : KE X ca W a ma) (hi : KE X ca W b mb) {tpos : Pos} (hs : swapsWithSole [.Subscript a b tpos] e pos.line X.env = pure false := by rfl) (hw : swappedStores [.Subscript a b tpos] e X.env = pure none := by rfl) (h1 : (assignEach [.Subscript a b tpos] X.env).map (·.2) = [assign (.Subscript a b tpos) X.env] := by rfl) (hx : assign (.Subscript a b tpos) X.env = assign (.Subscript a b tpos) X.env := by rfl) (pg : PG X (.Subscript a b tpos) (gSub (tE X.K ca W ma) (tE X.K ca W mb) rSetL)) :
    KS X ca W (.Assign [.Subscript a b tpos] e pos) (Cd.sSetIx ma mb me) := by
  refine PS.wk (ps_asg he pg hs hw h1) fun D σ H ⟨ρ, h, η, S, re, p⟩ => ?_
  refine ⟨ρ, h, η, S, re, postS.first S re p fun ρ1 H1 h1 v vv st1 S1 r1 re1 p1 => ?_⟩
  refine ⟨ρ1, h1, η, S1, re1, postS.first S1 re1 p1 fun ρ2 H2 h2 x ox st2 S2 r2 re2 p2 => ?_⟩
  refine ⟨ρ2, h2, η, S2, re2, postS.first S2 re2 p2 fun ρ3 H3 h3 k ik st3 S3 r3 re3 p3 => ?_⟩
  cases es : Cd.setIx h3 x k v with
  | none => rw [es] at p3; exact p3.elim
  | some h4 =>
    rw [es] at p3
    exact setIx_of S3 (r2.mono st3 S2) r3 ((r1.mono st2 S1).mono st3 S2) es fun H' st S' => p3 ρ3 H' σ st S' (re3.mono st S3)
/-! ### methods of built-in types -/
def MthF (K : PySem.W.Frag) (F : Cd.Val → Cd.BFn) (r : V → List V → Hp → VK → Prop) : Prop := ∀ (ρ : List Addr) (h h' : Cd.Hep) (H : Hp) (x : Cd.Val) (ds : List Cd.Val) (u : Cd.Val) (ox : V) (xs : List V) (Q : VK), Sim K ρ h H → RV K ρ H x ox → RVs K ρ H ds xs → F x ds h = some (u, h') →
  (∀ ρ' H' w, Step ρ H ρ' H' → Sim K ρ' h' H' → RV K ρ' H' u w → Q w H') → r ox xs H Q
theorem tyV_of {ρ : List Addr} {h : Cd.Hep} {H : Hp} {d : Cd.Val} {x : V} {T : String} (S : Sim K ρ h H) (r : RV K ρ H d x) (e : Cd.typ h d = some T) (hT : T = "str" ∨ T = "list" ∨ T = "int") : tyV K T x H := by
  cases r with
  | non => cases e; rcases hT with z | z | z <;> exact absurd z (by decide)
  | bl b => cases e; rcases hT with z | z | z <;> exact absurd z (by decide)
  | int i => cases e; rfl
  | str s => cases e; rfl
  | tup q rs => cases e; rcases hT with z | z | z <;> exact absurd z (by decide)
  | fl q rs => cases e; exact .inl ⟨rfl, _, q.sq⟩
  | exo a => cases e
  | ref q =>
    simp only [Cd.typ] at e
    split at e
    · rename_i l hl
      cases e
      obtain ⟨vs, e1, rs⟩ := S.obj _ _ _ hl q
      exact .inl ⟨rfl, _, SqL.of e1⟩
    · rename_i l hl
      cases e
      rcases hT with z | z | z <;> exact absurd z (by decide)
    · cases e
theorem tBM_of {T : String} {F : Cd.Val → Cd.BFn} {r : V → List V → Hp → VK → Prop} {mas : Cd.AM} (hT : T = "str" ∨ T = "list" ∨ T = "int") (hf : MthF X.K F r) : ∀ σ H Q, tE X.K ca W (Cd.eMth T F mo mas) σ H Q → tBM X.K T r (tE X.K ca W mo) (tA X.K ca W mas) σ H Q := by
  rintro σ H Q ⟨ρ, h, η, S, re, p⟩
  refine ⟨ρ, h, η, S, re, postG.first p fun ρ1 H1 h1 x ox st1 S1 r1 p1 => ?_⟩
  split at p1
  · rename_i ht
    refine ⟨tyV_of S1 r1 ht hT, ρ1, h1, η, S1, re.mono st1 S, postG.first p1 fun ρ2 H2 h2 ds xs st2 S2 r2 p2 => ?_⟩
    cases e : F x ds h2 with
    | none => rw [e] at p2; exact p2.elim
    | some q =>
      obtain ⟨u, h3⟩ := q
      rw [e] at p2
      exact hf ρ2 h2 h3 H2 x ds u ox xs Q S2 (r1.mono st2 S1) r2 e p2
  · exact p1.elim
theorem k_bm {T id : String} {name : Str} {F : Cd.Val → Cd.BFn} {r : V → List V → Hp → VK → Prop} {apos : Pos} {o : Expr} {es : List Expr} {mas : Cd.AM} (pa : PlainAttrs T) (slot : Slot T name id) (hty : typeOf (.builtin id) = pure (.type "method_descriptor")) (hm : MtR X id r) (hf : MthF X.K F r) (ho : KE X ca W o mo) (ha : KA X ca W (e :: es) mas) (hT : T = "str" ∨ T = "list" ∨ T = "int" := by decide)
    (hbase : attributeBase o name X.env (eval o X.env) = eval o X.env := by rfl)
    (hfew : ((backTo pos (starEach (e :: es) X.env)).all (fun x => !x.1) && (backToKw pos (keywordEach [] X.env)).all (fun x => x.1.isSome)
      && decide ((e :: es).length + ([] : List Keyword).length + (if ([] : List Keyword).isEmpty then 0 else 1) < 30)) = true := by rfl)
    (hline : (apos.endLine == pos.line) = true := by rfl) (hs : starEach (e :: es) X.env = (false, eval e X.env) :: starEach es X.env := by rfl) (hplain : (backTo pos (starEach es X.env)).any (·.1) = false := by rfl) :
    KE X ca W (.Call (.Attribute o name apos) (e :: es) [] pos) (Cd.eMth T F mo mas) := PE.wk (pe_bm pa slot hty hm ho ha hbase hfew hline hs hplain) (tBM_of hT hf)
theorem k_bm0 {T id : String} {name : Str} {F : Cd.Val → Cd.BFn} {r : V → List V → Hp → VK → Prop} {apos : Pos} {o : Expr} (pa : PlainAttrs T) (slot : Slot T name id) (hty : typeOf (.builtin id) = pure (.type "method_descriptor")) (hm : MtR X id r) (hf : MthF X.K F r) (ho : KE X ca W o mo) (hT : T = "str" ∨ T = "list" ∨ T = "int" := by decide)
    (hbase : attributeBase o name X.env (eval o X.env) = eval o X.env := by rfl) (hline : (apos.endLine == pos.line) = true := by rfl) :
    KE X ca W (.Call (.Attribute o name apos) [] [] pos) (Cd.eMth T F mo Cd.aNil) := by
  refine PE.wk (pe_bm0 pa slot hty hm ho hbase hline) fun σ H Q p => ?_
  obtain ⟨ρ, h, η, S, re, p⟩ := tBM_of (mas := Cd.aNil) hT hf σ H Q p
  refine ⟨ρ, h, η, S, re, p.imp fun x H1 q => ⟨q.1, ?_⟩⟩
  obtain ⟨_, ρ1, h1, η1, S1, re1, p1⟩ := q
  exact p1 ρ1 H1 [] (Step.refl _ _) S1 .nil
theorem mf_append : MthF K Cd.mAppend rAppend := by
  intro ρ h h' H x ds u ox xs Q S r1 r2 e k
  unfold Cd.mAppend at e
  split at e
  · split at e
    · rename_i l hl
      split at e
      · rename_i hz
        cases e
        cases r1 with
        | ref q =>
          obtain ⟨y, rfl, ry⟩ := one_rv r2
          obtain ⟨vs, e1, rs⟩ := S.obj _ _ _ hl q
          rw [line_eq, rs.length] at hz
          have st := Step.put (ρ := ρ) (H := H) (o := .lst (vs ++ [y])) q
          exact ⟨_, vs, y, rfl, rfl, e1, hz, k ρ _ _ st (S.put q ⟨_, upd_same, (RVs.append rs (.cons ry .nil)).mono st S⟩) .non⟩
      · cases e
    · cases e
  · cases e
theorem mf_extend : MthF K Cd.mExtend rExtend := by
  intro ρ h h' H x ds u ox xs Q S r1 r2 e k
  unfold Cd.mExtend at e
  split at e
  · split at e
    · rename_i l m hl hm
      split at e
      · rename_i hz
        cases e
        cases r1 with
        | ref q =>
          obtain ⟨y, rfl, ry⟩ := one_rv r2
          cases ry with
          | ref q2 =>
            obtain ⟨vs, e1, rs⟩ := S.obj _ _ _ hl q
            obtain ⟨ws, e2, rs2⟩ := S.obj _ _ _ hm q2
            rw [line_eq, rs.length, rs2.length] at hz
            have st := Step.put (ρ := ρ) (H := H) (o := .lst (vs ++ ws)) q
            exact ⟨_, _, vs, ws, rfl, rfl, e1, e2, hz, k ρ _ _ st (S.put q ⟨_, upd_same, (RVs.append rs rs2).mono st S⟩) .non⟩
      · cases e
    · cases e
  · cases e
theorem RVs.dropLast {ρ : List Addr} {H : Hp} {ds : List Cd.Val} {vs : List V} (r : RVs K ρ H ds vs) : RVs K ρ H ds.dropLast vs.dropLast := by
  rw [List.dropLast_eq_take, List.dropLast_eq_take, r.length]
  exact RVs.take _ r
theorem mf_pop : MthF K Cd.mPop rPop := by
  intro ρ h h' H x ds u ox xs Q S r1 r2 e k
  unfold Cd.mPop at e
  split at e
  · split at e
    · rename_i l hl
      split at e
      · rename_i v hv
        cases e
        cases r2
        cases r1 with
        | ref q =>
          obtain ⟨vs, e1, rs⟩ := S.obj _ _ _ hl q
          obtain ⟨y, e2, ry⟩ := rs.get hv
          rw [rs.length] at e2
          have st := Step.put (ρ := ρ) (H := H) (o := .lst vs.dropLast) q
          exact ⟨_, vs, y, rfl, rfl, e1, e2, k ρ _ _ st (S.put q ⟨_, upd_same, rs.dropLast.mono st S⟩) (ry.mono st S)⟩
      · cases e
    · cases e
  · cases e
/-! ### slices -/
def tP (K : PySem.W.Frag) (ca : String → Value) (W : WX) (m : Cd.PM) : TO := fun σ H Q => ∃ ρ h η, Sim K ρ h H ∧ RE K ρ H η σ ∧ postG K ca W (fun _ _ a b => a = b) ρ H σ (m η h) Q
theorem PO.wk {e : Option Expr} {t t' : TO} (h : PO X e t) (k : ∀ σ H Q, t' σ H Q → t σ H Q) : PO X e t' := ⟨fun pins s σ H Q I hw => h.run pins s σ H Q I (k _ _ _ hw)⟩
theorem kp_no : PO X none (tP X.K ca W Cd.pNo) := PO.wk po_none fun σ H Q ⟨ρ, h, η, S, re, p⟩ => p ρ H none (Step.refl _ _) S rfl
theorem kp_some (he : KE X ca W e me) : PO X (some e) (tP X.K ca W (Cd.pSome me)) := by
  refine PO.wk (po_some he) fun σ H Q ⟨ρ, h, η, S, re, p⟩ => ?_
  refine ⟨ρ, h, η, S, re, postG.first p fun ρ1 H1 h1 d x st1 S1 r1 p1 => ?_⟩
  cases d with
  | int i => cases r1; exact ⟨i, rfl, p1 ρ1 H1 _ (Step.refl _ _) S1 rfl⟩
  | _ => exact p1.elim
theorem cut_rv {ρ : List Addr} {H : Hp} {ds : List Cd.Val} {vs : List V} (lo hi : Option Int) (r : RVs K ρ H ds vs) : RVs K ρ H (Cd.cut ds lo hi) (cutV vs lo hi) := by
  unfold Cd.cut cutV
  rw [show HT.sIx = Cd.sIx from rfl, ← r.length]
  exact RVs.take _ (RVs.drop _ r)
theorem cut_str (s : List Nat) (lo hi : Option Int) : cutS (toS s) lo hi = toS (Cd.cut s lo hi) := by
  unfold Cd.cut cutS toS
  have : HT.sIx = Cd.sIx := rfl
  rfl
def rSlAll (K : PySem.W.Frag) : V → Option Int → Option Int → Hp → VK → Prop := fun x lo hi H Q => rSlS x lo hi H Q ∨ rSlA K x lo hi H Q ∨ rSlL K x lo hi H Q
theorem sl_all : SlR X (rSlAll X.K) := SlR.or sl_str (SlR.or sl_tupA sl_list)
theorem sl_of {ρ : List Addr} {h h' : Cd.Hep} {H : Hp} {d u : Cd.Val} {x : V} {lo hi : Option Int} {Q : VK} (S : Sim K ρ h H) (r : RV K ρ H d x) (e : Cd.oSl h d lo hi = some (u, h')) (k : ∀ ρ' H' w, Step ρ H ρ' H' → Sim K ρ' h' H' → RV K ρ' H' u w → Q w H') : rSlAll K x lo hi H Q := by
  unfold Cd.oSl at e
  split at e
  · split at e
    · rename_i s hz
      cases e
      cases r
      rw [line_eq] at hz
      exact .inl ⟨_, rfl, hz, by rw [cut_str]; exact k ρ H _ (Step.refl _ _) S (.str _)⟩
    · cases e
  · cases e
    cases r with
    | @tup a ds0 vs q rs =>
      refine .inr (.inl ⟨_, _, rfl, q, fun hw => ?_, fun _ => tup_k S (cut_rv lo hi rs) k⟩)
      have e : ∀ l : List Cd.Val, l.length = vs.length → Cd.cut l lo hi = l := fun l hl => by
        unfold Cd.cut
        rw [show HT.sIx = Cd.sIx from rfl, ← hl] at hw
        rw [hw.1, hw.2]
        simp
      rw [e _ rs.length] at k
      exact k ρ H _ (Step.refl _ _) S (.tup q rs)
  · cases e
    cases r with
    | fl q rs => exact .inr (.inr ⟨_, _, rfl, q.sq, lay_k S (cut_rv lo hi rs) k⟩)
  · split at e
    · rename_i l hl
      cases e
      cases r with
      | ref q =>
        obtain ⟨vs, e1, rs⟩ := S.obj _ _ _ hl q
        exact .inr (.inr ⟨_, _, rfl, SqL.of e1, lay_k S (cut_rv lo hi rs) k⟩)
    · cases e
  · cases e
theorem k_slice {lo hi : Option Expr} {ml mh : Cd.PM} {p2 : Pos} (he : KE X ca W e me) (hl : PO X lo (tP X.K ca W ml)) (hh : PO X hi (tP X.K ca W mh)) : KE X ca W (.Subscript e (.Slice lo hi none p2) pos) (Cd.eSl me ml mh) := by
  refine PE.wk (pe_slice sl_all he hl hh) fun σ H Q ⟨ρ, h, η, S, re, p⟩ => ?_
  refine ⟨ρ, h, η, S, re, postG.first p fun ρ1 H1 h1 d x st1 S1 r1 p1 => ?_⟩
  refine ⟨ρ1, h1, η, S1, re.mono st1 S, postG.first p1 fun ρ2 H2 h2 l l' st2 S2 r2 p2 => ?_⟩
  cases (show l = l' from r2)
  refine ⟨ρ2, h2, η, S2, (re.mono st1 S).mono st2 S1, postG.first p2 fun ρ3 H3 h3 u u' st3 S3 r3 p3 => ?_⟩
  cases (show u = u' from r3)
  cases eo : Cd.oSl h3 d l u with
  | none => rw [eo] at p3; exact p3.elim
  | some q =>
    obtain ⟨v, h4⟩ := q
    rw [eo] at p3
    exact sl_of S3 ((r1.mono st2 S1).mono st3 S2) eo p3
end
end Cb

set_option Elab.async false
set_option linter.all false
set_option maxRecDepth 100000
set_option maxHeartbeats 4000000
/-! CdB7: the bridge: comprehensions. -/
namespace Cb
open PySem PySem.Spec PyProof.Rows L2
/-- as Step, but the list D, which is no place, may change -/
structure StepD (D : Addr) (ρ : List Addr) (H : Hp) (ρ' : List Addr) (H' : Hp) : Prop where
  pre : ρ <+: ρ'
  fr : ∀ a o, a ∉ ρ → a ≠ D → H a = some o → H' a = some o
  new : ∀ a, a ∈ ρ' → a ∉ ρ → H a = none
theorem Step.toD {D : Addr} {ρ ρ' : List Addr} {H H' : Hp} (s : Step ρ H ρ' H') : StepD D ρ H ρ' H' := ⟨s.pre, fun a o n _ e => s.fr a o n e, s.new⟩
theorem StepD.trans {D : Addr} {ρ ρ1 ρ2 : List Addr} {H H1 H2 : Hp} (a : StepD D ρ H ρ1 H1) (b : StepD D ρ1 H1 ρ2 H2) (hd : H D ≠ none) (nd : ∀ x, x ∈ ρ2 → x ≠ D) : StepD D ρ H ρ2 H2 := by
  have f : ∀ x o, x ∉ ρ → x ≠ D → H x = some o → x ∉ ρ1 ∧ H1 x = some o := by
    intro x o n nD e
    refine ⟨fun m => ?_, a.fr x o n nD e⟩
    have q := a.new x m n
    rw [q] at e
    cases e
  refine ⟨a.pre.trans b.pre, fun x o n nD e => b.fr x o (f x o n nD e).1 nD (f x o n nD e).2, fun x m n => ?_⟩
  by_cases h1 : x ∈ ρ1
  · exact a.new x h1 n
  · cases q : H x with
    | none => rfl
    | some o =>
      have := b.new x m h1
      rw [(f x o n (nd x m) q).2] at this; cases this
section
variable {K : PySem.W.Frag} {D : Addr} {acc acc' : List V} {ρ ρ' : List Addr} {H H' : Hp} {h h' : Cd.Hep}
theorem sqT_app (hD : H D = some (.lst acc)) {a : Addr} {vs : List V} (q : SqT K H a vs) : SqT K (upd H D (.lst acc')) a vs := by
  rcases q with (q | ⟨o, q⟩) | q
  · have n : a ≠ D := fun z => by rw [z, hD] at q; cases q
    exact .inl (.inl (by rw [upd_ne n]; exact q))
  · have n : a ≠ D := fun z => by rw [z, hD] at q; cases q
    exact .inl (.inr ⟨o, by rw [upd_ne n]; exact q⟩)
  · exact .inr q
theorem fzL_app (hD : H D = some (.lst acc)) {a : Addr} {vs : List V} (q : FzL K H a vs) : FzL K (upd H D (.lst acc')) a vs := by
  rcases q with ⟨o, q⟩ | q
  · have n : a ≠ D := fun z => by rw [z, hD] at q; cases q
    exact .inl ⟨o, by rw [upd_ne n]; exact q⟩
  · exact .inr q
mutual
theorem RV.app (hD : H D = some (.lst acc)) : ∀ {d : Cd.Val} {v : V}, RV K ρ H d v → RV K ρ (upd H D (.lst acc')) d v
  | _, _, .non => .non
  | _, _, .bl b => .bl b
  | _, _, .int i => .int i
  | _, _, .str s => .str s
  | _, _, .tup h r => .tup (sqT_app hD h) (RVs.app hD r)
  | _, _, .fl h r => .fl (fzL_app hD h) (RVs.app hD r)
  | _, _, .ref h => .ref h
  | _, _, .exo a => .exo a
theorem RVs.app (hD : H D = some (.lst acc)) : ∀ {ds : List Cd.Val} {vs : List V}, RVs K ρ H ds vs → RVs K ρ (upd H D (.lst acc')) ds vs
  | _, _, .nil => .nil
  | _, _, .cons h t => .cons (RV.app hD h) (RVs.app hD t)
end
theorem RD.app {l : List (Cd.Val × Cd.Val)} {kvs : List (Key × V)} (hD : H D = some (.lst acc)) (r : RD K ρ H l kvs) : RD K ρ (upd H D (.lst acc')) l kvs := by
  induction r with
  | nil => exact .nil
  | cons e r t ih => exact .cons e (RV.app hD r) ih
theorem Sim.app (S : Sim K ρ h H) (hD : H D = some (.lst acc)) (nD : D ∉ ρ) : Sim K ρ h (upd H D (.lst acc')) := by
  refine ⟨S.len, S.nd, fun i o a hi ha => ?_⟩
  have q := S.obj i o a hi ha
  have n : a ≠ D := fun z => nD (z ▸ List.mem_iff_getElem?.mpr ⟨i, ha⟩)
  cases o with
  | lst l =>
    obtain ⟨vs, e1, rs⟩ := q
    exact ⟨vs, by rw [upd_ne n]; exact e1, RVs.app hD rs⟩
  | dct l =>
    obtain ⟨vs, e1, rs⟩ := q
    exact ⟨vs, by rw [upd_ne n]; exact e1, RD.app hD rs⟩
  | ins c fs => exact q.elim
theorem RE.app {η : Cd.Env} {σ : L2.St} (r : RE K ρ H η σ) (hD : H D = some (.lst acc)) : RE K ρ (upd H D (.lst acc')) η σ := ⟨r.len, fun i d e => by
  obtain ⟨v, h1, h2⟩ := r.at_ i d e
  exact ⟨v, h1, RV.app hD h2⟩⟩
/-- the list becomes a place -/
theorem StepD.place (s : StepD D ρ H ρ' H') (hD : H D = none) (nD : D ∉ ρ') : Step ρ H (ρ' ++ [D]) H' := by
  refine ⟨s.pre.trans ⟨[D], rfl⟩, fun a o n e => s.fr a o n (fun z => by rw [z, hD] at e; cases e) e, fun a m n => ?_⟩
  rcases List.mem_append.mp m with m | m
  · exact s.new a m n
  · rw [List.mem_singleton.mp m]; exact hD
theorem Sim.place {vs : List V} {ds : List Cd.Val} (S : Sim K ρ h H) (hD : H D = some (.lst vs)) (nD : D ∉ ρ) (r : RVs K ρ H ds vs) : Sim K (ρ ++ [D]) (h ++ [.lst ds]) H := by
  have st : Step ρ H (ρ ++ [D]) H → True := fun _ => trivial
  have up : ∀ {d : Cd.Val} {v : V}, RV K ρ H d v → RV K (ρ ++ [D]) H d v := fun q => rv_more q
  have ups : ∀ {ds : List Cd.Val} {vs : List V}, RVs K ρ H ds vs → RVs K (ρ ++ [D]) H ds vs := fun q => rvs_more q
  refine ⟨by rw [List.length_append, List.length_append, S.len]; rfl, List.nodup_append.mpr ⟨S.nd, by simp, fun a ha b hb => by
    rw [List.mem_singleton.mp hb]
    rintro rfl
    exact nD ha⟩, fun i w a hi ha => ?_⟩
  by_cases hl : i < h.length
  · rw [List.getElem?_append_left hl] at hi
    rw [List.getElem?_append_left (by rw [S.len]; exact hl)] at ha
    have q := S.obj i w a hi ha
    cases w with
    | lst l => obtain ⟨vs, e1, rs⟩ := q; exact ⟨vs, e1, ups rs⟩
    | dct l =>
      obtain ⟨vs, e1, rs⟩ := q
      refine ⟨vs, e1, ?_⟩
      clear e1 hi
      induction rs with
      | nil => exact .nil
      | cons e r t ih => exact .cons e (up r) ih
    | ins c fs => exact q.elim
  · have e : i = h.length := by
      have := (List.getElem?_eq_some_iff.mp hi).1
      rw [List.length_append] at this
      simp at this
      omega
    subst e
    rw [List.getElem?_append_right (Nat.le_refl _), Nat.sub_self] at hi
    rw [List.getElem?_append_right (by rw [S.len]; exact Nat.le_refl _), S.len, Nat.sub_self] at ha
    cases hi
    cases ha
    exact ⟨vs, hD, ups r⟩
where
  rv_more {d : Cd.Val} {v : V} (q : RV K ρ H d v) : RV K (ρ ++ [D]) H d v := by
    exact RV.rec (motive_1 := fun d v _ => RV K (ρ ++ [D]) H d v) (motive_2 := fun ds vs _ => RVs K (ρ ++ [D]) H ds vs) .non (fun b => .bl b) (fun i => .int i) (fun s => .str s) (fun h _ r => .tup h r) (fun h _ r => .fl h r)
      (fun h => .ref (by rw [List.getElem?_append_left (List.getElem?_eq_some_iff.mp h).1]; exact h)) (fun a => .exo a) .nil (fun _ _ a b => .cons a b) q
  rvs_more {ds : List Cd.Val} {vs : List V} (q : RVs K ρ H ds vs) : RVs K (ρ ++ [D]) H ds vs := by
    exact RVs.rec (motive_1 := fun d v _ => RV K (ρ ++ [D]) H d v) (motive_2 := fun ds vs _ => RVs K (ρ ++ [D]) H ds vs) .non (fun b => .bl b) (fun i => .int i) (fun s => .str s) (fun h _ r => .tup h r) (fun h _ r => .fl h r)
      (fun h => .ref (by rw [List.getElem?_append_left (List.getElem?_eq_some_iff.mp h).1]; exact h)) (fun a => .exo a) .nil (fun _ _ a b => .cons a b) q
end
theorem RE.wipe {K : PySem.W.Frag} {ρ : List Addr} {H : Hp} {η : Cd.Env} {σ : L2.St} (r : RE K ρ H η σ) : ∀ vs : List Nat, RE K ρ H (Cd.wipe η vs) (L2.wipe σ vs)
  | [] => r
  | v :: vs => by
    have ih := RE.wipe r vs
    refine ⟨by show (List.set _ _ _).length = (List.set _ _ _).length; rw [List.length_set, List.length_set]; exact ih.len, fun i d e => ?_⟩
    have e : ((Cd.wipe η vs).set v none)[i]? = some (some d) := e
    have n : i ≠ v := by
      rintro rfl
      have hl : i < (Cd.wipe η vs).length := by
        have := (List.getElem?_eq_some_iff.mp e).1
        rwa [List.length_set] at this
      rw [List.getElem?_set_self hl] at e
      cases e
    rw [List.getElem?_set_ne (Ne.symm n)] at e
    obtain ⟨u, h1, h2⟩ := ih.at_ i d e
    exact ⟨u, by show ((L2.wipe σ vs).set v none)[i]? = _; rw [List.getElem?_set_ne (Ne.symm n)]; exact h1, h2⟩
abbrev W0 : WX := fun _ _ _ _ => False
section
variable {X : Cx} {ca : String → Value} {W : WX}
/-- the targets that keep to their own slots -/
def OwnG (K : PySem.W.Frag) (vs : List Nat) (g : Cd.GM) (gt : TG) : Prop := ∀ (ρ : List Addr) (h : Cd.Hep) (H : Hp) (η η' : Cd.Env) (σ : L2.St) (d : Cd.Val) (x : V) (Q : L2.St → Hp → Prop), Sim K ρ h H → RE K ρ H η σ → RV K ρ H d x → g d η = some η' →
  (∀ σ', RE K ρ H η' σ' → (L2.wipe σ vs = σ → L2.wipe σ' vs = σ) → Q σ' H) → gt x σ H Q
theorem compL_post {K : PySem.W.Frag} {g : Cd.GM} {gt : TG} {tc : Cd.TM} {tt : TT} {me : Cd.EM} {te : TE} {vs : List Nat} (hg : OwnG K vs g gt) (ht : ∀ σ H Q, tT K ca W0 tc σ H Q → tt σ H Q) (he : ∀ σ H Q, tE K ca W0 me σ H Q → te σ H Q) {J : It} {ds : List Cd.Val} {chk : Cd.Hep → Bool} {ρ0 : List Addr} {H0 : Hp} {h0 : Cd.Hep} {η : Cd.Env} {σ : L2.St} {Q : VK} {D : Addr}
    (F : ItF K J ds chk ρ0 H0) (S : Sim K ρ0 h0 H0) (re : RE K ρ0 H0 η σ) (nD : H0 D = none)
    (p : ∃ ys h', Cd.compL g chk tc me (Cd.wipe η vs) ds h0 = .ok ys h' ∧ Cd.szOk ys.length ∧ ∀ ρ' H' x, Step ρ0 H0 ρ' H' → Sim K ρ' (h' ++ [.lst ys]) H' → RV K ρ' H' (.ref h'.length) x → Q x H') (hv : L2.wipe (L2.wipe σ vs) vs = L2.wipe σ vs) :
    ∃ Wv : Nat → Nat → Hp → Prop, (∃ m, Wv 0 m (upd H0 D (.lst []))) ∧ ∀ i m H, Wv i m H →
      (J.stop i H ∧ Q (.ref D) H) ∨ (J.go i H ∧ ∃ Nx : Hp → Prop, (∀ H', Nx H' → ∃ m', m' < m ∧ Wv (i + 1) m' H') ∧ ∀ x H', J.yld i H x H' → gt x (L2.wipe σ vs) H' fun σ2 H2 => L2.wipe σ2 vs = L2.wipe σ vs ∧ tt σ2 H2 fun b H3 =>
        if b = true then te σ2 H3 fun y H4 => ∃ acc, H4 D = some (.lst acc) ∧ acc.length < sizeLine ∧ Nx (upd H4 D (.lst (acc ++ [y]))) else Nx H3) := by
  obtain ⟨ys, hE, ey, hz, k⟩ := p
  -- between two turns
  refine ⟨fun i m H => (m + i = ds.length + 1 ∧ i ≤ ds.length) ∧ ∃ ρ h accd acc rest, StepD D ρ0 (upd H0 D (.lst [])) ρ H ∧ Sim K ρ h H ∧ H D = some (.lst acc) ∧ D ∉ ρ ∧ RE K ρ H (Cd.wipe η vs) (L2.wipe σ vs) ∧ RVs K ρ H accd acc ∧ ys = accd ++ rest ∧ Cd.compL g chk tc me (Cd.wipe η vs) (ds.drop i) h = .ok rest hE,
    ⟨ds.length + 1, ⟨rfl, Nat.zero_le _⟩, ρ0, h0, [], [], ys, ⟨List.prefix_rfl, fun a o _ _ e => e, fun _ m n => absurd m n⟩, S.out nD, upd_same, fun m => S.some_of m nD, (re.wipe vs).mono (Step.out D _ nD) S, .nil, rfl, ey⟩, ?_⟩
  rintro i m H ⟨⟨em, eil⟩, ρ, h, accd, acc, rest, st, Si, hD, nDρ, rw_, racc, eys, er⟩
  have st0 : Step ρ0 H0 ρ H := by
    refine ⟨st.pre, fun a o n e => ?_, fun a m n => ?_⟩
    · have ne : a ≠ D := fun z => by rw [z, nD] at e; cases e
      exact st.fr a o n ne (by rw [upd_ne ne]; exact e)
    · have ne : a ≠ D := fun z => nDρ (z ▸ m)
      have := st.new a m n
      rwa [upd_ne ne] at this
  by_cases hi : i < ds.length
  · rw [List.drop_eq_getElem_cons hi, Cd.compL] at er
    split at er
    · rename_i hc
      refine .inr ⟨F.go ρ H h i st0 Si hc hi, fun H' => ∃ ρ h accd acc rest, StepD D ρ0 (upd H0 D (.lst [])) ρ H' ∧ Sim K ρ h H' ∧ H' D = some (.lst acc) ∧ D ∉ ρ ∧ RE K ρ H' (Cd.wipe η vs) (L2.wipe σ vs) ∧ RVs K ρ H' accd acc ∧ ys = accd ++ rest ∧ Cd.compL g chk tc me (Cd.wipe η vs) (ds.drop (i + 1)) h = .ok rest hE,
        fun H' w => ⟨m - 1, by omega, ⟨by omega, by omega⟩, w⟩, fun x H' y => ?_⟩
      obtain ⟨st1, S1, r1⟩ := F.yld ρ H h i ds[i] x H' st0 Si hc (List.getElem?_eq_getElem hi) y
      -- D stands through a step
      have keepD : ∀ {ρa ρb : List Addr} {Ha Hb : Hp} {ac : List V}, Step ρa Ha ρb Hb → D ∉ ρa → Ha D = some (.lst ac) → Hb D = some (.lst ac) ∧ D ∉ ρb := fun s n e => ⟨s.fr D _ n e, fun mm => by
        have := s.new D mm n
        rw [this] at e; cases e⟩
      have dne : (upd H0 D (.lst [])) D ≠ none := by rw [upd_same]; exact fun z => nomatch z
      have ne_of_not : ∀ {ρb : List Addr}, D ∉ ρb → ∀ z, z ∈ ρb → z ≠ D := fun n z m e => n (e ▸ m)
      obtain ⟨hD1, nD1⟩ := keepD st1 nDρ hD
      cases eg : g ds[i] (Cd.wipe η vs) with
      | none => rw [eg] at er; cases er
      | some η1 =>
        rw [eg] at er
        simp only at er
        refine hg ρ h H' (Cd.wipe η vs) η1 (L2.wipe σ vs) ds[i] x _ S1 (rw_.mono st1 Si) r1 eg fun σ2 re2 hw => ⟨hw hv, ?_⟩
        refine ht _ _ _ ⟨ρ, h, η1, S1, re2, ?_⟩
        cases ec : tc η1 h with
        | stuck => rw [ec] at er; cases er
        | exc _ _ => rw [ec] at er; cases er
        | ok kk h1 =>
          rw [ec] at er
          simp only at er
          intro ρ2 H2 b st2 S2 rb
          cases (show kk = b from rb)
          obtain ⟨hD2, nD2⟩ := keepD st2 nD1 hD1
          have sD2 : StepD D ρ0 (upd H0 D (.lst [])) ρ2 H2 := (st.trans (st1.trans st2).toD dne (ne_of_not nD2))
          cases kk with
          | false =>
            simp only [Bool.false_eq_true, if_false] at er ⊢
            exact ⟨ρ2, h1, accd, acc, rest, sD2, S2, hD2, nD2, (rw_.mono st1 Si).mono st2 S1, (racc.mono st1 Si).mono st2 S1, eys, er⟩
          | true =>
            simp only [if_true] at er ⊢
            refine he _ _ _ ⟨ρ2, h1, η1, S2, re2.mono st2 S1, ?_⟩
            cases ee : me η1 h1 with
            | stuck => rw [ee] at er; cases er
            | exc _ _ => rw [ee] at er; cases er
            | ok y1 h2 =>
              rw [ee] at er
              simp only at er
              intro ρ3 H3 yv st3 S3 ry
              obtain ⟨hD3, nD3⟩ := keepD st3 nD2 hD2
              cases el : Cd.compL g chk tc me (Cd.wipe η vs) (ds.drop (i + 1)) h2 with
              | stuck => rw [el] at er; cases er
              | exc _ _ => rw [el] at er; cases er
              | ok rest2 h3 =>
                rw [el] at er
                simp only [Cd.Res.bind_ok, Cd.Res.ok.injEq] at er
                obtain ⟨e1, e2⟩ := er
                have racc3 := ((racc.mono st1 Si).mono st2 S1).mono st3 S2
                have sD3 : StepD D ρ0 (upd H0 D (.lst [])) ρ3 H3 := st.trans ((st1.trans st2).trans st3).toD dne (ne_of_not nD3)
                refine ⟨acc, hD3, ?_, ρ3, h2, accd ++ [y1], acc ++ [yv], rest2, ?_, S3.app hD3 nD3, upd_same, nD3, (((rw_.mono st1 Si).mono st2 S1).mono st3 S2).app hD3, RVs.app hD3 (RVs.append racc3 (.cons ry .nil)), by rw [eys, ← e1, List.append_assoc]; rfl, by rw [el, e2]⟩
                · rw [line_eq, eys, ← e1, List.length_append, List.length_cons, racc.length] at hz
                  omega
                · exact ⟨sD3.pre, fun a o n ne e => by rw [upd_ne ne]; exact sD3.fr a o n ne e, sD3.new⟩
    · cases er
  · rw [List.drop_eq_nil_of_le (by omega), Cd.compL] at er
    split at er
    · rename_i hc
      cases er
      rw [List.append_nil] at eys
      subst eys
      refine .inl ⟨F.stop ρ H _ i st0 Si hc (by omega), k (ρ ++ [D]) H _ ?_ (Si.place hD nDρ racc) (.ref ?_)⟩
      · refine ⟨st0.pre.trans ⟨[D], rfl⟩, st0.fr, fun a m n => ?_⟩
        rcases List.mem_append.mp m with m | m
        · exact st0.new a m n
        · rw [List.mem_singleton.mp m]; exact nD
      · rw [← Si.len, List.getElem?_append_right (Nat.le_refl _), Nat.sub_self]; rfl
    · cases er
/-- a comprehension of one for -/
theorem tLc_of {mi : Cd.IM} {g : Cd.GM} {gt : TG} {tc : Cd.TM} {tt : TT} {me : Cd.EM} {te : TE} {vs : List Nat} (hg : OwnG X.K vs g gt) (ht : ∀ σ H Q, tT X.K ca W0 tc σ H Q → tt σ H Q) (he : ∀ σ H Q, tE X.K ca W0 me σ H Q → te σ H Q) (hv : ∀ σ : L2.St, L2.wipe (L2.wipe σ vs) vs = L2.wipe σ vs) :
    ∀ σ H Q, tE X.K ca W (Cd.eComp vs mi g tc me) σ H Q → tLc (tI X.K ca W mi) gt tt te vs σ H Q := by
  rintro σ H Q ⟨ρ, h, η, S, re, p⟩
  refine ⟨ρ, h, η, S, re, ?_⟩
  unfold Cd.eComp at p
  cases em : mi η h with
  | stuck => rw [em] at p; exact p.elim
  | exc e h' => rw [em] at p; exact p
  | ok q h1 =>
    rw [em] at p
    simp only [Cd.Res.bind_ok] at p
    intro ρ1 H1 J st1 S1 F D nD
    refine compL_post hg ht he F S1 (re.mono st1 S) nD ?_ (hv σ)
    cases el : Cd.compL g q.2 tc me (Cd.wipe η vs) q.1 h1 with
    | stuck => rw [el] at p; exact p.elim
    | exc e h2 =>
      -- a comprehension's own steps raise nothing here
      exact (compL_noexc el).elim
    | ok ys h2 =>
      rw [el] at p
      simp only [Cd.Res.bind_ok] at p
      split at p
      · rename_i hz
        exact ⟨ys, h2, rfl, hz, fun ρ' H' x st S' r => p ρ' H' x (st1.trans st) S' r⟩
      · exact p.elim
where
  compL_noexc {g : Cd.GM} {chk : Cd.Hep → Bool} {c : Cd.TM} {e : Cd.EM} {η : Cd.Env} : ∀ {xs : List Cd.Val} {h : Cd.Hep} {ex : Cd.Exc} {h2 : Cd.Hep}, Cd.compL g chk c e η xs h = .exc ex h2 → False
    | [], h, ex, h2, q => by
      rw [Cd.compL] at q
      split at q <;> cases q
    | x :: xs, h, ex, h2, q => by
      rw [Cd.compL] at q
      split at q
      · split at q
        · split at q
          · split at q
            · split at q
              · rename_i y h3 _
                cases el : Cd.compL g chk c e η xs h3 with
                | stuck => rw [el] at q; cases q
                | exc _ _ => exact compL_noexc el
                | ok _ _ => rw [el] at q; cases q
              · cases q
            · exact compL_noexc q
          · cases q
        · cases q
      · cases q
theorem own_name {K : PySem.W.Frag} (i : Nat) : OwnG K [i] (Cd.gNam i) (gName i) := by
  intro ρ h H η η' σ d x Q S re r e k
  cases e
  refine k _ (re.set r i) fun hw => ?_
  show (σ.set i (some x)).set i none = σ
  rw [List.set_set]
  exact hw
theorem own_two {K : PySem.W.Frag} (i j : Nat) (ne : i ≠ j) : OwnG K [i, j] (Cd.gTpl (Cd.gsCons (Cd.gNam i) (Cd.gsCons (Cd.gNam j) Cd.gsNil))) (gTup K 2 (gCons (gName i) (gCons (gName j) gNil))) := by
  intro ρ h H η η' σ d x Q S re r e k
  cases r with
  | tup q rs =>
    cases rs with
    | nil => cases e
    | cons r1 rs =>
      cases rs with
      | nil => cases e
      | cons r2 rs =>
        cases rs with
        | cons r3 rs => cases e
        | nil =>
          cases e
          refine ⟨_, _, rfl, q, rfl, _, _, rfl, _, _, rfl, rfl, k _ ((re.set r1 i).set r2 j) fun hw => ?_⟩
          show ((((σ.set i _).set j _).set j none).set i none) = σ
          rw [List.set_set, List.set_comm _ _ (Ne.symm ne), List.set_set]
          have hw : (σ.set j none).set i none = σ := hw
          first | exact hw | (rw [List.set_comm none none ne]; exact hw)
  | _ => cases e
theorem wipe_one (i : Nat) (σ : L2.St) : L2.wipe (L2.wipe σ [i]) [i] = L2.wipe σ [i] := by
  show (σ.set i none).set i none = σ.set i none
  rw [List.set_set]
theorem wipe_two (i j : Nat) (ne : i ≠ j) (σ : L2.St) : L2.wipe (L2.wipe σ [i, j]) [i, j] = L2.wipe σ [i, j] := by
  show ((((σ.set j none).set i none).set j none).set i none) = (σ.set j none).set i none
  rw [List.set_comm none none ne, List.set_set, List.set_set]
theorem kts_nil {X : Cx} {ca : String → Value} : PTs X [] (tT X.K ca W0 Cd.tTrue) := ⟨fun pins s σ H Q I hw => pts_nil.run pins s σ H Q I (by
  obtain ⟨ρ, h, η, S, re, p⟩ := hw
  exact p ρ H true (Step.refl _ _) S rfl)⟩
theorem kts_one {X : Cx} {ca : String → Value} {c : Expr} {tc : Cd.TM} (h : KT X ca W0 c tc) : PTs X [c] (tT X.K ca W0 tc) := pts_one h
variable {pos p2 : Pos} {elt iter : Expr} {ifs : List Expr} {scope : Scope} {mi : Cd.IM} {tc : Cd.TM} {me : Cd.EM}
/-- [elt for x in iter if ..], x in slot i -/
theorem k_lc1 (i : Nat) {x : Str} (hc : X.calm = true) (hN : X.N.Nodup) (hi : KI X ca W (.Name x p2) iter mi) (ok : blkC X.N X.env.scope scope [(x, i)] = true)
    (ht : ∀ (s : Shared) (H : Hp) (C : Addr) (cl : List (Str × Addr)) (fp : List Addr), PTs (X.blk s H scope (compEnvC scope cl C X.env) fp) ifs (tT X.K ca W0 tc))
    (he : ∀ (s : Shared) (H : Hp) (C : Addr) (cl : List (Str × Addr)) (fp : List Addr), KE (X.blk s H scope (compEnvC scope cl C X.env) fp) ca W0 elt me)
    (hg : ∀ (s : Shared) (H : Hp) (C : Addr) (cl : List (Str × Addr)) (fp : List Addr), PG (X.blk s H scope (compEnvC scope cl C X.env) fp) (.Name x p2) (gName i)) (hs : ∀ x, foldedSetIterable iter X.env x = pure x := by intro _; rfl) :
    KE X ca W (.ListComp elt [⟨.Name x p2, iter, ifs, 0⟩] scope pos) (Cd.eComp [i] mi (Cd.gNam i) tc me) :=
  PE.wk (pe_lc (te := tE X.K ca W0 me) (own := [(x, i)]) hc hN hi (blkOk_by ok) hg ht he hs) (tLc_of (own_name i) (fun _ _ _ q => q) (fun _ _ _ q => q) (wipe_one i))
/-- y = [elt for x in iter if ..] -/
theorem ks_setLc1 (k i : Nat) {x y : Str} {py spos : Pos} (hc : X.calm = true) (hN : X.N.Nodup) (hi : KI X ca W (.Name x p2) iter mi) (ok : blkC X.N X.env.scope scope [(x, i)] = true)
    (hsw : swapsWith (.ListComp elt [⟨.Name x p2, iter, ifs, 0⟩] scope pos) (some (.Name y py)) spos.line X.env = pure true)
    (ht : ∀ (s : Shared) (H : Hp) (C : Addr) (cl : List (Str × Addr)) (fp : List Addr), PTs (X.blk s H scope (compEnvC scope cl C X.env) fp) ifs (tT X.K ca W0 tc))
    (he : ∀ (s : Shared) (H : Hp) (C : Addr) (cl : List (Str × Addr)) (fp : List Addr), KE (X.blk s H scope (compEnvC scope cl C X.env) fp) ca W0 elt me)
    (hg : ∀ (s : Shared) (H : Hp) (C : Addr) (cl : List (Str × Addr)) (fp : List Addr), PG (X.blk s H scope (compEnvC scope cl C X.env) fp) (.Name x p2) (gName i))
    (hy : X.N[k]? = some y := by rfl) (hyl : X.env.scope.names.lookup y = some .local := by rfl) (hs : ∀ x, foldedSetIterable iter X.env x = pure x := by intro _; rfl) :
    KS X ca W (.Assign [.Name y py] (.ListComp elt [⟨.Name x p2, iter, ifs, 0⟩] scope pos) spos) (Cd.sSet k (Cd.eComp [i] mi (Cd.gNam i) tc me)) := by
  refine PS.wk (ps_setLc (te := tE X.K ca W0 me) (i := k) (own := [(x, i)]) hc hN hy hyl hsw hi (blkOk_by ok) hg ht he hs) fun D σ H ⟨ρ, h, η, S, re, p⟩ => ?_
  refine tLc_of (own_name i) (fun _ _ _ q => q) (fun _ _ _ q => q) (wipe_one i) σ H _ ⟨ρ, h, η, S, re, postS.first S re p fun ρ1 H1 h1 v x st1 S1 r1 re1 p1 => ?_⟩
  exact p1 ρ1 H1 _ (Step.refl _ _) S1 (re1.set r1 k)
/-- [elt for x, y in iter if ..] -/
theorem k_lc2n (i j : Nat) (ne : i ≠ j) {x y : Str} {px py : Pos} {kk : Nat} (hc : X.calm = true) (hN : X.N.Nodup) (hi : KI X ca W (.Tuple [.Name x px, .Name y py] kk p2) iter mi) (ok : blkC X.N X.env.scope scope [(x, i), (y, j)] = true)
    (ht : ∀ (s : Shared) (H : Hp) (C : Addr) (cl : List (Str × Addr)) (fp : List Addr), PTs (X.blk s H scope (compEnvC scope cl C X.env) fp) ifs (tT X.K ca W0 tc))
    (he : ∀ (s : Shared) (H : Hp) (C : Addr) (cl : List (Str × Addr)) (fp : List Addr), KE (X.blk s H scope (compEnvC scope cl C X.env) fp) ca W0 elt me)
    (hg : ∀ (s : Shared) (H : Hp) (C : Addr) (cl : List (Str × Addr)) (fp : List Addr), PG (X.blk s H scope (compEnvC scope cl C X.env) fp) (.Tuple [.Name x px, .Name y py] kk p2) (gTup X.K 2 (gCons (gName i) (gCons (gName j) gNil)))) (hs : ∀ x, foldedSetIterable iter X.env x = pure x := by intro _; rfl) :
    KE X ca W (.ListComp elt [⟨.Tuple [.Name x px, .Name y py] kk p2, iter, ifs, 0⟩] scope pos) (Cd.eComp [i, j] mi (Cd.gTpl (Cd.gsCons (Cd.gNam i) (Cd.gsCons (Cd.gNam j) Cd.gsNil))) tc me) :=
  PE.wk (pe_lc (te := tE X.K ca W0 me) (own := [(x, i), (y, j)]) hc hN hi (blkOk_by ok) hg ht he hs) (tLc_of (own_two i j ne) (fun _ _ _ q => q) (fun _ _ _ q => q) (wipe_two i j ne))
theorem ks_setLc2n (k i j : Nat) (ne : i ≠ j) {x y z : Str} {px py pz spos : Pos} {kk : Nat} (hc : X.calm = true) (hN : X.N.Nodup) (hi : KI X ca W (.Tuple [.Name x px, .Name y py] kk p2) iter mi) (ok : blkC X.N X.env.scope scope [(x, i), (y, j)] = true)
    (hsw : swapsWith (.ListComp elt [⟨.Tuple [.Name x px, .Name y py] kk p2, iter, ifs, 0⟩] scope pos) (some (.Name z pz)) spos.line X.env = pure true)
    (ht : ∀ (s : Shared) (H : Hp) (C : Addr) (cl : List (Str × Addr)) (fp : List Addr), PTs (X.blk s H scope (compEnvC scope cl C X.env) fp) ifs (tT X.K ca W0 tc))
    (he : ∀ (s : Shared) (H : Hp) (C : Addr) (cl : List (Str × Addr)) (fp : List Addr), KE (X.blk s H scope (compEnvC scope cl C X.env) fp) ca W0 elt me)
    (hg : ∀ (s : Shared) (H : Hp) (C : Addr) (cl : List (Str × Addr)) (fp : List Addr), PG (X.blk s H scope (compEnvC scope cl C X.env) fp) (.Tuple [.Name x px, .Name y py] kk p2) (gTup X.K 2 (gCons (gName i) (gCons (gName j) gNil))))
    (hy : X.N[k]? = some z := by rfl) (hyl : X.env.scope.names.lookup z = some .local := by rfl) (hs : ∀ x, foldedSetIterable iter X.env x = pure x := by intro _; rfl) :
    KS X ca W (.Assign [.Name z pz] (.ListComp elt [⟨.Tuple [.Name x px, .Name y py] kk p2, iter, ifs, 0⟩] scope pos) spos) (Cd.sSet k (Cd.eComp [i, j] mi (Cd.gTpl (Cd.gsCons (Cd.gNam i) (Cd.gsCons (Cd.gNam j) Cd.gsNil))) tc me)) := by
  refine PS.wk (ps_setLc (te := tE X.K ca W0 me) (i := k) (own := [(x, i), (y, j)]) hc hN hy hyl hsw hi (blkOk_by ok) hg ht he hs) fun D σ H ⟨ρ, h, η, S, re, p⟩ => ?_
  refine tLc_of (own_two i j ne) (fun _ _ _ q => q) (fun _ _ _ q => q) (wipe_two i j ne) σ H _ ⟨ρ, h, η, S, re, postS.first S re p fun ρ1 H1 h1 v x st1 S1 r1 re1 p1 => ?_⟩
  exact p1 ρ1 H1 _ (Step.refl _ _) S1 (re1.set r1 k)
end
end Cb

set_option Elab.async false
set_option linter.all false
set_option maxRecDepth 100000
set_option maxHeartbeats 4000000
/-! CdB8: the bridge: in, enumerate, zip, o[i] op= e. -/
namespace Cb
open PySem PySem.Spec PyProof.Rows L2
section
variable {X : Cx} {K : PySem.W.Frag} {ca : String → Value} {W : WX} {a b c e : Expr} {ma mb me : Cd.EM} {pos : Pos}
theorem flat_of {ρ : List Addr} {H : Hp} {d : Cd.Val} {x : V} (r : RV K ρ H d x) : flatV x = Cd.flat d := by cases r <;> rfl
theorem flats_of {ρ : List Addr} {H : Hp} : ∀ {ds : List Cd.Val} {vs : List V}, RVs K ρ H ds vs → vs.all flatV = ds.all Cd.flat
  | _, _, .nil => rfl
  | _, _, .cons h t => by rw [List.all_cons, List.all_cons, flat_of h, flats_of t]
theorem eqF_of {ρ : List Addr} {H : Hp} {d e : Cd.Val} {x y : V} (r1 : RV K ρ H d x) (r2 : RV K ρ H e y) : eqV x y = Cd.eqF d e := by
  cases r1 <;> cases r2 <;> try rfl
  rename_i s t
  show (toS s == toS t) = (s == t)
  rw [Bool.eq_iff_iff, beq_iff_eq, beq_iff_eq]
  exact toS_inj
theorem inV_of {ρ : List Addr} {H : Hp} {d : Cd.Val} {x : V} (r : RV K ρ H d x) : ∀ {ds : List Cd.Val} {vs : List V}, RVs K ρ H ds vs → inV x vs = ds.any fun y => Cd.eqF y d
  | _, _, .nil => rfl
  | _, _, .cons h t => by
    show (eqV _ x || inV x _) = _
    rw [eqF_of h r, inV_of r t, List.any_cons]
def rInA (K : PySem.W.Frag) (neg : Bool) : R2 := fun x y H Q => (∃ (c : Nat) (z : Str), x = .str ⟨#[c]⟩ ∧ y = .str z ∧ Q (.bl (if neg then !decide (c ∈ z.cps.toList) else decide (c ∈ z.cps.toList))) H) ∨ rIn K neg x y H Q
theorem op_inA : OpR X (compareOp .In) (rInA X.K false) := OpR.or op_in_sign op_in_seq
theorem op_ninA : OpR X (compareOp .NotIn) (rInA X.K true) := OpR.or op_notIn_sign op_notIn_seq
theorem bf_inG (neg : Bool) : BinF K (fun h a b => (Cd.isIn h a b).map fun k => .bl (if neg then !k else k)) (rInA K neg) := by
  intro ρ h H d e u x y Q S r1 r2 hu k
  have hu : Option.map (fun k => Cd.Val.bl (if neg = true then !k else k)) (Cd.isIn h d e) = some u := hu
  cases ei : Cd.isIn h d e with
  | none => rw [ei] at hu; cases hu
  | some kk =>
    rw [ei] at hu
    cases hu
    unfold Cd.isIn at ei
    split at ei
    · cases ei
      cases r1; cases r2
      exact .inl ⟨_, _, rfl, rfl, k ρ H _ (Step.refl _ _) S (.bl _)⟩
    · cases ei
    · split at ei
      · rename_i l hl
        split at ei
        · rename_i hf
          cases ei
          rw [Bool.and_eq_true] at hf
          have go : ∀ {p : Addr} {vs : List V}, (SqL K H p vs ∨ SqT K H p vs) → RVs K ρ H l vs → rIn K neg x (.ref p) H Q := fun {p vs} q rs =>
            ⟨p, vs, rfl, q, by rw [flat_of r1]; exact hf.1, by rw [flats_of rs]; exact hf.2, by rw [inV_of r1 rs]; exact k ρ H _ (Step.refl _ _) S (.bl _)⟩
          refine .inr ?_
          cases r2 with
          | tup q rs => cases hl; exact go (.inr q) rs
          | fl q rs => cases hl; exact go (.inl q.sq) rs
          | ref q =>
            simp only [Cd.seqOf] at hl
            split at hl
            · rename_i m hm
              cases hl
              obtain ⟨vs, e1, rs⟩ := S.obj _ _ _ hm q
              exact go (.inl (SqL.of e1)) rs
            · cases hl
          | _ => cases hl
        · cases ei
      · cases ei
theorem bf_in : BinF K Cd.oIn (rInA K false) := bf_inG false
theorem bf_nin : BinF K Cd.oNin (rInA K true) := bf_inG true
/-! ### o[i] op= e -/
theorem get_list : PGet X (rIxL X.K) := by
  intro pins s σ H x y v u Q I rx ry h
  obtain ⟨p, xs, i, z, rfl, rfl, hq, he, q⟩ := h
  cases rx
  obtain ⟨t, rfl⟩ := ry
  obtain ⟨its, r, pl, hz⟩ := I.list hq
  obtain ⟨j, h1, h2, h3, h4, h5⟩ := L2.atI_get he
  obtain ⟨w, ew, rw'⟩ := r.get h2
  have hl := r.length
  have hn := line63
  have fin : EP X pins σ Q w s := ⟨z, H, I, rw', q⟩
  by_cases h0 : 0 ≤ i
  · have hj : i.toNat = j := by
      rw [seqIndex_of h0 h5] at h1
      exact Option.some.inj h1
    exact wpAny_getItem_list pl.isList h0 (by omega) (by rw [hj]; simpa using ew) fin
  · have hj : (i + (its.toArray.size : Int)).toNat = j := by
      rw [seqIndex_neg (by omega) h4] at h1
      rw [List.size_toArray, ← hl]
      exact Option.some.inj h1
    exact wpAny_getItem_list_neg pl.isList (by omega) (by rw [List.size_toArray] <;> omega) (by omega) (by rw [hj]; simpa using ew) fin
theorem ks_augIx {op : Operator} {f : Cd.Hep → Cd.Val → Cd.Val → Option Cd.Val} {r : R2} {tpos : Pos} (ho : OpR X (inplaceOp op) r) (hf : BinF X.K f r) (ha : KE X ca W a ma) (hb : KE X ca W b mb) (he : KE X ca W e me)
    (hs : ∀ ov iv new, augStore b ov iv new = (do holding [new, ov, iv] (setItem ov iv new); release [new, ov, iv] []; pure .next) := by intros; rfl) : KS X ca W (.AugAssign (.Subscript a b tpos) op e pos) (Cd.sAugIx f ma mb me) := by
  refine PS.wk (ps_augS (tip := r) ha hb get_list he ho set_list hs) fun D σ H ⟨ρ, h, η, S, re, p⟩ => ?_
  refine ⟨ρ, h, η, S, re, postS.first S re p fun ρ1 H1 h1 x ox st1 S1 r1 re1 p1 => ?_⟩
  refine ⟨ρ1, h1, η, S1, re1, postS.first S1 re1 p1 fun ρ2 H2 h2 k ik st2 S2 r2 re2 p2 => ?_⟩
  have r1' := r1.mono st2 S1
  cases ei : Cd.oIdxL h2 x k with
  | none => rw [ei] at p2; exact p2.elim
  | some y =>
    rw [ei] at p2
    simp only [Cd.ofO_some, Cd.Res.thn_ok] at p2
    have lst : rIxL X.K ox ik H2 (fun old H3 => RV X.K ρ2 H2 y old ∧ H3 = H2) := by
      unfold Cd.oIdxL at ei
      split at ei
      · split at ei
        · rename_i l hl
          cases r1' with
          | ref q =>
            cases r2
            obtain ⟨vs, e1, rs⟩ := S2.obj _ _ _ hl q
            obtain ⟨v, e2, rv⟩ := atI_rv rs ei
            exact ⟨_, vs, _, v, rfl, rfl, SqL.of e1, e2, rv, rfl⟩
        · cases ei
      · cases ei
    obtain ⟨pp, xs, ii, vv, e1, e2, e3, e4, rv, _⟩ := lst
    refine ⟨pp, xs, ii, vv, e1, e2, e3, e4, ρ2, h2, η, S2, re2, postS.first S2 re2 p2 fun ρ3 H3 h3 z oz st3 S3 r3 re3 p3 => ?_⟩
    cases ef : f h3 y z with
    | none => rw [ef] at p3; exact p3.elim
    | some v =>
      rw [ef] at p3
      simp only [Cd.ofO_some, Cd.Res.thn_ok] at p3
      refine hf ρ3 h3 H3 y z v vv oz _ S3 (rv.mono st3 S2) r3 ef fun ρ4 H4 w st4 S4 r4 => ?_
      cases es : Cd.setIx h3 x k v with
      | none => rw [es] at p3; exact p3.elim
      | some h5 =>
        rw [es] at p3
        exact setIx_of S4 ((r1'.mono st3 S2).mono st4 S3) ((r2.mono st3 S2).mono st4 S3) r4 es fun H' st S' => p3 ρ4 H' σ (st4.trans st) S' ((re3.mono st4 S3).mono st S4)
/-! ### enumerate, zip -/
theorem itemsS_of {ρ : List Addr} {h : Cd.Hep} {H : Hp} {d : Cd.Val} {x : V} {p : List Cd.Val × (Cd.Hep → Bool)} (S : Sim K ρ h H) (r : RV K ρ H d x) (e : Cd.itemsS h d = some p) :
    (∃ a vs, x = .ref a ∧ SqT K H a vs ∧ Cd.isT2 d (.tup []) = true ∧ ∀ ρ1 H1 h1, Step ρ H ρ1 H1 → Sim K ρ1 h1 H1 → p.2 h1 = true → ∃ ws, SqT K H1 a ws ∧ RVs K ρ1 H1 p.1 ws) ∨
    (∃ a vs, x = .ref a ∧ SqL K H a vs ∧ Cd.isT2 d (.tup []) = false ∧ ∀ ρ1 H1 h1, Step ρ H ρ1 H1 → Sim K ρ1 h1 H1 → p.2 h1 = true → ∃ ws, SqL K H1 a ws ∧ RVs K ρ1 H1 p.1 ws) := by
  cases r with
  | tup q rs => cases e; exact .inl ⟨_, _, rfl, q, rfl, fun ρ1 H1 h1 st S1 _ => ⟨_, st.sqT S q, rs.mono st S⟩⟩
  | fl q rs => cases e; exact .inr ⟨_, _, rfl, q.sq, rfl, fun ρ1 H1 h1 st S1 _ => ⟨_, (st.fzL S q).sq, rs.mono st S⟩⟩
  | ref q =>
    simp only [Cd.itemsS] at e
    split at e
    · rename_i l hl
      cases e
      obtain ⟨vs, e1, rs⟩ := S.obj _ _ _ hl q
      refine .inr ⟨_, vs, rfl, SqL.of e1, rfl, fun ρ1 H1 h1 st S1 c => ?_⟩
      have c := @of_decide_eq_true _ (Classical.propDecidable _) c
      obtain ⟨ws, e2, rs2⟩ := S1.obj _ _ _ c (st.ix q)
      exact ⟨ws, SqL.of e2, rs2⟩
    · cases e
  | _ => cases e
theorem enumL_get {l : List Cd.Val} {i : Nat} {d : Cd.Val} (e : (Cd.enumL l)[i]? = some d) : ∃ y, l[i]? = some y ∧ d = .tup [.int (i : Nat), y] := by
  unfold Cd.enumL at e
  rw [List.getElem?_map, List.getElem?_zipIdx] at e
  cases q : l[i]? with
  | none => rw [q] at e; cases e
  | some y => rw [q] at e; cases e; exact ⟨y, rfl, by simp⟩
theorem enumL_len (l : List Cd.Val) : (Cd.enumL l).length = l.length := by simp [Cd.enumL]
theorem itf_enumL {ρ : List Addr} {H : Hp} {a : Addr} {p : List Cd.Val × (Cd.Hep → Bool)} (F : ∀ ρ1 H1 h1, Step ρ H ρ1 H1 → Sim K ρ1 h1 H1 → p.2 h1 = true → ∃ ws, SqL K H1 a ws ∧ RVs K ρ1 H1 p.1 ws) : ItF K (Ite K a) (Cd.enumL p.1) p.2 ρ H where
  go := fun ρ1 H1 h1 i st S1 c hi => by
    obtain ⟨ws, q, rs⟩ := F ρ1 H1 h1 st S1 c
    rw [enumL_len] at hi
    exact ⟨ws, ws[i]'(by rw [← rs.length]; exact hi), q, List.getElem?_eq_getElem _⟩
  stop := fun ρ1 H1 h1 i st S1 c hi => by
    obtain ⟨ws, q, rs⟩ := F ρ1 H1 h1 st S1 c
    rw [enumL_len] at hi
    exact ⟨ws, q, by rw [← rs.length]; omega⟩
  yld := fun ρ1 H1 h1 i d x H' st S1 c hd y => by
    obtain ⟨ws, q, rs⟩ := F ρ1 H1 h1 st S1 c
    obtain ⟨T, xx, rfl, nT, rfl, hx⟩ := y
    obtain ⟨y, ey, rfl⟩ := enumL_get hd
    obtain ⟨v, e1, e2⟩ := rs.get ey
    have := hx ws q
    rw [e1] at this; cases this
    have s2 := Step.out (ρ := ρ1) T (.tup [.int (i : Nat), xx]) nT
    exact ⟨s2, S1.out nT, .tup (SqT.of upd_same) (.cons (.int _) (.cons (e2.mono s2 S1) .nil))⟩
/-- the tuple at a, its items in new pairs with their places -/
def IteT (K : PySem.W.Frag) (a : Addr) : It :=
  ⟨fun i H => ∃ (xs : List V) (x : V), SqT K H a xs ∧ xs[i]? = some x, fun i H v H' => ∃ T x, v = .ref T ∧ H T = none ∧ H' = upd H T (.tup [.int (i : Nat), x]) ∧ ∀ xs, SqT K H a xs → xs[i]? = some x, fun i H => ∃ xs : List V, SqT K H a xs ∧ xs.length = i⟩
theorem itf_enumT {ρ : List Addr} {H : Hp} {a : Addr} {p : List Cd.Val × (Cd.Hep → Bool)} (F : ∀ ρ1 H1 h1, Step ρ H ρ1 H1 → Sim K ρ1 h1 H1 → p.2 h1 = true → ∃ ws, SqT K H1 a ws ∧ RVs K ρ1 H1 p.1 ws) : ItF K (IteT K a) (Cd.enumL p.1) p.2 ρ H where
  go := fun ρ1 H1 h1 i st S1 c hi => by
    obtain ⟨ws, q, rs⟩ := F ρ1 H1 h1 st S1 c
    rw [enumL_len] at hi
    exact ⟨ws, ws[i]'(by rw [← rs.length]; exact hi), q, List.getElem?_eq_getElem _⟩
  stop := fun ρ1 H1 h1 i st S1 c hi => by
    obtain ⟨ws, q, rs⟩ := F ρ1 H1 h1 st S1 c
    rw [enumL_len] at hi
    exact ⟨ws, q, by rw [← rs.length]; omega⟩
  yld := fun ρ1 H1 h1 i d x H' st S1 c hd y => by
    obtain ⟨ws, q, rs⟩ := F ρ1 H1 h1 st S1 c
    obtain ⟨T, xx, rfl, nT, rfl, hx⟩ := y
    obtain ⟨y, ey, rfl⟩ := enumL_get hd
    obtain ⟨v, e1, e2⟩ := rs.get ey
    have := hx ws q
    rw [e1] at this; cases this
    have s2 := Step.out (ρ := ρ1) T (.tup [.int (i : Nat), xx]) nT
    exact ⟨s2, S1.out nT, .tup (SqT.of upd_same) (.cons (.int _) (.cons (e2.mono s2 S1) .nil))⟩
theorem meets_enumerate_newT (v : Value) (o : Obj) (Hh : Heap → Prop) (B : Begins v o Hh) :
    Meets (Builtin.«enumerate.__new__» ⟨[.type "enumerate", v], []⟩) (fun _ R s => Hh s.heap ∧
      R (.ok (.ret (.ref (s.heap.push o).objs.size))) { s with heap := (s.heap.push o).push { cls := .type "enumerate", data := .fields #[.none, .bool false, .ref s.heap.objs.size, rawInt 0, .none, .none] } }) :=
  .of_wp fun prog w A R s h => by
    obtain ⟨hp, g, d, tk, os⟩ := s; obtain ⟨h1, h⟩ := h
    have hsub := sub_enumerate
    have q1 : ∀ {A' : Around} {E : Value → Shared → Prop} {Q : Value → Shared → Prop}, Q (.ref hp.objs.size) ⟨hp.push o, g, d, tk, os⟩ → wpAny (model prog w) A' (pyIter v) Q E ⟨hp, g, d, tk, os⟩ :=
      fun q => B.iter prog w _ _ ⟨hp, g, d, tk, os⟩ _ h1 q
    wp_walk using q1
    refine wpAny_stack_any fun st => wpAny_pure ?_
    split
    · rename_i c _ _ _ _ _
      cases (c == Value.type "enumerate")
      · wp_walk using q1
        exact ⟨_, rfl, h⟩
      · wp_walk using q1
        exact ⟨_, rfl, h⟩
    · wp_walk using q1
      exact ⟨_, rfl, h⟩
theorem call_enumerate_B {prog : Program} {w : World} {A : Around} {E : Value → Shared → Prop} {s : Shared} {v : Value} {o : Obj} {Hh : Heap → Prop} {Q : Value → Shared → Prop} (B : Begins v o Hh) (h1 : Hh s.heap)
    (h : ∀ h', IsEnum h' (s.heap.objs.size + 1) s.heap.objs.size 0 .none → h'.get? s.heap.objs.size = some o → h'.objs.size = s.heap.objs.size + 2 → (∀ b o, s.heap.get? b = some o → h'.get? b = some o) → Q (.ref (s.heap.objs.size + 1)) { s with heap := h' }) :
    wpAny (model prog w) A (call (.type "enumerate") [v]) Q E s := by
  refine callType_new F.called_enumerate (by decide) (F.typeCall_enumerate_1 _) (F.newCall_enumerate_1 _) (fun obj => F.args_object_init_2 obj _) F.entry_enumerate_new (meets_enumerate_newT v o Hh B) ⟨h1, ?_⟩
  have hz : (s.heap.push o).objs.size = s.heap.objs.size + 1 := Heap.size_push ..
  show _ ∧ _
  rw [hz]
  have he : IsEnum ((s.heap.push o).push { cls := .type "enumerate", data := .fields #[.none, .bool false, .ref s.heap.objs.size, rawInt 0, .none, .none] }) (s.heap.objs.size + 1) s.heap.objs.size 0 .none := by
    have := Heap.get?_push_size (s.heap.push o) (o := { cls := .type "enumerate", data := .fields #[.none, .bool false, .ref s.heap.objs.size, rawInt 0, .none, .none] }) rfl
    rw [hz] at this; exact this
  exact ⟨⟨_, he, rfl⟩, h _ he (Heap.get?_push_of_some _ (Heap.get?_push_size _ B.free)) (by rw [Heap.size_push, hz]) fun b o x => Heap.get?_push_of_some _ (Heap.get?_push_of_some _ x)⟩
theorem tup_ne {h : Heap} {a b i : Nat} {items : Array Value} {n : String} {o : Obj} (p : h.IsTuple a items) (ho : h.get? b = some o) (hc : o.cls = .type n) (hn : n ≠ "tuple") : a ≠ b := by
  rintro rfl
  obtain ⟨ob, e, c, _⟩ := p
  rw [ho] at e
  cases e
  rw [hc] at c
  injection c with c
  exact hn c
theorem turn_enumT {P : Program} {w : World} {K : PySem.W.Frag} {elts : List Expr} {kk : Nat} {tpos : Pos} (a e it : Addr) :
    Turn P w K (.Tuple elts kk tpos) (IteT K a) [e, it] e (fun i h => (∃ old, IsEnum h e it ((i : Nat) : Int) old) ∧ h.IsTupleIter it a i ∧ e ≠ it) where
  mem := by simp
  obj := fun i h st b hb => by
    obtain ⟨⟨old, he⟩, ⟨o, ho, hc, hd⟩, _⟩ := st
    have e' : b = e ∨ b = it := by simpa using hb
    rcases e' with z | z
    · rw [z]; exact ⟨_, he, fun v q => nomatch q⟩
    · rw [z]; exact ⟨o, ho, fun v q => by rw [hd] at q; cases q⟩
  keep := fun i h h' st k => let ⟨⟨old, he⟩, hi, hne⟩ := st; ⟨⟨old, k e (by simp) _ he⟩, hi.at fun o q => k it (by simp) o q, hne⟩
  item := by
    intro X hP hw hK hc i pins s σ H E I hf st hg
    subst hP hw hK
    obtain ⟨⟨old, he⟩, hit, hne⟩ := st
    obtain ⟨xs, x, hq, hx⟩ := hg
    obtain ⟨its, rv, p, hz⟩ := I.tuple hq
    obtain ⟨u, hu, ru⟩ := rv.get hx
    have hel : e < s.heap.objs.size := Heap.lt_size he
    have hil : it < s.heap.objs.size := by obtain ⟨_, q, _⟩ := hit; exact Heap.lt_size q
    have pt : s.heap.IsTuple a its.toArray := p
    have hai : a ≠ it := by obtain ⟨o, ho, hc', _⟩ := id hit; exact tup_ne (i := 0) pt ho hc' (by decide)
    have hae : a ≠ e := tup_ne (i := 0) pt he rfl (by decide)
    have hlt : i < its.toArray.size := by
      rw [List.size_toArray]
      exact (List.getElem?_eq_some_iff.mp hu).1
    refine wpAny_pyNext_enum_itemD (Draws.tuple (A := X.A.in1) (I.ok.hd hc) it a hai its.toArray) he ⟨hit, pt⟩ hlt hne (by simp [hne, hae.symm]) fun x' h' tk hP' ho hst' hT hsz hk => ?_
    have ex : x' = u := by
      have h1 : its.toArray[i]? = some x' := hP'
      have h2 : its.toArray[i]? = some u := by simpa using hu
      rw [h1] at h2; exact Option.some.inj h2
    subst ex
    refine ⟨_, rfl, wpAny_letOwnedTupleGo_enum (s := { s with heap := h', toks := tk + 1 }) ho fun h'' he' sb => ?_⟩
    have hT2 : h''.get? s.heap.objs.size = some { cls := .type "tuple", data := .seq #[.int i tk, x'] } := (sb.2 _ (Nat.ne_of_gt hel)).trans hT
    have new : ObjOk X.prog X.w (upd H s.heap.objs.size (.tup [.int (i : Nat), x])) h'' s.heap.objs.size (.tup [.int (i : Nat), x]) :=
      ⟨by show 2 ≤ sizeLine; decide, [.int i tk, x'], .cons ⟨_, rfl⟩ (.cons ru .nil), ⟨_, hT2, rfl, _, rfl⟩⟩
    have I1 : Inv X pins σ (upd H s.heap.objs.size (.tup [.int (i : Nat), x])) { s with heap := h'', toks := tk + 1 } :=
      I.turnedNew (ch := [e, it]) (fun b ob hb q => (sb.2 b (fun z => hb (by simp [z]))).trans (hk b ob (fun z => hb (by simp [z])) (fun z => hb (by simp [z])) q)) hf (Nat.le_refl _) new
    refine ⟨.ref s.heap.objs.size, _, I1, rfl, ⟨_, x, rfl, I.hok.fresh (Nat.le_refl _), rfl, fun ys hy => by rw [I.tuple_inj hy hq]; exact hx⟩, ⟨⟨x', ?_⟩, hst'.1.at fun o q => (sb.2 it (Ne.symm hne)).trans q, hne⟩, fun b hb => ?_⟩
    · have e1 : ((i + 1 : Nat) : Int) = (i : Int) + 1 := by omega
      rw [e1]; exact he'
    · have hb' : b < s.heap.objs.size := by
        have e' : b = e ∨ b = it := by simpa using hb
        rcases e' with z | z
        · rw [z]; exact hel
        · rw [z]; exact hil
      rw [upd_ne (Nat.ne_of_lt hb')]
      exact (hf b hb).1
  done := by
    intro X hP hw hK hc i pins s σ H E I hf st hg
    subst hP hw hK
    obtain ⟨⟨old, he⟩, hit, hne⟩ := st
    obtain ⟨xs, hq, hx⟩ := hg
    obtain ⟨its, rv, p, hz⟩ := I.tuple hq
    obtain ⟨f0, f1, f2, f3, f4, f5⟩ := hf it (by simp)
    have hl := rv.length
    have pt : s.heap.IsTuple a its.toArray := p
    have hai : a ≠ it := by obtain ⟨o, ho, hc', _⟩ := id hit; exact tup_ne (i := 0) pt ho hc' (by decide)
    have en : i = its.toArray.size := by rw [List.size_toArray]; omega
    subst en
    exact wpAny_pyNext_enum_endD (Draws.tuple (A := X.A.in1) (I.ok.hd hc) it a hai its.toArray) he ⟨hit, pt⟩ fun h' eb => ⟨rfl, I.turned (t' := s.toks) (fun b o hb q => eb b o hb q) f0 f1 f3 f4 f5⟩
  self := fun A i s Q E st h => let ⟨⟨_, he⟩, _⟩ := st; wpAny_pyIter_enum he h
def iEnumT (K : PySem.W.Frag) (ta : TA) : TI := fun σ H R => ta σ H fun vs H1 => ∃ a xs, vs = [.ref a] ∧ SqT K H1 a xs ∧ R (IteT K a) H1
theorem pi_enumT {ta : TA} {p pos tpos : Pos} {elts : List Expr} {kk : Nat} (hg : Gl X "enumerate") (hm : X.mg "enumerate" = none) (ha : PA X [e] ta) (hs : starEach [e] X.env = [(false, eval e X.env)] := by rfl) :
    PI X (.Tuple elts kk tpos) (.Call (.Name "enumerate" p) [e] [] pos) (iEnumT X.K ta) := by
  refine ⟨fun pins s σ H R I h => ?_⟩
  refine Call_ (ld_blt I hg hm boot_enumerate (PyProof.Rows.callWith_type1 (thn (ha.run pos pins s σ H _ I h) fun us s1 ⟨vs, H1, I1, r1, q1⟩ => ?_) hs rfl))
  obtain ⟨a, xs, ex, hq, q⟩ := q1
  subst ex
  cases r1 with
  | cons r rr =>
    cases rr
    cases r
    obtain ⟨its, rv, p', hz⟩ := I1.tuple hq
    refine call_enumerate_B (begins_tuple a its.toArray) (show s1.heap.IsTuple a its.toArray from p') fun h' he hit hsz hk => wpAny_pyIter_enum he ?_
    have I2 : Inv X pins σ H1 { s1 with heap := h' } := I1.kept (t' := s1.toks) hk
    refine ⟨s1.heap.objs.size + 1, [s1.heap.objs.size + 1, s1.heap.objs.size], _, _, H1, rfl, I2, turn_enumT a (s1.heap.objs.size + 1) s1.heap.objs.size, ⟨⟨.none, he⟩, ⟨_, hit, rfl, rfl⟩, Nat.succ_ne_self _⟩, fun b hb => ?_, q⟩
    have e' : b = s1.heap.objs.size + 1 ∨ b = s1.heap.objs.size := by simpa using hb
    have hle : s1.heap.objs.size ≤ b := by
      rcases e' with z | z
      · rw [z]; exact Nat.le_add_right _ _
      · rw [z]; exact Nat.le_refl _
    exact I1.fpOk hle (I1.hok.fresh hle)
theorem PI.or2 {tg iter : Expr} {ta : TA} {f g : List V → Hp → (It → Hp → Prop) → Prop} (h : PI X tg iter (fun σ H R => ta σ H fun vs H1 => f vs H1 R)) (h' : PI X tg iter (fun σ H R => ta σ H fun vs H1 => g vs H1 R)) : True := trivial
theorem ki_enum {p tpos : Pos} {elts : List Expr} {kk : Nat} {mas : Cd.AM} (hm : X.mg "enumerate" = none) (ha : KA X ca W [e] mas) (hg : Gl X "enumerate" := by rfl) (hs : starEach [e] X.env = [(false, eval e X.env)] := by rfl) :
    KI X ca W (.Tuple elts kk tpos) (.Call (.Name "enumerate" p) [e] [] pos) (Cd.iArgs Cd.fEnum mas) := by
  refine PI.wk (PI.or (pi_enum hg hm ha hs) (pi_enumT hg hm ha hs)) fun σ H R q => ?_
  -- which of the two: read off the value
  obtain ⟨ρ, h, η, S, re, pp⟩ := id q
  have side : (∃ v h1, mas η h = .ok [v] h1 ∧ Cd.isT2 v (.tup []) = true) ∨ ¬ (∃ v h1, mas η h = .ok [v] h1 ∧ Cd.isT2 v (.tup []) = true) := Classical.em _
  have go : ∀ {C : List V → Hp → Prop}, (∀ ρ1 H1 h1 d x pq, mas η h = .ok [d] h1 → Sim X.K ρ1 h1 H1 → RV X.K ρ1 H1 d x → Cd.itemsS h1 d = some pq → (∀ ρ' H' J, Step ρ1 H1 ρ' H' → Sim X.K ρ' h1 H' → ItF X.K J (Cd.enumL pq.1) pq.2 ρ' H' → R J H') → C [x] H1) → tA X.K ca W mas σ H C := by
    intro C c
    refine ⟨ρ, h, η, S, re, ?_⟩
    unfold Cd.iArgs at pp
    cases em : mas η h with
    | stuck => rw [em] at pp; exact pp.elim
    | exc _ _ => rw [em] at pp; exact pp
    | ok vs h1 =>
      rw [em] at pp
      simp only [Cd.Res.bind_ok] at pp
      intro ρ1 H1 xs st1 S1 r1
      cases ef : Cd.fEnum h1 vs with
      | none => rw [ef] at pp; exact pp.elim
      | some qq =>
        rw [ef] at pp
        unfold Cd.fEnum at ef
        split at ef
        · rename_i d
          cases ei : Cd.itemsS h1 d with
          | none => rw [ei] at ef; cases ef
          | some pq =>
            rw [ei] at ef
            cases ef
            obtain ⟨x, rfl, r2⟩ := one_rv r1
            exact c ρ1 H1 h1 d x pq em S1 r2 ei fun ρ' H' J st S' F => pp ρ' H' J (st1.trans st) S' F
        · cases ef
  rcases side with ⟨v, hh, em, ht⟩ | hn
  · refine .inr (go fun ρ1 H1 h1 d x pq em2 S1 r2 ei k => ?_)
    rw [em] at em2; cases em2
    rcases itemsS_of S1 r2 ei with ⟨a, vs, rfl, q1, _, F⟩ | ⟨a, vs, rfl, q1, ht2, F⟩
    · exact ⟨a, vs, rfl, q1, k ρ1 H1 _ (Step.refl _ _) S1 (itf_enumT F)⟩
    · rw [ht] at ht2; cases ht2
  · refine .inl (go fun ρ1 H1 h1 d x pq em2 S1 r2 ei k => ?_)
    rcases itemsS_of S1 r2 ei with ⟨a, vs, rfl, q1, ht, F⟩ | ⟨a, vs, rfl, q1, _, F⟩
    · exact (hn ⟨_, _, em2, ht⟩).elim
    · exact ⟨a, vs, rfl, q1, k ρ1 H1 _ (Step.refl _ _) S1 (itf_enumL F)⟩
end
end Cb

set_option Elab.async false
set_option linter.all false
set_option maxRecDepth 100000
set_option maxHeartbeats 4000000
/-! CdB9: the bridge: texts; constants of the module. -/
namespace Cb
open PySem PySem.Spec PyProof.Rows L2 TL
section
variable {X : Cx} {K : PySem.W.Frag} {ca : String → Value} {W : WX}
theorem bf_ord' : BFnF K Cd.bOrd (fun xs H Q => ∃ x, xs = [.str x] ∧ x.length = 1 ∧ Q (.int (x.cps.getD 0 0 : Nat)) H) := by
  intro ρ h h' H ds u xs Q S r e k
  unfold Cd.bOrd at e
  split at e
  · cases e
    obtain ⟨x, rfl, r0⟩ := one_rv r
    cases r0
    exact ⟨_, rfl, rfl, k ρ H _ (Step.refl _ _) S (.int _)⟩
  · cases e
theorem cutAt_spl (s : Nat) : ∀ (l acc : List Nat), spl [s] 0 acc l = Cd.cutAt s acc l
  | [], acc => rfl
  | c :: r, acc => by
    by_cases q : c = s
    · subst q
      rw [spl_hit (show pre [c] (c :: r) = true by simp [pre]), Cd.cutAt, if_pos rfl]
      show acc :: spl [c] 0 [] r = _
      rw [cutAt_spl c r []]
    · rw [spl_miss (show pre [s] (c :: r) = false by simp [pre, q]), Cd.cutAt, if_neg q, cutAt_spl s r _]
theorem tl_toS (s : List Nat) : tl (toS s) = s := rfl
theorem rvs_strs {ρ : List Addr} {H : Hp} : ∀ l : List (List Nat), RVs K ρ H (l.map .str) ((l.map toS).map V.str)
  | [] => .nil
  | s :: l => .cons (.str s) (rvs_strs l)
theorem mf_split : MthF K Cd.mSplit (fun x xs H Q => ∃ a b, x = .str a ∧ xs = [.str b] ∧ (b.length == 0) = false ∧ a.length + 2 ≤ sizeLine ∧ rNewStrs (Txt.split a b) H Q) := by
  intro ρ h h' H x ds u ox xs Q S r1 r2 e k
  unfold Cd.mSplit at e
  split at e
  · split at e
    · rename_i s c hz
      cases e
      cases r1
      obtain ⟨y, rfl, ry⟩ := one_rv r2
      cases ry
      obtain ⟨h1, h2⟩ := hz
      rw [Cd.line_is] at h2
      refine ⟨_, _, rfl, rfl, rfl, by rw [sizeLine_eq]; exact h2, ?_⟩
      have e : (Txt.split (toS s) (toS [c])).map tl = Cd.cutAt c [] s := by
        rw [split_spl _ _ (by show [c] ≠ []; simp) (kind_ok (by show (([c] : List Nat).toArray.all fun x => decide (x < 256)) = true; simp [h1]))]
        exact cutAt_spl c s []
      have e2 : Txt.split (toS s) (toS [c]) = (Cd.cutAt c [] s).map toS := map_tl_inj (by
        rw [e, List.map_map]
        exact (List.map_id' (Cd.cutAt c [] s)).symm)
      rw [e2]
      exact lay_k S (rvs_strs _) k
    · cases e
  · cases e
/-! ### constants of the module -/
/-- a written value as one of mine -/
def valC : Value → Cd.Val → Bool
  | .none, .non => true
  | .bool a, .bl b => a == b
  | .int i _, .int j => i == j
  | .str z _, .str s => z.cps.toList == s
  | _, _ => false
def valsC : List Value → List Cd.Val → Bool
  | [], [] => true
  | v :: vs, d :: ds => valC v d && valsC vs ds
  | _, _ => false
theorem valC_of {K : PySem.W.Frag} {ρ : List Addr} {H : Hp} {v : Value} {d : Cd.Val} (h : valC v d = true) : ∃ x, RelV x v ∧ RV K ρ H d x := by
  unfold valC at h
  split at h
  · exact ⟨.non, rfl, .non⟩
  · rename_i a b; exact ⟨.bl b, by rw [beq_iff_eq.mp h]; rfl, .bl b⟩
  · rename_i i t j; exact ⟨.int j, ⟨t, by rw [beq_iff_eq.mp h]⟩, .int j⟩
  · rename_i z t s
    have e := beq_iff_eq.mp h
    refine ⟨.str (toS s), ⟨t, ?_⟩, .str s⟩
    have : toS s = z := ext_tl (by rw [tl_toS]; exact e.symm)
    rw [this]
  · cases h
theorem valsC_of {K : PySem.W.Frag} {ρ : List Addr} {H : Hp} : ∀ {vs : List Value} {ds : List Cd.Val}, valsC vs ds = true → ∃ xs, Vals xs vs ∧ RVs K ρ H ds xs
  | [], [], _ => ⟨[], .nil, .nil⟩
  | v :: vs, d :: ds, h => by
    rw [valsC, Bool.and_eq_true] at h
    obtain ⟨x, h1, h2⟩ := valC_of (K := K) (ρ := ρ) (H := H) h.1
    obtain ⟨xs, h3, h4⟩ := valsC_of (K := K) (ρ := ρ) (H := H) h.2
    exact ⟨x :: xs, .cons h1 h3, .cons h2 h4⟩
/-- an object that is a written tuple -/
def tupC (o : Obj) (ds : List Cd.Val) : Bool := match o.cls, o.data with
  | .type n, .seq its _ => n == "tuple" && decide (its.size ≤ 1000) && valsC its.toList ds
  | _, _ => false
theorem tupC_rv {a : Addr} {o : Obj} {ds : List Cd.Val} (lk : K.lookup a = some o) (h : tupC o ds = true) (ρ : List Addr) (H : Hp) : RV K ρ H (.tup ds) (.ref a) := by
  unfold tupC at h
  split at h
  · rename_i n its m hc hd
    simp only [Bool.and_eq_true, beq_iff_eq, decide_eq_true_eq] at h
    obtain ⟨⟨h1, h2⟩, h3⟩ := h
    obtain ⟨xs, h4, h5⟩ := valsC_of (K := K) (ρ := ρ) (H := H) h3
    exact .tup (.inr ⟨o, its, m, lk, by rw [hc, h1], hd, by rw [sizeLine_eq]; omega, h4⟩) h5
  · cases h
/-- f(): no argument -/
theorem k_call0 {k n : Nat} {f : Addr} {fd : FuncData} {ps : List Str} {F : Cd.Fn} {x : Str} {p pos : Pos} (G : FnOk X.prog X.w X.K X.mg X.base (L2.CX X.prog X.w) k f fd ps (spF X.K ca n F)) (tk : Takes X W) (hr : Room k X.A) (hg : Gl X x) (hm : X.mg x = some (.ref f))
    (hk : PySem.W.keepIn X.K (.ref f) = true) (hb : Binds X.K fd ps []) (hn : n = 0) (hdb : (x == ("__debug__" : Str)) = false := by decide) : KE X ca W (.Call (.Name x p) [] [] pos) (Cd.eCall F Cd.aNil) := by
  refine ⟨fun pins s σ H Q I ⟨ρ, h, η, S, re, q⟩ => ?_⟩
  refine wpAny_Call_Name_kw (ld_glob I hg hm ?_ hdb)
  refine PySem.W.callWith_K0 I.kIn hk (run_fnS (us := []) (vs := []) (E := fun σ => WE W σ) G hr hb (passAt tk σ) I .nil ?_)
  refine ⟨hn.symm, ρ, h, [], S, .nil, ?_⟩
  have q : postG X.K ca W (RV X.K) ρ H σ (F [] h) Q := q
  cases eF : F [] h with
  | stuck => rw [eF] at q; exact q.elim
  | ok v h2 => rw [eF] at q; exact fun ρ2 H2 x st2 S2 r2 => q ρ2 H2 x st2 S2 r2
  | exc ex h2 => rw [eF] at q; exact fun ρ2 H2 cls d st2 S2 r2 => q ρ2 H2 cls d st2 S2 r2
end
end Cb

set_option Elab.async false
set_option linter.all false
set_option maxRecDepth 100000
set_option maxHeartbeats 4000000
/-! CdB10: the bridge: raise X(), try .. except X [as e], isinstance of a caught error. -/
namespace Cb
open PySem PySem.Spec PyProof.Rows L2
section
variable {X : Cx} {K : PySem.W.Frag}
theorem bf_iadd : BinF K Cd.oIAdd (fun x y H Q => (rI0 fun i j => .int (i + j)) x y H Q ∨ (fun x y H Q => ∃ i j, x = V.str i ∧ y = V.str j ∧ i.length + j.length ≤ sizeLine ∧ Q (V.str (i ++ j)) H) x y H Q) := by
  intro ρ h H d e u x y Q S r1 r2 hu k
  unfold Cd.oIAdd at hu
  split at hu
  · cases hu
    cases r1
    cases r2
    exact .inl ⟨_, _, rfl, rfl, k ρ H _ (Step.refl _ _) S (.int _)⟩
  · rename_i s t
    split at hu
    · rename_i hl
      cases hu
      cases r1
      cases r2
      rw [line_eq] at hl
      exact .inr ⟨_, _, rfl, rfl, hl, by rw [← toS_app]; exact k ρ H _ (Step.refl _ _) S (.str _)⟩
    · cases hu
  · cases hu
theorem iop_addB : OpR X (inplaceOp .Add) (fun x y H Q => (rI0 fun i j => .int (i + j)) x y H Q ∨ (fun x y H Q => ∃ i j, x = V.str i ∧ y = V.str j ∧ i.length + j.length ≤ sizeLine ∧ Q (V.str (i ++ j)) H) x y H Q) := iop_add.or iop_add_str
end
/-- an own exception class over ValueError, without own __init__ -/
structure ExR (K : PySem.W.Frag) (C : Addr) : Prop where
  x : PySem.W.excIn K C [.type "ValueError", .type "Exception", .type "BaseException", .type "object"] "ValueError.__new__" = true
  k : PySem.W.keepIn K (.ref C) = true
  b : PySem.W.subIn K (.ref C) (.type "BaseException") = some true
  t : PySem.W.typeIn K (.ref C) = some (.type "type")
section
variable {X : Cx} {ca : String → Value} {W : WX} {C : Addr} {x : Str} {p pos : Pos}
/-- X() -/
theorem pmk_own0 (E : ExR X.K C) (gC : X.mg x = some (.ref C)) (hg : Gl X x) (hdb : (x == ("__debug__" : Str)) = false := by decide) : PMk X (.Call (.Name x p) [] [] pos) (fun _ H Q => Q (.ref C) none H) := by
  intro pins s σ H Q I h
  refine wpAny_Call_Name_kw (ld_glob I hg gC ?_ hdb)
  refine PySem.W.callWith_K0 I.kIn E.k ?_
  show wpAny _ _ (call (.ref C) []) _ _ _
  obtain ⟨bm, N, nm, qn, bs, hdct, sn, sub, ab, col, dd, k0, k1, k2, k3, k5, mN, hC, hN, hni, T⟩ := exc_obj I.kIn E.x
  refine wpAny_call_exc_subT PySem.F.excBase_ValueError T hC hN hni (fun h' e hm => ?_) (Nat.zero_le _)
  exact mk_of I hm (raises_own E.b E.t) h (I.hok.gone hm.new)
theorem ks_raise0 (c : String) {pos2 : Pos} (hc : X.calm = true) (tk : Takes X W) (E : ExR X.K C) (gC : X.mg x = some (.ref C)) (hca : ca c = .ref C) (hg : Gl X x := by rfl) (hdb : (x == ("__debug__" : Str)) = false := by decide) :
    KS X ca W (.Raise (some (.Call (.Name x p) [] [] pos)) none pos2) (Cd.sRaise c) := by
  refine PS.wk (ps_raise hc tk (pmk_own0 E gC hg hdb)) fun D σ H ⟨ρ, h, η, S, re, q⟩ => ?_
  exact q ρ H (.ref C) none σ (Step.refl _ _) S re ⟨hca.symm, .inl ⟨rfl, rfl⟩⟩
/-! ### slots forgotten -/
theorem RE.forget {K : PySem.W.Frag} {ρ : List Addr} {H : Hp} {η : Cd.Env} {σ : L2.St} (r : RE K ρ H η σ) (i : Nat) (o : Option V) : RE K ρ H (η.set i none) (σ.set i o) := by
  refine ⟨by rw [List.length_set, List.length_set, r.len], fun j d hj => ?_⟩
  by_cases z : i = j
  · subst z
    rw [List.getElem?_set] at hj
    split at hj
    · split at hj <;> cases hj
    · rename_i q; exact absurd rfl q
  · rw [List.getElem?_set_ne z] at hj
    rw [List.getElem?_set_ne z]
    exact r.at_ j d hj
/-- the ends of a suite whose name goes -/
abbrev offD (D : Ends) (i : Nat) : Ends := { nx := fun σ' H' => D.nx (σ'.set i none) H', rt := D.rt, bk := fun σ' H' => D.bk (σ'.set i none) H', ct := fun σ' H' => D.ct (σ'.set i none) H' }
theorem post_forget {K : PySem.W.Frag} {ρ : List Addr} {H : Hp} {r : Cd.SR} {D : Ends} {i : Nat} (p : postS K ca W ρ H (r.forget i) D) : postS K ca W0 ρ H r (offD D i) := by
  cases r with
  | nx η' h' => exact fun ρ' H' σ' st S re => p ρ' H' _ st S (re.forget i none)
  | brk η' h' => exact fun ρ' H' σ' st S re => p ρ' H' _ st S (re.forget i none)
  | cont η' h' => exact fun ρ' H' σ' st S re => p ρ' H' _ st S (re.forget i none)
  | ret v h' => exact p
  | exc e η' h' => exact p.elim
  | stuck => exact p.elim
theorem post_quiet {K : PySem.W.Frag} {ρ : List Addr} {H : Hp} {r : Cd.SR} {D : Ends} (p : postS K ca W ρ H r.quiet D) : postS K ca W0 ρ H r D := by
  cases r with
  | nx η' h' => exact p
  | brk η' h' => exact p
  | cont η' h' => exact p
  | ret v h' => exact p
  | exc e η' h' => exact p.elim
  | stuck => exact p.elim
end
section
variable {X : Cx} {ca : String → Value} {W : WX} {C : Addr} {x n : Str} {np pos pos' : Pos} {body suite : List Stmt} {b₀ : Stmt} {mb : Cd.SM} {tbl : List (String × Bool)}
theorem ks_try (i : Nat) {hd : Cd.Exc → Nat → Cd.SM} (hN : X.N.Nodup) (tk : Takes X W) (gC : X.mg x = some (.ref C)) (ht : ∀ c b, tbl.lookup c = some b → PySem.W.exmOne X.K (ca c) (.ref C) = some b)
    (hb : ∀ (W : WX) (pn : List (Addr × Obj)) (xe : Value → Shared → Prop), Takes (X.tr pn xe) W → PassesOwn (model X.prog X.w) X.A X.env xe → KSs (X.tr pn xe) ca W body mb)
    (hsu : ∀ (a : Addr) (oe : Obj) (e : Cd.Exc) (d : Option Addr) (pn : List (Addr × Obj)), Zc (ca e.cls) d oe → (∃ vs, oe.data = .fields vs) → (e.args = [] → d = none) → KSs (X.suite a ((a, oe) :: pn)) ca W0 (b₀ :: suite) (hd e a))
    (hs : X.stack = X.env :: X.outer := by rfl) (hf : X.env.frame = some X.env.locals := by rfl) (hi : X.N[i]? = some n := by rfl) (hln : X.env.kindOf n = some .local := by rfl) (hg : Gl X x := by rfl) (hdb : (x == ("__debug__" : Str)) = false := by decide) :
    KS X ca W (.Try body [.ExceptHandler (some (.Name x np)) (some n) (b₀ :: suite) pos'] [] [] pos) (Cd.sTry tbl i mb hd) := by
  refine PS.wk (ps_try_as (tb := fun W => tS X.K ca W mb) (ts := fun a cls d D σ H => ∃ e : Cd.Exc, cls = ca e.cls ∧ (e.args = [] → d = none) ∧ tS X.K ca W0 (hd e a) D σ H) hs hf hN hi hln ⟨hg, hdb, .inl gC⟩ tk hb (fun a oe cls d pn hz hfl => ?_)) fun D σ H ⟨ρ, h, η, S, re, p⟩ => ?_
  · refine ⟨fun pins s σ H D I ⟨e, he, hd', q⟩ => ?_⟩
    subst he
    exact (hsu a oe e d pn hz hfl hd').run pins s σ H D I q
  · refine ⟨ρ, h, η, S, re, ?_⟩
    unfold Cd.sTry at p
    cases eb : mb η h with
    | nx η' h' => rw [eb] at p; exact p
    | brk η' h' => rw [eb] at p; exact p
    | cont η' h' => rw [eb] at p; exact p
    | ret v h' => rw [eb] at p; exact p
    | stuck => rw [eb] at p; exact p.elim
    | exc e η' h' =>
      rw [eb] at p
      simp only at p
      intro ρ' H' cls d σ' st S' re' rx
      obtain ⟨rx1, rx2⟩ := rx
      cases el : tbl.lookup e.cls with
      | none => rw [el] at p; exact p.elim
      | some b =>
        rw [el] at p
        refine ⟨b, by rw [rx1]; exact ht _ _ el, fun hbt a ha => ?_, fun hbf => ?_⟩
        · subst hbt
          simp only at p
          split at p
          · rename_i hall
            rw [← hall a] at p
            refine ⟨e, rx1, fun z => ?_, ρ', h', η'.set i (some (.exo a)), S', re'.set (.exo a) i, post_forget (postS.mono st p)⟩
            rcases rx2 with ⟨_, q⟩ | ⟨dx, fs, q1, q2, q3⟩
            · exact q
            · exact absurd z q1
          · exact p.elim
        · subst hbf
          exact p ρ' H' cls d σ' st S' re' ⟨rx1, rx2⟩
theorem ks_tryO {hd : Cd.SM} (tk : Takes X W) (gC : X.mg x = some (.ref C)) (ht : ∀ c b, tbl.lookup c = some b → PySem.W.exmOne X.K (ca c) (.ref C) = some b)
    (hb : ∀ (W : WX) (pn : List (Addr × Obj)) (xe : Value → Shared → Prop), Takes (X.tr pn xe) W → PassesOwn (model X.prog X.w) X.A X.env xe → KSs (X.tr pn xe) ca W body mb)
    (hsu : ∀ (a : Addr) (oe : Obj) (pn : List (Addr × Obj)), KSs (X.suite a ((a, oe) :: pn)) ca W0 (b₀ :: suite) hd)
    (hs : X.stack = X.env :: X.outer := by rfl) (hf : X.env.frame = some X.env.locals := by rfl) (hg : Gl X x := by rfl) (hdb : (x == ("__debug__" : Str)) = false := by decide) :
    KS X ca W (.Try body [.ExceptHandler (some (.Name x np)) none (b₀ :: suite) pos'] [] [] pos) (Cd.sTryO tbl mb hd) := by
  refine PS.wk (ps_try_only (tb := fun W => tS X.K ca W mb) (ts := fun a cls d D σ H => tS X.K ca W0 hd D σ H) hs hf ⟨hg, hdb, .inl gC⟩ tk hb (fun a oe cls d pn hz hfl => ?_)) fun D σ H ⟨ρ, h, η, S, re, p⟩ => ?_
  · exact hsu a oe pn
  · refine ⟨ρ, h, η, S, re, ?_⟩
    unfold Cd.sTryO at p
    cases eb : mb η h with
    | nx η' h' => rw [eb] at p; exact p
    | brk η' h' => rw [eb] at p; exact p
    | cont η' h' => rw [eb] at p; exact p
    | ret v h' => rw [eb] at p; exact p
    | stuck => rw [eb] at p; exact p.elim
    | exc e η' h' =>
      rw [eb] at p
      simp only at p
      intro ρ' H' cls d σ' st S' re' rx
      obtain ⟨rx1, rx2⟩ := rx
      cases el : tbl.lookup e.cls with
      | none => rw [el] at p; exact p.elim
      | some b =>
        rw [el] at p
        refine ⟨b, by rw [rx1]; exact ht _ _ el, fun hbt a ha => ?_, fun hbf => ?_⟩
        · subst hbt
          exact ⟨ρ', h', η', S', re', post_quiet (postS.mono st p)⟩
        · subst hbf
          exact p ρ' H' cls d σ' st S' re' ⟨rx1, rx2⟩
end
/-! ### isinstance(e, X) in the suite -/
section
variable {X : Cx} {ca : String → Value} {W : WX} {D : Addr} {x : Str} {p p2 p3 pos : Pos} {n : Str} {tbl : List (String × Bool)} {a : Addr} {oe : Obj} {pn : List (Addr × Obj)} {e : Cd.Exc} {d : Option Addr}
theorem k_isE (i : Nat) (hz : Zc (ca e.cls) d oe) (hfl : ∃ vs, oe.data = .fields vs) (hd : e.args = [] → d = none) (ht : ∀ c b, tbl.lookup c = some b → ∃ C, ca c = .ref C ∧ ExcC X.K C ∧ PySem.W.kitOne X.K (.ref C) (.ref D) = some b)
    (hm : X.mg "isinstance" = none) (gD : X.mg x = some (.ref D)) (hN : X.N[i]? = some n := by rfl) (hv : Vis X.env.scope n := by first | exact Or.inl rfl | exact Or.inr (Or.inl rfl) | exact Or.inr (Or.inr rfl)) (hdn : (n == ("__debug__" : Str)) = false := by decide)
    (hcd : (n == ("__classdict__" : Str)) = false := by decide) (hg : Gl X "isinstance" := by rfl) (hg2 : Gl X x := by rfl) (hdb : (x == ("__debug__" : Str)) = false := by decide)
    (he : starEach [.Name n p3, .Name x p2] X.env = (false, eval (.Name n p3) X.env) :: starEach [.Name x p2] X.env := by rfl) (he2 : starEach [.Name x p2] X.env = (false, eval (.Name x p2) X.env) :: starEach [] X.env := by rfl) (hpl : (backTo pos (starEach [.Name x p2] X.env)).any (·.1) = false := by rfl) :
    KE (X.suite a ((a, oe) :: pn)) ca W (.Call (.Name "isinstance" p) [.Name n p3, .Name x p2] [] pos) (Cd.eIsE tbl e a (Cd.eVar i)) := by
  refine ⟨fun pins s σ H Q I ⟨ρ, h, η, S, re, q⟩ => ?_⟩
  have known : ∃ k, tbl.lookup e.cls = some k ∧ e.args = [] ∧ η[i]? = some (some (.exo a)) ∧ ∀ ρ' H' x, Step ρ H ρ' H' → Sim X.K ρ' h H' → RV X.K ρ' H' (.bl k) x → Q x H' := by
    unfold Cd.eIsE Cd.eVar at q
    split at q
    · rename_i v hv
      simp only [Cd.Res.bind_ok] at q
      split at q
      · split at q
        · rename_i zb
          subst zb
          split at q
          · rename_i z
            split at q
            · rename_i k hk; exact ⟨k, hk, z, hv, q⟩
            · exact q.elim
          · exact q.elim
        · exact q.elim
      · exact q.elim
    · exact q.elim
  obtain ⟨k, hk, z, hη, q2⟩ := known
  obtain ⟨C, hC, EC, kit⟩ := ht _ _ hk
  have hz' : Zc (.ref C) none oe := by rw [← hC, ← hd z]; exact hz
  obtain ⟨v, hσ, rv⟩ := re.at_ i _ hη
  cases rv
  have pa : PA (X.suite a ((a, oe) :: pn)) [.Name n p3, .Name x p2] (tCons (tVar i) (tCons (tC (.ref D)) tNil)) :=
    pa_cons (pv (X := X.suite a ((a, oe) :: pn)) i hN hv hdn hcd) (pa_cons (pe_glob (X := X.suite a ((a, oe) :: pn)) (v := .ref D) hg2 gD rfl hdb) pa_nil he2) he
  refine (pe_callB (X := X.suite a ((a, oe) :: pn)) (call_isE EC hz' hfl) hg hm (by decide +kernel) pa (by decide) (by decide) he hpl).run pins s σ H Q I ?_
  refine ⟨_, hσ, _, .ref D, k, rfl, fun u hu => hu, kit, ?_⟩
  exact q2 ρ H _ (Step.refl _ _) S (.bl _)
end
theorem tab_nil {P : String → Bool → Prop} : ∀ c b, ([] : List (String × Bool)).lookup c = some b → P c b := fun c b e => by cases e
theorem tab_cons {P : String → Bool → Prop} {k : String} {v : Bool} {t : List (String × Bool)} (h : P k v) (ht : ∀ c b, t.lookup c = some b → P c b) : ∀ c b, ((k, v) :: t).lookup c = some b → P c b := fun c b e => by
  rw [List.lookup_cons] at e
  split at e
  · rename_i q
    cases e
    rw [eq_of_beq q]
    exact h
  · exact ht c b e
theorem exm_of {K : PySem.W.Frag} {C D : Addr} {b : Bool} (h1 : PySem.W.subIn K (.ref D) (.type "BaseException") = some true) (h2 : PySem.W.hasDictIn K D = true) (h3 : PySem.W.typeIn K (.ref D) = some (.type "type")) (h4 : PySem.W.subIn K (.ref C) (.ref D) = some b) : PySem.W.exmOne K (.ref C) (.ref D) = some b :=
  PySem.W.exm_ref h1 h2 h3 h4
/-! ### the law's def -/
def spO (K : PySem.W.Frag) (n : Nat) (F : Cd.Fn) : Sp := fun vs H Q E => vs.length = n ∧ ∃ ρ h ds, Sim K ρ h H ∧ RVs K ρ H ds vs ∧
  match F ds h with
  | .ok v h' => ∀ ρ' H' x, Step ρ H ρ' H' → Sim K ρ' h' H' → RV K ρ' H' v x → Q x H'
  | _ => False
theorem spO_of {K : PySem.W.Frag} {ca : String → Value} {n : Nat} {F : Cd.Fn} : ∀ vs H Q E, spO K n F vs H Q E → spF K ca n F vs H Q E := fun vs H Q E ⟨hl, ρ, h, ds, S, r, p⟩ => by
  refine ⟨hl, ρ, h, ds, S, r, ?_⟩
  cases e : F ds h with
  | ok v h' => rw [e] at p; exact p
  | exc y h' => rw [e] at p; exact p.elim
  | stuck => rw [e] at p; exact p.elim
theorem law_spO {K : PySem.W.Frag} {H : Hp} {a : Addr} {ns : List Int} {M : Cd.Fn} {h : Cd.Hep} (hO : Only H) (hS : SqL K H a (ns.map V.int)) (e : M [.fl (ns.map .int)] [] = .ok (.bl true) h) : spO K 1 M [.ref a] H (fun v _ => v = .bl true) fun _ _ _ => False := by
  have fz : FzL K H a (ns.map V.int) := by
    rcases hS with (q | ⟨o, q⟩) | q
    · rcases hO a with z | ⟨o, xs, z⟩
      · rw [z] at q; cases q
      · rw [z] at q; cases q
    · exact .inl ⟨o, q⟩
    · exact .inr q
  refine ⟨rfl, [], [], [.fl (ns.map .int)], ⟨rfl, List.nodup_nil, fun n o a h1 => by simp at h1⟩, .cons (.fl fz (rvs_ints ns)) .nil, ?_⟩
  rw [e]
  intro ρ' H' x st S r
  cases r
  rfl
end Cb

set_option Elab.async false
set_option linter.all false
set_option maxRecDepth 100000
set_option maxHeartbeats 4000000
/-! CdB11: the bridge: str, join, zfill, startswith, endswith. -/
namespace Cb
open PySem PySem.Spec PyProof.Rows L2 TL
section
variable {X : Cx} {K : PySem.W.Frag} {ca : String → Value} {W : WX}
theorem bf_str : BFnF K Cd.bStr (fun xs H Q => ∃ i, xs = [.int i] ∧ i.natAbs.log2 < 1920 ∧ Q (.str (toString i)) H) := by
  intro ρ h h' H ds u xs Q S r e k
  unfold Cd.bStr at e
  split at e
  · split at e
    · rename_i i hi
      cases e
      obtain ⟨x, rfl, r0⟩ := one_rv r
      cases r0
      refine ⟨i, rfl, hi, ?_⟩
      refine k ρ H _ (Step.refl _ _) S ?_
      have q := RV.str (K := K) (ρ := ρ) (H := H) (Cd.S (toString i))
      rw [toS_S] at q
      exact q
    · cases e
  · cases e
theorem strs_rv {ρ : List Addr} {H : Hp} : ∀ {l : List Cd.Val} {vs : List V} {ps : List (List Nat)}, Cd.strsL l = some ps → RVs K ρ H l vs → vs = (ps.map toS).map V.str
  | [], vs, ps, e, r => by cases r; cases e; rfl
  | .str s :: l, vs, ps, e, r => by
    cases r with
    | cons r1 rs =>
      cases r1
      simp only [Cd.strsL] at e
      cases el : Cd.strsL l with
      | none => rw [el] at e; cases e
      | some qs =>
        rw [el] at e; cases e
        rw [strs_rv el rs]
        rfl
  | .non :: _, _, _, e, _ => by cases e
  | .bl _ :: _, _, _, e, _ => by cases e
  | .int _ :: _, _, _, e, _ => by cases e
  | .tup _ :: _, _, _, e, _ => by cases e
  | .fl _ :: _, _, _, e, _ => by cases e
  | .ref _ :: _, _, _, e, _ => by cases e
  | .exo _ :: _, _, _, e, _ => by cases e
theorem joinL_eq (s : List Nat) : ∀ ps : List (List Nat), TL.joinL s ps = Cd.joinL s ps
  | [] => rfl
  | [p] => rfl
  | p :: q :: r => by rw [TL.joinL, Cd.joinL, joinL_eq s (q :: r)]
theorem lens_eq : ∀ ps : List (List Nat), (ps.map toS).map (·.length) = ps.map List.length
  | [] => rfl
  | p :: ps => by
    rw [List.map_cons, List.map_cons, List.map_cons, lens_eq ps]
    rfl
theorem seqOf_of {ρ : List Addr} {h : Cd.Hep} {H : Hp} {d : Cd.Val} {x : V} {l : List Cd.Val} (S : Sim K ρ h H) (r : RV K ρ H d x) (e : Cd.seqOf h d = some l) : ∃ a vs, x = .ref a ∧ (SqL K H a vs ∨ SqT K H a vs) ∧ RVs K ρ H l vs := by
  cases r with
  | fl q rs => cases e; exact ⟨_, _, rfl, .inl q.sq, rs⟩
  | tup q rs => cases e; exact ⟨_, _, rfl, .inr q, rs⟩
  | ref q =>
    simp only [Cd.seqOf] at e
    split at e
    · rename_i m hl
      cases e
      obtain ⟨vs, e1, rs⟩ := S.obj _ _ _ hl q
      exact ⟨_, vs, rfl, .inl (SqL.of e1), rs⟩
    · cases e
  | _ => cases e
theorem mf_join : MthF K Cd.mJoin (fun x xs H Q => ∃ a p, ∃ ys : List Str, x = .str a ∧ xs = [.ref p] ∧ (SqL K H p (ys.map V.str) ∨ SqT K H p (ys.map V.str)) ∧
    (ys.map (·.length)).sum + ys.length * a.length ≤ 16777216 ∧ Q (.str (Txt.join a ys)) H) := by
  intro ρ h h' H x ds u ox xs Q S r1 r2 e k
  unfold Cd.mJoin at e
  split at e
  · rename_i s v
    split at e
    · rename_i ps hp
      split at e
      · rename_i hz
        cases e
        cases r1
        obtain ⟨y, rfl, ry⟩ := one_rv r2
        cases es : Cd.seqOf h v with
        | none => rw [es] at hp; cases hp
        | some l =>
          rw [es] at hp
          obtain ⟨a, vs, rfl, sq, rs⟩ := seqOf_of S ry es
          have ev := strs_rv hp rs
          subst ev
          refine ⟨_, a, ps.map toS, rfl, rfl, sq, ?_, ?_⟩
          · have hz : (ps.map List.length).sum + ps.length * s.length ≤ Cd.line := hz
            rw [Cd.line_is] at hz
            rw [lens_eq, List.length_map]
            exact hz
          · have ej : Txt.join (toS s) (ps.map toS) = toS (Cd.joinL s ps) := by
              refine ext_tl ?_
              rw [join_eq, tl_join, tl_toS, tl_toS, List.map_map, show (tl ∘ toS) = id from rfl, List.map_id, joinL_eq]
            rw [ej]
            exact k ρ H _ (Step.refl _ _) S (.str _)
      · cases e
    · cases e
  · cases e
theorem mf_starts : MthF K Cd.mStarts (fun x xs H Q => ∃ a b, x = .str a ∧ xs = [.str b] ∧ Q (.bl (Txt.startswith a b)) H) := by
  intro ρ h h' H x ds u ox xs Q S r1 r2 e k
  unfold Cd.mStarts at e
  split at e
  · rename_i s t
    cases e
    cases r1
    obtain ⟨y, rfl, ry⟩ := one_rv r2
    cases ry
    refine ⟨_, _, rfl, rfl, ?_⟩
    have e2 : Txt.startswith (toS s) (toS t) = decide (s.take t.length = t) := by
      unfold Txt.startswith
      rw [StrLaws.subAt_eq]
      show (decide (0 + t.length ≤ s.length) && (((s.drop 0).take t.length) == t)) = _
      rw [List.drop_zero, Nat.zero_add]
      by_cases q : s.take t.length = t
      · have l : t.length ≤ s.length := by
          have := congrArg List.length q
          rw [List.length_take] at this
          omega
        simp [q, l]
      · simp [q]
    rw [e2]
    exact k ρ H _ (Step.refl _ _) S (.bl _)
  · cases e
theorem mf_ends : MthF K Cd.mEnds (fun x xs H Q => ∃ a b, x = .str a ∧ xs = [.str b] ∧ Q (.bl (Txt.endswith a b)) H) := by
  intro ρ h h' H x ds u ox xs Q S r1 r2 e k
  unfold Cd.mEnds at e
  split at e
  · rename_i s t
    cases e
    cases r1
    obtain ⟨y, rfl, ry⟩ := one_rv r2
    cases ry
    refine ⟨_, _, rfl, rfl, ?_⟩
    have e2 : Txt.endswith (toS s) (toS t) = (decide (t.length ≤ s.length) && decide (s.drop (s.length - t.length) = t)) := by
      unfold Txt.endswith
      rw [StrLaws.subAt_eq]
      show (decide (0 + t.length ≤ s.length) && (((s.drop (s.length - t.length)).take t.length) == t)) = _
      rw [Nat.zero_add]
      by_cases l : t.length ≤ s.length
      · have e3 : (s.drop (s.length - t.length)).take t.length = s.drop (s.length - t.length) := by
          rw [List.take_of_length_le]
          rw [List.length_drop]; omega
        rw [e3]
        by_cases q : s.drop (s.length - t.length) = t <;> simp [q, l]
      · simp [l]
    rw [e2]
    exact k ρ H _ (Step.refl _ _) S (.bl _)
  · cases e
theorem tl_pad (x : Str) (n : Nat) : tl (Builtin.Str.padded x n 0 48) = List.replicate n 48 ++ tl x := by
  simp [tl, Builtin.Str.padded]
theorem zfill_eq (s : List Nat) (i : Int) : Txt.zfill (toS s) i = toS (Cd.zfillL s i) := by
  refine ext_tl ?_
  unfold Txt.zfill Cd.zfillL
  by_cases q : i ≤ s.length
  · rw [if_pos q, if_pos (show i ≤ ((toS s).length : Int) from q)]
  · rw [if_neg q, if_neg (show ¬ i ≤ ((toS s).length : Int) from q)]
    show tl (zfilled (toS s) (i.toNat - s.length)) = _
    have plain : ∀ t : List Nat, tl (Builtin.Str.padded (toS t) (i.toNat - s.length) 0 48) = List.replicate (i.toNat - s.length) 48 ++ t := fun t => tl_pad (toS t) _
    have sg : ∀ (c : Nat) (r : List Nat), s = c :: r → tl (Builtin.Str.strSub (toS s) 0 1 ++ Builtin.Str.padded (Builtin.Str.strSub (toS s) 1 (toS s).length) (i.toNat - s.length) 0 48) = c :: (List.replicate (i.toNat - s.length) 48 ++ r) := by
      intro c r hs
      rw [tl_append, tl_pad, tl_strSub, tl_strSub_end, tl_toS, hs]
      simp
    unfold zfilled
    cases s with
    | nil => exact plain []
    | cons c r =>
      have h0 : (toS (c :: r)).cps[0]? = some c := by simp [toS]
      rw [h0]
      by_cases q1 : c = 43
      · subst q1
        exact sg 43 r rfl
      · by_cases q2 : c = 45
        · subst q2
          exact sg 45 r rfl
        · split
          · rename_i z; exact absurd (Option.some.inj z) q1
          · rename_i z; exact absurd (Option.some.inj z) q2
          · split
            · rename_i z; exact absurd (List.cons.inj z).1 q1
            · rename_i z; exact absurd (List.cons.inj z).1 q2
            · exact plain _
theorem mf_zfill : MthF K Cd.mZfill (fun x xs H Q => ∃ (a : Str) (i : Int), x = .str a ∧ xs = [.int i] ∧ PadOk i = true ∧ Q (.str (Txt.zfill a i)) H) := by
  intro ρ h h' H x ds u ox xs Q S r1 r2 e k
  unfold Cd.mZfill at e
  split at e
  · rename_i s i
    split at e
    · rename_i hi
      cases e
      cases r1
      obtain ⟨y, rfl, ry⟩ := one_rv r2
      cases ry
      obtain ⟨h1, h2⟩ := hi
      rw [Cd.line_is] at h1
      refine ⟨_, i, rfl, rfl, ?_, ?_⟩
      · unfold PadOk fitsSsize Builtin.Str.tooLong
        rw [sizeLine_eq]
        simp
        omega
      · have ez : Txt.zfill (toS s) i = toS (Cd.zfillL s i) := by
          exact zfill_eq s i
        rw [ez]
        exact k ρ H _ (Step.refl _ _) S (.str _)
    · cases e
  · cases e
end
end Cb

set_option Elab.async false
set_option linter.all false
set_option maxRecDepth 100000
set_option maxHeartbeats 4000000
/-! CdB12: the bridge: list + list, l[::-1], int(figures), max of a list. -/
namespace Cb
open PySem PySem.Spec PyProof.Rows L2 TL
section
variable {X : Cx} {K : PySem.W.Frag} {ca : String → Value} {W : WX} {a b : Expr} {ma mb : Cd.EM} {pos : Pos}
theorem k_cat (ha : KE X ca W a ma) (hb : KE X ca W b mb) : KE X ca W (.BinOp a .Add b pos) (Cd.eCat ma mb) := by
  refine PE.wk (pe_op op_cat ha hb) fun σ H Q ⟨ρ, h, η, S, re, p⟩ => ?_
  refine ⟨ρ, h, η, S, re, postG.first p fun ρ1 H1 h1 d x st1 S1 r1 p1 => ?_⟩
  refine ⟨ρ1, h1, η, S1, re.mono st1 S, postG.first p1 fun ρ2 H2 h2 e y st2 S2 r2 p2 => ?_⟩
  have r1 := r1.mono st2 S1
  cases eo : Cd.oCat h2 d e with
  | none => rw [eo] at p2; exact p2.elim
  | some w =>
    obtain ⟨v, h3⟩ := w
    rw [eo] at p2
    unfold Cd.oCat at eo
    split at eo
    · split at eo
      · rename_i l k hl hk
        split at eo
        · rename_i hz
          cases eo
          cases r1 with
          | ref q1 =>
            cases r2 with
            | ref q2 =>
              obtain ⟨vs, e1, rs⟩ := S2.obj _ _ _ hl q1
              obtain ⟨ws, e2, ss⟩ := S2.obj _ _ _ hk q2
              rw [line_eq, rs.length, ss.length] at hz
              exact ⟨_, _, vs, ws, rfl, rfl, e1, e2, hz, lay_k S2 (rs.append ss) p2⟩
        · cases eo
      · cases eo
    · cases eo
theorem k_rev {k : Nat} {p1 p2 p3 : Pos} (ha : KE X ca W a ma) : KE X ca W (.Subscript a (.Slice none none (some (.UnaryOp .USub (.Constant (.int 1) k p1) p2)) p3) pos) (Cd.eRev ma) := by
  refine PE.wk (pe_revL ha) fun σ H Q ⟨ρ, h, η, S, re, p⟩ => ?_
  refine ⟨ρ, h, η, S, re, postG.first p fun ρ1 H1 h1 d x st1 S1 r1 p1 => ?_⟩
  cases el : Cd.itsL h1 d with
  | none => rw [el] at p1; exact p1.elim
  | some l =>
    rw [el] at p1
    obtain ⟨a, vs, rfl, sq, rs⟩ := seq_of S1 r1 el
    exact ⟨a, vs, rfl, sq, lay_k S1 rs.reverse p1⟩
theorem bf_intS : BFnF K Cd.bIntS (fun xs H Q => ∃ a n, xs = [.str a] ∧ PySem.intText? a = some n ∧ a.length ≤ 640 ∧ Q (.int n) H) := by
  intro ρ h h' H ds u xs Q S r e k
  unfold Cd.bIntS at e
  split at e
  · split at e
    · rename_i s hs
      cases e
      obtain ⟨x, rfl, r0⟩ := one_rv r
      cases r0
      obtain ⟨h1, h2, h3⟩ := hs
      exact ⟨_, _, rfl, SX.int_S h1 h2 (by omega), h3, k ρ H _ (Step.refl _ _) S (.int _)⟩
    · cases e
  · cases e
theorem ints_rv {ρ : List Addr} {H : Hp} : ∀ {l : List Cd.Val} {vs : List V} {ns : List Int}, Cd.intsL l = some ns → RVs K ρ H l vs → vs = ns.map V.int
  | [], vs, ps, e, r => by cases r; cases e; rfl
  | .int s :: l, vs, ps, e, r => by
    cases r with
    | cons r1 rs =>
      cases r1
      simp only [Cd.intsL] at e
      cases el : Cd.intsL l with
      | none => rw [el] at e; cases e
      | some qs =>
        rw [el] at e; cases e
        rw [ints_rv el rs]
        rfl
  | .non :: _, _, _, e, _ => by cases e
  | .bl _ :: _, _, _, e, _ => by cases e
  | .str _ :: _, _, _, e, _ => by cases e
  | .tup _ :: _, _, _, e, _ => by cases e
  | .fl _ :: _, _, _, e, _ => by cases e
  | .ref _ :: _, _, _, e, _ => by cases e
  | .exo _ :: _, _, _, e, _ => by cases e
theorem maxL_le : ∀ (l : List Int) (m : Int), m ≤ Cd.maxL m l ∧ ∀ y ∈ l, y ≤ Cd.maxL m l
  | [], m => ⟨Int.le_refl _, fun y h => by cases h⟩
  | i :: l, m => by
    by_cases q : m < i
    · obtain ⟨h1, h2⟩ := maxL_le l i
      have e : Cd.maxL m (i :: l) = Cd.maxL i l := by rw [Cd.maxL, if_pos q]
      rw [e]
      refine ⟨by omega, fun y hy => ?_⟩
      rcases List.mem_cons.mp hy with rfl | hy
      · exact h1
      · exact h2 y hy
    · obtain ⟨h1, h2⟩ := maxL_le l m
      have e : Cd.maxL m (i :: l) = Cd.maxL m l := by rw [Cd.maxL, if_neg q]
      rw [e]
      refine ⟨h1, fun y hy => ?_⟩
      rcases List.mem_cons.mp hy with rfl | hy
      · omega
      · exact h2 y hy
theorem maxL_mem : ∀ (l : List Int) (m : Int), Cd.maxL m l ∈ m :: l
  | [], m => List.mem_cons_self
  | i :: l, m => by
    have h := maxL_mem l (if m < i then i else m)
    rw [Cd.maxL]
    rcases List.mem_cons.mp h with h | h
    · rw [h]; split <;> simp
    · exact List.mem_cons_of_mem _ (List.mem_cons_of_mem _ h)
theorem bf_maxL : BFnF K Cd.bMaxL (rMax K) := by
  intro ρ h h' H ds u xs Q S r e k
  unfold Cd.bMaxL at e
  split at e
  · rename_i v
    split at e
    · rename_i i l hb
      cases e
      obtain ⟨x, rfl, r0⟩ := one_rv r
      cases el : Cd.itsL h v with
      | none => rw [el] at hb; cases hb
      | some m =>
        rw [el] at hb
        obtain ⟨a, vs, rfl, sq, rs⟩ := seq_of S r0 el
        have ev := ints_rv hb rs
        subst ev
        refine ⟨a, i :: l, rfl, sq, by simp, fun m hm hle => ?_⟩
        have q1 := maxL_le l i
        have q2 := maxL_mem l i
        have em : m = Cd.maxL i l := by
          apply Int.le_antisymm
          · rcases List.mem_cons.mp hm with rfl | z
            · exact q1.1
            · exact q1.2 m z
          · exact hle _ q2
        rw [em]
        exact k ρ H _ (Step.refl _ _) S (.int _)
    · cases e
  · cases e
theorem insI_perm (i : Int) : ∀ l : List Int, (Cd.insI i l).Perm (i :: l)
  | [] => List.Perm.refl _
  | j :: l => by
    rw [Cd.insI]
    split
    · exact List.Perm.refl _
    · exact ((insI_perm i l).cons j).trans (List.Perm.swap i j l)
theorem srtI_perm : ∀ l : List Int, (Cd.srtI l).Perm l
  | [] => List.Perm.refl _
  | i :: l => (insI_perm i _).trans ((srtI_perm l).cons i)
theorem insI_pw (i : Int) : ∀ l : List Int, l.Pairwise (· ≤ ·) → (Cd.insI i l).Pairwise (· ≤ ·)
  | [], _ => by simp [Cd.insI]
  | j :: l, h => by
    rw [Cd.insI]
    have h' := List.pairwise_cons.mp h
    split
    · rename_i q
      refine List.pairwise_cons.mpr ⟨fun y hy => ?_, h⟩
      rcases List.mem_cons.mp hy with rfl | hy
      · exact q
      · exact Int.le_trans q (h'.1 y hy)
    · rename_i q
      refine List.pairwise_cons.mpr ⟨fun y hy => ?_, insI_pw i l h'.2⟩
      rcases List.mem_cons.mp ((insI_perm i l).mem_iff.mp hy) with rfl | hy
      · omega
      · exact h'.1 y hy
theorem srtI_pw : ∀ l : List Int, (Cd.srtI l).Pairwise (· ≤ ·)
  | [] => List.Pairwise.nil
  | i :: l => insI_pw i _ (srtI_pw l)
theorem rvs_ints2 {ρ : List Addr} {H : Hp} : ∀ l : List Int, RVs K ρ H (l.map .int) (l.map V.int)
  | [] => .nil
  | s :: l => .cons (.int s) (rvs_ints2 l)
theorem bf_sortI : BFnF K Cd.bSortI (rSortedI K) := by
  intro ρ h h' H ds u xs Q S r e k
  unfold Cd.bSortI at e
  split at e
  · rename_i v
    split at e
    · rename_i ns hb
      cases e
      obtain ⟨x, rfl, r0⟩ := one_rv r
      cases el : Cd.itsL h v with
      | none => rw [el] at hb; cases hb
      | some m =>
        rw [el] at hb
        obtain ⟨a, vs, rfl, sq, rs⟩ := seq_of S r0 el
        have ev := ints_rv hb rs
        subst ev
        refine ⟨a, ns, rfl, sq, fun ns' p hp hw np => ?_⟩
        have en : ns' = Cd.srtI ns := List.Perm.eq_of_pairwise (fun a b _ _ h1 h2 => Int.le_antisymm h1 h2) hw (srtI_pw ns) (hp.trans (srtI_perm ns).symm)
        subst en
        exact lay_k S (rvs_ints2 _) k p np
    · cases e
  · cases e
end
end Cb

set_option Elab.async false
set_option linter.all false
set_option maxRecDepth 100000
set_option maxHeartbeats 4000000
/-! CdB13: the bridge: text * int, range of three, a def that calls itself. -/
namespace Cb
open PySem PySem.Spec PyProof.Rows L2 TL
theorem foldl_app (a : Array Nat) : ∀ (n : Nat) (acc : Array Nat), ((List.replicate n a).foldl (· ++ ·) acc).toList = acc.toList ++ (List.replicate n a.toList).flatten
  | 0, acc => by simp
  | n + 1, acc => by
    rw [List.replicate_succ, List.foldl_cons, foldl_app a n, List.replicate_succ, List.flatten_cons, Array.toList_append, List.append_assoc]
theorem mul_eq (s : List Nat) (i : Int) : Txt.mul (toS s) i = toS (Cd.repL s i.toNat) := by
  refine ext_tl ?_
  unfold Txt.mul Cd.repL
  by_cases h1 : i < 1
  · rw [if_pos h1, show i.toNat = 0 by omega]
    rfl
  · rw [if_neg h1]
    by_cases h2 : (i == 1 || (toS s).length == 0) = true
    · rw [if_pos h2]
      rcases Bool.or_eq_true _ _ |>.mp h2 with q | q
      · have : i = 1 := by simpa using q
        subst this
        show tl (toS s) = _
        simp
      · have q : s.length = 0 := eq_of_beq q
        have : s = [] := List.eq_nil_of_length_eq_zero q
        subst this
        show tl (toS []) = _
        simp
    · rw [if_neg h2]
      show ((List.replicate i.toNat (toS s).cps).foldl (· ++ ·) #[]).toList = _
      rw [foldl_app]
      show _ = (toS _).cps.toList
      simp [toS]
theorem mulOk_of {s : List Nat} {i : Int} (h : Cd.repOk s.length i) : MulOk (toS s) i := by
  obtain ⟨h1, h2, h3⟩ := h
  rw [Cd.line_is] at h2 h3
  have sl : sizeLine = 16777216 := sizeLine_eq
  refine ⟨by simp; omega, fun h4 h5 => ?_, fun h4 h5 => ?_⟩
  · show ¬ ((s.length : Int) > (2 ^ 63 - 1) / i)
    have : (s.length : Int) ≤ (2 ^ 63 - 1) / i := by
      rw [Int.le_ediv_iff_mul_le (by omega)]
      have e : (i.toNat : Int) = i := Int.toNat_of_nonneg (by omega)
      rw [← e]
      have : ((s.length * i.toNat : Nat) : Int) ≤ (16777216 : Nat) := Int.ofNat_le.mpr h3
      rw [Int.natCast_mul] at this
      omega
    omega
  · show Builtin.Str.tooLong (s.length * i.toNat) = false
    unfold Builtin.Str.tooLong
    rw [sl]
    simp
    exact h3
section
variable {X : Cx} {K : PySem.W.Frag} {ca : String → Value} {W : WX} {a b c : Expr} {ma mb : Cd.EM} {pos : Pos}
theorem op_mul_str : OpR X (binaryOp .Mult) (fun x y H Q => ∃ a i, x = V.str a ∧ y = V.int i ∧ MulOk a i ∧ Q (V.str (Txt.mul a i)) H) := by
  intro pins s σ H x y v u Q I rx ry h
  obtain ⟨i, j, rfl, rfl, hz, q⟩ := h
  obtain ⟨t, rfl⟩ := rx
  obtain ⟨t', rfl⟩ := ry
  exact SB.mul hz (fun t' tk => ⟨.str _, H, I.tok _, ⟨_, rfl⟩, q⟩)
theorem op_mulS : OpR X (binaryOp .Mult) (fun x y H Q => (rI CMulA fun i j => .int (i * j)) x y H Q ∨ (fun x y H Q => ∃ a i, x = V.str a ∧ y = V.int i ∧ MulOk a i ∧ Q (V.str (Txt.mul a i)) H) x y H Q) := op_mulA.or op_mul_str
theorem bf_mulS : BinF K Cd.oMulS (fun x y H Q => (rI CMulA fun i j => .int (i * j)) x y H Q ∨ (fun x y H Q => ∃ a i, x = V.str a ∧ y = V.int i ∧ MulOk a i ∧ Q (V.str (Txt.mul a i)) H) x y H Q) := by
  intro ρ h H d e u x y Q S r1 r2 hu k
  unfold Cd.oMulS at hu
  split at hu
  · split at hu
    · rename_i hm
      cases hu; cases r1; cases r2
      exact .inl ⟨_, _, rfl, rfl, mulA_of hm, k ρ H _ (Step.refl _ _) S (.int _)⟩
    · cases hu
  · split at hu
    · rename_i s i hm
      cases hu; cases r1; cases r2
      exact .inr ⟨_, _, rfl, rfl, mulOk_of hm, by rw [mul_eq]; exact k ρ H _ (Step.refl _ _) S (.str _)⟩
    · cases hu
  · cases hu
theorem itf_rngC {ρ : List Addr} {H : Hp} (lo c : Int) (n : Nat) : ItF K (Itc lo c n) (Cd.rngC lo c n) (fun _ => true) ρ H where
  go := fun ρ1 H1 h1 i st S1 _ hi => by
    have : i < n := by simpa [Cd.rngC] using hi
    exact this
  stop := fun ρ1 H1 h1 i st S1 _ hi => by
    have : i = n := by simpa [Cd.rngC] using hi
    exact Nat.le_of_eq this.symm
  yld := fun ρ1 H1 h1 i d x H' st S1 _ hd y => by
    obtain ⟨rfl, rfl⟩ := y
    have hi : i < n := by
      have := (List.getElem?_eq_some_iff.mp hd).1
      simpa [Cd.rngC] using this
    unfold Cd.rngC at hd
    rw [List.getElem?_map, List.getElem?_range hi] at hd
    cases hd
    exact ⟨Step.refl _ _, S1, .int _⟩
theorem rgC_of {i j c : Int} (h1 : Cd.i40 i) (h2 : Cd.i40 j) (h3 : 0 < c) (h4 : c < 2 ^ 29) : RgC i j c (Cd.stepN i j c) := by
  obtain ⟨a1, a2⟩ := h1
  obtain ⟨b1, b2⟩ := h2
  have d0 : i < j → 0 ≤ (j - i - 1) / c := fun q => Int.ediv_nonneg (by omega) (by omega)
  have d1 : i < j → (j - i - 1) / c ≤ j - i - 1 := fun q => Int.ediv_le_self _ (by omega)
  have rs : Builtin.Range.rangeSize i j c = (Cd.stepN i j c : Int) := by
    unfold Builtin.Range.rangeSize Cd.stepN
    rw [if_pos h3]
    split
    · rename_i q
      have := d0 q
      omega
    · rfl
  have sz : (Cd.stepN i j c : Int) < 2 ^ 42 := by
    unfold Cd.stepN
    split
    · rename_i q
      have := d0 q
      have := d1 q
      omega
    · decide
  refine ⟨by omega, by omega, ?_, rs⟩
  unfold Builtin.Range.small
  rw [rs]
  simp only [Builtin.Range.rangeFitsLong, Bool.and_eq_true, Bool.or_eq_true, decide_eq_true_eq, beq_iff_eq, h3, if_true]
  omega
theorem ki_rng3 {tg : Expr} {p : Pos} {mas : Cd.AM} (hm : X.mg "range" = none) (ha : KA X ca W [a, b, c] mas) (hg : Gl X "range" := by rfl) (hs : starEach [a, b, c] X.env = (false, eval a X.env) :: starEach [b, c] X.env := by rfl) (hpl : (backTo pos (starEach [b, c] X.env)).any (·.1) = false := by rfl) :
    KI X ca W tg (.Call (.Name "range" p) [a, b, c] [] pos) (Cd.iArgs Cd.fRng3 mas) := by
  refine PI.wk (pi_range3 hg hm ha hs hpl) fun σ H R p => tI_args p fun ρ1 H1 h1 ds xs q S1 r1 ef k => ?_
  unfold Cd.fRng3 at ef
  split at ef
  · rename_i i j c
    split at ef
    · rename_i hj
      cases ef
      cases r1 with
      | cons r2 r3 =>
        cases r2
        cases r3 with
        | cons r4 r5 =>
          cases r4
          cases r5 with
          | cons r6 r7 =>
            cases r6; cases r7
            exact ⟨i, j, c, _, rfl, rgC_of hj.1 hj.2.1 hj.2.2.1 hj.2.2.2, k ρ1 H1 _ (Step.refl _ _) S1 (itf_rngC i c _)⟩
    · cases ef
  · cases ef
end
section
variable {P : Program} {w : World} {K : PySem.W.Frag} {mg : Str → Option Value} {base : Heap} {ca : String → Value}
theorem fnOk_stuck {k n : Nat} {f : Addr} {fd : FuncData} {ps : List Str} : FnOk P w K mg base (L2.CX P w) k f fd ps (spF K ca n Cd.fnStuck) := by
  have no : ∀ vs H Q E, spF K ca n Cd.fnStuck vs H Q E → False := fun vs H Q E h => by
    obtain ⟨_, ρ, h0, ds, _, _, p⟩ := h
    exact p
  exact ⟨fun vs H Q E h => (no vs H Q E h).elim, fun A outer s H args us vs Q E hr he hb hv hs => (no vs H Q E hs).elim⟩
end
end Cb

set_option Elab.async false
set_option linter.all false
set_option maxRecDepth 100000
set_option maxHeartbeats 4000000
/-! CdB14: the bridge: dicts; written dicts; upper. -/
namespace Cb
open PySem PySem.Spec PyProof.Rows L2 TL
theorem room1 {k : Nat} {A : Around} (r : Room k A) : A.units + 1 < cLine := by
  have := r.un
  omega
section
variable {K : PySem.W.Frag} {ρ : List Addr} {H : Hp}
theorem keyOf_some {k : Cd.Val} (h : Cd.isKey k = true) : ∃ κ, keyOf k = some κ := by
  cases k <;> first | exact ⟨_, rfl⟩ | cases h
theorem key_rv {k : Cd.Val} {κ : Key} {x : V} (h : keyOf k = some κ) (r : RV K ρ H k x) : x = kV κ := by
  cases r with
  | int i => cases h; rfl
  | str s => cases h; rfl
  | _ => cases h
theorem keyEq_iff {a b : Cd.Val} {κ μ : Key} (ha : keyOf a = some κ) (hb : keyOf b = some μ) : Cd.keyEq a b = decide (κ = μ) := by
  cases a with
  | int i =>
    cases ha
    cases b with
    | int j =>
      cases hb
      show (i == j) = _
      by_cases q : i = j
      · subst q; simp
      · rw [beq_false_of_ne q, decide_eq_false (fun z => q (Sum.inl.inj z))]
    | str s => cases hb; rw [decide_eq_false (fun z => by cases z)]; rfl
    | _ => cases hb
  | str s =>
    cases ha
    cases b with
    | int j => cases hb; rw [decide_eq_false (fun z => by cases z)]; rfl
    | str t =>
      cases hb
      show (s == t) = _
      by_cases q : s = t
      · subst q; simp
      · rw [beq_false_of_ne q, decide_eq_false (fun z => q (toS_inj.mp (Sum.inr.inj z)))]
    | _ => cases hb
  | _ => cases ha
theorem RD.length {l : List (Cd.Val × Cd.Val)} {kvs : List (Key × V)} (r : RD K ρ H l kvs) : l.length = kvs.length := by
  induction r with
  | nil => rfl
  | cons e r t ih => rw [List.length_cons, List.length_cons, ih]
theorem RD.get {l : List (Cd.Val × Cd.Val)} {kvs : List (Key × V)} (r : RD K ρ H l kvs) {k : Cd.Val} {κ : Key} (hk : keyOf k = some κ) :
    match Cd.dGet l k with
    | some d => ∃ v, valV kvs κ = some v ∧ RV K ρ H d v
    | none => valV kvs κ = none := by
  induction r with
  | nil => rfl
  | @cons k1 d κ1 v l kvs e r t ih =>
    rw [Cd.dGet]
    have q := keyEq_iff e hk
    by_cases z : κ1 = κ
    · subst z
      rw [decide_eq_true rfl] at q
      rw [show (if Cd.keyEq (k1, d).1 k = true then some (k1, d).2 else Cd.dGet l k) = some d from if_pos q]
      exact ⟨v, valV_pos (p := (κ1, v)) rfl, r⟩
    · rw [decide_eq_false z] at q
      rw [show (if Cd.keyEq (k1, d).1 k = true then some (k1, d).2 else Cd.dGet l k) = Cd.dGet l k from if_neg (by rw [q]; decide)]
      rw [show valV ((κ1, v) :: kvs) κ = valV kvs κ from valV_neg (p := (κ1, v)) z]
      exact ih
theorem RD.has {l : List (Cd.Val × Cd.Val)} {kvs : List (Key × V)} (r : RD K ρ H l kvs) {k : Cd.Val} {κ : Key} (hk : keyOf k = some κ) : (valV kvs κ).isSome = Cd.dHas l k := by
  have q := r.get hk
  unfold Cd.dHas
  cases e : Cd.dGet l k with
  | some d => rw [e] at q; obtain ⟨v, e2, _⟩ := q; rw [e2]; rfl
  | none => rw [e] at q; simp only at q; rw [q]; rfl
theorem RD.upd {l : List (Cd.Val × Cd.Val)} {kvs : List (Key × V)} (r : RD K ρ H l kvs) {k d : Cd.Val} {κ : Key} {v : V} (hk : keyOf k = some κ) (rv : RV K ρ H d v) : RD K ρ H (Cd.dUpd k d l) (kvs.map fun kv => if kv.1 = κ then (kv.1, v) else kv) := by
  induction r with
  | nil => exact .nil
  | @cons k1 d1 κ1 v1 l kvs e r t ih =>
    rw [Cd.dUpd, List.map_cons]
    have q := keyEq_iff e hk
    by_cases z : κ1 = κ
    · subst z
      rw [decide_eq_true rfl] at q
      rw [show (if Cd.keyEq (k1, d1).1 k = true then ((k1, d1).1, d) else (k1, d1)) = (k1, d) from if_pos q, if_pos rfl]
      exact .cons e rv ih
    · rw [decide_eq_false z] at q
      rw [show (if Cd.keyEq (k1, d1).1 k = true then ((k1, d1).1, d) else (k1, d1)) = (k1, d1) from if_neg (by rw [q]; decide), if_neg z]
      exact .cons e r ih
theorem RD.snoc {l : List (Cd.Val × Cd.Val)} {kvs : List (Key × V)} (r : RD K ρ H l kvs) {k d : Cd.Val} {κ : Key} {v : V} (hk : keyOf k = some κ) (rv : RV K ρ H d v) : RD K ρ H (l ++ [(k, d)]) (kvs ++ [(κ, v)]) := by
  induction r with
  | nil => exact .cons hk rv .nil
  | cons e r t ih => exact .cons e r ih
theorem RD.put {l : List (Cd.Val × Cd.Val)} {kvs : List (Key × V)} (r : RD K ρ H l kvs) {k d : Cd.Val} {κ : Key} {v : V} (hk : keyOf k = some κ) (rv : RV K ρ H d v) : RD K ρ H (Cd.dPut l k d) (putK kvs κ v) := by
  unfold Cd.dPut putK
  rw [valV_any, r.has hk]
  cases Cd.dHas l k with
  | true => exact r.upd hk rv
  | false => exact r.snoc hk rv
end
section
variable {X : Cx} {ca : String → Value} {W : WX} {a b c e : Expr} {ma mb me : Cd.EM} {pos : Pos}
theorem dct_at {ρ : List Addr} {h : Cd.Hep} {H : Hp} {n : Nat} {x : V} {l : List (Cd.Val × Cd.Val)} (S : Sim X.K ρ h H) (r : RV X.K ρ H (.ref n) x) (hl : h[n]? = some (.dct l)) : ∃ p kvs, x = .ref p ∧ ρ[n]? = some p ∧ H p = some (.dK kvs) ∧ RD X.K ρ H l kvs := by
  cases r with
  | ref q =>
    obtain ⟨kvs, e1, rd⟩ := S.obj _ _ _ hl q
    exact ⟨_, kvs, rfl, q, e1, rd⟩
theorem k_dnew : KE X ca W (.Dict [] [] pos) Cd.eDNew := by
  refine PE.wk pe_dnewK fun σ H Q ⟨ρ, h, η, S, re, p⟩ => ?_
  intro q hq
  exact p (ρ ++ [q]) _ (.ref q) (Step.lay q _ hq) (S.lay hq ⟨[], upd_same, .nil⟩) (.ref (by rw [← S.len, List.getElem?_append_right (Nat.le_refl _), Nat.sub_self]; rfl))
theorem k_didx (hu : X.A.units + 1 < cLine) (ha : KE X ca W a ma) (hb : KE X ca W b mb) (hs : NoSl b) : KE X ca W (.Subscript a b pos) (Cd.eBin Cd.oDIdx ma mb) := by
  refine PE.wk (pe_dget hu ha hb hs) fun σ H Q ⟨ρ, h, η, S, re, p⟩ => ?_
  refine ⟨ρ, h, η, S, re, postG.first p fun ρ1 H1 h1 d x st1 S1 r1 p1 => ?_⟩
  refine ⟨ρ1, h1, η, S1, re.mono st1 S, postG.first p1 fun ρ2 H2 h2 k y st2 S2 r2 p2 => ?_⟩
  obtain ⟨u, hu, kk⟩ := p2.ofO
  unfold Cd.oDIdx at hu
  split at hu
  · split at hu
    · rename_i l hl
      split at hu
      · rename_i hk
        obtain ⟨κ, eκ⟩ := keyOf_some hk
        obtain ⟨p, kvs, rfl, _, e1, rd⟩ := dct_at S2 (r1.mono st2 S1) hl
        have g := rd.get eκ
        rw [hu] at g
        obtain ⟨v, ev, rv⟩ := g
        have ky := key_rv eκ r2
        subst ky
        exact ⟨p, v, rfl, ev ▸ DGet.k e1, kk ρ2 H2 v (Step.refl _ _) S2 rv⟩
      · cases hu
    · cases hu
  · cases hu
theorem tDIn_of : ∀ σ H Q, tE X.K ca W (Cd.eBin Cd.oDIn ma mb) σ H Q → tDIn (tE X.K ca W ma) (tE X.K ca W mb) σ H Q := by
  rintro σ H Q ⟨ρ, h, η, S, re, p⟩
  refine ⟨ρ, h, η, S, re, postG.first p fun ρ1 H1 h1 k y st1 S1 r1 p1 => ?_⟩
  refine ⟨ρ1, h1, η, S1, re.mono st1 S, postG.first p1 fun ρ2 H2 h2 d x st2 S2 r2 p2 => ?_⟩
  obtain ⟨u, hu, kk⟩ := p2.ofO
  unfold Cd.oDIn at hu
  split at hu
  · split at hu
    · rename_i l hl
      split at hu
      · rename_i hk
        cases hu
        obtain ⟨κ, eκ⟩ := keyOf_some hk
        obtain ⟨p, kvs, rfl, _, e1, rd⟩ := dct_at S2 r2 hl
        have ky := key_rv eκ (r1.mono st2 S1)
        subst ky
        refine ⟨p, _, rfl, DGet.k e1, ?_⟩
        rw [rd.has eκ]
        exact kk ρ2 H2 _ (Step.refl _ _) S2 (.bl _)
      · cases hu
    · cases hu
  · cases hu
theorem tDNin_of : ∀ σ H Q, tE X.K ca W (Cd.eBin Cd.oDNin ma mb) σ H Q → tDNotIn (tE X.K ca W ma) (tE X.K ca W mb) σ H Q := by
  rintro σ H Q ⟨ρ, h, η, S, re, p⟩
  refine ⟨ρ, h, η, S, re, postG.first p fun ρ1 H1 h1 k y st1 S1 r1 p1 => ?_⟩
  refine ⟨ρ1, h1, η, S1, re.mono st1 S, postG.first p1 fun ρ2 H2 h2 d x st2 S2 r2 p2 => ?_⟩
  obtain ⟨u, hu, kk⟩ := p2.ofO
  unfold Cd.oDNin at hu
  split at hu
  · split at hu
    · rename_i l hl
      split at hu
      · rename_i hk
        cases hu
        obtain ⟨κ, eκ⟩ := keyOf_some hk
        obtain ⟨p, kvs, rfl, _, e1, rd⟩ := dct_at S2 r2 hl
        have ky := key_rv eκ (r1.mono st2 S1)
        subst ky
        refine ⟨p, _, rfl, DGet.k e1, ?_⟩
        rw [rd.has eκ]
        exact kk ρ2 H2 _ (Step.refl _ _) S2 (.bl _)
      · cases hu
    · cases hu
  · cases hu
theorem k_din (hu : X.A.units + 1 < cLine) (ha : KE X ca W a ma) (hb : KE X ca W b mb) (hm : behindInMarks .In b = false) : KE X ca W (.Compare a [.In] [b] pos) (Cd.eBin Cd.oDIn ma mb) := PE.wk (pe_cmp (pc_din hu ha hb) hm) tDIn_of
theorem k_dnin (hu : X.A.units + 1 < cLine) (ha : KE X ca W a ma) (hb : KE X ca W b mb) (hm : behindInMarks .NotIn b = false) : KE X ca W (.Compare a [.NotIn] [b] pos) (Cd.eBin Cd.oDNin ma mb) := PE.wk (pe_cmp (pc_dnotin hu ha hb) hm) tDNin_of
theorem kt_din (hu : X.A.units + 1 < cLine) (ha : KE X ca W a ma) (hb : KE X ca W b mb) (hm : behindInMarks .In b = false) : KT X ca W (.Compare a [.In] [b] pos) (Cd.tVal (Cd.eBin Cd.oDIn ma mb)) :=
  PT.wk (pt_cmp (pc_din hu ha hb) hm) fun σ H Q p => tDIn_of σ H _ (tB_of σ H Q p)
theorem kt_dnin (hu : X.A.units + 1 < cLine) (ha : KE X ca W a ma) (hb : KE X ca W b mb) (hm : behindInMarks .NotIn b = false) : KT X ca W (.Compare a [.NotIn] [b] pos) (Cd.tVal (Cd.eBin Cd.oDNin ma mb)) :=
  PT.wk (pt_cmp (pc_dnotin hu ha hb) hm) fun σ H Q p => tDNin_of σ H _ (tB_of σ H Q p)
theorem setDx_of {K : PySem.W.Frag} {ρ : List Addr} {h h' : Cd.Hep} {H : Hp} {o k v : Cd.Val} {oo kk vv : V} {Q : Hp → Prop} (S : Sim K ρ h H) (r1 : RV K ρ H o oo) (r2 : RV K ρ H k kk) (r3 : RV K ρ H v vv) (e : Cd.setDx h o k v = some h') (q : ∀ H', Step ρ H ρ H' → Sim K ρ h' H' → Q H') : rSetD oo kk vv H Q := by
  unfold Cd.setDx at e
  split at e
  · split at e
    · rename_i l hl
      split at e
      · rename_i hk
        split at e
        · rename_i hz
          cases e
          obtain ⟨κ, eκ⟩ := keyOf_some hk
          cases r1 with
          | @ref _ p hp =>
            obtain ⟨kvs, e1, rd⟩ := S.obj _ _ _ hl hp
            have ky := key_rv eκ r2
            subst ky
            have hz' : kvs.length < sizeLine := by
              rw [line_eq, rd.length] at hz
              omega
            have st : Step ρ H ρ (upd H p (.dK (putK kvs κ vv))) := Step.put hp
            exact ⟨p, _, rfl, DPut.k e1 hz', q _ st (S.put hp ⟨_, upd_same, (rd.put eκ r3).mono st S⟩)⟩
        · cases e
      · cases e
    · cases e
  · cases e
theorem ks_setDx (he : KE X ca W e me) (ho : KE X ca W a ma) (hi : KE X ca W b mb) {tpos : Pos} (hs : swapsWithSole [.Subscript a b tpos] e pos.line X.env = pure false := by rfl) (hw : swappedStores [.Subscript a b tpos] e X.env = pure none := by rfl) (h1 : (assignEach [.Subscript a b tpos] X.env).map (·.2) = [assign (.Subscript a b tpos) X.env] := by rfl) (hx : assign (.Subscript a b tpos) X.env = assign (.Subscript a b tpos) X.env := by rfl) (pg : PG X (.Subscript a b tpos) (gSub (tE X.K ca W ma) (tE X.K ca W mb) rSetD)) :
    KS X ca W (.Assign [.Subscript a b tpos] e pos) (Cd.sSetDx ma mb me) := by
  refine PS.wk (ps_asg he pg hs hw h1) fun D σ H ⟨ρ, h, η, S, re, p⟩ => ?_
  refine ⟨ρ, h, η, S, re, postS.first S re p fun ρ1 H1 h1 v vv st1 S1 r1 re1 p1 => ?_⟩
  refine ⟨ρ1, h1, η, S1, re1, postS.first S1 re1 p1 fun ρ2 H2 h2 x ox st2 S2 r2 re2 p2 => ?_⟩
  refine ⟨ρ2, h2, η, S2, re2, postS.first S2 re2 p2 fun ρ3 H3 h3 k ik st3 S3 r3 re3 p3 => ?_⟩
  cases es : Cd.setDx h3 x k v with
  | none => rw [es] at p3; exact p3.elim
  | some h4 =>
    rw [es] at p3
    exact setDx_of S3 (r2.mono st3 S2) r3 ((r1.mono st2 S1).mono st3 S2) es fun H' st S' => p3 ρ3 H' σ st S' (re3.mono st S3)
theorem pps_txt {k v : String} {j1 j2 : Nat} {p1 p2 : Pos} {ks : List (Option Expr)} {vs : List Expr} {l : List (String × String)} (h : PPs X pos ks vs (l.map fun p => (tC (.str (toS (Cd.S p.1))), tC (.str (toS (Cd.S p.2)))))) :
    PPs X pos (some (.Constant (.str (Str.ofString k)) j1 p1) :: ks) (.Constant (.str (Str.ofString v)) j2 p2 :: vs) (((k, v) :: l).map fun p => (tC (.str (toS (Cd.S p.1))), tC (.str (toS (Cd.S p.2))))) := by
  rw [List.map_cons]
  refine pps_cons ?_ ?_ h
  · rw [← toS_S]; exact pe_str
  · rw [← toS_S]; exact pe_str
theorem tPairs_txt {σ : L2.St} {H : Hp} {Q : List (V × V) → Hp → Prop} : ∀ (l : List (String × String)) (pre : List (V × V)), Q (pre ++ l.map fun p => (V.str (toS (Cd.S p.1)), V.str (toS (Cd.S p.2)))) H →
    tPairs (l.map fun p => (tC (.str (toS (Cd.S p.1))), tC (.str (toS (Cd.S p.2))))) σ H fun ps H2 => Q (pre ++ ps) H2
  | [], pre, q => q
  | p :: l, pre, q => by
    show tPairs (l.map _) σ H fun ps H3 => Q (pre ++ (V.str (toS (Cd.S p.1)), V.str (toS (Cd.S p.2))) :: ps) H3
    have := tPairs_txt (σ := σ) (H := H) (Q := Q) l (pre ++ [(V.str (toS (Cd.S p.1)), V.str (toS (Cd.S p.2)))]) (by rw [List.append_assoc]; exact q)
    simpa using this
theorem mergeK_new : ∀ (kvs acc : List (Key × V)), (acc ++ kvs).Pairwise (fun a b => a.1 ≠ b.1) → mergeK acc kvs = acc ++ kvs
  | [], acc, _ => by rw [List.append_nil]; rfl
  | p :: kvs, acc, h => by
    have e : putK acc p.1 p.2 = acc ++ [p] := by
      unfold putK
      rw [if_neg]
      intro z
      obtain ⟨q, hq, e⟩ := List.any_eq_true.mp z
      have := (List.pairwise_append.mp h).2.2 q hq p List.mem_cons_self
      exact this (of_decide_eq_true e)
    show mergeK (putK acc p.1 p.2) kvs = _
    rw [e, mergeK_new kvs (acc ++ [p]) (by rw [List.append_assoc]; exact h), List.append_assoc]
    rfl
theorem k_dtxt {l : List (String × String)} {keys : List (Option Expr)} {values : List Expr} (h : PPs X pos keys values (l.map fun p => (tC (.str (toS (Cd.S p.1))), tC (.str (toS (Cd.S p.2))))))
    (hall : keys.all (·.isSome) = true) (hl : keys.length = values.length) (h0 : keys ≠ []) (h15 : keys.length ≤ 15) (l15 : l.length ≤ 15) (hnd : l.Pairwise (fun a b => Cd.S a.1 ≠ Cd.S b.1)) : KE X ca W (.Dict keys values pos) (Cd.eDTxt l) := by
  refine PE.wk (pe_disp h hall hl h0 h15) fun σ H Q ⟨ρ, hh, η, S, re, p⟩ => ?_
  intro q hq
  refine tPairs_txt (Q := fun ps H2 => H2 q = some (.dK []) ∧ ∃ kvs : List (Key × V), ps = kvs.map (fun kv => (kV kv.1, kv.2)) ∧ kvs.length ≤ 15 ∧ Q (.ref q) (upd H2 q (.dK (mergeK [] kvs)))) l [] ?_
  refine ⟨upd_same, l.map fun p => (.inr (toS (Cd.S p.1)), .str (toS (Cd.S p.2))), by rw [List.map_map]; rfl, by rw [List.length_map]; exact l15, ?_⟩
  rw [upd_upd, mergeK_new _ [] (by
    rw [List.nil_append, List.pairwise_map]
    exact hnd.imp fun {a b} n z => n (toS_inj.mp (Sum.inr.inj z))), List.nil_append]
  have rd : ∀ l : List (String × String), RD X.K (ρ ++ [q]) (upd H q (.dK (l.map fun p => (.inr (toS (Cd.S p.1)), .str (toS (Cd.S p.2)))))) (l.map fun p => (.str (Cd.S p.1), .str (Cd.S p.2))) (l.map fun p => (.inr (toS (Cd.S p.1)), .str (toS (Cd.S p.2)))) := by
    intro l
    generalize upd H q _ = H'
    induction l with
    | nil => exact .nil
    | cons p l ih => exact .cons rfl (.str _) ih
  exact p (ρ ++ [q]) _ (.ref q) (Step.lay q _ hq) (S.lay hq ⟨_, upd_same, rd l⟩) (.ref (by rw [← S.len, List.getElem?_append_right (Nat.le_refl _), Nat.sub_self]; rfl))
theorem k_dget2 {o : Expr} {mo : Cd.EM} {apos cpos : Pos} (hu : X.A.units + 1 < cLine) (ho : KE X ca W o mo) (ha : KE X ca W a ma) (hb : KE X ca W b mb) (m : M2 X o "get" apos a b cpos) : KE X ca W (.Call (.Attribute o "get" apos) [a, b] [] cpos) (Cd.eDGet2 mo ma mb) := by
  refine PE.wk (pe_dget2 hu ho ha hb m) fun σ H Q ⟨ρ, h, η, S, re, p⟩ => ?_
  refine ⟨ρ, h, η, S, re, postG.first p fun ρ1 H1 h1 d x st1 S1 r1 p1 => ?_⟩
  split at p1
  · rename_i hd
    have key : ∃ n l, d = .ref n ∧ h1[n]? = some (.dct l) := by
      unfold Cd.isDct at hd
      split at hd
      · split at hd
        · rename_i n l hl; exact ⟨_, _, rfl, hl⟩
        · cases hd
      · cases hd
    obtain ⟨n, l, rfl, hl⟩ := key
    obtain ⟨p, kvs, rfl, hp, e1, rd⟩ := dct_at S1 r1 hl
    refine ⟨p, rfl, .inl ⟨kvs, Rd.of e1⟩, ρ1, h1, η, S1, re.mono st1 S, postG.first p1 fun ρ2 H2 h2 k y st2 S2 r2 p2 => ?_⟩
    refine ⟨ρ2, h2, η, S2, (re.mono st1 S).mono st2 S1, postG.first p2 fun ρ3 H3 h3 z w st3 S3 r3 p3 => ?_⟩
    obtain ⟨u, hu, kk⟩ := p3.ofO
    unfold Cd.oDGet2 at hu
    simp only at hu
    split at hu
    · rename_i l3 hl3
      split at hu
      · rename_i hk
        cases hu
        obtain ⟨κ, eκ⟩ := keyOf_some hk
        obtain ⟨p', kvs3, ep, _, e3, rd3⟩ := dct_at S3 ((r1.mono st2 S1).mono st3 S2) hl3
        cases ep
        have ky := key_rv eκ (r2.mono st3 S2)
        subst ky
        refine ⟨_, DGet.k e3, ?_⟩
        have g := rd3.get eκ
        cases eg : Cd.dGet l3 k with
        | some d => rw [eg] at g kk; obtain ⟨v, ev, rv⟩ := g; rw [ev]; exact kk ρ3 H3 v (Step.refl _ _) S3 rv
        | none => rw [eg] at g kk; simp only at g; rw [g]; exact kk ρ3 H3 w (Step.refl _ _) S3 r3
      · cases hu
    · cases hu
  · exact p1.elim
theorem tblGet_some {tbl : List (String × Option String)} {s : List Nat} {r : Option String} (h : Cd.tblGet tbl s = some r) : ∃ k, (k, r) ∈ tbl ∧ Cd.S k = s := by
  unfold Cd.tblGet at h
  cases e : tbl.find? fun p => Cd.S p.1 == s with
  | none => rw [e] at h; cases h
  | some p =>
    rw [e] at h
    cases h
    exact ⟨p.1, List.mem_of_find?_eq_some e, eq_of_beq (List.find?_some (p := fun p : String × Option String => Cd.S p.1 == s) e)⟩
/-- what a written dict holds -/
structure KTab (K : PySem.W.Frag) (w : World) (d : Addr) (tbl : List (String × Option String)) : Prop where
  kd : ∃ es n, KDict K w d es n
  at_ : ∀ k r, (k, r) ∈ tbl → match r with
    | some t => ∃ u, PySem.W.nsIn K d (Str.ofString k) = some (some u) ∧ RelV (.str (Str.ofString t)) u
    | none => PySem.W.nsIn K d (Str.ofString k) = some none
theorem KTab.look {K : PySem.W.Frag} {w : World} {d : Addr} {tbl : List (String × Option String)} (T : KTab K w d tbl) {s : List Nat} {t : String} (h : Cd.tblGet tbl s = some (some t)) :
    ∃ u, PySem.W.nsIn K d (toS s) = some (some u) ∧ RelV (.str (toS (Cd.S t))) u := by
  obtain ⟨k, m, rfl⟩ := tblGet_some h
  have q := T.at_ k _ m
  rw [toS_S, toS_S]
  exact q
theorem KTab.no {K : PySem.W.Frag} {w : World} {d : Addr} {tbl : List (String × Option String)} (T : KTab K w d tbl) {s : List Nat} (h : Cd.tblGet tbl s = some none) : PySem.W.nsIn K d (toS s) = some none := by
  obtain ⟨k, m, rfl⟩ := tblGet_some h
  have q := T.at_ k _ m
  rw [toS_S]
  exact q
theorem tKIn_of {d : Addr} {tbl : List (String × Option String)} (T : KTab X.K X.w d tbl) : ∀ σ H Q, tE X.K ca W (Cd.eUn (Cd.oKIn tbl) ma) σ H Q → tOp (fun x y H Q => ∃ (z : Str) (r : Option Value), x = .str z ∧ y = .ref d ∧ PySem.W.nsIn X.K d z = some r ∧ Q (.bl r.isSome) H) (tE X.K ca W ma) (tC (.ref d)) σ H Q := by
  rintro σ H Q ⟨ρ, h, η, S, re, p⟩
  refine ⟨ρ, h, η, S, re, postG.first p fun ρ1 H1 h1 x xx st1 S1 r1 p1 => ?_⟩
  obtain ⟨u, hu, kk⟩ := p1.ofO
  unfold Cd.oKIn at hu
  split at hu
  · rename_i s
    cases r1
    cases et : Cd.tblGet tbl s with
    | none => rw [et] at hu; cases hu
    | some r =>
      rw [et] at hu
      cases hu
      cases r with
      | none => exact ⟨_, none, rfl, rfl, T.no et, kk ρ1 H1 _ (Step.refl _ _) S1 (.bl _)⟩
      | some t => obtain ⟨u, e1, _⟩ := T.look et; exact ⟨_, some u, rfl, rfl, e1, kk ρ1 H1 _ (Step.refl _ _) S1 (.bl _)⟩
  · cases hu
theorem k_kin {d : Addr} {tbl : List (String × Option String)} {x : Str} {xp : Pos} (T : KTab X.K X.w d tbl) (hm : X.mg x = some (.ref d)) (ha : KE X ca W a ma) (hg : Gl X x := by rfl) (hd : (x == ("__debug__" : Str)) = false := by decide) (hb : behindInMarks .In (.Name x xp) = false := by rfl) :
    KE X ca W (.Compare a [.In] [.Name x xp] pos) (Cd.eUn (Cd.oKIn tbl) ma) := by
  obtain ⟨es, n, D⟩ := T.kd
  exact PE.wk (pe_cmpR (op_in_kd D) ha (pe_glob hg hm (v := .ref d) rfl hd) hb) (tKIn_of T)
theorem kt_kin {d : Addr} {tbl : List (String × Option String)} {x : Str} {xp : Pos} (T : KTab X.K X.w d tbl) (hm : X.mg x = some (.ref d)) (ha : KE X ca W a ma) (hg : Gl X x := by rfl) (hd : (x == ("__debug__" : Str)) = false := by decide) (hb : behindInMarks .In (.Name x xp) = false := by rfl) :
    KT X ca W (.Compare a [.In] [.Name x xp] pos) (Cd.tVal (Cd.eUn (Cd.oKIn tbl) ma)) := by
  obtain ⟨es, n, D⟩ := T.kd
  exact PT.wk (pt_cmpR (op_in_kd D) ha (pe_glob hg hm (v := .ref d) rfl hd) hb) fun σ H Q p => tKIn_of T σ H _ (tB_of σ H Q p)
theorem k_kget {d : Addr} {tbl : List (String × Option String)} {x : Str} {xp : Pos} (T : KTab X.K X.w d tbl) (hm : X.mg x = some (.ref d)) (ha : KE X ca W a ma) (hg : Gl X x := by rfl) (hd : (x == ("__debug__" : Str)) = false := by decide) (hs : PlainIx a := by exact fun _ _ => rfl) :
    KE X ca W (.Subscript (.Name x xp) a pos) (Cd.eUn (Cd.oKGet tbl) ma) := by
  refine PE.wk (pe_ix ix_kdict (pe_glob hg hm (v := .ref d) rfl hd) ha hs) fun σ H Q ⟨ρ, h, η, S, re, p⟩ => ?_
  refine ⟨ρ, h, η, S, re, postG.first p fun ρ1 H1 h1 y yy st1 S1 r1 p1 => ?_⟩
  obtain ⟨u, hu, kk⟩ := p1.ofO
  unfold Cd.oKGet at hu
  split at hu
  · rename_i s
    cases r1
    split at hu
    · rename_i t et
      cases hu
      obtain ⟨es, n, D⟩ := T.kd
      obtain ⟨u, e1, rl⟩ := T.look et
      exact ⟨d, _, .str (toS (Cd.S t)), rfl, rfl, ⟨es, n, u, D.at_, D.lit, e1, rl⟩, kk ρ1 H1 _ (Step.refl _ _) S1 (.str _)⟩
    · cases hu
  · cases hu
theorem mf_upper : MthF X.K Cd.mUpper (fun x xs H Q => ∃ a, x = .str a ∧ xs = [] ∧ a.length ≤ 5592405 ∧ Q (.str (Txt.upper a)) H) := by
  intro ρ h h' H x ds u ox xs Q S r1 r2 e k
  unfold Cd.mUpper at e
  split at e
  · rename_i s
    split at e
    · rename_i hz
      cases e
      cases r1
      cases r2
      refine ⟨_, rfl, rfl, Nat.le_trans (show s.length ≤ 1000000 from hz.2) (by decide), ?_⟩
      have eu : Txt.upper (toS s) = toS (s.map Cd.up1) := by
        rw [PyProof.Rows.upper_ascii (x := toS s) (fun c hc => of_decide_eq_true (List.all_eq_true.mp hz.1 c hc))]
        show (⟨Array.map PyProof.Rows.up1 s.toArray⟩ : Str) = ⟨(s.map Cd.up1).toArray⟩
        rw [List.map_toArray]
        rfl
      rw [eu]
      exact k ρ H _ (Step.refl _ _) S (.str _)
    · cases e
  · cases e
end
end Cb

set_option Elab.async false
set_option linter.all false
set_option maxRecDepth 100000
set_option maxHeartbeats 4000000
/-! CdB15: the bridge: replace, where a token is out. -/
namespace Cb
open PySem PySem.Spec PyProof.Rows L2 TL
/-- a test, one token out -/
def PTT (X : Cx) (e : Expr) (t : TT) : Prop :=
  ∀ (pins : List (Addr × Obj)) (s : Shared) (σ : L2.St) (H : Hp) (Q : Bool → Hp → Prop), 1 ≤ s.toks → Inv X pins σ H s → t σ H Q → wpAny (model X.prog X.w) X.A (isTrue e X.env (eval e X.env)) (TP X pins σ Q) X.xe s
def PWT (X : Cx) (e : Expr) (t : TT) : Prop :=
  ∀ (whole : Sem Value) (pins : List (Addr × Obj)) (s : Shared) (σ : L2.St) (H : Hp) (Q : Bool → Hp → Prop), 1 ≤ s.toks → Inv X pins σ H s → t σ H Q → wpAny (model X.prog X.w) X.A (isTrue e X.env whole) (TP X pins σ Q) X.xe s
abbrev KET (X : Cx) (ca : String → Value) (W : WX) (e : Expr) (m : Cd.EM) : Prop := PET X e (tE X.K ca W m)
abbrev KTT (X : Cx) (ca : String → Value) (W : WX) (e : Expr) (m : Cd.TM) : Prop := PTT X e (tT X.K ca W m)
abbrev KWT (X : Cx) (ca : String → Value) (W : WX) (e : Expr) (m : Cd.TM) : Prop := PWT X e (tT X.K ca W m)
abbrev KAT (X : Cx) (ca : String → Value) (W : WX) (es : List Expr) (m : Cd.AM) : Prop := PAT X es (tA X.K ca W m)
abbrev KST (X : Cx) (ca : String → Value) (W : WX) (st : Stmt) (m : Cd.SM) : Prop := PST X st (tS X.K ca W m)
abbrev KSsT (X : Cx) (ca : String → Value) (W : WX) (st : List Stmt) (m : Cd.SM) : Prop := PSsT X st (tS X.K ca W m)
section
variable {X : Cx} {ca : String → Value} {W : WX} {a b c e o : Expr} {ma mb me mo : Cd.EM} {ms mt : Cd.SM} {st : Stmt} {rest : List Stmt} {pos : Pos}
theorem PET.wk {t t' : TE} (h : PET X e t) (q : ∀ σ H Q, t' σ H Q → t σ H Q) : PET X e t' := fun pins s σ H Q h0 I p => h pins s σ H Q h0 I (q σ H Q p)
theorem PTT.wk {t t' : TT} (h : PTT X e t) (q : ∀ σ H Q, t' σ H Q → t σ H Q) : PTT X e t' := fun pins s σ H Q h0 I p => h pins s σ H Q h0 I (q σ H Q p)
theorem PWT.wk {t t' : TT} (h : PWT X e t) (q : ∀ σ H Q, t' σ H Q → t σ H Q) : PWT X e t' := fun wh pins s σ H Q h0 I p => h wh pins s σ H Q h0 I (q σ H Q p)
theorem PST.wk {t t' : TS} (h : PST X st t) (q : ∀ D σ H, t' D σ H → t D σ H) : PST X st t' := fun pins s σ H D h0 I p => h pins s σ H D h0 I (q D σ H p)
theorem PSsT.wk {ss : List Stmt} {t t' : TS} (h : PSsT X ss t) (q : ∀ D σ H, t' D σ H → t D σ H) : PSsT X ss t' := fun pins s σ H D h0 I p => h pins s σ H D h0 I (q D σ H p)
theorem ket_of (h : KE X ca W e me) : KET X ca W e me := fun pins s σ H Q _ I q => h.run pins s σ H Q I q
theorem kst_of (h : KS X ca W st ms) : KST X ca W st ms := PST.of h
theorem ksst_of {ss : List Stmt} (h : KSs X ca W ss ms) : KSsT X ca W ss ms := PSsT.of h
theorem ksst_cons (h1 : KST X ca W st ms) (h2 : KSsT X ca W rest mt) : KSsT X ca W (st :: rest) (Cd.sSeq ms mt) := by
  refine PSsT.wk (psst_cons h1 h2) fun D σ H ⟨ρ, h, η, S, re, p⟩ => ?_
  exact ⟨ρ, h, η, S, re, postS.seq p fun ρ1 H1 h1 η1 σ1 st1 S1 re1 p1 => ⟨ρ1, h1, η1, S1, re1, p1⟩⟩
/-- a written list whose first item is a text is stored: behind it a token is out -/
theorem pss_lstT {i j : Nat} {x : Str} {c0 : Str} {cpos lpos pos' pos : Pos} {es : List Expr} {ta : TA} {u : TS} (hN : X.N.Nodup) (hi : X.N[i]? = some x) (hx : Loc X.env.scope x) (ha : PA X es ta) (h2 : PSsT X rest u)
    (hsE : starEach (.Constant (.str c0) j cpos :: es) X.env = (false, eval (.Constant (.str c0) j cpos) X.env) :: starEach es X.env)
    (hs : swapsWith (.List (.Constant (.str c0) j cpos :: es) lpos) (some (.Name x pos')) pos.line X.env = pure false) (hf : X.fn x = true ∨ X.env.scope.names.lookup x = some .local) :
    PSs X (.Assign [.Name x pos'] (.List (.Constant (.str c0) j cpos :: es) lpos) pos :: rest) (tSeq (tAsg (tLst (tCons (tC (.str c0)) ta)) (gName i)) u) := by
  refine ⟨fun pins s σ H D I h => ?_⟩
  refine wpAny_execs_cons (wpAny_Assign_Name ?_ hs)
  refine wpAny_List_spliced ?_
  rw [hsE]
  show wpAny _ _ (spliced ((false, eval (.Constant (.str c0) j cpos) X.env) :: backTo lpos (starEach es X.env))) _ _ s
  refine Calls.spliced_cons (Calls.Constant_str ?_)
  refine wpAny_mono (PySem.wpAny_toks (ha.run lpos pins { s with toks := s.toks + 1 } σ H _ (I.tok (s.toks + 1)) h)) (fun us s1 q => ?_) fun _ _ z => z.2
  obtain ⟨hk, xs, H1, I1, r, z, q⟩ := q
  have hk : s.toks + 1 ≤ s1.toks := hk
  have hl : (V.str c0 :: xs).length = (Value.str c0 s.toks :: us).length := by rw [List.length_cons, List.length_cons, r.length]
  refine ⟨by rw [← hl]; exact z, ?_⟩
  have hf1 : H1 s1.heap.objs.size = none := I1.hok.fresh (Nat.le_refl _)
  have I2 := I1.laid (a := s1.heap.objs.size) (o := .lst (V.str c0 :: xs)) (t' := s1.toks) (h' := s1.heap.push { cls := .type "list", data := .seq (Value.str c0 s.toks :: us).toArray 0 }) (fun b u e => Heap.get?_push_of_some _ e) (Nat.le_refl _) ⟨z, (Value.str c0 s.toks :: us), 0, .cons ⟨_, rfl⟩ r, Heap.get?_push_size _ rfl⟩
  refine wpAny_mono (PySem.wpAny_toks (store_ok (v := V.ref s1.heap.objs.size) (u := Value.ref s1.heap.objs.size) (Q := fun _ s2 => Inv X pins (σ.set i (some (V.ref s1.heap.objs.size))) _ s2) I2 hN hi hx rfl (fun _ I3 => I3) hf)) (fun _ s2 q2 => ?_) fun _ _ z => z.2
  have hk2 : s1.toks ≤ s2.toks := q2.1
  exact h2 pins s2 _ _ D (by omega) q2.2 (q _ hf1)
theorem tLst_of {mas : Cd.AM} : ∀ σ H Q, tE X.K ca W (Cd.eLst mas) σ H Q → tLst (tA X.K ca W mas) σ H Q := by
  rintro σ H Q ⟨ρ, h, η, S, re, p⟩
  refine ⟨ρ, h, η, S, re, postG.first p fun ρ1 H1 h1 ds xs st1 S1 r1 p1 => ?_⟩
  split at p1
  · rename_i hl
    rw [line_eq, r1.length] at hl
    refine ⟨hl, fun q nq => ?_⟩
    have st := Step.lay (ρ := ρ1) q (.lst xs) nq
    exact p1 _ _ _ st (S1.lay nq ⟨xs, upd_same, r1.mono st S1⟩) (.ref (by rw [← S1.len, List.getElem?_append_right (Nat.le_refl _), Nat.sub_self]; rfl))
  · exact p1.elim
theorem tC_of {c0 : String} : ∀ σ H Q, tE X.K ca W (Cd.eC (.str (Cd.S c0))) σ H Q → tC (.str (Str.ofString c0)) σ H Q := by
  rintro σ H Q ⟨ρ, h, η, S, re, p⟩
  refine p ρ H _ (Step.refl _ _) S ?_
  rw [← toS_S c0]
  exact .str _
/-- the same, as a reading: the list is written out, the name stored -/
theorem kss_lstT {i : Nat} {x : Str} {c0 : String} {j : Nat} {cpos lpos pos' pos : Pos} {es : List Expr} {mas : Cd.AM} (hN : X.N.Nodup) (ha : KA X ca W es mas) (h2 : KSsT X ca W rest mt) (hi : X.N[i]? = some x := by rfl) (hx : Loc X.env.scope x := by first | exact .inl rfl | exact .inr rfl)
    (hsE : starEach (.Constant (.str (Str.ofString c0)) j cpos :: es) X.env = (false, eval (.Constant (.str (Str.ofString c0)) j cpos) X.env) :: starEach es X.env := by rfl)
    (hs : swapsWith (.List (.Constant (.str (Str.ofString c0)) j cpos :: es) lpos) (some (.Name x pos')) pos.line X.env = pure false := by rfl) (hf : X.fn x = true ∨ X.env.scope.names.lookup x = some .local := by first | exact .inl rfl | exact .inr rfl | assumption) :
    KSs X ca W (.Assign [.Name x pos'] (.List (.Constant (.str (Str.ofString c0)) j cpos :: es) lpos) pos :: rest) (Cd.sSeq (Cd.sSet i (Cd.eLst (Cd.aCons (Cd.eC (.str (Cd.S c0))) mas))) mt) := by
  refine PSs.wk (pss_lstT hN hi hx ha h2 hsE hs hf) fun D σ H ⟨ρ, h, η, S, re, p⟩ => ?_
  have s1 : tS X.K ca W (Cd.sSet i (Cd.eLst (Cd.aCons (Cd.eC (.str (Cd.S c0))) mas))) { D with nx := tS X.K ca W mt D } σ H := ⟨ρ, h, η, S, re, postS.seq p fun ρ1 H1 h1 η1 σ1 st1 S1 re1 p1 => ⟨ρ1, h1, η1, S1, re1, p1⟩⟩
  obtain ⟨ρ, h, η, S, re, p⟩ := s1
  have s2 : tE X.K ca W (Cd.eLst (Cd.aCons (Cd.eC (.str (Cd.S c0))) mas)) σ H (fun x H1 => gName i x σ H1 ({ D with nx := tS X.K ca W mt D } : Ends).nx) := ⟨ρ, h, η, S, re, postS.first S re p fun ρ1 H1 h1 v x st1 S1 r1 re1 p1 => p1 ρ1 H1 _ (Step.refl _ _) S1 (re1.set r1 i)⟩
  obtain ⟨ρ, h, η, S, re, p⟩ := tLst_of _ _ _ s2
  exact tC_of σ H (fun x H1 => tA X.K ca W mas σ H1 fun xs H2 => (x :: xs).length ≤ sizeLine ∧ ∀ q, H2 q = none → gName i (.ref q) σ (upd H2 q (.lst (x :: xs))) ({ D with nx := tS X.K ca W mt D } : Ends).nx) ⟨ρ, h, η, S, re, postG.first p fun ρ1 H1 h1 d x st1 S1 r1 p1 => ⟨ρ1, h1, η, S1, re.mono st1 S, postG.first p1 fun ρ2 H2 h2 ds xs st2 S2 r2 p2 => p2 ρ2 H2 _ (Step.refl _ _) S2 (.cons (r1.mono st2 S1) r2)⟩⟩
/-- for, one token out, its body too -/
theorem pst_forT {tg iter : Expr} {body : List Stmt} {wi : TI} {g : TG} {tb : TS} {pos : Pos} (hp : PassesOwn (model X.prog X.w) X.A X.env X.xe) (hc : X.calm = true) (hi : PI X tg iter wi) (hg : PG X tg g) (hb : PSsT X body tb)
    (hs : ∀ x, foldedSetIterable iter X.env x = pure x := by intro _; rfl) : PST X (.For tg iter body [] pos) (tFor wi g tb) := by
  intro pins s σ H D h0 I h
  refine wpAny_For (wpAny_mono (PySem.wpAny_toks (hi.run pins s σ H _ I h)) (fun v s1 h1 => ?_) fun _ _ z => z.2) hs
  obtain ⟨k1, h1⟩ := h1
  refine wpAny_mono (PySem.wpAny_toks h1) (fun itv s2 h2 => ?_) fun _ _ z => z.2
  obtain ⟨k2, h2⟩ := h2
  obtain ⟨it, fp, tn, J, H2, e, I2, T, st2, f2, W, ⟨m0, w0⟩, turn⟩ := h2
  subst e
  have stat : ∀ {H' : Hp}, (∀ b ∈ fp, H' b = none) → ∀ b ∈ fp, FpOk X pins H' b := fun hn b hb => ⟨hn b hb, (f2 b hb).2⟩
  refine codeAny_forLoop_any (fun n s' => ∃ i σ' H', 1 ≤ s'.toks ∧ Inv X pins σ' H' s' ∧ tn i s'.heap ∧ (∀ b ∈ fp, H' b = none) ∧ W i n σ' H') ?_ m0 ⟨0, σ, H2, Nat.le_trans h0 (Nat.le_trans k1 k2), I2, st2, fun b hb => (f2 b hb).1, w0⟩
  rintro n s3 ⟨i, σ3, H3, t3, I3, st3, fr3, w3⟩
  rcases turn i n σ3 H3 w3 with ⟨stop, qn⟩ | ⟨go, N, hN, step⟩
  · refine wpAny_passesOwn hp (thn (T.done X rfl rfl rfl hc i pins s3 σ3 H3 X.xe I3 (stat fr3) st3 stop) fun r s4 ⟨hr, I4⟩ => ?_)
    subst hr
    exact wpAny_execs_nil ⟨σ3, H3, I4, qn⟩
  · refine wpAny_passesOwn hp (wpAny_mono (PySem.wpAny_toks (T.item X rfl rfl rfl hc i pins s3 σ3 H3 X.xe I3 (stat fr3) st3 go)) (fun r s4 q4 => ?_) fun _ _ z => z.2)
    obtain ⟨k4, u, hr, h4⟩ := q4
    subst hr
    refine wpAny_passesOwn hp (wpAny_mono (PySem.wpAny_toks h4) (fun _ s5 q5 => ?_) fun _ _ z => z.2)
    obtain ⟨k5, x, H5, I5, r5, y5, st5, fr5⟩ := q5
    have I5' := I5.pinned (stat fr5) (T.obj _ _ st5)
    refine wpAny_passesOwn hp (wpAny_mono (PySem.wpAny_toks (hg.run _ s5 σ3 H5 x u _ I5' r5 (step x H5 y5))) (fun _ s6 q6 => ?_) fun _ _ z => z.2)
    obtain ⟨k6, σ6, H6, I6, q6⟩ := q6
    have t6 : 1 ≤ s6.toks := Nat.le_trans t3 (Nat.le_trans k4 (Nat.le_trans k5 k6))
    refine wpAny_passesOwn hp (wpAny_mono (PySem.wpAny_toks (hb _ s6 σ6 H6 _ t6 I6 q6)) (fun f s7 q7 => ?_) fun _ _ z => z.2)
    obtain ⟨k7, q7⟩ := q7
    have t7 : 1 ≤ s7.toks := Nat.le_trans t6 k7
    have again : ∀ {σ7 : L2.St} {H7 : Hp}, Inv X (pins ++ pinsAt fp s5.heap) σ7 H7 s7 → N σ7 H7 → ∃ m, m < n ∧ ∃ i σ' H', 1 ≤ s7.toks ∧ Inv X pins σ' H' s7 ∧ tn i s7.heap ∧ (∀ b ∈ fp, H' b = none) ∧ W i m σ' H' := fun {σ7 H7} I7 n7 => by
      obtain ⟨m', hm, w7⟩ := hN σ7 H7 n7
      refine ⟨m', hm, i + 1, σ7, H7, t7, I7.unpinned, T.keep _ _ _ st5 fun b hb o e => (I7.pin (b, o) (List.mem_append_right _ (List.mem_append_right _ (mem_pinsAt hb e)))).1, fun b hb => ?_, w7⟩
      obtain ⟨o, e, d⟩ := T.obj _ _ st5 b hb
      exact (I7.pin (b, o) (List.mem_append_right _ (List.mem_append_right _ (mem_pinsAt hb e)))).2.1
    cases f with
    | next => obtain ⟨σ7, H7, I7, n7⟩ := q7; exact again I7 n7
    | cont => obtain ⟨σ7, H7, I7, n7⟩ := q7; exact again I7 n7
    | brk => obtain ⟨σ7, H7, I7, q7⟩ := q7; exact ⟨σ7, H7, I7.unpinned, q7⟩
    | ret v => obtain ⟨x7, σ7, H7, I7, r7, q7⟩ := q7; exact ⟨x7, σ7, H7, I7.unpinned, r7, q7⟩
theorem kst_for {tg iter : Expr} {body : List Stmt} {mi : Cd.IM} {g : Cd.GM} (hp : PassesOwn (model X.prog X.w) X.A X.env X.xe) (hc : X.calm = true) (hi : KI X ca W tg iter mi) (hg : KG X tg g) (hb : KSsT X ca W body ms)
    (hs : ∀ x, foldedSetIterable iter X.env x = pure x := by intro _; rfl) : KST X ca W (.For tg iter body [] pos) (Cd.sFor mi g ms) := by
  refine PST.wk (pst_forT hp hc hi hg hb hs) fun D σ H ⟨ρ, h, η, S, re, p⟩ => ?_
  refine ⟨ρ, h, η, S, re, ?_⟩
  unfold Cd.sFor at p
  cases em : mi η h with
  | ok q h' =>
    rw [em] at p
    exact fun ρ' H' J st S' F => forL_post (fun _ _ _ _ x => x) (fun _ _ _ x => x) F S' (re.mono st S) (postS.mono st p)
  | exc e h' =>
    rw [em] at p
    exact fun ρ' H' cls d st S' q => p ρ' H' cls d σ st S' (re.mono st S) q
  | stuck => rw [em] at p; exact p.elim
theorem ptt_cmpR {op : CmpOp} {r : R2} {ta tb : TE} (ho : OpR X (compareOp op) r) (ha : PET X a ta) (hb : PE X b tb) (hm : behindInMarks op b = false) : PTT X (.Compare a [op] [b] pos) (tTest (tOp r ta tb)) := by
  intro pins s σ H Q h0 I h
  refine wpAny_isTrue_Compare1 (thn (ha pins s σ H _ h0 I h) fun v s1 ⟨x, H1, I1, r1, q1⟩ => thn (hb.run pins s1 σ H1 _ I1 q1) fun u s2 ⟨y, H2, I2, r2, q2⟩ =>
    thn (ho pins s2 σ H2 x y v u _ I2 r1 r2 q2) fun c s3 ⟨z, H3, I3, r3, k, e, q3⟩ => ?_) hm
  subst e
  cases r3
  exact wpAny_truthy_bool ⟨H3, I3, q3⟩
theorem ktt_cmp {op : CmpOp} {f : Cd.Hep → Cd.Val → Cd.Val → Option Cd.Val} {r : R2} (ho : OpR X (compareOp op) r) (hf : BinF X.K f r) (ha : KET X ca W a ma) (hb : KE X ca W b mb) (hm : behindInMarks op b = false) :
    KTT X ca W (.Compare a [op] [b] pos) (Cd.tVal (Cd.eBin f ma mb)) :=
  PTT.wk (ptt_cmpR ho ha hb hm) fun σ H Q p => by
    obtain ⟨ρ, h, η, S, re, p⟩ := tB_of σ H Q p
    exact tOp_of hf σ H _ ⟨ρ, h, η, S, re, p⟩
theorem pwt_and {tA tB' : TT} {rest : List Expr} (ha : PTT X a tA) (hb : PW X (.BoolOp .And (b :: rest) pos) tB') : PWT X (.BoolOp .And (a :: b :: rest) pos) (L2.tAnd tA tB') := by
  intro wh pins s σ H Q h0 I h
  refine isTrue_and (thn (ha pins s σ H _ h0 I h) fun c s1 ⟨H1, I1, q1⟩ => ?_)
  cases c with
  | true => exact hb.run wh pins s1 σ H1 Q I1 q1
  | false => exact ⟨H1, I1, q1⟩
theorem kwt_and {ta tb : Cd.TM} {rest : List Expr} (ha : KTT X ca W a ta) (hb : KW X ca W (.BoolOp .And (b :: rest) pos) tb) : KWT X ca W (.BoolOp .And (a :: b :: rest) pos) (Cd.tAnd ta tb) := by
  refine PWT.wk (pwt_and ha hb) fun σ H Q ⟨ρ, h, η, S, re, p⟩ => ?_
  refine ⟨ρ, h, η, S, re, postG.first p fun ρ1 H1 h1 k x st1 S1 r1 p1 => ?_⟩
  cases (show k = x from r1)
  cases k with
  | true => exact ⟨ρ1, h1, η, S1, re.mono st1 S, p1⟩
  | false => exact p1 ρ1 H1 false (Step.refl _ _) S1 rfl
theorem ktt_pw {m : Cd.TM} (h : KWT X ca W e m) : KTT X ca W e m := fun pins s σ H Q h0 I q => h _ pins s σ H Q h0 I q
theorem pst_ifT {sa sb : List Stmt} {tc : TT} {t u : TS} (hc : PTT X c tc) (ha : PSs X sa t) (hb : PSs X sb u) : PST X (.If c sa sb pos) (tIfS tc t u) := by
  intro pins s σ H D h0 I h
  refine wpAny_If (thn (hc pins s σ H _ h0 I h) fun d s1 ⟨H1, I1, q1⟩ => ?_)
  cases d with
  | true => exact ha.run pins s1 σ H1 D I1 q1
  | false => exact hb.run pins s1 σ H1 D I1 q1
theorem kst_if {sa sb : List Stmt} {tc : Cd.TM} (hc : KTT X ca W c tc) (ha : KSs X ca W sa ms) (hb : KSs X ca W sb mt) : KST X ca W (.If c sa sb pos) (Cd.sIf tc ms mt) := by
  refine PST.wk (pst_ifT hc ha hb) fun D σ H ⟨ρ, h, η, S, re, p⟩ => ?_
  refine ⟨ρ, h, η, S, re, postS.first S re p fun ρ1 H1 h1 k x st1 S1 r1 re1 p1 => ?_⟩
  cases (show k = x from r1)
  cases k with
  | true => exact ⟨ρ1, h1, η, S1, re1, p1⟩
  | false => exact ⟨ρ1, h1, η, S1, re1, p1⟩
/-- len(e), one token out -/
theorem pet_callB {id : String} {r : List V → Hp → VK → Prop} {t : TA} {x : Str} {p : Pos} {es : List Expr} (hc : CallR X (.builtin id) r) (hg : Gl X x) (hm : X.mg x = none) (hv : bootBuiltins x = some (.builtin id)) (ha : PAT X (e :: es) t) (hn : x ≠ "__name__" := by decide) (hdb : (x == ("__debug__" : Str)) = false := by decide)
    (he : starEach (e :: es) X.env = (false, eval e X.env) :: starEach es X.env := by rfl) (hpl : (backTo pos (starEach es X.env)).any (·.1) = false := by rfl) : PET X (.Call (.Name x p) (e :: es) [] pos) (tCB r t) := by
  intro pins s σ H Q h0 I h
  refine wpAny_Call_Name_kw (ld_blt I hg hm hv ?_ hn hdb)
  exact PyProof.Rows.callWith_builtin1 (thn (ha pos pins s σ H _ h0 I h) fun us s1 ⟨vs, H1, I1, r1, q1⟩ => hc pins s1 σ H1 vs us Q I1 r1 q1) he hpl
theorem kat_one (ha : KET X ca W a ma) (hs : starEach [a] X.env = (false, eval a X.env) :: starEach [] X.env := by rfl) : KAT X ca W [a] (Cd.aCons ma Cd.aNil) := by
  intro pos pins s σ H Q h0 I ⟨ρ, h, η, S, re, p⟩
  exact pat_cons ha pat_nil hs pos pins s σ H Q h0 I ⟨ρ, h, η, S, re, postG.first p fun ρ1 H1 h1 d x st1 S1 r1 p1 => p1 ρ1 H1 _ (Step.refl _ _) S1 (.cons r1 .nil)⟩
theorem ket_callB {id : String} {F : Cd.BFn} {r : List V → Hp → VK → Prop} {x : Str} {p : Pos} {es : List Expr} {mas : Cd.AM} (hc : CallR X (.builtin id) r) (hf : BFnF X.K F r) (hm : X.mg x = none) (ha : KAT X ca W (e :: es) mas) (hg : Gl X x := by rfl) (hv : bootBuiltins x = some (.builtin id) := by rfl) (hn : x ≠ "__name__" := by decide) (hdb : (x == ("__debug__" : Str)) = false := by decide)
    (he : starEach (e :: es) X.env = (false, eval e X.env) :: starEach es X.env := by rfl) (hpl : (backTo pos (starEach es X.env)).any (·.1) = false := by rfl) : KET X ca W (.Call (.Name x p) (e :: es) [] pos) (Cd.eCallB F mas) :=
  PET.wk (pet_callB hc hg hm hv ha hn hdb he hpl) (tCB_of hf)
theorem repl_eq (c : Nat) (hc : c < 256) (z s : List Nat) : Txt.replace (toS s) (toS [c]) (toS z) = toS (Cd.joinL z (Cd.cutAt c [] s)) := by
  have e : (Txt.split (toS s) (toS [c])).map tl = Cd.cutAt c [] s := by
    rw [split_spl _ _ (by show [c] ≠ []; simp) (kind_ok (by show (([c] : List Nat).toArray.all fun x => decide (x < 256)) = true; simp [hc]))]
    exact cutAt_spl c s []
  have e2 : Txt.split (toS s) (toS [c]) = (Cd.cutAt c [] s).map toS := map_tl_inj (by
    rw [e, List.map_map]
    exact (List.map_id' (Cd.cutAt c [] s)).symm)
  rw [show toS [c] = (⟨#[c]⟩ : Str) from rfl, PySem.StrLaws.replace_one]
  rw [show (⟨#[c]⟩ : Str) = toS [c] from rfl, e2]
  refine ext_tl ?_
  rw [tl_join, tl_toS, tl_toS, List.map_map, show (tl ∘ toS) = id from rfl, List.map_id, joinL_eq]
theorem tRepl_of {c : Nat} {z : List Nat} : ∀ σ H Q, tE X.K ca W (Cd.eRepl c z mo) σ H Q → CwR.tReplC (tE X.K ca W mo) (toS [c]) (toS z) σ H Q := by
  rintro σ H Q ⟨ρ, h, η, S, re, p⟩
  refine ⟨ρ, h, η, S, re, postG.first p fun ρ1 H1 h1 d x st1 S1 r1 p1 => ?_⟩
  cases d with
  | str s =>
    simp only at p1
    split at p1
    · rename_i hz
      cases r1
      obtain ⟨h1, h2⟩ := hz
      rw [Cd.line_is] at h2
      refine ⟨_, rfl, ?_, ?_⟩
      · show s.length + (s.length + 1) * z.length ≤ 16777216
        omega
      · rw [repl_eq c h1]
        exact p1 ρ1 H1 _ (Step.refl _ _) S1 (.str _)
    · exact p1.elim
  | _ => exact p1.elim
/-- e.replace(..), one token out -/
theorem ket_repl {y z : String} {c : Nat} {j k : Nat} {c0 c1 apos pos : Pos} (ho : KET X ca W o mo) (hc : Cd.S y = [c]) (hyz : (Str.ofString y == Str.ofString z) = false)
    (hst : starEach [.Constant (.str (Str.ofString y)) j c0, .Constant (.str (Str.ofString z)) k c1] X.env = [(false, eval (.Constant (.str (Str.ofString y)) j c0) X.env), (false, eval (.Constant (.str (Str.ofString z)) k c1) X.env)] := by rfl)
    (hbase : attributeBase o "replace" X.env (eval o X.env) = eval o X.env := by rfl) (hline : (apos.endLine == pos.line) = true := by rfl) :
    KET X ca W (.Call (.Attribute o "replace" apos) [.Constant (.str (Str.ofString y)) j c0, .Constant (.str (Str.ofString z)) k c1] [] pos) (Cd.eRepl c (Cd.S z) mo) := by
  refine PET.wk (CwR.pet_replT ho hyz hst hbase hline) fun σ H Q q => ?_
  have := tRepl_of σ H Q q
  rw [toS_S, ← hc, toS_S] at this
  exact this
end
end Cb

set_option maxRecDepth 100000
/-! CdCore2: more readings: find, lstrip. -/
namespace Cd
open Classical
noncomputable section
/-- the first place of a sign from a place on, or -1 -/
def findFrom (c k : Nat) (s : List Nat) : Int := if c ∈ s.drop k then ((k + ((s.drop k).takeWhile fun d => !(d == c)).length : Nat) : Int) else -1
def mFind3 : Val → BFn := fun x vs h => match x, vs with
  | .str s, [.str [c], .int i] => if 0 ≤ i ∧ i.toNat ≤ s.length then some (.int (findFrom c i.toNat s), h) else none
  | _, _ => none
/-- without the signs of a set at the beginning -/
def mLstrip : Val → BFn := fun x vs h => match x, vs with
  | .str s, [.str t] => if szOk s.length then some (.str (s.dropWhile fun c => t.contains c), h) else none
  | _, _ => none
end
end Cd

set_option Elab.async false
set_option linter.all false
set_option maxRecDepth 100000
set_option maxHeartbeats 4000000
/-! CdB16: the bridge: find from a place, lstrip. -/
namespace Cb
open PySem PySem.Spec PyProof.Rows L2 TL
section
variable {X : Cx} {K : PySem.W.Frag} {ca : String → Value} {W : WX}
theorem occ_stop (s sub : Str) (hi : Nat) : ∀ (l : List Nat) (st : Array Nat × Nat), 1 ≤ st.fst.size → (forIn l st (StrLaws.occBody s sub hi 1)).run.fst = st.fst
  | [], st, h => rfl
  | a :: l, st, h => by
    rw [List.forIn_cons]
    unfold StrLaws.occBody
    rw [if_neg (fun q => by have := q.1.1.1; omega)]
    exact occ_stop s sub hi l _ h
theorem occ_first (s sub : Str) (hi : Nat) : ∀ (l : List Nat) (free : Nat), (∀ i ∈ l, free ≤ i) →
    (forIn l ((#[] : Array Nat), free) (StrLaws.occBody s sub hi 1)).run.fst.toList = (l.find? fun i => decide (i + sub.length ≤ hi ∧ Builtin.Str.subAt s sub i = true)).toList
  | [], free, _ => by simp
  | a :: l, free, hf => by
    rw [List.forIn_cons]
    unfold StrLaws.occBody
    by_cases hc : a + sub.length ≤ hi ∧ Builtin.Str.subAt s sub a = true
    · have c1 : (((#[] : Array Nat), free).fst.size < 1 ∧ ((#[] : Array Nat), free).snd ≤ a) ∧ a + sub.length ≤ hi := ⟨⟨by simp, hf a List.mem_cons_self⟩, hc.1⟩
      rw [if_pos ⟨c1, hc.2⟩, List.find?_cons_of_pos (by simp [hc])]
      have := occ_stop s sub hi l (((#[] : Array Nat)).push a, a + sub.length) (by simp)
      show ((forIn l _ (StrLaws.occBody s sub hi 1)).run.fst).toList = _
      rw [this]
      rfl
    · have c2 : ¬ (((((#[] : Array Nat), free).fst.size < 1 ∧ ((#[] : Array Nat), free).snd ≤ a) ∧ a + sub.length ≤ hi) ∧ Builtin.Str.subAt s sub a = true) := fun h => hc ⟨h.1.2, h.2⟩
      rw [if_neg c2, List.find?_cons_of_neg (by simp; exact fun q => by cases e : Builtin.Str.subAt s sub a with | false => rfl | true => exact absurd ⟨q, e⟩ hc)]
      exact occ_first s sub hi l free fun i hi' => hf i (List.mem_cons_of_mem _ hi')
theorem find_range (s : List Nat) (c : Nat) : ∀ (t : List Nat) (k : Nat), s.drop k = t →
    (List.range' k (t.length + 1)).find? (fun i => decide (s[i]? = some c)) = if c ∈ t then some (k + (t.takeWhile fun d => !(d == c)).length) else none
  | [], k, e => by
    have q : s[k]? = none := List.getElem?_eq_none (List.drop_eq_nil_iff.mp e)
    simp [List.range', q]
  | a :: r, k, e => by
    have q : s[k]? = some a := by
      have : (s.drop k)[0]? = some a := by rw [e]; rfl
      rw [List.getElem?_drop] at this
      exact this
    have e2 : s.drop (k + 1) = r := by rw [← List.drop_drop, e]; rfl
    have ih := find_range s c r (k + 1) e2
    rw [List.length_cons, List.range'_succ]
    by_cases z : a = c
    · subst z
      rw [List.find?_cons_of_pos (by simp [q])]
      simp
    · rw [List.find?_cons_of_neg (by simp [q, z]), ih]
      have z2 : ¬ c = a := fun h => z h.symm
      by_cases m : c ∈ r
      · simp [m, z, z2]
        omega
      · simp [m, z2]
theorem find3_one (s : List Nat) (c : Nat) (i : Int) (h1 : 0 ≤ i) (h2 : i.toNat ≤ s.length) : Txt.find3 (toS s) (toS [c]) i = Cd.findFrom c i.toNat s := by
  unfold Txt.find3
  have ef : PySem.fromIndex (toS s).length i = i.toNat := by
    unfold PySem.fromIndex
    rw [if_neg (by omega)]
    omega
  rw [ef]
  have eo : Builtin.Str.occurrences (toS s) (toS [c]) i.toNat (toS s).length 1 = (if c ∈ s.drop i.toNat then some (i.toNat + ((s.drop i.toNat).takeWhile fun d => !(d == c)).length) else none).toList := by
    rw [StrLaws.occ_eq, occ_first _ _ _ _ _ (fun j hj => (List.mem_range'_1.mp hj).1)]
    rw [← find_range s c (s.drop i.toNat) i.toNat rfl]
    have el : (toS s).length + 1 - i.toNat = (s.drop i.toNat).length + 1 := by
      rw [List.length_drop]
      show s.length + 1 - _ = _
      omega
    rw [el]
    congr 1
    refine congrArg (fun f => List.find? f _) (funext fun j => ?_)
    exact decide_eq_decide.mpr (StrLaws.subAt_one (toS s) c j)
  rw [eo]
  unfold Cd.findFrom
  by_cases m : c ∈ s.drop i.toNat
  · rw [if_pos m, if_pos m]; rfl
  · rw [if_neg m, if_neg m]; rfl
theorem mf_find3 : MthF K Cd.mFind3 (fun x xs H Q => ∃ (a b : Str) (i : Int), x = .str a ∧ xs = [.str b, .int i] ∧ Q (.int (Txt.find3 a b i)) H) := by
  intro ρ h h' H x ds u ox xs Q S r1 r2 e k
  unfold Cd.mFind3 at e
  split at e
  · rename_i s c i
    split at e
    · rename_i hz
      cases e
      cases r1
      cases r2 with
      | cons ra rb =>
        obtain ⟨y, rfl, ry⟩ := one_rv rb
        cases ra
        cases ry
        refine ⟨_, _, _, rfl, rfl, ?_⟩
        rw [find3_one s c i hz.1 hz.2]
        exact k ρ H _ (Step.refl _ _) S (.int _)
    · cases e
  · cases e
theorem mf_lstrip : MthF K Cd.mLstrip (fun x xs H Q => ∃ a b, x = .str a ∧ xs = [.str b] ∧ a.length ≤ sizeLine ∧ Q (.str (Txt.lstripChars a b)) H) := by
  intro ρ h h' H x ds u ox xs Q S r1 r2 e k
  unfold Cd.mLstrip at e
  split at e
  · rename_i s t
    split at e
    · rename_i hz
      cases e
      cases r1
      obtain ⟨y, rfl, ry⟩ := one_rv r2
      cases ry
      have hz : s.length ≤ Cd.line := hz
      rw [Cd.line_is] at hz
      refine ⟨_, _, rfl, rfl, by rw [sizeLine_eq]; exact hz, ?_⟩
      have el : Txt.lstripChars (toS s) (toS t) = toS (s.dropWhile fun c => t.contains c) := by
        rw [Txt.lstripChars, PyProof.Rows.stripBy_eq]
        refine ext_tl ?_
        unfold PySem.stripLo PySem.stripHi
        simp only [if_true, Bool.false_eq_true, if_false]
        have : tl (Builtin.Str.strSub (toS s) (s.takeWhile fun c => t.contains c).length s.length) = s.dropWhile fun c => t.contains c := by
          rw [show tl (Builtin.Str.strSub (toS s) (s.takeWhile fun c => t.contains c).length s.length) = ((s.toArray.extract (s.takeWhile fun c => t.contains c).length s.length)).toList from rfl]
          rw [Array.toList_extract]
          simp only [List.extract_eq_take_drop]
          have hd := List.takeWhile_append_dropWhile (p := fun c => t.contains c) (l := s)
          have hd2 : s.drop (s.takeWhile fun c => t.contains c).length = s.dropWhile fun c => t.contains c := by
            conv => lhs; rw [show s.drop (s.takeWhile fun c => t.contains c).length = (s.takeWhile (fun c => t.contains c) ++ s.dropWhile fun c => t.contains c).drop (s.takeWhile fun c => t.contains c).length by rw [hd]]
            exact List.drop_left
          rw [hd2]
          refine List.take_of_length_le ?_
          have := congrArg List.length hd
          rw [List.length_append] at this
          omega
        have hc : (toS t).cps.contains = fun c => t.contains c := by
          funext c
          show t.toArray.contains c = t.contains c
          simp
        rw [hc]
        exact this
      rw [el]
      exact k ρ H _ (Step.refl _ _) S (.str _)
    · cases e
  · cases e
end
end Cb

set_option maxRecDepth 100000
/-! CdCore3: more readings: f-strings, dicts of numbers, data in a list, chains of comparisons. -/
namespace Cd
open Classical
noncomputable section
/-- {x} of an f-string -/
def eFmt (m : EM) : EM := fun η h => (m η h).bind fun x h1 => match x with
  | .str s => if szOk s.length then .ok (.str s) h1 else .stuck
  | .int i => if strOk i then .ok (.str (S (toString i))) h1 else .stuck
  | _ => .stuck
def jsL : List EM → List Nat → EM
  | [], acc => fun _ h => .ok (.str acc) h
  | m :: ms, acc => fun η h => (m η h).bind fun x h1 => match x with
    | .str y => if szOk (acc.length + y.length) then jsL ms (acc ++ y) η h1 else .stuck
    | _ => .stuck
def eJs (ms : List EM) : EM := jsL ms []
/-- a written dict of texts to numbers -/
def eDInt (l : List (String × Int)) : EM := fun _ h => .ok (.ref h.length) (h ++ [.dct (l.map fun p => (.str (S p.1), .int p.2))])
/-- x in l, not in, by data -/
def oInD (h : Hep) (x y : Val) : Option Val := match rsl h 40 x, rsl h 40 y with
  | some d, some (.lst ds) => some (.bl (ds.any fun z => z.eqv d))
  | _, _ => none
def oNinD (h : Hep) (x y : Val) : Option Val := match rsl h 40 x, rsl h 40 y with
  | some d, some (.lst ds) => some (.bl (!ds.any fun z => z.eqv d))
  | _, _ => none
/-- a f b g c -/
def eChain (f g : Hep → Val → Val → Option Val) (a b c : EM) : EM := fun η h => (a η h).bind fun x h1 => (b η h1).bind fun y h2 => (ofO (f h2 x y) h2).bind fun z h3 => match z with
  | .bl true => (c η h3).bind fun w h4 => ofO (g h4 y w) h4
  | .bl false => .ok (.bl false) h3
  | _ => .stuck
/-- +, of tuples too where the left one may be empty -/
def oAddW (_ : Hep) : Val → Val → Option Val
  | .int i, .int j => some (.int (i + j))
  | .str s, .str t => if szOk (s.length + t.length) then some (.str (s ++ t)) else none
  | .tup l, .tup m => if szOk (l.length + m.length) then some (.tup (l ++ m)) else none
  | _, _ => none
/-- a, b = x, y: the stores from the last one on -/
def sSwp (i j : Nat) (e : EM) : SM := fun η h => (e η h).thn η fun v h1 => match v with
  | .tup [x, y] => .nx ((η.set j (some y)).set i (some x)) h1
  | _ => .stuck
end
end Cd

set_option Elab.async false
set_option linter.all false
set_option maxRecDepth 100000
set_option maxHeartbeats 4000000
/-! CdB17: the bridge: f-strings, dicts of numbers, data in a list, chains of comparisons. -/
namespace Cb
open PySem PySem.Spec PyProof.Rows L2 TL
theorem room65 {k : Nat} {A : Around} (r : Room k A) : A.units + 65 < cLine := by
  have := r.un
  omega
section
variable {X : Cx} {K : PySem.W.Frag} {ca : String → Value} {W : WX} {a b c e : Expr} {ma mb mc me : Cd.EM} {pos : Pos}
theorem k_fmt (he : KE X ca W e me) : KE X ca W (.FormattedValue e (-1) none pos) (Cd.eFmt me) := by
  refine PE.wk (pe_fmt he) fun σ H Q ⟨ρ, h, η, S, re, p⟩ => ?_
  refine ⟨ρ, h, η, S, re, postG.first p fun ρ1 H1 h1 d x st1 S1 r1 p1 => ?_⟩
  cases r1 with
  | str s =>
    simp only at p1
    split at p1
    · rename_i hz
      have hz : s.length ≤ Cd.line := hz
      rw [Cd.line_is] at hz
      exact .inl ⟨_, rfl, by rw [sizeLine_eq]; exact hz, p1 ρ1 H1 _ (Step.refl _ _) S1 (.str _)⟩
    · exact p1.elim
  | int i =>
    simp only at p1
    split at p1
    · rename_i hz
      refine .inr ⟨i, rfl, hz, p1 ρ1 H1 _ (Step.refl _ _) S1 ?_⟩
      have q := RV.str (K := X.K) (ρ := ρ1) (H := H1) (Cd.S (toString i))
      rw [toS_S] at q
      exact q
    · exact p1.elim
  | _ => exact p1.elim
theorem tJs_of {ρ0 : List Addr} : ∀ (ms : List Cd.EM) (acc : List Nat) (σ : L2.St) (H : Hp) (Q : VK), tE X.K ca W (Cd.jsL ms acc) σ H Q → tJs (ms.map (tE X.K ca W)) (toS acc) σ H fun out H1 => Q (.str out) H1
  | [], acc, σ, H, Q, ⟨ρ, h, η, S, re, p⟩ => p ρ H _ (Step.refl _ _) S (.str _)
  | m :: ms, acc, σ, H, Q, ⟨ρ, h, η, S, re, p⟩ => by
    refine ⟨ρ, h, η, S, re, postG.first p fun ρ1 H1 h1 d x st1 S1 r1 p1 => ?_⟩
    cases r1 with
    | str y =>
      simp only at p1
      split at p1
      · rename_i hz
        have hz : acc.length + y.length ≤ Cd.line := hz
        rw [Cd.line_is] at hz
        refine ⟨toS y, rfl, ?_, ?_⟩
        · rw [← toS_app, sizeLine_eq]
          show (acc ++ y).length ≤ _
          rw [List.length_append]; exact hz
        · rw [← toS_app]
          exact tJs_of (ρ0 := ρ0) ms (acc ++ y) σ H1 Q ⟨ρ1, h1, η, S1, re.mono st1 S, p1⟩
      · exact p1.elim
    | _ => exact p1.elim
theorem kj_nil : PJ X [] (([] : List Cd.EM).map (tE X.K ca W)) := .nil
theorem kj_cons {es : List Expr} {ms : List Cd.EM} (h : KE X ca W e me) (r : PJ X es (ms.map (tE X.K ca W))) : PJ X (e :: es) ((me :: ms).map (tE X.K ca W)) := .cons h r
theorem k_js {v1 v2 : Expr} {rest : List Expr} {ms : List Cd.EM} (h : PJ X (v1 :: v2 :: rest) (ms.map (tE X.K ca W))) : KE X ca W (.JoinedStr (v1 :: v2 :: rest) pos) (Cd.eJs ms) :=
  PE.wk (pe_joined h) fun σ H Q q => tJs_of (ρ0 := []) ms [] σ H Q q
theorem pps_int {k : String} {i : Int} {j1 : Nat} {ks : List (Option Expr)} {vs : List Expr} {v : Expr} {p1 : Pos} {l : List (String × Int)} (hv : PE X v (tC (.int i))) (h : PPs X pos ks vs (l.map fun p => (tC (.str (toS (Cd.S p.1))), tC (.int p.2)))) :
    PPs X pos (some (.Constant (.str (Str.ofString k)) j1 p1) :: ks) (v :: vs) (((k, i) :: l).map fun p => (tC (.str (toS (Cd.S p.1))), tC (.int p.2))) := by
  rw [List.map_cons]
  refine pps_cons ?_ hv h
  rw [← toS_S]; exact pe_str
theorem tPairs_int {σ : L2.St} {H : Hp} {Q : List (V × V) → Hp → Prop} : ∀ (l : List (String × Int)) (pre : List (V × V)), Q (pre ++ l.map fun p => (V.str (toS (Cd.S p.1)), V.int p.2)) H →
    tPairs (l.map fun p => (tC (.str (toS (Cd.S p.1))), tC (.int p.2))) σ H fun ps H2 => Q (pre ++ ps) H2
  | [], pre, q => q
  | p :: l, pre, q => by
    show tPairs (l.map _) σ H fun ps H3 => Q (pre ++ (V.str (toS (Cd.S p.1)), V.int p.2) :: ps) H3
    have := tPairs_int (σ := σ) (H := H) (Q := Q) l (pre ++ [(V.str (toS (Cd.S p.1)), V.int p.2)]) (by rw [List.append_assoc]; exact q)
    simpa using this
theorem k_dint {l : List (String × Int)} {keys : List (Option Expr)} {values : List Expr} (h : PPs X pos keys values (l.map fun p => (tC (.str (toS (Cd.S p.1))), tC (.int p.2))))
    (hall : keys.all (·.isSome) = true) (hl : keys.length = values.length) (h0 : keys ≠ []) (h15 : keys.length ≤ 15) (l15 : l.length ≤ 15) (hnd : l.Pairwise (fun a b => Cd.S a.1 ≠ Cd.S b.1)) : KE X ca W (.Dict keys values pos) (Cd.eDInt l) := by
  refine PE.wk (pe_disp h hall hl h0 h15) fun σ H Q ⟨ρ, hh, η, S, re, p⟩ => ?_
  intro q hq
  refine tPairs_int (Q := fun ps H2 => H2 q = some (.dK []) ∧ ∃ kvs : List (Key × V), ps = kvs.map (fun kv => (kV kv.1, kv.2)) ∧ kvs.length ≤ 15 ∧ Q (.ref q) (upd H2 q (.dK (mergeK [] kvs)))) l [] ?_
  refine ⟨upd_same, l.map fun p => (.inr (toS (Cd.S p.1)), .int p.2), by rw [List.map_map]; rfl, by rw [List.length_map]; exact l15, ?_⟩
  rw [upd_upd, mergeK_new _ [] (by
    rw [List.nil_append, List.pairwise_map]
    exact hnd.imp fun {a b} n z => n (toS_inj.mp (Sum.inr.inj z))), List.nil_append]
  have rd : ∀ l : List (String × Int), RD X.K (ρ ++ [q]) (upd H q (.dK (l.map fun p => (.inr (toS (Cd.S p.1)), .int p.2)))) (l.map fun p => (.str (Cd.S p.1), .int p.2)) (l.map fun p => (.inr (toS (Cd.S p.1)), .int p.2)) := by
    intro l
    generalize upd H q _ = H'
    induction l with
    | nil => exact .nil
    | cons p l ih => exact .cons rfl (.int _) ih
  exact p (ρ ++ [q]) _ (.ref q) (Step.lay q _ hq) (S.lay hq ⟨_, upd_same, rd l⟩) (.ref (by rw [← S.len, List.getElem?_append_right (Nat.le_refl _), Nat.sub_self]; rfl))
theorem toPs_any (d : Cd.Dat) : ∀ ds : List Cd.Dat, ((toPs ds).any fun z => PyData.eqv z (toP d)) = ds.any fun z => z.eqv d
  | [] => rfl
  | t :: ds => by rw [toPs, List.any_cons, List.any_cons, toP_eqv, toPs_any d ds]
theorem bf_inD : BinF K Cd.oInD (rInD K) := by
  intro ρ h H d e u x y Q S r1 r2 hu k
  unfold Cd.oInD at hu
  split at hu
  · rename_i t1 ds e1 e2
    cases hu
    obtain ⟨a, b, c⟩ := rsl_dp S _ _ _ _ r1 e1
    obtain ⟨a', b', c'⟩ := rsl_dp S _ _ _ _ r2 e2
    refine ⟨_, toPs ds, a, a', shaped_of b c, shaped_of b' c', ?_⟩
    rw [toPs_any]
    exact k ρ H _ (Step.refl _ _) S (.bl _)
  · cases hu
theorem bf_ninD : BinF K Cd.oNinD (rNotInD K) := by
  intro ρ h H d e u x y Q S r1 r2 hu k
  unfold Cd.oNinD at hu
  split at hu
  · rename_i t1 ds e1 e2
    cases hu
    obtain ⟨a, b, c⟩ := rsl_dp S _ _ _ _ r1 e1
    obtain ⟨a', b', c'⟩ := rsl_dp S _ _ _ _ r2 e2
    refine ⟨_, toPs ds, a, a', shaped_of b c, shaped_of b' c', ?_⟩
    rw [toPs_any]
    exact k ρ H _ (Step.refl _ _) S (.bl _)
  · cases hu
theorem k_chain {op op' : CmpOp} {f g : Cd.Hep → Cd.Val → Cd.Val → Option Cd.Val} {r r' : R2} (ho : OpR X (compareOp op) r) (ho' : OpR X (compareOp op') r') (hf : BinF X.K f r) (hg : BinF X.K g r') (ha : KE X ca W a ma) (hb : KE X ca W b mb) (hc : KE X ca W c mc)
    (hm : lastMarks [op, op'] [b, c] = false := by with_unfolding_all rfl) : KE X ca W (.Compare a [op, op'] [b, c] pos) (Cd.eChain f g ma mb mc) := by
  refine PE.wk (pe_chain ho ho' ha hb hc hm) fun σ H Q ⟨ρ, h, η, S, re, p⟩ => ?_
  refine ⟨ρ, h, η, S, re, postG.first p fun ρ1 H1 h1 d x st1 S1 r1 p1 => ?_⟩
  refine ⟨ρ1, h1, η, S1, re.mono st1 S, postG.first p1 fun ρ2 H2 h2 e y st2 S2 r2 p2 => ?_⟩
  cases eu : f h2 d e with
  | none => rw [eu] at p2; exact p2.elim
  | some u =>
    rw [eu] at p2
    refine hf ρ2 h2 H2 d e u x y _ S2 (r1.mono st2 S1) r2 eu fun ρ3 H3 w st3 S3 r3 => ?_
    cases r3 with
    | bl k =>
      refine ⟨k, rfl, ?_⟩
      cases k with
      | false =>
        rw [if_neg (by decide)]
        exact p2 ρ3 H3 _ st3 S3 (.bl _)
      | true =>
        rw [if_pos rfl]
        have p2 : postG X.K ca W (RV X.K) ρ2 H2 σ ((mc η h2).bind fun w h4 => Cd.ofO (g h4 e w) h4) Q := p2
        have re3 := ((re.mono st1 S).mono st2 S1).mono st3 S2
        refine ⟨ρ3, h2, η, S3, re3, postG.first (postG.mono st3 p2) fun ρ4 H4 h4 v z st4 S4 r4 p4 => ?_⟩
        obtain ⟨u4, e4, k4⟩ := p4.ofO
        exact hg ρ4 h4 H4 e v u4 y z Q S4 ((r2.mono st3 S2).mono st4 S3) r4 e4 k4
    | _ => exact p2.elim

theorem ps_swp {x y : Str} {i j k : Nat} {te : TE} {p1 p2 tpos : Pos} (hc : X.calm = true) (hN : X.N.Nodup) (he : PE X e te) (hi : X.N[i]? = some x) (hj : X.N[j]? = some y) (hx : Loc X.env.scope x) (hy : Loc X.env.scope y)
    (hfx : X.fn x = true ∨ X.env.scope.names.lookup x = some .local) (hfy : X.fn y = true ∨ X.env.scope.names.lookup y = some .local)
    (hs : swapsWithSole [.Tuple [.Name x p1, .Name y p2] k tpos] e pos.line X.env = pure false) (hw : swappedStores [.Tuple [.Name x p1, .Name y p2] k tpos] e X.env = pure (some [x, y])) :
    PS X (.Assign [.Tuple [.Name x p1, .Name y p2] k tpos] e pos) (fun D σ H => te σ H fun v H1 => ∃ a vx vy, v = .ref a ∧ SqT X.K H1 a [vx, vy] ∧ D.nx ((σ.set j (some vy)).set i (some vx)) H1) := by
  refine ⟨fun pins s σ H D I h => ?_⟩
  refine Assign_Tuple_swapped (thn (he.run pins s σ H _ I h) fun u s1 ⟨v, H1, I1, r1, a, vx, vy, e1, hq, q⟩ => ?_) hs hw
  subst e1
  cases r1
  obtain ⟨its, rv, ht, hz⟩ := I1.tuple hq
  cases rv with
  | cons ra rb =>
    cases rb with
    | cons rb rc =>
      cases rc
      rename_i ux uy
      refine unpackItems_tuple (items := #[ux, uy]) (I1.ok.hd hc) ht fun h' hx2 => ?_
      have I2 : Inv X pins σ H1 { s1 with heap := h' } := I1.kept (t' := s1.toks) fun b o e => hx2 b o (Nat.ne_of_lt (Heap.lt_size e)) e
      show wpAny _ _ (assignInOrder [bindName X.env y, bindName X.env x] [uy, ux]) _ _ _
      refine assignInOrder_cons (bindName_ (store_ok I2 hN hj hy rb (fun s3 I3 => ?_) hfy))
      refine assignInOrder_cons (bindName_ (store_ok I3 hN hi hx ra (fun s4 I4 => ?_) hfx))
      exact assignInOrder_nil ⟨_, _, I4, q⟩
theorem ks_swp (i j : Nat) {x y : Str} {k : Nat} {p1 p2 tpos : Pos} (hc : X.calm = true) (hN : X.N.Nodup) (he : KE X ca W e me) (hi : X.N[i]? = some x := by rfl) (hj : X.N[j]? = some y := by rfl)
    (hx : Loc X.env.scope x := by first | exact Or.inl rfl | exact Or.inr rfl) (hy : Loc X.env.scope y := by first | exact Or.inl rfl | exact Or.inr rfl)
    (hfx : X.fn x = true ∨ X.env.scope.names.lookup x = some .local := by first | exact .inl rfl | exact .inr rfl | assumption) (hfy : X.fn y = true ∨ X.env.scope.names.lookup y = some .local := by first | exact .inl rfl | exact .inr rfl | assumption)
    (hs : swapsWithSole [.Tuple [.Name x p1, .Name y p2] k tpos] e pos.line X.env = pure false := by rfl) (hw : swappedStores [.Tuple [.Name x p1, .Name y p2] k tpos] e X.env = pure (some [x, y]) := by rfl) :
    KS X ca W (.Assign [.Tuple [.Name x p1, .Name y p2] k tpos] e pos) (Cd.sSwp i j me) := by
  refine PS.wk (ps_swp hc hN he hi hj hx hy hfx hfy hs hw) fun D σ H ⟨ρ, h, η, S, re, p⟩ => ?_
  refine ⟨ρ, h, η, S, re, postS.first S re p fun ρ1 H1 h1 v xv st1 S1 r1 re1 p1 => ?_⟩
  cases r1 with
  | tup q rs =>
    cases rs with
    | nil => exact p1.elim
    | cons ra rb =>
      cases rb with
      | nil => exact p1.elim
      | cons rb rc =>
        cases rc with
        | nil => exact ⟨_, _, _, rfl, q, p1 ρ1 H1 _ (Step.refl _ _) S1 ((re1.set rb j).set ra i)⟩
        | cons => exact p1.elim
  | _ => exact p1.elim
theorem bf_addW : BinF K Cd.oAddW (fun x y H Q => (rI0 fun i j => .int (i + j)) x y H Q ∨ (fun x y H Q => ∃ i j, x = V.str i ∧ y = V.str j ∧ i.length + j.length ≤ sizeLine ∧ Q (V.str (i ++ j)) H) x y H Q ∨ rCatA K x y H Q) := by
  intro ρ h H d e u x y Q S r1 r2 hu k
  unfold Cd.oAddW at hu
  split at hu
  · cases hu
    cases r1
    cases r2
    exact .inl ⟨_, _, rfl, rfl, k ρ H _ (Step.refl _ _) S (.int _)⟩
  · rename_i s t
    split at hu
    · rename_i hl
      cases hu
      cases r1
      cases r2
      rw [line_eq] at hl
      exact .inr (.inl ⟨_, _, rfl, rfl, hl, by rw [← toS_app]; exact k ρ H _ (Step.refl _ _) S (.str _)⟩)
    · cases hu
  · rename_i l m
    split at hu
    · rename_i hl
      cases hu
      cases r1 with
      | @tup a _ vs q1 t1 =>
        cases r2 with
        | @tup b _ ws q2 t2 =>
          rw [line_eq, t1.length, t2.length] at hl
          refine .inr (.inr ⟨a, b, vs, ws, rfl, rfl, q1, q2, hl, ?_, ?_, ?_⟩)
          · intro z
            subst z
            cases t1
            rw [List.nil_append] at k
            exact k ρ H _ (Step.refl _ _) S (.tup q2 t2)
          · intro _ z
            subst z
            cases t2
            rw [List.append_nil] at k
            exact k ρ H _ (Step.refl _ _) S (.tup q1 t1)
          · intro _ _ p np
            have st := Step.out (ρ := ρ) p (.tup (vs ++ ws)) np
            exact k ρ _ _ st (S.out np) (.tup (SqT.of upd_same) (RVs.append (t1.mono st S) (t2.mono st S)))
    · cases hu
  · cases hu
theorem op_addW : OpR X (binaryOp .Add) (fun x y H Q => (rI0 fun i j => .int (i + j)) x y H Q ∨ (fun x y H Q => ∃ i j, x = V.str i ∧ y = V.str j ∧ i.length + j.length ≤ sizeLine ∧ Q (V.str (i ++ j)) H) x y H Q ∨ rCatA X.K x y H Q) :=
  op_add.or (op_add_str.or op_catA)
end
end Cb

set_option maxRecDepth 100000
/-! CdLib: how the combinators reckon; loops by what holds of them. -/
namespace Cd
open Classical
@[simp] theorem szOk_iff {n : Nat} : szOk n ↔ n ≤ 16777216 := by
  unfold szOk
  rw [line_is]
@[simp] theorem get_0 {α : Type} (a : α) (l : List α) : (a :: l)[0]? = some a := id rfl
@[simp] theorem get_S {α : Type} (a : α) (l : List α) (i : Nat) : (a :: l)[i + 1]? = l[i]? := id rfl
@[simp] theorem eVar_eq (i : Nat) (η : Env) (h : Hep) : eVar i η h = ofO (η[i]?).join h := by
  unfold eVar
  cases e : η[i]? with
  | none => rfl
  | some o => cases o <;> rfl
@[simp] theorem eC_eq (v : Val) (η : Env) (h : Hep) : eC v η h = .ok v h := id rfl
@[simp] theorem eBin_eq (f : Hep → Val → Val → Option Val) (a b : EM) (η : Env) (h : Hep) : eBin f a b η h = (a η h).bind fun x h1 => (b η h1).bind fun y h2 => ofO (f h2 x y) h2 := id rfl
@[simp] theorem eUn_eq (f : Hep → Val → Option Val) (a : EM) (η : Env) (h : Hep) : eUn f a η h = (a η h).bind fun x h1 => ofO (f h1 x) h1 := id rfl
@[simp] theorem aNil_eq (η : Env) (h : Hep) : aNil η h = .ok [] h := id rfl
@[simp] theorem aCons_eq (a : EM) (r : AM) (η : Env) (h : Hep) : aCons a r η h = (a η h).bind fun x h1 => (r η h1).bind fun xs h2 => .ok (x :: xs) h2 := id rfl
@[simp] theorem eTup_eq (a : AM) (η : Env) (h : Hep) : eTup a η h = (a η h).bind fun xs h1 => if szOk xs.length then .ok (.tup xs) h1 else .stuck := id rfl
@[simp] theorem eLst_eq (a : AM) (η : Env) (h : Hep) : eLst a η h = (a η h).bind fun xs h1 => if szOk xs.length then .ok (.ref h1.length) (h1 ++ [.lst xs]) else .stuck := id rfl
@[simp] theorem eCall_eq (F : Fn) (a : AM) (η : Env) (h : Hep) : eCall F a η h = (a η h).bind fun xs h1 => F xs h1 := id rfl
@[simp] theorem eIf_eq (c : TM) (a b : EM) (η : Env) (h : Hep) : eIf c a b η h = (c η h).bind fun k h1 => if k then a η h1 else b η h1 := id rfl
@[simp] theorem eAnd_eq (a b : EM) (η : Env) (h : Hep) : eAnd a b η h = (a η h).bind fun x h1 => match x with | .bl true => b η h1 | .bl false => .ok (.bl false) h1 | _ => .stuck := id rfl
@[simp] theorem eOr_eq (a b : EM) (η : Env) (h : Hep) : eOr a b η h = (a η h).bind fun x h1 => match x with | .bl true => .ok (.bl true) h1 | .bl false => b η h1 | _ => .stuck := id rfl
@[simp] theorem eNot_eq (a : EM) (η : Env) (h : Hep) : eNot a η h = (a η h).bind fun x h1 => match x with | .bl k => .ok (.bl (!k)) h1 | _ => .stuck := id rfl
@[simp] theorem tVal_eq (a : EM) (η : Env) (h : Hep) : tVal a η h = (a η h).bind fun x h1 => match x with | .bl k => .ok k h1 | _ => .stuck := id rfl
@[simp] theorem tAnd_eq (a b : TM) (η : Env) (h : Hep) : tAnd a b η h = (a η h).bind fun k h1 => if k then b η h1 else .ok false h1 := id rfl
@[simp] theorem tOr_eq (a b : TM) (η : Env) (h : Hep) : tOr a b η h = (a η h).bind fun k h1 => if k then .ok true h1 else b η h1 := id rfl
@[simp] theorem tNot_eq (a : TM) (η : Env) (h : Hep) : tNot a η h = (a η h).bind fun k h1 => .ok (!k) h1 := id rfl
@[simp] theorem tTru_eq (a : EM) (η : Env) (h : Hep) : tTru a η h = (a η h).bind fun x h1 => ofO (truth h1 x) h1 := id rfl
@[simp] theorem truth_bl (h : Hep) (k : Bool) : truth h (.bl k) = some k := id rfl
@[simp] theorem truth_non (h : Hep) : truth h .non = some false := id rfl
@[simp] theorem truth_int (h : Hep) (i : Int) : truth h (.int i) = some (i != 0) := id rfl
@[simp] theorem truth_tup (h : Hep) (l : List Val) : truth h (.tup l) = some (!l.isEmpty) := id rfl
@[simp] theorem sNop_eq (η : Env) (h : Hep) : sNop η h = .nx η h := id rfl
@[simp] theorem sBrk_eq (η : Env) (h : Hep) : sBrk η h = .brk η h := id rfl
@[simp] theorem sCont_eq (η : Env) (h : Hep) : sCont η h = .cont η h := id rfl
@[simp] theorem sSeq_eq (a b : SM) (η : Env) (h : Hep) : sSeq a b η h = (a η h).bind fun η1 h1 => b η1 h1 := id rfl
@[simp] theorem sSet_eq (i : Nat) (e : EM) (η : Env) (h : Hep) : sSet i e η h = (e η h).thn η fun v h1 => .nx (η.set i (some v)) h1 := id rfl
@[simp] theorem sExpr_eq (e : EM) (η : Env) (h : Hep) : sExpr e η h = (e η h).thn η fun _ h1 => .nx η h1 := id rfl
@[simp] theorem sRet_eq (e : EM) (η : Env) (h : Hep) : sRet e η h = (e η h).thn η fun v h1 => .ret v h1 := id rfl
@[simp] theorem sRetN_eq (η : Env) (h : Hep) : sRetN η h = .ret .non h := id rfl
@[simp] theorem sIf_eq (c : TM) (a b : SM) (η : Env) (h : Hep) : sIf c a b η h = (c η h).thn η fun k h1 => if k then a η h1 else b η h1 := id rfl
@[simp] theorem sAug_eq (i : Nat) (f : Hep → Val → Val → Option Val) (e : EM) (η : Env) (h : Hep) : sAug i f e η h = (ofO (η[i]?).join h).thn η fun x h => (e η h).thn η fun y h1 => (ofO (f h1 x y) h1).thn η fun z h2 => .nx (η.set i (some z)) h2 := by
  unfold sAug
  cases e : η[i]? with
  | none => rfl
  | some o => cases o <;> rfl
@[simp] theorem sAsg_eq (g : GM) (e : EM) (η : Env) (h : Hep) : sAsg g e η h = (e η h).thn η fun v h1 => match g v η with | some η1 => .nx η1 h1 | none => .stuck := id rfl
@[simp] theorem gNam_eq (i : Nat) (v : Val) (η : Env) : gNam i v η = some (η.set i (some v)) := id rfl
@[simp] theorem gsNil_eq (η : Env) : gsNil [] η = some η := id rfl
@[simp] theorem gsCons_eq (g : GM) (r : GMs) (v : Val) (t : List Val) (η : Env) : gsCons g r (v :: t) η = (g v η).bind fun η1 => r t η1 := id rfl
@[simp] theorem gTpl_eq (gs : GMs) (l : List Val) (η : Env) : gTpl gs (.tup l) η = gs l η := id rfl
@[simp] theorem sFor_eq (it : IM) (g : GM) (b : SM) (η : Env) (h : Hep) : sFor it g b η h = (it η h).thn η fun p h1 => forL g p.2 b p.1 η h1 := id rfl
@[simp] theorem iArgs_eq (f : Hep → List Val → Option (List Val × (Hep → Bool))) (a : AM) (η : Env) (h : Hep) : iArgs f a η h = (a η h).bind fun vs h1 => ofO (f h1 vs) h1 := id rfl
@[simp] theorem iVal_eq (e : EM) (η : Env) (h : Hep) : iVal e η h = (e η h).bind fun v h1 => ofO (items h1 v) h1 := id rfl
@[simp] theorem items_tup (h : Hep) (l : List Val) : items h (.tup l) = some (l, fun _ => true) := id rfl
@[simp] theorem items_fl (h : Hep) (l : List Val) : items h (.fl l) = some (l, fun _ => true) := id rfl
@[simp] theorem items_str (h : Hep) (s : List Nat) : items h (.str s) = some (s.map fun c => .str [c], fun _ => true) := id rfl
@[simp] theorem eCallB_eq (F : BFn) (a : AM) (η : Env) (h : Hep) : eCallB F a η h = (a η h).bind fun xs h1 => match F xs h1 with | some (v, h2) => .ok v h2 | none => .stuck := id rfl
/-! operators -/
@[simp] theorem oAdd_int (h : Hep) (i j : Int) : oAdd h (.int i) (.int j) = some (.int (i + j)) := id rfl
@[simp] theorem oSub_int (h : Hep) (i j : Int) : oSub h (.int i) (.int j) = some (.int (i - j)) := id rfl
theorem oMul_int {h : Hep} {i j : Int} (m : mulOk i j) : oMul h (.int i) (.int j) = some (.int (i * j)) := by show (if _ then _ else _) = _; rw [if_pos m]
theorem oDiv_int {h : Hep} {i j : Int} (m : divOk j) : oDiv h (.int i) (.int j) = some (.int (i / j)) := by show (if _ then _ else _) = _; rw [if_pos m]
theorem oMod_int {h : Hep} {i j : Int} (m : 0 < j) : oMod h (.int i) (.int j) = some (.int (i % j)) := by show (if mdOk j then _ else _) = _; rw [if_pos (show mdOk j from m)]
theorem oPow_int {h : Hep} {i j : Int} (m : powOk i j) : oPow h (.int i) (.int j) = some (.int (i ^ j.toNat)) := by show (if _ then _ else _) = _; rw [if_pos m]
@[simp] theorem oNeg_int (h : Hep) (i : Int) : oNeg h (.int i) = some (.int (-i)) := id rfl
@[simp] theorem oLt_int (h : Hep) (i j : Int) : oLt h (.int i) (.int j) = some (.bl (decide (i < j))) := id rfl
@[simp] theorem oLe_int (h : Hep) (i j : Int) : oLe h (.int i) (.int j) = some (.bl (decide (i ≤ j))) := id rfl
@[simp] theorem oGt_int (h : Hep) (i j : Int) : oGt h (.int i) (.int j) = some (.bl (decide (j < i))) := id rfl
@[simp] theorem oGe_int (h : Hep) (i j : Int) : oGe h (.int i) (.int j) = some (.bl (decide (j ≤ i))) := id rfl
@[simp] theorem oEq_int (h : Hep) (i j : Int) : oEq h (.int i) (.int j) = some (.bl (i == j)) := id rfl
@[simp] theorem oEq_str (h : Hep) (i j : List Nat) : oEq h (.str i) (.str j) = some (.bl (i == j)) := id rfl
@[simp] theorem oEq_bl (h : Hep) (i j : Bool) : oEq h (.bl i) (.bl j) = some (.bl (i == j)) := id rfl
@[simp] theorem oNe_int (h : Hep) (i j : Int) : oNe h (.int i) (.int j) = some (.bl (!(i == j))) := id rfl
@[simp] theorem oNe_str (h : Hep) (i j : List Nat) : oNe h (.str i) (.str j) = some (.bl (!(i == j))) := id rfl
@[simp] theorem oNe_bl (h : Hep) (i j : Bool) : oNe h (.bl i) (.bl j) = some (.bl (!(i == j))) := id rfl
theorem oEq_of {h : Hep} {a b : Val} {k : Bool} (e : vEq h a b = some k) : oEq h a b = some (.bl k) := by unfold oEq; rw [e]; rfl
theorem oNe_of {h : Hep} {a b : Val} {k : Bool} (e : vEq h a b = some k) : oNe h a b = some (.bl (!k)) := by unfold oNe; rw [e]; rfl
@[simp] theorem oIsN_eq (h : Hep) (a : Val) : oIsN h a .non = some (.bl (isNon a)) := id rfl
@[simp] theorem oNotN_eq (h : Hep) (a : Val) : oNotN h a .non = some (.bl (!isNon a)) := id rfl
@[simp] theorem oIdx_tup (h : Hep) (l : List Val) (i : Int) : oIdx h (.tup l) (.int i) = atI l i := id rfl
@[simp] theorem oIdx_fl (h : Hep) (l : List Val) (i : Int) : oIdx h (.fl l) (.int i) = atI l i := id rfl
theorem oIdx_ref {h : Hep} {n : Nat} {l : List Val} {i : Int} (e : h[n]? = some (.lst l)) : oIdx h (.ref n) (.int i) = atI l i := by
  show (match h[n]? with | some (.lst l) => atI l i | _ => none) = _
  rw [e]
@[simp] theorem get_new {α : Type} (h : List α) (x : α) : (h ++ [x])[h.length]? = some x := by
  rw [List.getElem?_append_right (Nat.le_refl _), Nat.sub_self]; rfl
@[simp] theorem oIdx_new (h : Hep) (l : List Val) (i : Int) : oIdx (h ++ [.lst l]) (.ref h.length) (.int i) = atI l i := oIdx_ref (get_new _ _)
theorem atI_nat {α : Type} {xs : List α} {j : Nat} (h : j < xs.length) : atI xs (j : Int) = xs[j]? := by
  unfold atI ixN
  rw [if_pos (by omega), if_pos (by omega)]
  simp
theorem atI_of {α : Type} {xs : List α} {i : Int} {v : α} (h0 : 0 ≤ i) (h : xs[i.toNat]? = some v) : atI xs i = some v := by
  have hl : i.toNat < xs.length := (List.getElem?_eq_some_iff.mp h).1
  unfold atI ixN
  rw [if_pos h0, if_pos (by omega)]
  exact h
@[simp] theorem atI_zero {α : Type} (x : α) (xs : List α) : atI (x :: xs) 0 = some x := atI_of (by decide) rfl
@[simp] theorem atI_one {α : Type} (x y : α) (xs : List α) : atI (x :: y :: xs) 1 = some y := atI_of (by decide) rfl
@[simp] theorem atI_two {α : Type} (x y z : α) (xs : List α) : atI (x :: y :: z :: xs) 2 = some z := atI_of (by decide) rfl
@[simp] theorem atI_three {α : Type} (x y z u : α) (xs : List α) : atI (x :: y :: z :: u :: xs) 3 = some u := atI_of (by decide) rfl
@[simp] theorem atI_four {α : Type} (x y z u w : α) (xs : List α) : atI (x :: y :: z :: u :: w :: xs) 4 = some w := atI_of (by decide) rfl
/-! built-ins -/
@[simp] theorem bLen_tup (l : List Val) (h : Hep) : bLen [.tup l] h = some (.int l.length, h) := id rfl
@[simp] theorem bLen_fl (l : List Val) (h : Hep) : bLen [.fl l] h = some (.int l.length, h) := id rfl
theorem bLen_str {s : List Nat} {h : Hep} (l : s.length ≤ 16777216) : bLen [.str s] h = some (.int s.length, h) := by show (if szOk s.length then _ else _) = _; rw [if_pos (szOk_iff.mpr l)]
theorem bLen_ref {h : Hep} {n : Nat} {l : List Val} (e : h[n]? = some (.lst l)) : bLen [.ref n] h = some (.int l.length, h) := by
  show (match h[n]? with | some (.lst l) => some (Val.int l.length, h) | _ => none) = _
  rw [e]
@[simp] theorem bAbs_int (i : Int) (h : Hep) : bAbs [.int i] h = some (.int (if i < 0 then -i else i), h) := id rfl
@[simp] theorem bMax2_int (i j : Int) (h : Hep) : bMax2 [.int i, .int j] h = some (.int (if j > i then j else i), h) := id rfl
@[simp] theorem bMin2_int (i j : Int) (h : Hep) : bMin2 [.int i, .int j] h = some (.int (if j < i then j else i), h) := id rfl
@[simp] theorem bInt_int (i : Int) (h : Hep) : bInt [.int i] h = some (.int i, h) := id rfl
@[simp] theorem bInt_bl (k : Bool) (h : Hep) : bInt [.bl k] h = some (.int (if k then 1 else 0), h) := id rfl
@[simp] theorem typ_int (h : Hep) (i : Int) : typ h (.int i) = some "int" := id rfl
@[simp] theorem typ_bl (h : Hep) (i : Bool) : typ h (.bl i) = some "bool" := id rfl
@[simp] theorem typ_str (h : Hep) (i : List Nat) : typ h (.str i) = some "str" := id rfl
@[simp] theorem typ_tup (h : Hep) (i : List Val) : typ h (.tup i) = some "tuple" := id rfl
@[simp] theorem typ_fl (h : Hep) (i : List Val) : typ h (.fl i) = some "list" := id rfl
@[simp] theorem typ_non (h : Hep) : typ h .non = some "NoneType" := id rfl
@[simp] theorem oIsi_eq (n : String) (h : Hep) (v : Val) : oIsi n h v = (typ h v).map fun t => .bl (isT t n) := id rfl
theorem mulOk_l {i j : Int} (h1 : -(2 ^ 64) < i) (h2 : i < 2 ^ 64) : mulOk i j := .inl ⟨h1, h2⟩
theorem mulOk_r {i j : Int} (h1 : -(2 ^ 64) < j) (h2 : j < 2 ^ 64) : mulOk i j := .inr (.inl ⟨h1, h2⟩)
theorem log2_lt {n k : Nat} (hk : 0 < k) (h : n < 2 ^ k) : n.log2 < k := by
  by_cases e : n = 0
  · subst e; exact hk
  · exact (Nat.log2_lt e).mpr h
theorem mulOk_b {i j : Int} {a b : Nat} (ha : i.natAbs < 2 ^ a) (hb : j.natAbs < 2 ^ b) (h0 : 0 < a) (h1 : 0 < b) (h : a + b ≤ 1000000) : mulOk i j := by
  have h2 := log2_lt h0 ha
  have h3 := log2_lt h1 hb
  exact .inr (.inr (by omega))
theorem divOk_b {j : Int} {b : Nat} (h0 : 0 < j) (hb : j.natAbs < 2 ^ b) (h1 : 0 < b) (h : b ≤ 9000) : divOk j := by
  have h3 := log2_lt h1 hb
  exact ⟨h0, by omega⟩
@[simp] theorem oMul_l {h : Hep} {i j : Int} (h1 : -(2 ^ 64) < i) (h2 : i < 2 ^ 64) : oMul h (.int i) (.int j) = some (.int (i * j)) := oMul_int (mulOk_l h1 h2)
@[simp] theorem oMul_r {h : Hep} {i j : Int} (h1 : -(2 ^ 64) < j) (h2 : j < 2 ^ 64) : oMul h (.int i) (.int j) = some (.int (i * j)) := oMul_int (mulOk_r h1 h2)
@[simp] theorem oDiv_s {h : Hep} {i j : Int} (h1 : 0 < j) (h2 : j < 2 ^ 64) : oDiv h (.int i) (.int j) = some (.int (i / j)) := oDiv_int (divOk_b (b := 64) h1 (by omega) (by decide) (by decide))
@[simp] theorem oMod_s {h : Hep} {i j : Int} (h1 : 0 < j) : oMod h (.int i) (.int j) = some (.int (i % j)) := oMod_int h1
@[simp] theorem oPow_s {h : Hep} {i j : Int} (h0 : 0 ≤ j) (h1 : j ≤ 1000000) (h2 : -1000 < i) (h3 : i < 1000) : oPow h (.int i) (.int j) = some (.int (i ^ j.toNat)) := oPow_int ⟨h0, h1, by omega⟩
@[simp] theorem fRng1_s {h : Hep} {j : Int} (h1 : -(2 ^ 62) ≤ j) (h2 : j < 2 ^ 62) : fRng1 h [.int j] = some (rng 0 j.toNat, fun _ => true) := by
  show (if i62 j then _ else _) = _
  rw [if_pos ⟨h1, h2⟩]
@[simp] theorem forL_nil (g : GM) (chk : Hep → Bool) (b : SM) (η : Env) (h : Hep) : forL g chk b [] η h = if chk h then .nx η h else .stuck := id rfl
@[simp] theorem forL_cons (g : GM) (chk : Hep → Bool) (b : SM) (x : Val) (xs : List Val) (η : Env) (h : Hep) : forL g chk b (x :: xs) η h = if chk h then
      match g x η with
      | some η1 => match b η1 h with
        | .nx η' h' => forL g chk b xs η' h'
        | .cont η' h' => forL g chk b xs η' h'
        | .brk η' h' => .nx η' h'
        | r => r
      | none => .stuck
    else .stuck := rfl
/-- what is wanted behind a turn -/
def SR.turn (P : Env → Hep → Prop) (Q : SR → Prop) : SR → Prop
  | .nx η h => P η h
  | .cont η h => P η h
  | .brk η h => Q (.nx η h)
  | .ret v h => Q (.ret v h)
  | .exc e η h => Q (.exc e η h)
  | .stuck => Q .stuck
@[simp] theorem SR.turn_nx (P : Env → Hep → Prop) (Q : SR → Prop) (η : Env) (h : Hep) : (SR.nx η h).turn P Q = P η h := id rfl
@[simp] theorem SR.turn_cont (P : Env → Hep → Prop) (Q : SR → Prop) (η : Env) (h : Hep) : (SR.cont η h).turn P Q = P η h := id rfl
@[simp] theorem SR.turn_brk (P : Env → Hep → Prop) (Q : SR → Prop) (η : Env) (h : Hep) : (SR.brk η h).turn P Q = Q (.nx η h) := id rfl
@[simp] theorem SR.turn_ret (P : Env → Hep → Prop) (Q : SR → Prop) (v : Val) (h : Hep) : (SR.ret v h).turn P Q = Q (.ret v h) := id rfl
@[simp] theorem SR.turn_exc (P : Env → Hep → Prop) (Q : SR → Prop) (e : Exc) (η : Env) (h : Hep) : (SR.exc e η h).turn P Q = Q (.exc e η h) := id rfl
/-- what a for comes to: P holds ahead of each turn -/
theorem forL_gen {g : GM} {chk : Hep → Bool} {b : SM} (Q : SR → Prop) : ∀ (xs : List Val) (P : Nat → Env → Hep → Prop) (η : Env) (h : Hep), P 0 η h →
    (∀ i x η h, xs[i]? = some x → P i η h → chk h = true ∧ ∃ η1, g x η = some η1 ∧ (b η1 h).turn (P (i + 1)) Q) →
    (∀ η h, P xs.length η h → chk h = true ∧ Q (.nx η h)) → Q (forL g chk b xs η h)
  | [], P, η, h, h0, step, fin => by
    obtain ⟨c, q⟩ := fin η h h0
    rw [forL, if_pos c]; exact q
  | x :: xs, P, η, h, h0, step, fin => by
    obtain ⟨c, η1, e1, q⟩ := step 0 x η h rfl h0
    rw [forL, if_pos c, e1]
    simp only
    have go : ∀ η' h', P 1 η' h' → Q (forL g chk b xs η' h') := fun η' h' p =>
      forL_gen Q xs (fun i => P (i + 1)) η' h' p (fun i x η h e p => step (i + 1) x η h e p) fun η h p => fin η h p
    cases eb : b η1 h with
    | nx η' h' => rw [eb] at q; exact go η' h' q
    | cont η' h' => rw [eb] at q; exact go η' h' q
    | brk η' h' => rw [eb] at q; exact q
    | ret v h' => rw [eb] at q; exact q
    | exc e η' h' => rw [eb] at q; exact q
    | stuck => rw [eb] at q; exact q
theorem rng_get {lo : Int} {n i : Nat} {x : Val} (e : (rng lo n)[i]? = some x) : i < n ∧ x = .int (lo + i) := by
  have hi : i < n := by
    have := (List.getElem?_eq_some_iff.mp e).1
    simpa [rng] using this
  unfold rng at e
  rw [List.getElem?_map, List.getElem?_range hi] at e
  exact ⟨hi, (Option.some.inj e).symm⟩
@[simp] theorem rng_length (lo : Int) (n : Nat) : (rng lo n).length = n := by simp [rng]
theorem fRng1_of {h : Hep} {j : Int} (h1 : -(2 ^ 62) ≤ j) (h2 : j < 2 ^ 62) : fRng1 h [.int j] = some (rng 0 j.toNat, fun _ => true) := by
  show (if i62 j then _ else _) = _
  rw [if_pos ⟨h1, h2⟩]
theorem fRng2_of {h : Hep} {i j : Int} (h1 : -(2 ^ 62) ≤ i) (h2 : i < 2 ^ 62) (h3 : -(2 ^ 62) ≤ j) (h4 : j < 2 ^ 62) : fRng2 h [.int i, .int j] = some (rng i (j - i).toNat, fun _ => true) := by
  show (if i62 i ∧ i62 j then _ else _) = _
  rw [if_pos ⟨⟨h1, h2⟩, h3, h4⟩]
/-- a body's end as the def's -/
def SR.res : SR → Res Val
  | .nx _ h' => .ok .non h'
  | .ret v h' => .ok v h'
  | .exc e _ h' => .exc e h'
  | _ => .stuck
@[simp] theorem SR.res_nx (η : Env) (h : Hep) : (SR.nx η h).res = .ok .non h := id rfl
@[simp] theorem SR.res_ret (v : Val) (h : Hep) : (SR.ret v h).res = .ok v h := id rfl
@[simp] theorem SR.res_exc (e : Exc) (η : Env) (h : Hep) : (SR.exc e η h).res = .exc e h := id rfl
theorem fn_eq {n N : Nat} {b : SM} {vs : List Val} {h : Hep} (e : vs.length = n) : fn n N b vs h = (b (vs.map some ++ List.replicate (N - n) none) h).res := by
  unfold fn
  rw [if_pos e]
  rfl
@[simp] theorem fn_1 (N : Nat) (b : SM) (v : Val) (h : Hep) : fn 1 N b [v] h = (b (some v :: List.replicate (N - 1) none) h).res := id rfl
@[simp] theorem fn_2 (N : Nat) (b : SM) (v1 v2 : Val) (h : Hep) : fn 2 N b [v1, v2] h = (b (some v1 :: some v2 :: List.replicate (N - 2) none) h).res := id rfl
@[simp] theorem fn_3 (N : Nat) (b : SM) (v1 v2 v3 : Val) (h : Hep) : fn 3 N b [v1, v2, v3] h = (b (some v1 :: some v2 :: some v3 :: List.replicate (N - 3) none) h).res := id rfl
@[simp] theorem fn_4 (N : Nat) (b : SM) (v1 v2 v3 v4 : Val) (h : Hep) : fn 4 N b [v1, v2, v3, v4] h = (b (some v1 :: some v2 :: some v3 :: some v4 :: List.replicate (N - 4) none) h).res := id rfl
end Cd

set_option maxRecDepth 100000
namespace Mir
open Cd
def c_FIGURES : Cd.Val := (.str (Cd.S "0123456789"))
def c_INSERTED : Cd.Val := (.str (Cd.S ",b0/"))
def c_MARKS : Cd.Val := (.str (Cd.S "z*9,b0/."))
def c_MOST_DIGITS : Cd.Val := (.int 18)
def c_MOST_TEXT : Cd.Val := (.int 80)
def c_SIGNS : Cd.Val := (.tup [(.str (Cd.S "")), (.str (Cd.S "-")), (.str (Cd.S "+")), (.str (Cd.S ".-")), (.str (Cd.S ".+")), (.str (Cd.S "cr")), (.str (Cd.S "db"))])
noncomputable def B_v_law_cell : Cd.SM := (Cd.sSeq (Cd.sIf (Cd.tVal (Cd.eBin Cd.oLt (Cd.eVar 1) (Cd.eCallB Cd.bLen (Cd.aCons (Cd.eVar 0) Cd.aNil)))) (Cd.sRet (Cd.eCallB Cd.bInt (Cd.aCons (Cd.eBin Cd.oIdx (Cd.eVar 0) (Cd.eVar 1)) Cd.aNil))) Cd.sNop) (Cd.sRet (Cd.eC (.int 0))))
noncomputable def M_v_law_cell : Cd.Fn := Cd.fn 2 2 B_v_law_cell
noncomputable def B_digits_in : Cd.SM := (Cd.sSeq (Cd.sIf (Cd.tVal (Cd.eBin Cd.oEq (Cd.eBin Cd.oIdx (Cd.eVar 0) (Cd.eC (.int 0))) (Cd.eC (.str (Cd.S "text"))))) (Cd.sRaise "BadPicture") Cd.sNop) (Cd.sRet (Cd.eTup (Cd.aCons (Cd.eBin Cd.oIdx (Cd.eVar 0) (Cd.eC (.int 2))) (Cd.aCons (Cd.eBin Cd.oIdx (Cd.eVar 0) (Cd.eC (.int 3))) Cd.aNil)))))
noncomputable def M_digits_in : Cd.Fn := Cd.fn 1 1 B_digits_in
noncomputable def B_v_law_digits : Cd.SM := (Cd.sTry [("BadPicture", true)] 1 (Cd.sRet (Cd.eCall M_digits_in (Cd.aCons (Cd.eVar 0) Cd.aNil))) (fun x_ a_ => (Cd.sRet (Cd.eIsE [("BadPicture", true)] x_ a_ (Cd.eVar 1)))))
noncomputable def M_v_law_digits : Cd.Fn := Cd.fn 1 2 B_v_law_digits
noncomputable def B_v_law_picture_text : Cd.SM := (Cd.sSeq (Cd.sIf (Cd.tVal (Cd.eBin Cd.oEq (Cd.eBin Cd.oIdx (Cd.eVar 0) (Cd.eC (.int 0))) (Cd.eC (.str (Cd.S "text"))))) (Cd.sRet (Cd.eBin Cd.oAdd (Cd.eBin Cd.oAdd (Cd.eC (.str (Cd.S "x("))) (Cd.eCallB Cd.bStr (Cd.aCons (Cd.eBin Cd.oIdx (Cd.eVar 0) (Cd.eC (.int 1))) Cd.aNil))) (Cd.eC (.str (Cd.S ")"))))) Cd.sNop) (Cd.sSeq (Cd.sIf (Cd.tVal (Cd.eBin Cd.oEq (Cd.eBin Cd.oIdx (Cd.eVar 0) (Cd.eC (.int 0))) (Cd.eC (.str (Cd.S "number"))))) (Cd.sSeq (Cd.sSet 1 (Cd.eIf (Cd.tTru (Cd.eBin Cd.oIdx (Cd.eVar 0) (Cd.eC (.int 1)))) (Cd.eC (.str (Cd.S "s"))) (Cd.eC (.str (Cd.S ""))))) (Cd.sSeq (Cd.sIf (Cd.tVal (Cd.eBin Cd.oGt (Cd.eBin Cd.oIdx (Cd.eVar 0) (Cd.eC (.int 2))) (Cd.eC (.int 0)))) (Cd.sSet 1 (Cd.eBin Cd.oAdd (Cd.eBin Cd.oAdd (Cd.eBin Cd.oAdd (Cd.eVar 1) (Cd.eC (.str (Cd.S "9(")))) (Cd.eCallB Cd.bStr (Cd.aCons (Cd.eBin Cd.oIdx (Cd.eVar 0) (Cd.eC (.int 2))) Cd.aNil))) (Cd.eC (.str (Cd.S ")"))))) Cd.sNop) (Cd.sRet (Cd.eIf (Cd.tVal (Cd.eBin Cd.oGt (Cd.eBin Cd.oIdx (Cd.eVar 0) (Cd.eC (.int 3))) (Cd.eC (.int 0)))) (Cd.eBin Cd.oAdd (Cd.eBin Cd.oAdd (Cd.eBin Cd.oAdd (Cd.eVar 1) (Cd.eC (.str (Cd.S "v9(")))) (Cd.eCallB Cd.bStr (Cd.aCons (Cd.eBin Cd.oIdx (Cd.eVar 0) (Cd.eC (.int 3))) Cd.aNil))) (Cd.eC (.str (Cd.S ")")))) (Cd.eVar 1))))) Cd.sNop) (Cd.sSeq (Cd.sIf (Cd.tVal (Cd.eBin Cd.oIn (Cd.eBin Cd.oIdx (Cd.eVar 0) (Cd.eC (.int 4))) (Cd.eLst (Cd.aCons (Cd.eC (.str (Cd.S "-"))) (Cd.aCons (Cd.eC (.str (Cd.S "+"))) Cd.aNil))))) (Cd.sRet (Cd.eBin Cd.oAdd (Cd.eBin Cd.oIdx (Cd.eVar 0) (Cd.eC (.int 4))) (Cd.eBin Cd.oIdx (Cd.eVar 0) (Cd.eC (.int 1))))) Cd.sNop) (Cd.sRet (Cd.eBin Cd.oAdd (Cd.eBin Cd.oIdx (Cd.eVar 0) (Cd.eC (.int 1))) (Cd.eIf (Cd.tVal (Cd.eBin Cd.oEq (Cd.eSl (Cd.eBin Cd.oIdx (Cd.eVar 0) (Cd.eC (.int 4))) Cd.pNo (Cd.pSome (Cd.eC (.int 1)))) (Cd.eC (.str (Cd.S "."))))) (Cd.eSl (Cd.eBin Cd.oIdx (Cd.eVar 0) (Cd.eC (.int 4))) (Cd.pSome (Cd.eC (.int 1))) Cd.pNo) (Cd.eBin Cd.oIdx (Cd.eVar 0) (Cd.eC (.int 4)))))))))
noncomputable def M_v_law_picture_text : Cd.Fn := Cd.fn 1 2 B_v_law_picture_text
noncomputable def L_only_1 : Cd.SM := (Cd.sIf (Cd.tVal (Cd.eBin Cd.oNin (Cd.eVar 2) (Cd.eVar 1))) (Cd.sRet (Cd.eC (.bl false))) Cd.sNop)
noncomputable def B_only : Cd.SM := (Cd.sSeq (Cd.sFor (Cd.iVal (Cd.eVar 0)) (Cd.gNam 2) L_only_1) (Cd.sRet (Cd.eC (.bl true))))
noncomputable def M_only : Cd.Fn := Cd.fn 2 3 B_only
noncomputable def T_v_is_body_1 : Cd.SM := (Cd.sSeq (Cd.sSet 1 (Cd.eMth "str" Cd.mSplit (Cd.eVar 0) (Cd.aCons (Cd.eC (.str (Cd.S "."))) Cd.aNil))) (Cd.sSeq (Cd.sIf (Cd.tOr (Cd.tVal (Cd.eBin Cd.oGt (Cd.eCallB Cd.bLen (Cd.aCons (Cd.eVar 1) Cd.aNil)) (Cd.eC (.int 2)))) (Cd.tAnd (Cd.tVal (Cd.eBin Cd.oEq (Cd.eCallB Cd.bLen (Cd.aCons (Cd.eVar 1) Cd.aNil)) (Cd.eC (.int 2)))) (Cd.tOr (Cd.tVal (Cd.eBin Cd.oEq (Cd.eBin Cd.oIdx (Cd.eVar 1) (Cd.eC (.int 1))) (Cd.eC (.str (Cd.S ""))))) (Cd.tNot (Cd.tTru (Cd.eCall M_only (Cd.aCons (Cd.eBin Cd.oIdx (Cd.eVar 1) (Cd.eC (.int 1))) (Cd.aCons (Cd.eC (.str (Cd.S "9"))) Cd.aNil)))))))) (Cd.sRet (Cd.eC (.bl false))) Cd.sNop) (Cd.sSeq (Cd.sSet 2 (Cd.eMth "str" Cd.mJoin (Cd.eC (.str (Cd.S ""))) (Cd.aCons (Cd.eComp [3] (Cd.iVal (Cd.eBin Cd.oIdx (Cd.eVar 1) (Cd.eC (.int 0)))) (Cd.gNam 3) (Cd.tVal (Cd.eBin Cd.oNin (Cd.eVar 3) (Cd.eC c_INSERTED))) (Cd.eVar 3)) Cd.aNil))) (Cd.sRet (Cd.eOr (Cd.eCall M_only (Cd.aCons (Cd.eMth "str" Cd.mLstrip (Cd.eVar 2) (Cd.aCons (Cd.eC (.str (Cd.S "z"))) Cd.aNil)) (Cd.aCons (Cd.eC (.str (Cd.S "9"))) Cd.aNil))) (Cd.eCall M_only (Cd.aCons (Cd.eMth "str" Cd.mLstrip (Cd.eVar 2) (Cd.aCons (Cd.eC (.str (Cd.S "*"))) Cd.aNil)) (Cd.aCons (Cd.eC (.str (Cd.S "9"))) Cd.aNil))))))))
noncomputable def B_v_is_body : Cd.SM := (Cd.sSeq (Cd.sIf (Cd.tOr (Cd.tVal (Cd.eBin Cd.oEq (Cd.eVar 0) (Cd.eC (.str (Cd.S ""))))) (Cd.tOr (Cd.tNot (Cd.tTru (Cd.eCall M_only (Cd.aCons (Cd.eVar 0) (Cd.aCons (Cd.eC c_MARKS) Cd.aNil))))) (Cd.tVal (Cd.eBin Cd.oNin (Cd.eBin Cd.oIdx (Cd.eVar 0) (Cd.eC (.int 0))) (Cd.eC (.str (Cd.S "z*9"))))))) (Cd.sRet (Cd.eC (.bl false))) Cd.sNop) T_v_is_body_1)
noncomputable def M_v_is_body : Cd.Fn := Cd.fn 1 4 B_v_is_body
noncomputable def B_v_signs : Cd.SM := (Cd.sSeq (Cd.sIf (Cd.tOr (Cd.tTru (Cd.eMth "str" Cd.mEnds (Cd.eVar 0) (Cd.aCons (Cd.eC (.str (Cd.S "cr"))) Cd.aNil))) (Cd.tTru (Cd.eMth "str" Cd.mEnds (Cd.eVar 0) (Cd.aCons (Cd.eC (.str (Cd.S "db"))) Cd.aNil)))) (Cd.sRet (Cd.eTup (Cd.aCons (Cd.eSl (Cd.eVar 0) Cd.pNo (Cd.pSome (Cd.eUn Cd.oNeg (Cd.eC (.int 2))))) (Cd.aCons (Cd.eSl (Cd.eVar 0) (Cd.pSome (Cd.eUn Cd.oNeg (Cd.eC (.int 2)))) Cd.pNo) Cd.aNil)))) Cd.sNop) (Cd.sSeq (Cd.sIf (Cd.tOr (Cd.tVal (Cd.eBin Cd.oEq (Cd.eBin Cd.oIdx (Cd.eVar 0) (Cd.eC (.int 0))) (Cd.eC (.str (Cd.S "-"))))) (Cd.tVal (Cd.eBin Cd.oEq (Cd.eBin Cd.oIdx (Cd.eVar 0) (Cd.eC (.int 0))) (Cd.eC (.str (Cd.S "+")))))) (Cd.sRet (Cd.eTup (Cd.aCons (Cd.eSl (Cd.eVar 0) (Cd.pSome (Cd.eC (.int 1))) Cd.pNo) (Cd.aCons (Cd.eBin Cd.oIdx (Cd.eVar 0) (Cd.eC (.int 0))) Cd.aNil)))) Cd.sNop) (Cd.sSeq (Cd.sIf (Cd.tOr (Cd.tTru (Cd.eMth "str" Cd.mEnds (Cd.eVar 0) (Cd.aCons (Cd.eC (.str (Cd.S "-"))) Cd.aNil))) (Cd.tTru (Cd.eMth "str" Cd.mEnds (Cd.eVar 0) (Cd.aCons (Cd.eC (.str (Cd.S "+"))) Cd.aNil)))) (Cd.sRet (Cd.eTup (Cd.aCons (Cd.eSl (Cd.eVar 0) Cd.pNo (Cd.pSome (Cd.eUn Cd.oNeg (Cd.eC (.int 1))))) (Cd.aCons (Cd.eBin Cd.oAdd (Cd.eC (.str (Cd.S "."))) (Cd.eBin Cd.oIdx (Cd.eVar 0) (Cd.eUn Cd.oNeg (Cd.eC (.int 1))))) Cd.aNil)))) Cd.sNop) (Cd.sRet (Cd.eTup (Cd.aCons (Cd.eVar 0) (Cd.aCons (Cd.eC (.str (Cd.S ""))) Cd.aNil)))))))
noncomputable def M_v_signs : Cd.Fn := Cd.fn 1 1 B_v_signs
noncomputable def B_digits_of : Cd.SM := (Cd.sSeq (Cd.sSet 1 (Cd.eMth "str" Cd.mSplit (Cd.eVar 0) (Cd.aCons (Cd.eC (.str (Cd.S "."))) Cd.aNil))) (Cd.sSeq (Cd.sSet 2 (Cd.eCallB Cd.bLen (Cd.aCons (Cd.eComp [3] (Cd.iVal (Cd.eBin Cd.oIdx (Cd.eVar 1) (Cd.eC (.int 0)))) (Cd.gNam 3) (Cd.tVal (Cd.eBin Cd.oNin (Cd.eVar 3) (Cd.eC c_INSERTED))) (Cd.eVar 3)) Cd.aNil))) (Cd.sRet (Cd.eTup (Cd.aCons (Cd.eVar 2) (Cd.aCons (Cd.eIf (Cd.tVal (Cd.eBin Cd.oEq (Cd.eCallB Cd.bLen (Cd.aCons (Cd.eVar 1) Cd.aNil)) (Cd.eC (.int 2)))) (Cd.eCallB Cd.bLen (Cd.aCons (Cd.eBin Cd.oIdx (Cd.eVar 1) (Cd.eC (.int 1))) Cd.aNil)) (Cd.eC (.int 0))) Cd.aNil))))))
noncomputable def M_digits_of : Cd.Fn := Cd.fn 1 4 B_digits_of
noncomputable def T_v_edited_1 : Cd.SM := (Cd.sSeq (Cd.sAsg (Cd.gTpl (Cd.gsCons (Cd.gNam 3) (Cd.gsCons (Cd.gNam 4) Cd.gsNil))) (Cd.eCall M_digits_of (Cd.aCons (Cd.eVar 1) Cd.aNil))) (Cd.sSeq (Cd.sIf (Cd.tVal (Cd.eBin Cd.oGt (Cd.eBin Cd.oAdd (Cd.eVar 3) (Cd.eVar 4)) (Cd.eC c_MOST_DIGITS))) (Cd.sRet (Cd.eC .non)) Cd.sNop) (Cd.sRet (Cd.eTup (Cd.aCons (Cd.eC (.str (Cd.S "edited"))) (Cd.aCons (Cd.eVar 1) (Cd.aCons (Cd.eVar 3) (Cd.aCons (Cd.eVar 4) (Cd.aCons (Cd.eVar 2) Cd.aNil)))))))))
noncomputable def B_v_edited : Cd.SM := (Cd.sSeq (Cd.sAsg (Cd.gTpl (Cd.gsCons (Cd.gNam 1) (Cd.gsCons (Cd.gNam 2) Cd.gsNil))) (Cd.eCall M_v_signs (Cd.aCons (Cd.eVar 0) Cd.aNil))) (Cd.sSeq (Cd.sIf (Cd.tNot (Cd.tTru (Cd.eCall M_v_is_body (Cd.aCons (Cd.eVar 1) Cd.aNil)))) (Cd.sRet (Cd.eC .non)) Cd.sNop) T_v_edited_1))
noncomputable def M_v_edited : Cd.Fn := Cd.fn 1 5 B_v_edited
noncomputable def T_v_number_1 : Cd.SM := (Cd.sSeq (Cd.sSet 4 (Cd.eIf (Cd.tVal (Cd.eBin Cd.oEq (Cd.eCallB Cd.bLen (Cd.aCons (Cd.eVar 3) Cd.aNil)) (Cd.eC (.int 2)))) (Cd.eCallB Cd.bLen (Cd.aCons (Cd.eBin Cd.oIdx (Cd.eVar 3) (Cd.eC (.int 1))) Cd.aNil)) (Cd.eC (.int 0)))) (Cd.sSeq (Cd.sIf (Cd.tOr (Cd.tVal (Cd.eBin Cd.oLt (Cd.eBin Cd.oAdd (Cd.eCallB Cd.bLen (Cd.aCons (Cd.eBin Cd.oIdx (Cd.eVar 3) (Cd.eC (.int 0))) Cd.aNil)) (Cd.eVar 4)) (Cd.eC (.int 1)))) (Cd.tVal (Cd.eBin Cd.oGt (Cd.eBin Cd.oAdd (Cd.eCallB Cd.bLen (Cd.aCons (Cd.eBin Cd.oIdx (Cd.eVar 3) (Cd.eC (.int 0))) Cd.aNil)) (Cd.eVar 4)) (Cd.eC c_MOST_DIGITS)))) (Cd.sRet (Cd.eC .non)) Cd.sNop) (Cd.sRet (Cd.eTup (Cd.aCons (Cd.eC (.str (Cd.S "number"))) (Cd.aCons (Cd.eVar 1) (Cd.aCons (Cd.eCallB Cd.bLen (Cd.aCons (Cd.eBin Cd.oIdx (Cd.eVar 3) (Cd.eC (.int 0))) Cd.aNil)) (Cd.aCons (Cd.eVar 4) Cd.aNil))))))))
noncomputable def B_v_number : Cd.SM := (Cd.sSeq (Cd.sSet 1 (Cd.eMth "str" Cd.mStarts (Cd.eVar 0) (Cd.aCons (Cd.eC (.str (Cd.S "s"))) Cd.aNil))) (Cd.sSeq (Cd.sSet 2 (Cd.eIf (Cd.tTru (Cd.eVar 1)) (Cd.eSl (Cd.eVar 0) (Cd.pSome (Cd.eC (.int 1))) Cd.pNo) (Cd.eVar 0))) (Cd.sSeq (Cd.sSet 3 (Cd.eMth "str" Cd.mSplit (Cd.eVar 2) (Cd.aCons (Cd.eC (.str (Cd.S "v"))) Cd.aNil))) (Cd.sSeq (Cd.sIf (Cd.tOr (Cd.tVal (Cd.eBin Cd.oGt (Cd.eCallB Cd.bLen (Cd.aCons (Cd.eVar 3) Cd.aNil)) (Cd.eC (.int 2)))) (Cd.tOr (Cd.tNot (Cd.tTru (Cd.eCall M_only (Cd.aCons (Cd.eMth "str" Cd.mJoin (Cd.eC (.str (Cd.S ""))) (Cd.aCons (Cd.eVar 3) Cd.aNil)) (Cd.aCons (Cd.eC (.str (Cd.S "9"))) Cd.aNil))))) (Cd.tAnd (Cd.tVal (Cd.eBin Cd.oEq (Cd.eCallB Cd.bLen (Cd.aCons (Cd.eVar 3) Cd.aNil)) (Cd.eC (.int 2)))) (Cd.tVal (Cd.eBin Cd.oEq (Cd.eBin Cd.oIdx (Cd.eVar 3) (Cd.eC (.int 1))) (Cd.eC (.str (Cd.S "")))))))) (Cd.sRet (Cd.eC .non)) Cd.sNop) T_v_number_1))))
noncomputable def M_v_number : Cd.Fn := Cd.fn 1 5 B_v_number
noncomputable def L_are_figures_1 : Cd.SM := (Cd.sIf (Cd.tVal (Cd.eBin Cd.oNin (Cd.eVar 1) (Cd.eC c_FIGURES))) (Cd.sRet (Cd.eC (.bl false))) Cd.sNop)
noncomputable def B_are_figures : Cd.SM := (Cd.sSeq (Cd.sIf (Cd.tOr (Cd.tNot (Cd.tTru (Cd.eUn (Cd.oIsi "str") (Cd.eVar 0)))) (Cd.tVal (Cd.eBin Cd.oEq (Cd.eVar 0) (Cd.eC (.str (Cd.S "")))))) (Cd.sRet (Cd.eC (.bl false))) Cd.sNop) (Cd.sSeq (Cd.sFor (Cd.iVal (Cd.eVar 0)) (Cd.gNam 1) L_are_figures_1) (Cd.sRet (Cd.eC (.bl true)))))
noncomputable def M_are_figures : Cd.Fn := Cd.fn 1 2 B_are_figures
noncomputable def T_expanded_1 : Cd.SM := (Cd.sSeq (Cd.sSet 7 (Cd.eMth "str" Cd.mJoin (Cd.eC (.str (Cd.S ""))) (Cd.aCons (Cd.eVar 1) Cd.aNil))) (Cd.sSeq (Cd.sIf (Cd.tOr (Cd.tVal (Cd.eBin Cd.oEq (Cd.eVar 7) (Cd.eC (.str (Cd.S ""))))) (Cd.tVal (Cd.eBin Cd.oGt (Cd.eCallB Cd.bLen (Cd.aCons (Cd.eVar 7) Cd.aNil)) (Cd.eC c_MOST_TEXT)))) (Cd.sRaise "BadPicture") Cd.sNop) (Cd.sRet (Cd.eVar 7))))
noncomputable def T_expanded_2 : Cd.SM := (Cd.sExpr (Cd.eMth "list" Cd.mAppend (Cd.eVar 1) (Cd.aCons (Cd.eBin Cd.oMulS (Cd.eVar 3) (Cd.eVar 4)) Cd.aNil)))
noncomputable def T_expanded_3 : Cd.SM := (Cd.sSeq (Cd.sSet 4 (Cd.eCallB Cd.bIntS (Cd.aCons (Cd.eVar 6) Cd.aNil))) (Cd.sSet 2 (Cd.eBin Cd.oAdd (Cd.eVar 5) (Cd.eC (.int 1)))))
noncomputable def L_expanded_4 : Cd.SM := (Cd.sSeq (Cd.sSet 3 (Cd.eBin Cd.oIdx (Cd.eVar 0) (Cd.eVar 2))) (Cd.sSeq (Cd.sSet 4 (Cd.eC (.int 1))) (Cd.sSeq (Cd.sAug 2 Cd.oIAdd (Cd.eC (.int 1))) (Cd.sSeq (Cd.sIf (Cd.tVal (Cd.eBin Cd.oEq (Cd.eSl (Cd.eVar 0) (Cd.pSome (Cd.eVar 2)) (Cd.pSome (Cd.eBin Cd.oAdd (Cd.eVar 2) (Cd.eC (.int 1))))) (Cd.eC (.str (Cd.S "("))))) (Cd.sSeq (Cd.sSet 5 (Cd.eMth "str" Cd.mFind3 (Cd.eVar 0) (Cd.aCons (Cd.eC (.str (Cd.S ")"))) (Cd.aCons (Cd.eVar 2) Cd.aNil)))) (Cd.sSeq (Cd.sSet 6 (Cd.eSl (Cd.eVar 0) (Cd.pSome (Cd.eBin Cd.oAdd (Cd.eVar 2) (Cd.eC (.int 1)))) (Cd.pSome (Cd.eVar 5)))) (Cd.sSeq (Cd.sIf (Cd.tOr (Cd.tVal (Cd.eBin Cd.oLt (Cd.eVar 5) (Cd.eC (.int 0)))) (Cd.tOr (Cd.tNot (Cd.tTru (Cd.eCall M_are_figures (Cd.aCons (Cd.eVar 6) Cd.aNil)))) (Cd.tOr (Cd.tVal (Cd.eBin Cd.oEq (Cd.eBin Cd.oIdx (Cd.eVar 6) (Cd.eC (.int 0))) (Cd.eC (.str (Cd.S "0"))))) (Cd.tVal (Cd.eBin Cd.oGt (Cd.eCallB Cd.bLen (Cd.aCons (Cd.eVar 6) Cd.aNil)) (Cd.eC (.int 2))))))) (Cd.sRaise "BadPicture") Cd.sNop) T_expanded_3))) Cd.sNop) T_expanded_2))))
noncomputable def B_expanded : Cd.SM := (Cd.sSeq (Cd.sSet 1 (Cd.eLst Cd.aNil)) (Cd.sSeq (Cd.sSet 2 (Cd.eC (.int 0))) (Cd.sSeq (Cd.sWhile (Cd.tVal (Cd.eBin Cd.oLt (Cd.eVar 2) (Cd.eCallB Cd.bLen (Cd.aCons (Cd.eVar 0) Cd.aNil)))) L_expanded_4) T_expanded_1)))
noncomputable def M_expanded : Cd.Fn := Cd.fn 1 8 B_expanded
noncomputable def T_parse_picture_1 : Cd.SM := (Cd.sSeq (Cd.sSet 2 (Cd.eCall M_v_number (Cd.aCons (Cd.eVar 1) Cd.aNil))) (Cd.sSeq (Cd.sIf (Cd.tVal (Cd.eBin Cd.oIsN (Cd.eVar 2) (Cd.eC .non))) (Cd.sSet 2 (Cd.eCall M_v_edited (Cd.aCons (Cd.eVar 1) Cd.aNil))) Cd.sNop) (Cd.sSeq (Cd.sIf (Cd.tVal (Cd.eBin Cd.oIsN (Cd.eVar 2) (Cd.eC .non))) (Cd.sRaise "BadPicture") Cd.sNop) (Cd.sRet (Cd.eVar 2)))))
noncomputable def B_parse_picture : Cd.SM := (Cd.sSeq (Cd.sSet 1 (Cd.eCall M_expanded (Cd.aCons (Cd.eVar 0) Cd.aNil))) (Cd.sSeq (Cd.sIf (Cd.tTru (Cd.eCall M_only (Cd.aCons (Cd.eVar 1) (Cd.aCons (Cd.eC (.str (Cd.S "x"))) Cd.aNil)))) (Cd.sRet (Cd.eTup (Cd.aCons (Cd.eC (.str (Cd.S "text"))) (Cd.aCons (Cd.eCallB Cd.bLen (Cd.aCons (Cd.eVar 1) Cd.aNil)) Cd.aNil)))) Cd.sNop) T_parse_picture_1))
noncomputable def M_parse_picture : Cd.Fn := Cd.fn 1 3 B_parse_picture
noncomputable def L_v_law_is_picture_1 : Cd.SM := (Cd.sIf (Cd.tOr (Cd.tNot (Cd.tTru (Cd.eUn (Cd.oIsi "int") (Cd.eVar 2)))) (Cd.tOr (Cd.tTru (Cd.eUn (Cd.oIsi "bool") (Cd.eVar 2))) (Cd.tOr (Cd.tVal (Cd.eBin Cd.oLt (Cd.eVar 2) (Cd.eC (.int 0)))) (Cd.tVal (Cd.eBin Cd.oGt (Cd.eVar 2) (Cd.eC (.int 18))))))) (Cd.sRet (Cd.eC (.bl false))) Cd.sNop)
noncomputable def T_v_law_is_picture_2 : Cd.SM := (Cd.sSeq (Cd.sFor (Cd.iVal (Cd.eSl (Cd.eVar 0) (Cd.pSome (Cd.eC (.int 2))) (Cd.pSome (Cd.eC (.int 4))))) (Cd.gNam 2) L_v_law_is_picture_1) (Cd.sSeq (Cd.sIf (Cd.tVal (Cd.eBin Cd.oEq (Cd.eBin Cd.oIdx (Cd.eVar 0) (Cd.eC (.int 0))) (Cd.eC (.str (Cd.S "text"))))) (Cd.sRet (Cd.eChain Cd.oLe Cd.oLe (Cd.eC (.int 1)) (Cd.eBin Cd.oIdx (Cd.eVar 0) (Cd.eC (.int 1))) (Cd.eC (.int 80)))) Cd.sNop) (Cd.sSeq (Cd.sIf (Cd.tAnd (Cd.tVal (Cd.eBin Cd.oEq (Cd.eBin Cd.oIdx (Cd.eVar 0) (Cd.eC (.int 0))) (Cd.eC (.str (Cd.S "edited"))))) (Cd.tVal (Cd.eBin Cd.oNin (Cd.eBin Cd.oIdx (Cd.eVar 0) (Cd.eC (.int 4))) (Cd.eLst (Cd.aCons (Cd.eC (.str (Cd.S ""))) (Cd.aCons (Cd.eC (.str (Cd.S "-"))) (Cd.aCons (Cd.eC (.str (Cd.S "+"))) (Cd.aCons (Cd.eC (.str (Cd.S ".-"))) (Cd.aCons (Cd.eC (.str (Cd.S ".+"))) (Cd.aCons (Cd.eC (.str (Cd.S "cr"))) (Cd.aCons (Cd.eC (.str (Cd.S "db"))) Cd.aNil))))))))))) (Cd.sRet (Cd.eC (.bl false))) Cd.sNop) (Cd.sTryO [("BadPicture", true)] (Cd.sRet (Cd.eBin Cd.oEq (Cd.eCall M_parse_picture (Cd.aCons (Cd.eCall M_v_law_picture_text (Cd.aCons (Cd.eVar 0) Cd.aNil)) Cd.aNil)) (Cd.eVar 0))) (Cd.sRet (Cd.eC (.bl false)))))))
noncomputable def T_v_law_is_picture_3 : Cd.SM := (Cd.sSeq (Cd.sIf (Cd.tAnd (Cd.tVal (Cd.eBin Cd.oEq (Cd.eBin Cd.oIdx (Cd.eVar 0) (Cd.eC (.int 0))) (Cd.eC (.str (Cd.S "edited"))))) (Cd.tOr (Cd.tNot (Cd.tTru (Cd.eUn (Cd.oIsi "str") (Cd.eBin Cd.oIdx (Cd.eVar 0) (Cd.eC (.int 1)))))) (Cd.tNot (Cd.tTru (Cd.eUn (Cd.oIsi "str") (Cd.eBin Cd.oIdx (Cd.eVar 0) (Cd.eC (.int 4)))))))) (Cd.sRet (Cd.eC (.bl false))) Cd.sNop) T_v_law_is_picture_2)
noncomputable def T_v_law_is_picture_4 : Cd.SM := (Cd.sSeq (Cd.sIf (Cd.tAnd (Cd.tVal (Cd.eBin Cd.oEq (Cd.eBin Cd.oIdx (Cd.eVar 0) (Cd.eC (.int 0))) (Cd.eC (.str (Cd.S "number"))))) (Cd.tNot (Cd.tTru (Cd.eUn (Cd.oIsi "bool") (Cd.eBin Cd.oIdx (Cd.eVar 0) (Cd.eC (.int 1))))))) (Cd.sRet (Cd.eC (.bl false))) Cd.sNop) T_v_law_is_picture_3)
noncomputable def L_v_law_is_picture_5 : Cd.SM := (Cd.sIf (Cd.tAnd (Cd.tVal (Cd.eBin Cd.oEq (Cd.eBin Cd.oIdx (Cd.eVar 0) (Cd.eC (.int 0))) (Cd.eC (.str (Cd.S "text"))))) (Cd.tOr (Cd.tNot (Cd.tTru (Cd.eUn (Cd.oIsi "int") (Cd.eVar 2)))) (Cd.tTru (Cd.eUn (Cd.oIsi "bool") (Cd.eVar 2))))) (Cd.sRet (Cd.eC (.bl false))) Cd.sNop)
noncomputable def T_v_law_is_picture_6 : Cd.SM := (Cd.sSeq (Cd.sFor (Cd.iVal (Cd.eSl (Cd.eVar 0) (Cd.pSome (Cd.eC (.int 1))) Cd.pNo)) (Cd.gNam 2) L_v_law_is_picture_5) T_v_law_is_picture_4)
noncomputable def T_v_law_is_picture_7 : Cd.SM := (Cd.sSeq (Cd.sSet 1 (Cd.eLst (Cd.aCons (Cd.eTup (Cd.aCons (Cd.eC (.str (Cd.S "text"))) (Cd.aCons (Cd.eC (.int 2)) Cd.aNil))) (Cd.aCons (Cd.eTup (Cd.aCons (Cd.eC (.str (Cd.S "number"))) (Cd.aCons (Cd.eC (.int 4)) Cd.aNil))) (Cd.aCons (Cd.eTup (Cd.aCons (Cd.eC (.str (Cd.S "edited"))) (Cd.aCons (Cd.eC (.int 5)) Cd.aNil))) Cd.aNil))))) (Cd.sSeq (Cd.sIf (Cd.tVal (Cd.eBin Cd.oNinD (Cd.eTup (Cd.aCons (Cd.eBin Cd.oIdx (Cd.eVar 0) (Cd.eC (.int 0))) (Cd.aCons (Cd.eCallB Cd.bLen (Cd.aCons (Cd.eVar 0) Cd.aNil)) Cd.aNil))) (Cd.eVar 1))) (Cd.sRet (Cd.eC (.bl false))) Cd.sNop) T_v_law_is_picture_6))
noncomputable def B_v_law_is_picture : Cd.SM := (Cd.sSeq (Cd.sIf (Cd.tOr (Cd.tNot (Cd.tTru (Cd.eUn (Cd.oIsi "tuple") (Cd.eVar 0)))) (Cd.tOr (Cd.tVal (Cd.eBin Cd.oLt (Cd.eCallB Cd.bLen (Cd.aCons (Cd.eVar 0) Cd.aNil)) (Cd.eC (.int 2)))) (Cd.tNot (Cd.tTru (Cd.eUn (Cd.oIsi "str") (Cd.eBin Cd.oIdx (Cd.eVar 0) (Cd.eC (.int 0)))))))) (Cd.sRet (Cd.eC (.bl false))) Cd.sNop) T_v_law_is_picture_7)
noncomputable def M_v_law_is_picture : Cd.Fn := Cd.fn 1 3 B_v_law_is_picture
noncomputable def T_v_law_near_1 : Cd.SM := (Cd.sSeq (Cd.sIf (Cd.tVal (Cd.eBin Cd.oEq (Cd.eVar 3) (Cd.eC (.int 0)))) (Cd.sRet (Cd.eBin Cd.oAddW (Cd.eSl (Cd.eVar 0) Cd.pNo (Cd.pSome (Cd.eVar 4))) (Cd.eSl (Cd.eVar 0) (Cd.pSome (Cd.eBin Cd.oAdd (Cd.eVar 4) (Cd.eC (.int 1)))) Cd.pNo))) Cd.sNop) (Cd.sSeq (Cd.sIf (Cd.tVal (Cd.eBin Cd.oEq (Cd.eVar 3) (Cd.eC (.int 1)))) (Cd.sRet (Cd.eBin Cd.oAddW (Cd.eVar 0) (Cd.eTup (Cd.aCons (Cd.eVar 5) Cd.aNil)))) Cd.sNop) (Cd.sSeq (Cd.sIf (Cd.tVal (Cd.eBin Cd.oEq (Cd.eVar 3) (Cd.eC (.int 2)))) (Cd.sRet (Cd.eBin Cd.oIdx (Cd.eLst (Cd.aCons (Cd.eCallB Cd.bList (Cd.aCons (Cd.eVar 0) Cd.aNil)) (Cd.aCons (Cd.eC .non) (Cd.aCons (Cd.eC (.str (Cd.S "x"))) (Cd.aCons (Cd.eTup Cd.aNil) (Cd.aCons (Cd.eC (.int 7)) Cd.aNil)))))) (Cd.eBin Cd.oMod (Cd.eBin Cd.oDiv (Cd.eVar 1) (Cd.eC (.int 500))) (Cd.eC (.int 5))))) Cd.sNop) (Cd.sRet (Cd.eBin Cd.oAddW (Cd.eBin Cd.oAddW (Cd.eSl (Cd.eVar 0) Cd.pNo (Cd.pSome (Cd.eVar 4))) (Cd.eTup (Cd.aCons (Cd.eVar 5) Cd.aNil))) (Cd.eSl (Cd.eVar 0) (Cd.pSome (Cd.eBin Cd.oAdd (Cd.eVar 4) (Cd.eC (.int 1)))) Cd.pNo))))))
noncomputable def B_v_law_near : Cd.SM := (Cd.sSeq (Cd.sSet 2 (Cd.eLst (Cd.aCons (Cd.eC (.int 0)) (Cd.aCons (Cd.eC (.int 1)) (Cd.aCons (Cd.eC (.int 19)) (Cd.aCons (Cd.eC (.int 81)) (Cd.aCons (Cd.eUn Cd.oNeg (Cd.eC (.int 1))) (Cd.aCons (Cd.eC (.bl true)) (Cd.aCons (Cd.eC (.bl false)) (Cd.aCons (Cd.eC .non) (Cd.aCons (Cd.eC (.str (Cd.S ""))) (Cd.aCons (Cd.eC (.str (Cd.S "z9"))) (Cd.aCons (Cd.eC (.str (Cd.S "99"))) (Cd.aCons (Cd.eC (.str (Cd.S "9.9"))) (Cd.aCons (Cd.eC (.str (Cd.S "-"))) (Cd.aCons (Cd.eC (.str (Cd.S ".-"))) (Cd.aCons (Cd.eC (.str (Cd.S "cr"))) (Cd.aCons (Cd.eC (.str (Cd.S "x"))) (Cd.aCons (Cd.eC (.str (Cd.S "text"))) (Cd.aCons (Cd.eC (.str (Cd.S "number"))) (Cd.aCons (Cd.eC (.str (Cd.S "edited"))) (Cd.aCons (Cd.eC (.int 2)) Cd.aNil)))))))))))))))))))))) (Cd.sSeq (Cd.sSet 3 (Cd.eBin Cd.oMod (Cd.eVar 1) (Cd.eC (.int 5)))) (Cd.sSeq (Cd.sSet 4 (Cd.eBin Cd.oMod (Cd.eBin Cd.oDiv (Cd.eVar 1) (Cd.eC (.int 5))) (Cd.eCallB Cd.bLen (Cd.aCons (Cd.eVar 0) Cd.aNil)))) (Cd.sSeq (Cd.sSet 5 (Cd.eBin Cd.oIdx (Cd.eVar 2) (Cd.eBin Cd.oMod (Cd.eBin Cd.oDiv (Cd.eVar 1) (Cd.eC (.int 25))) (Cd.eC (.int 20))))) T_v_law_near_1))))
noncomputable def M_v_law_near : Cd.Fn := Cd.fn 2 6 B_v_law_near
noncomputable def T_v_law_picture_1 : Cd.SM := (Cd.sSeq (Cd.sSet 6 (Cd.eBin Cd.oIdx (Cd.eLst (Cd.aCons (Cd.eC (.str (Cd.S ""))) (Cd.aCons (Cd.eC (.str (Cd.S "-"))) (Cd.aCons (Cd.eC (.str (Cd.S "+"))) (Cd.aCons (Cd.eC (.str (Cd.S ".-"))) (Cd.aCons (Cd.eC (.str (Cd.S ".+"))) (Cd.aCons (Cd.eC (.str (Cd.S "cr"))) (Cd.aCons (Cd.eC (.str (Cd.S "db"))) (Cd.aCons (Cd.eC (.str (Cd.S ""))) Cd.aNil))))))))) (Cd.eBin Cd.oMod (Cd.eBin Cd.oDiv (Cd.eVar 2) (Cd.eC (.int 56))) (Cd.eC (.int 8))))) (Cd.sSeq (Cd.sSet 7 (Cd.eCallB Cd.bLen (Cd.aCons (Cd.eComp [8] (Cd.iVal (Cd.eVar 4)) (Cd.gNam 8) (Cd.tVal (Cd.eBin Cd.oIn (Cd.eVar 8) (Cd.eC (.str (Cd.S "z*9"))))) (Cd.eVar 8)) Cd.aNil))) (Cd.sSeq (Cd.sIf (Cd.tAnd (Cd.tVal (Cd.eBin Cd.oEq (Cd.eVar 6) (Cd.eC (.str (Cd.S ""))))) (Cd.tVal (Cd.eBin Cd.oIn (Cd.eVar 4) (Cd.eLst (Cd.aCons (Cd.eC (.str (Cd.S "9"))) (Cd.aCons (Cd.eC (.str (Cd.S "99"))) Cd.aNil)))))) (Cd.sSet 6 (Cd.eC (.str (Cd.S "-")))) Cd.sNop) (Cd.sRet (Cd.eTup (Cd.aCons (Cd.eC (.str (Cd.S "edited"))) (Cd.aCons (Cd.eVar 4) (Cd.aCons (Cd.eBin Cd.oSub (Cd.eVar 7) (Cd.eVar 5)) (Cd.aCons (Cd.eVar 5) (Cd.aCons (Cd.eVar 6) Cd.aNil))))))))))
noncomputable def T_v_law_picture_2 : Cd.SM := (Cd.sSeq (Cd.sSet 4 (Cd.eBin Cd.oIdx (Cd.eLst (Cd.aCons (Cd.eC (.str (Cd.S "zz9"))) (Cd.aCons (Cd.eC (.str (Cd.S "zzz"))) (Cd.aCons (Cd.eC (.str (Cd.S "z9"))) (Cd.aCons (Cd.eC (.str (Cd.S "9"))) (Cd.aCons (Cd.eC (.str (Cd.S "***"))) (Cd.aCons (Cd.eC (.str (Cd.S "**9"))) (Cd.aCons (Cd.eC (.str (Cd.S "zz,zz9"))) (Cd.aCons (Cd.eC (.str (Cd.S "**,***"))) (Cd.aCons (Cd.eC (.str (Cd.S "99/99"))) (Cd.aCons (Cd.eC (.str (Cd.S "z,zz9b9"))) (Cd.aCons (Cd.eC (.str (Cd.S "9b9"))) (Cd.aCons (Cd.eC (.str (Cd.S "z0z"))) (Cd.aCons (Cd.eC (.str (Cd.S "99"))) (Cd.aCons (Cd.eC (.str (Cd.S "zb9"))) Cd.aNil))))))))))))))) (Cd.eBin Cd.oMod (Cd.eVar 2) (Cd.eC (.int 14))))) (Cd.sSeq (Cd.sSet 5 (Cd.eBin Cd.oMod (Cd.eBin Cd.oDiv (Cd.eVar 2) (Cd.eC (.int 14))) (Cd.eC (.int 4)))) (Cd.sSeq (Cd.sIf (Cd.tVal (Cd.eBin Cd.oGt (Cd.eVar 5) (Cd.eC (.int 0)))) (Cd.sSet 4 (Cd.eBin Cd.oAdd (Cd.eBin Cd.oAdd (Cd.eVar 4) (Cd.eC (.str (Cd.S ".")))) (Cd.eSl (Cd.eC (.str (Cd.S "999"))) Cd.pNo (Cd.pSome (Cd.eVar 5))))) Cd.sNop) T_v_law_picture_1)))
noncomputable def T_v_law_picture_3 : Cd.SM := (Cd.sSeq (Cd.sIf (Cd.tVal (Cd.eBin Cd.oLt (Cd.eVar 1) (Cd.eC (.int 3)))) (Cd.sSeq (Cd.sSet 3 (Cd.eBin Cd.oMod (Cd.eVar 2) (Cd.eC (.int 5)))) (Cd.sRet (Cd.eTup (Cd.aCons (Cd.eC (.str (Cd.S "number"))) (Cd.aCons (Cd.eBin Cd.oEq (Cd.eBin Cd.oMod (Cd.eBin Cd.oDiv (Cd.eVar 2) (Cd.eC (.int 5))) (Cd.eC (.int 2))) (Cd.eC (.int 1))) (Cd.aCons (Cd.eCallB Cd.bMax2 (Cd.aCons (Cd.eVar 3) (Cd.aCons (Cd.eBin Cd.oSub (Cd.eC (.int 1)) (Cd.eBin Cd.oMod (Cd.eBin Cd.oDiv (Cd.eVar 2) (Cd.eC (.int 10))) (Cd.eC (.int 3)))) Cd.aNil))) (Cd.aCons (Cd.eBin Cd.oMod (Cd.eBin Cd.oDiv (Cd.eVar 2) (Cd.eC (.int 10))) (Cd.eC (.int 3))) Cd.aNil))))))) Cd.sNop) T_v_law_picture_2)
noncomputable def B_v_law_picture : Cd.SM := (Cd.sSeq (Cd.sSet 1 (Cd.eBin Cd.oMod (Cd.eVar 0) (Cd.eC (.int 8)))) (Cd.sSeq (Cd.sSet 2 (Cd.eBin Cd.oDiv (Cd.eVar 0) (Cd.eC (.int 8)))) (Cd.sSeq (Cd.sIf (Cd.tVal (Cd.eBin Cd.oEq (Cd.eVar 1) (Cd.eC (.int 0)))) (Cd.sRet (Cd.eTup (Cd.aCons (Cd.eC (.str (Cd.S "text"))) (Cd.aCons (Cd.eBin Cd.oAdd (Cd.eC (.int 1)) (Cd.eBin Cd.oMod (Cd.eVar 2) (Cd.eC (.int 12)))) Cd.aNil)))) Cd.sNop) T_v_law_picture_3)))
noncomputable def M_v_law_picture : Cd.Fn := Cd.fn 1 9 B_v_law_picture
noncomputable def B_v_law_rich : Cd.SM := (Cd.sSeq (Cd.sIf (Cd.tVal (Cd.eBin Cd.oGe (Cd.eVar 0) (Cd.eBin Cd.oPow (Cd.eC (.int 10)) (Cd.eC (.int 18))))) (Cd.sRet (Cd.eCallB Cd.bInt (Cd.aCons (Cd.eVar 0) Cd.aNil))) Cd.sNop) (Cd.sSeq (Cd.sSet 2 (Cd.eBin Cd.oMod (Cd.eCallB Cd.bInt (Cd.aCons (Cd.eBin Cd.oAdd (Cd.eBin Cd.oAdd (Cd.eBin Cd.oMul (Cd.eVar 0) (Cd.eC (.int 48271))) (Cd.eBin Cd.oMul (Cd.eVar 1) (Cd.eC (.int 69621)))) (Cd.eC (.int 11))) Cd.aNil)) (Cd.eC (.int 2147483647)))) (Cd.sRet (Cd.eBin Cd.oAdd (Cd.eBin Cd.oMul (Cd.eVar 2) (Cd.eC (.int 2147483629))) (Cd.eBin Cd.oMod (Cd.eCallB Cd.bInt (Cd.aCons (Cd.eBin Cd.oAdd (Cd.eBin Cd.oMul (Cd.eVar 2) (Cd.eC (.int 16807))) (Cd.eVar 0)) Cd.aNil)) (Cd.eC (.int 2147483629)))))))
noncomputable def M_v_law_rich : Cd.Fn := Cd.fn 2 3 B_v_law_rich
noncomputable def B_v_law_size : Cd.SM := (Cd.sSeq (Cd.sIf (Cd.tVal (Cd.eBin Cd.oEq (Cd.eBin Cd.oIdx (Cd.eVar 0) (Cd.eC (.int 0))) (Cd.eC (.str (Cd.S "text"))))) (Cd.sRet (Cd.eBin Cd.oIdx (Cd.eVar 0) (Cd.eC (.int 1)))) Cd.sNop) (Cd.sSeq (Cd.sIf (Cd.tVal (Cd.eBin Cd.oEq (Cd.eBin Cd.oIdx (Cd.eVar 0) (Cd.eC (.int 0))) (Cd.eC (.str (Cd.S "number"))))) (Cd.sRet (Cd.eBin Cd.oAdd (Cd.eBin Cd.oAdd (Cd.eCallB Cd.bInt (Cd.aCons (Cd.eBin Cd.oIdx (Cd.eVar 0) (Cd.eC (.int 1))) Cd.aNil)) (Cd.eBin Cd.oIdx (Cd.eVar 0) (Cd.eC (.int 2)))) (Cd.eBin Cd.oIdx (Cd.eVar 0) (Cd.eC (.int 3))))) Cd.sNop) (Cd.sRet (Cd.eBin Cd.oAdd (Cd.eCallB Cd.bLen (Cd.aCons (Cd.eBin Cd.oIdx (Cd.eVar 0) (Cd.eC (.int 1))) Cd.aNil)) (Cd.eDGet2 (Cd.eDInt [("", 0), ("cr", 2), ("db", 2)]) (Cd.eBin Cd.oIdx (Cd.eVar 0) (Cd.eC (.int 4))) (Cd.eC (.int 1)))))))
noncomputable def M_v_law_size : Cd.Fn := Cd.fn 1 1 B_v_law_size
noncomputable def B_is_integer : Cd.SM := (Cd.sSeq (Cd.sIf (Cd.tOr (Cd.tNot (Cd.tTru (Cd.eUn (Cd.oIsi "int") (Cd.eVar 0)))) (Cd.tTru (Cd.eUn (Cd.oIsi "bool") (Cd.eVar 0)))) (Cd.sRet (Cd.eC (.bl false))) Cd.sNop) (Cd.sRet (Cd.eAnd (Cd.eBin Cd.oLe (Cd.eVar 1) (Cd.eVar 0)) (Cd.eBin Cd.oLe (Cd.eVar 0) (Cd.eVar 2)))))
noncomputable def M_is_integer : Cd.Fn := Cd.fn 3 3 B_is_integer
noncomputable def T_v_is_edited_1 : Cd.SM := (Cd.sSeq (Cd.sAsg (Cd.gTpl (Cd.gsCons (Cd.gNam 3) (Cd.gsCons (Cd.gNam 4) Cd.gsNil))) (Cd.eCall M_digits_of (Cd.aCons (Cd.eVar 1) Cd.aNil))) (Cd.sSeq (Cd.sIf (Cd.tOr (Cd.tNot (Cd.tTru (Cd.eCall M_is_integer (Cd.aCons (Cd.eBin Cd.oIdx (Cd.eVar 0) (Cd.eC (.int 2))) (Cd.aCons (Cd.eVar 3) (Cd.aCons (Cd.eVar 3) Cd.aNil)))))) (Cd.tNot (Cd.tTru (Cd.eCall M_is_integer (Cd.aCons (Cd.eBin Cd.oIdx (Cd.eVar 0) (Cd.eC (.int 3))) (Cd.aCons (Cd.eVar 4) (Cd.aCons (Cd.eVar 4) Cd.aNil))))))) (Cd.sRet (Cd.eC (.bl false))) Cd.sNop) (Cd.sSeq (Cd.sIf (Cd.tOr (Cd.tVal (Cd.eBin Cd.oGt (Cd.eBin Cd.oAdd (Cd.eVar 3) (Cd.eVar 4)) (Cd.eC c_MOST_DIGITS))) (Cd.tVal (Cd.eBin Cd.oGt (Cd.eBin Cd.oAdd (Cd.eCallB Cd.bLen (Cd.aCons (Cd.eVar 1) Cd.aNil)) (Cd.eCallB Cd.bLen (Cd.aCons (Cd.eMth "str" Cd.mLstrip (Cd.eVar 2) (Cd.aCons (Cd.eC (.str (Cd.S "."))) Cd.aNil)) Cd.aNil))) (Cd.eC c_MOST_TEXT)))) (Cd.sRet (Cd.eC (.bl false))) Cd.sNop) (Cd.sRet (Cd.eOr (Cd.eBin Cd.oNe (Cd.eVar 2) (Cd.eC (.str (Cd.S "")))) (Cd.eNot (Cd.eCall M_only (Cd.aCons (Cd.eVar 1) (Cd.aCons (Cd.eC (.str (Cd.S "9"))) Cd.aNil)))))))))
noncomputable def B_v_is_edited : Cd.SM := (Cd.sSeq (Cd.sSwp 1 2 (Cd.eTup (Cd.aCons (Cd.eBin Cd.oIdx (Cd.eVar 0) (Cd.eC (.int 1))) (Cd.aCons (Cd.eBin Cd.oIdx (Cd.eVar 0) (Cd.eC (.int 4))) Cd.aNil)))) (Cd.sSeq (Cd.sIf (Cd.tOr (Cd.tNot (Cd.tTru (Cd.eUn (Cd.oIsi "str") (Cd.eVar 1)))) (Cd.tOr (Cd.tNot (Cd.tTru (Cd.eUn (Cd.oIsi "str") (Cd.eVar 2)))) (Cd.tOr (Cd.tNot (Cd.tTru (Cd.eCall M_v_is_body (Cd.aCons (Cd.eVar 1) Cd.aNil)))) (Cd.tVal (Cd.eBin Cd.oNin (Cd.eVar 2) (Cd.eC c_SIGNS)))))) (Cd.sRet (Cd.eC (.bl false))) Cd.sNop) T_v_is_edited_1))
noncomputable def M_v_is_edited : Cd.Fn := Cd.fn 1 5 B_v_is_edited
noncomputable def B_is_picture : Cd.SM := (Cd.sSeq (Cd.sIf (Cd.tOr (Cd.tNot (Cd.tTru (Cd.eUn (Cd.oIsi "tuple") (Cd.eVar 0)))) (Cd.tOr (Cd.tVal (Cd.eBin Cd.oEq (Cd.eVar 0) (Cd.eTup Cd.aNil))) (Cd.tNot (Cd.tTru (Cd.eUn (Cd.oIsi "str") (Cd.eBin Cd.oIdx (Cd.eVar 0) (Cd.eC (.int 0)))))))) (Cd.sRet (Cd.eC (.bl false))) Cd.sNop) (Cd.sSeq (Cd.sIf (Cd.tVal (Cd.eBin Cd.oEq (Cd.eBin Cd.oIdx (Cd.eVar 0) (Cd.eC (.int 0))) (Cd.eC (.str (Cd.S "text"))))) (Cd.sRet (Cd.eAnd (Cd.eBin Cd.oEq (Cd.eCallB Cd.bLen (Cd.aCons (Cd.eVar 0) Cd.aNil)) (Cd.eC (.int 2))) (Cd.eCall M_is_integer (Cd.aCons (Cd.eBin Cd.oIdx (Cd.eVar 0) (Cd.eC (.int 1))) (Cd.aCons (Cd.eC (.int 1)) (Cd.aCons (Cd.eC c_MOST_TEXT) Cd.aNil)))))) Cd.sNop) (Cd.sSeq (Cd.sIf (Cd.tVal (Cd.eBin Cd.oEq (Cd.eBin Cd.oIdx (Cd.eVar 0) (Cd.eC (.int 0))) (Cd.eC (.str (Cd.S "number"))))) (Cd.sSeq (Cd.sIf (Cd.tOr (Cd.tVal (Cd.eBin Cd.oNe (Cd.eCallB Cd.bLen (Cd.aCons (Cd.eVar 0) Cd.aNil)) (Cd.eC (.int 4)))) (Cd.tNot (Cd.tTru (Cd.eUn (Cd.oIsi "bool") (Cd.eBin Cd.oIdx (Cd.eVar 0) (Cd.eC (.int 1))))))) (Cd.sRet (Cd.eC (.bl false))) Cd.sNop) (Cd.sSeq (Cd.sIf (Cd.tOr (Cd.tNot (Cd.tTru (Cd.eCall M_is_integer (Cd.aCons (Cd.eBin Cd.oIdx (Cd.eVar 0) (Cd.eC (.int 2))) (Cd.aCons (Cd.eC (.int 0)) (Cd.aCons (Cd.eC c_MOST_DIGITS) Cd.aNil)))))) (Cd.tNot (Cd.tTru (Cd.eCall M_is_integer (Cd.aCons (Cd.eBin Cd.oIdx (Cd.eVar 0) (Cd.eC (.int 3))) (Cd.aCons (Cd.eC (.int 0)) (Cd.aCons (Cd.eC c_MOST_DIGITS) Cd.aNil))))))) (Cd.sRet (Cd.eC (.bl false))) Cd.sNop) (Cd.sRet (Cd.eAnd (Cd.eBin Cd.oLe (Cd.eC (.int 1)) (Cd.eBin Cd.oAdd (Cd.eBin Cd.oIdx (Cd.eVar 0) (Cd.eC (.int 2))) (Cd.eBin Cd.oIdx (Cd.eVar 0) (Cd.eC (.int 3))))) (Cd.eBin Cd.oLe (Cd.eBin Cd.oAdd (Cd.eBin Cd.oIdx (Cd.eVar 0) (Cd.eC (.int 2))) (Cd.eBin Cd.oIdx (Cd.eVar 0) (Cd.eC (.int 3)))) (Cd.eC c_MOST_DIGITS)))))) Cd.sNop) (Cd.sRet (Cd.eAnd (Cd.eBin Cd.oEq (Cd.eBin Cd.oIdx (Cd.eVar 0) (Cd.eC (.int 0))) (Cd.eC (.str (Cd.S "edited")))) (Cd.eAnd (Cd.eBin Cd.oEq (Cd.eCallB Cd.bLen (Cd.aCons (Cd.eVar 0) Cd.aNil)) (Cd.eC (.int 5))) (Cd.eCall M_v_is_edited (Cd.aCons (Cd.eVar 0) Cd.aNil))))))))
noncomputable def M_is_picture : Cd.Fn := Cd.fn 1 1 B_is_picture
noncomputable def B_is_signed : Cd.SM := (Cd.sSeq (Cd.sIf (Cd.tVal (Cd.eBin Cd.oEq (Cd.eBin Cd.oIdx (Cd.eVar 0) (Cd.eC (.int 0))) (Cd.eC (.str (Cd.S "number"))))) (Cd.sRet (Cd.eBin Cd.oIdx (Cd.eVar 0) (Cd.eC (.int 1)))) Cd.sNop) (Cd.sRet (Cd.eAnd (Cd.eBin Cd.oEq (Cd.eBin Cd.oIdx (Cd.eVar 0) (Cd.eC (.int 0))) (Cd.eC (.str (Cd.S "edited")))) (Cd.eBin Cd.oNe (Cd.eBin Cd.oIdx (Cd.eVar 0) (Cd.eC (.int 4))) (Cd.eC (.str (Cd.S "")))))))
noncomputable def M_is_signed : Cd.Fn := Cd.fn 1 1 B_is_signed
noncomputable def B_v_counted : Cd.SM := (Cd.sSeq (Cd.sIf (Cd.tVal (Cd.eBin Cd.oEq (Cd.eVar 1) (Cd.eC (.int 0)))) (Cd.sRet (Cd.eC (.str (Cd.S "")))) Cd.sNop) (Cd.sRet (Cd.eJs ((Cd.eFmt (Cd.eVar 0)) :: ((Cd.eC (.str (Cd.S "("))) :: ((Cd.eFmt (Cd.eVar 1)) :: ((Cd.eC (.str (Cd.S ")"))) :: [])))))))
noncomputable def M_v_counted : Cd.Fn := Cd.fn 2 2 B_v_counted
noncomputable def T_picture_text_1 : Cd.SM := (Cd.sSeq (Cd.sIf (Cd.tVal (Cd.eBin Cd.oEq (Cd.eBin Cd.oIdx (Cd.eVar 0) (Cd.eC (.int 0))) (Cd.eC (.str (Cd.S "number"))))) (Cd.sSeq (Cd.sSet 1 (Cd.eIf (Cd.tTru (Cd.eBin Cd.oIdx (Cd.eVar 0) (Cd.eC (.int 1)))) (Cd.eC (.str (Cd.S "s"))) (Cd.eC (.str (Cd.S ""))))) (Cd.sSeq (Cd.sSet 2 (Cd.eIf (Cd.tVal (Cd.eBin Cd.oGt (Cd.eBin Cd.oIdx (Cd.eVar 0) (Cd.eC (.int 3))) (Cd.eC (.int 0)))) (Cd.eC (.str (Cd.S "v"))) (Cd.eC (.str (Cd.S ""))))) (Cd.sRet (Cd.eBin Cd.oAdd (Cd.eBin Cd.oAdd (Cd.eBin Cd.oAdd (Cd.eVar 1) (Cd.eCall M_v_counted (Cd.aCons (Cd.eC (.str (Cd.S "9"))) (Cd.aCons (Cd.eBin Cd.oIdx (Cd.eVar 0) (Cd.eC (.int 2))) Cd.aNil)))) (Cd.eVar 2)) (Cd.eCall M_v_counted (Cd.aCons (Cd.eC (.str (Cd.S "9"))) (Cd.aCons (Cd.eBin Cd.oIdx (Cd.eVar 0) (Cd.eC (.int 3))) Cd.aNil))))))) Cd.sNop) (Cd.sSeq (Cd.sSwp 3 1 (Cd.eTup (Cd.aCons (Cd.eBin Cd.oIdx (Cd.eVar 0) (Cd.eC (.int 1))) (Cd.aCons (Cd.eBin Cd.oIdx (Cd.eVar 0) (Cd.eC (.int 4))) Cd.aNil)))) (Cd.sSeq (Cd.sIf (Cd.tOr (Cd.tVal (Cd.eBin Cd.oEq (Cd.eVar 1) (Cd.eC (.str (Cd.S "-"))))) (Cd.tVal (Cd.eBin Cd.oEq (Cd.eVar 1) (Cd.eC (.str (Cd.S "+")))))) (Cd.sRet (Cd.eBin Cd.oAdd (Cd.eVar 1) (Cd.eVar 3))) Cd.sNop) (Cd.sRet (Cd.eBin Cd.oAdd (Cd.eVar 3) (Cd.eMth "str" Cd.mLstrip (Cd.eVar 1) (Cd.aCons (Cd.eC (.str (Cd.S "."))) Cd.aNil)))))))
noncomputable def B_picture_text : Cd.SM := (Cd.sSeq (Cd.sIf (Cd.tVal (Cd.eBin Cd.oEq (Cd.eBin Cd.oIdx (Cd.eVar 0) (Cd.eC (.int 0))) (Cd.eC (.str (Cd.S "text"))))) (Cd.sRet (Cd.eCall M_v_counted (Cd.aCons (Cd.eC (.str (Cd.S "x"))) (Cd.aCons (Cd.eBin Cd.oIdx (Cd.eVar 0) (Cd.eC (.int 1))) Cd.aNil)))) Cd.sNop) T_picture_text_1)
noncomputable def M_picture_text : Cd.Fn := Cd.fn 1 4 B_picture_text
noncomputable def B_size_of : Cd.SM := (Cd.sSeq (Cd.sIf (Cd.tVal (Cd.eBin Cd.oEq (Cd.eBin Cd.oIdx (Cd.eVar 0) (Cd.eC (.int 0))) (Cd.eC (.str (Cd.S "text"))))) (Cd.sRet (Cd.eBin Cd.oIdx (Cd.eVar 0) (Cd.eC (.int 1)))) Cd.sNop) (Cd.sSeq (Cd.sIf (Cd.tVal (Cd.eBin Cd.oEq (Cd.eBin Cd.oIdx (Cd.eVar 0) (Cd.eC (.int 0))) (Cd.eC (.str (Cd.S "number"))))) (Cd.sRet (Cd.eBin Cd.oAdd (Cd.eBin Cd.oAdd (Cd.eCallB Cd.bInt (Cd.aCons (Cd.eBin Cd.oIdx (Cd.eVar 0) (Cd.eC (.int 1))) Cd.aNil)) (Cd.eBin Cd.oIdx (Cd.eVar 0) (Cd.eC (.int 2)))) (Cd.eBin Cd.oIdx (Cd.eVar 0) (Cd.eC (.int 3))))) Cd.sNop) (Cd.sRet (Cd.eBin Cd.oAdd (Cd.eCallB Cd.bLen (Cd.aCons (Cd.eBin Cd.oIdx (Cd.eVar 0) (Cd.eC (.int 1))) Cd.aNil)) (Cd.eCallB Cd.bLen (Cd.aCons (Cd.eMth "str" Cd.mLstrip (Cd.eBin Cd.oIdx (Cd.eVar 0) (Cd.eC (.int 4))) (Cd.aCons (Cd.eC (.str (Cd.S "."))) Cd.aNil)) Cd.aNil))))))
noncomputable def M_size_of : Cd.Fn := Cd.fn 1 1 B_size_of
noncomputable def L_law_1 : Cd.SM := (Cd.sSeq (Cd.sSet 9 (Cd.eCall M_is_picture (Cd.aCons (Cd.eVar 8) Cd.aNil))) (Cd.sIf (Cd.tOr (Cd.tNot (Cd.tTru (Cd.eUn (Cd.oIsi "bool") (Cd.eVar 9)))) (Cd.tVal (Cd.eBin Cd.oNe (Cd.eVar 9) (Cd.eCall M_v_law_is_picture (Cd.aCons (Cd.eVar 8) Cd.aNil))))) (Cd.sRet (Cd.eC (.bl false))) Cd.sNop))
noncomputable def T_law_2 : Cd.SM := (Cd.sSeq (Cd.sIf (Cd.tVal (Cd.eBin Cd.oEq (Cd.eBin Cd.oIdx (Cd.eVar 3) (Cd.eC (.int 0))) (Cd.eC (.str (Cd.S "text"))))) (Cd.sSeq (Cd.sSet 5 (Cd.eC (.bl false))) (Cd.sSet 6 (Cd.eC (.bl true)))) (Cd.sSeq (Cd.sSet 5 (Cd.eIf (Cd.tVal (Cd.eBin Cd.oEq (Cd.eBin Cd.oIdx (Cd.eVar 3) (Cd.eC (.int 0))) (Cd.eC (.str (Cd.S "number"))))) (Cd.eBin Cd.oIdx (Cd.eVar 3) (Cd.eC (.int 1))) (Cd.eBin Cd.oNe (Cd.eBin Cd.oIdx (Cd.eVar 3) (Cd.eC (.int 4))) (Cd.eC (.str (Cd.S "")))))) (Cd.sSet 6 (Cd.eTup (Cd.aCons (Cd.eBin Cd.oIdx (Cd.eVar 3) (Cd.eC (.int 2))) (Cd.aCons (Cd.eBin Cd.oIdx (Cd.eVar 3) (Cd.eC (.int 3))) Cd.aNil)))))) (Cd.sSeq (Cd.sIf (Cd.tOr (Cd.tNot (Cd.tTru (Cd.eUn (Cd.oIsi "bool") (Cd.eCall M_is_signed (Cd.aCons (Cd.eVar 3) Cd.aNil))))) (Cd.tOr (Cd.tVal (Cd.eBin Cd.oNe (Cd.eCall M_is_signed (Cd.aCons (Cd.eVar 3) Cd.aNil)) (Cd.eVar 5))) (Cd.tVal (Cd.eBin Cd.oNe (Cd.eCall M_v_law_digits (Cd.aCons (Cd.eVar 3) Cd.aNil)) (Cd.eVar 6))))) (Cd.sRet (Cd.eC (.bl false))) Cd.sNop) (Cd.sSeq (Cd.sSet 7 (Cd.eCall M_v_law_near (Cd.aCons (Cd.eVar 3) (Cd.aCons (Cd.eBin Cd.oDiv (Cd.eVar 2) (Cd.eC (.int 500))) Cd.aNil)))) (Cd.sFor (Cd.iVal (Cd.eLst (Cd.aCons (Cd.eVar 3) (Cd.aCons (Cd.eVar 7) Cd.aNil)))) (Cd.gNam 8) L_law_1))))
noncomputable def L_law_3 : Cd.SM := (Cd.sSeq (Cd.sSet 2 (Cd.eCall M_v_law_rich (Cd.aCons (Cd.eCall M_v_law_cell (Cd.aCons (Cd.eVar 0) (Cd.aCons (Cd.eVar 1) Cd.aNil))) (Cd.aCons (Cd.eVar 1) Cd.aNil)))) (Cd.sSeq (Cd.sSet 3 (Cd.eCall M_v_law_picture (Cd.aCons (Cd.eVar 2) Cd.aNil))) (Cd.sSeq (Cd.sSet 4 (Cd.eCall M_picture_text (Cd.aCons (Cd.eVar 3) Cd.aNil))) (Cd.sSeq (Cd.sIf (Cd.tOr (Cd.tVal (Cd.eBin Cd.oNe (Cd.eVar 4) (Cd.eCall M_v_law_picture_text (Cd.aCons (Cd.eVar 3) Cd.aNil)))) (Cd.tOr (Cd.tVal (Cd.eBin Cd.oNe (Cd.eCall M_parse_picture (Cd.aCons (Cd.eVar 4) Cd.aNil)) (Cd.eVar 3))) (Cd.tVal (Cd.eBin Cd.oNe (Cd.eCall M_size_of (Cd.aCons (Cd.eVar 3) Cd.aNil)) (Cd.eCall M_v_law_size (Cd.aCons (Cd.eVar 3) Cd.aNil)))))) (Cd.sRet (Cd.eC (.bl false))) Cd.sNop) T_law_2))))
noncomputable def B_law : Cd.SM := (Cd.sSeq (Cd.sFor (Cd.iArgs Cd.fRng1 (Cd.aCons (Cd.eCallB Cd.bMax2 (Cd.aCons (Cd.eC (.int 1)) (Cd.aCons (Cd.eCallB Cd.bMin2 (Cd.aCons (Cd.eC (.int 16)) (Cd.aCons (Cd.eCallB Cd.bLen (Cd.aCons (Cd.eVar 0) Cd.aNil)) Cd.aNil))) Cd.aNil))) Cd.aNil)) (Cd.gNam 1) L_law_3) (Cd.sRet (Cd.eC (.bl true))))
noncomputable def M_law : Cd.Fn := Cd.fn 1 10 B_law
end Mir

set_option maxRecDepth 100000
/-! CdLib2: how the later combinators reckon -/
namespace Cd
open Classical
@[simp] theorem fn_0 (N : Nat) (b : SM) (h : Hep) : fn 0 N b [] h = (b (List.replicate (N - 0) none) h).res := id rfl
@[simp] theorem fn_5 (N : Nat) (b : SM) (v1 v2 v3 v4 v5 : Val) (h : Hep) : fn 5 N b [v1, v2, v3, v4, v5] h = (b (some v1 :: some v2 :: some v3 :: some v4 :: some v5 :: List.replicate (N - 5) none) h).res := id rfl
@[simp] theorem fn_6 (N : Nat) (b : SM) (v1 v2 v3 v4 v5 v6 : Val) (h : Hep) : fn 6 N b [v1, v2, v3, v4, v5, v6] h = (b (some v1 :: some v2 :: some v3 :: some v4 :: some v5 :: some v6 :: List.replicate (N - 6) none) h).res := id rfl
@[simp] theorem oIAdd_int (h : Hep) (i j : Int) : oIAdd h (.int i) (.int j) = some (.int (i + j)) := id rfl
theorem oIAdd_str {h : Hep} {s t : List Nat} (l : s.length + t.length ≤ 16777216) : oIAdd h (.str s) (.str t) = some (.str (s ++ t)) := by
  show (if szOk _ then _ else _) = _
  rw [if_pos (szOk_iff.mpr l)]
@[simp] theorem sRaise_eq (c : String) (η : Env) (h : Hep) : sRaise c η h = .exc ⟨c, []⟩ η h := id rfl
@[simp] theorem sTry_eq (tbl : List (String × Bool)) (i : Nat) (b : SM) (hd : Exc → Nat → SM) (η : Env) (h : Hep) : sTry tbl i b hd η h = match b η h with
  | .exc x η' h' => match tbl.lookup x.cls with
    | some true => if ∀ a, (hd x a (η'.set i (some (.exo a))) h').forget i = (hd x 0 (η'.set i (some (.exo 0))) h').forget i then (hd x 0 (η'.set i (some (.exo 0))) h').forget i else .stuck
    | some false => .exc x η' h'
    | none => .stuck
  | r => r := id rfl
@[simp] theorem sTryO_eq (tbl : List (String × Bool)) (b : SM) (hd : SM) (η : Env) (h : Hep) : sTryO tbl b hd η h = match b η h with
  | .exc x η' h' => match tbl.lookup x.cls with
    | some true => (hd η' h').quiet
    | some false => .exc x η' h'
    | none => .stuck
  | r => r := id rfl
@[simp] theorem forget_nx (i : Nat) (η : Env) (h : Hep) : (SR.nx η h).forget i = .nx (η.set i none) h := id rfl
@[simp] theorem forget_ret (i : Nat) (v : Val) (h : Hep) : (SR.ret v h).forget i = .ret v h := id rfl
@[simp] theorem quiet_nx (η : Env) (h : Hep) : (SR.nx η h).quiet = .nx η h := id rfl
@[simp] theorem quiet_ret (v : Val) (h : Hep) : (SR.ret v h).quiet = .ret v h := id rfl
@[simp] theorem eIsE_eq (tbl : List (String × Bool)) (x : Exc) (a : Nat) (m : EM) (η : Env) (h : Hep) : eIsE tbl x a m η h = (m η h).bind fun v h1 => match v with
  | .exo b => if b = a then (if x.args = [] then (match tbl.lookup x.cls with | some k => .ok (.bl k) h1 | none => .stuck) else .stuck) else .stuck
  | _ => .stuck := id rfl
@[simp] theorem eMth_eq (T : String) (F : Val → BFn) (o : EM) (a : AM) (η : Env) (h : Hep) : eMth T F o a η h = (o η h).bind fun x h1 => if typ h1 x = some T then (a η h1).bind fun xs h2 => (match F x xs h2 with | some (v, h3) => .ok v h3 | none => .stuck) else .stuck := id rfl
@[simp] theorem eSl_eq (o : EM) (lo hi : PM) (η : Env) (h : Hep) : eSl o lo hi η h = (o η h).bind fun x h1 => (lo η h1).bind fun l h2 => (hi η h2).bind fun u h3 => match oSl h3 x l u with | some (v, h4) => .ok v h4 | none => .stuck := id rfl
@[simp] theorem pNo_eq (η : Env) (h : Hep) : pNo η h = .ok none h := id rfl
@[simp] theorem pSome_eq (e : EM) (η : Env) (h : Hep) : pSome e η h = (e η h).bind fun x h1 => match x with | .int i => .ok (some i) h1 | _ => .stuck := id rfl
@[simp] theorem sSetIx_eq (o i e : EM) (η : Env) (h : Hep) : sSetIx o i e η h = (e η h).thn η fun v h1 => (o η h1).thn η fun x h2 => (i η h2).thn η fun k h3 => match setIx h3 x k v with
  | some h4 => .nx η h4
  | none => .stuck := id rfl
@[simp] theorem eComp_eq (vs : List Nat) (it : IM) (g : GM) (c : TM) (e : EM) (η : Env) (h : Hep) : eComp vs it g c e η h = (it η h).bind fun p h1 => (compL g p.2 c e (wipe η vs) p.1 h1).bind fun ys h2 => if szOk ys.length then .ok (.ref h2.length) (h2 ++ [.lst ys]) else .stuck := id rfl
@[simp] theorem oIn_ch (h : Hep) (c : Nat) (s : List Nat) : oIn h (.str [c]) (.str s) = some (.bl (decide (c ∈ s))) := id rfl
@[simp] theorem oNin_ch (h : Hep) (c : Nat) (s : List Nat) : oNin h (.str [c]) (.str s) = some (.bl (!decide (c ∈ s))) := id rfl
@[simp] theorem bOrd_ch (c : Nat) (h : Hep) : bOrd [.str [c]] h = some (.int c, h) := id rfl
@[simp] theorem oLt_str (h : Hep) (i j : List Nat) : oLt h (.str i) (.str j) = some (.bl (decide (i < j))) := id rfl
@[simp] theorem oGt_str (h : Hep) (i j : List Nat) : oGt h (.str i) (.str j) = some (.bl (decide (j < i))) := id rfl
theorem oAdd_str {h : Hep} {s t : List Nat} (l : s.length + t.length ≤ 16777216) : oAdd h (.str s) (.str t) = some (.str (s ++ t)) := by
  show (if szOk _ then _ else _) = _
  rw [if_pos (szOk_iff.mpr l)]
theorem oIdx_str {h : Hep} {s : List Nat} {i : Int} {c : Nat} (l : s.length ≤ 16777216) (e : atI s i = some c) : oIdx h (.str s) (.int i) = some (.str [c]) := by
  show (if szOk _ then _ else _) = _
  rw [if_pos (szOk_iff.mpr l), e]
  rfl
theorem atI_ex {α : Type} {xs : List α} {i : Int} (h0 : 0 ≤ i) (h1 : i < xs.length) : ∃ c, atI xs i = some c := by
  have : i.toNat < xs.length := by omega
  exact ⟨xs[i.toNat], atI_of h0 (List.getElem?_eq_getElem this)⟩
theorem atI_last {α : Type} {xs : List α} (h1 : 0 < xs.length) : ∃ c, atI xs (-1) = some c := by
  refine ⟨xs[xs.length - 1], ?_⟩
  unfold atI ixN
  rw [if_neg (by decide), if_pos (by omega)]
  show xs[(-1 + (xs.length : Int)).toNat]? = _
  rw [show (-1 + (xs.length : Int)).toNat = xs.length - 1 by omega]
  exact List.getElem?_eq_getElem _
theorem in_tup (h : Hep) (s : List Nat) (l : List Val) (q : l.all flat = true) : oIn h (.str s) (.tup l) = some (.bl (l.any fun y => eqF y (.str s))) := by
  have e : isIn h (.str s) (.tup l) = if flat (.str s) && l.all flat then some (l.any fun y => eqF y (.str s)) else none := by
    cases s with
    | nil => rfl
    | cons c t => cases t <;> rfl
  unfold oIn
  rw [e, q]
  rfl
theorem in_ref (h : Hep) (s : List Nat) (n : Nat) (l : List Val) (e1 : h[n]? = some (.lst l)) (q : l.all flat = true) : oIn h (.str s) (.ref n) = some (.bl (l.any fun y => eqF y (.str s))) := by
  have e : isIn h (.str s) (.ref n) = match seqOf h (.ref n) with | some l => if flat (.str s) && l.all flat then some (l.any fun y => eqF y (.str s)) else none | none => none := by
    cases s with
    | nil => rfl
    | cons c t => cases t <;> rfl
  have e2 : seqOf h (.ref n) = some l := by
    show (match h[n]? with | some (.lst l) => some l | _ => none) = _
    rw [e1]
  unfold oIn
  rw [e, e2]
  show ((if flat (.str s) && l.all flat then some (l.any fun y => eqF y (.str s)) else none).map Val.bl) = _
  rw [q]
  rfl
theorem split_ok {h : Hep} {s : List Nat} {c : Nat} (hc : c < 256) (l : s.length + 2 ≤ 16777216) : mSplit (.str s) [.str [c]] h = some (.ref h.length, h ++ [.lst ((cutAt c [] s).map .str)]) := by
  show (if splitOk _ _ then _ else _) = _
  rw [if_pos ⟨hc, by rw [line_is]; exact l⟩]
theorem oSl_str {h : Hep} {s : List Nat} (l : s.length ≤ 16777216) (lo hi : Option Int) : oSl h (.str s) lo hi = some (.str (cut s lo hi), h) := by
  show (if szOk _ then _ else _) = _
  rw [if_pos (szOk_iff.mpr l)]
theorem cut_len {α : Type} (l : List α) (lo hi : Option Int) : (cut l lo hi).length ≤ l.length := by
  unfold cut
  rw [List.length_take, List.length_drop]
  omega
@[simp] theorem ch_lt (c d : Nat) : ([c] < [d]) ↔ c < d := by
  constructor
  · intro h
    cases h with
    | rel h => exact h
    | cons h => cases h
  · intro h; exact .rel h
/-- a walk along a text that ends at the first sign that is not wanted -/
theorem all_loop (i : Nat) (b : SM) (p : Nat → Bool) (E : Option Val → Env) (hset : ∀ x v, (E x).set i v = E v)
    (hb : ∀ c h, b (E (some (.str [c]))) h = if p c then .nx (E (some (.str [c]))) h else .ret (.bl false) h) : ∀ (s : List Nat) (v : Option Val) (h : Hep),
    (forL (gNam i) (fun _ => true) b (s.map fun c => .str [c]) (E v) h).bind (fun _ h1 => .ret (.bl true) h1) = .ret (.bl (s.all p)) h
  | [], v, h => rfl
  | c :: s, v, h => by
    have ih := all_loop i b p E hset hb s (some (.str [c])) h
    rw [List.map_cons, forL_cons, if_pos rfl, gNam_eq, hset]
    simp only [hb]
    by_cases q : p c = true
    · rw [if_pos q]
      simp only [ih, List.all_cons, q, Bool.true_and]
    · rw [if_neg q]
      have q2 : p c = false := by simpa using q
      simp only [SR.bind_ret, List.all_cons, q2, Bool.false_and]
end Cd

set_option maxRecDepth 100000
/-! CdLib3: how the texts' combinators reckon -/
namespace Cd
open Classical
theorem repOk_iff {n : Nat} {i : Int} : repOk n i ↔ -1000000 < i ∧ i ≤ 16777216 ∧ n * i.toNat ≤ 16777216 := by
  unfold repOk
  rw [line_is]
  exact Iff.rfl
theorem oMulS_str {h : Hep} {s : List Nat} {i : Int} (m : -1000000 < i ∧ i ≤ 16777216 ∧ s.length * i.toNat ≤ 16777216) : oMulS h (.str s) (.int i) = some (.str (repL s i.toNat)) := by
  show (if repOk _ _ then _ else _) = _
  rw [if_pos (repOk_iff.mpr m)]
theorem repL_ch (c n : Nat) : repL [c] n = List.replicate n c := by
  unfold repL
  induction n with
  | zero => rfl
  | succ n ih => rw [List.replicate_succ, List.flatten_cons, ih, List.replicate_succ]; rfl
theorem fRng3_of {h : Hep} {i j c : Int} (h1 : -(2 ^ 40) ≤ i) (h2 : i < 2 ^ 40) (h3 : -(2 ^ 40) ≤ j) (h4 : j < 2 ^ 40) (h5 : 0 < c) (h6 : c < 2 ^ 29) : fRng3 h [.int i, .int j, .int c] = some (rngC i c (stepN i j c), fun _ => true) := by
  show (if _ then _ else _) = _
  rw [if_pos ⟨⟨h1, h2⟩, ⟨h3, h4⟩, h5, h6⟩]
theorem rngC_get {lo c : Int} {n i : Nat} {x : Val} (e : (rngC lo c n)[i]? = some x) : i < n ∧ x = .int (lo + i * c) := by
  have hi : i < n := by
    have := (List.getElem?_eq_some_iff.mp e).1
    simpa [rngC] using this
  unfold rngC at e
  rw [List.getElem?_map, List.getElem?_range hi] at e
  exact ⟨hi, (Option.some.inj e).symm⟩
@[simp] theorem rngC_length (lo c : Int) (n : Nat) : (rngC lo c n).length = n := by simp [rngC]
theorem bStr_of {h : Hep} {i : Int} (m : i.natAbs.log2 < 1920) : bStr [.int i] h = some (.str (S (toString i)), h) := by
  show (if strOk i then _ else _) = _
  rw [if_pos (show strOk i from m)]
theorem mZfill_of {h : Hep} {s : List Nat} {i : Int} (h1 : i ≤ 16777216) (h2 : -1000 < i) : mZfill (.str s) [.int i] h = some (.str (zfillL s i), h) := by
  show (if padOk i then _ else _) = _
  rw [if_pos (show padOk i from ⟨by rw [line_is]; exact h1, h2⟩)]
@[simp] theorem mStarts_eq (h : Hep) (s t : List Nat) : mStarts (.str s) [.str t] h = some (.bl (decide (s.take t.length = t)), h) := id rfl
@[simp] theorem mEnds_eq (h : Hep) (s t : List Nat) : mEnds (.str s) [.str t] h = some (.bl (decide (t.length ≤ s.length) && decide (s.drop (s.length - t.length) = t)), h) := id rfl
theorem strsL_map : ∀ l : List (List Nat), strsL (l.map .str) = some l
  | [] => rfl
  | i :: l => by rw [List.map_cons, strsL, strsL_map l]; rfl
theorem mJoin_ref {h : Hep} {n : Nat} {s : List Nat} {ps : List (List Nat)} (e : h[n]? = some (.lst (ps.map .str))) (z : (ps.map List.length).sum + ps.length * s.length ≤ 16777216) : mJoin (.str s) [.ref n] h = some (.str (joinL s ps), h) := by
  have e2 : seqOf h (.ref n) = some (ps.map .str) := by
    show (match h[n]? with | some (.lst l) => some l | _ => none) = _
    rw [e]
  unfold mJoin
  simp only [e2, Option.bind_some, strsL_map]
  rw [if_pos (show joinOk s ps by unfold joinOk; rw [line_is]; exact z)]
@[simp] theorem eCat_eq (a b : EM) (η : Env) (h : Hep) : eCat a b η h = (a η h).bind fun x h1 => (b η h1).bind fun y h2 => match oCat h2 x y with | some (v, h3) => .ok v h3 | none => .stuck := id rfl
@[simp] theorem eRev_eq (a : EM) (η : Env) (h : Hep) : eRev a η h = (a η h).bind fun x h1 => match itsL h1 x with | some l => .ok (.ref h1.length) (h1 ++ [.lst l.reverse]) | none => .stuck := id rfl
theorem itsL_ref {h : Hep} {n : Nat} {l : List Val} (e : h[n]? = some (.lst l)) : itsL h (.ref n) = some l := by
  show (match h[n]? with | some (.lst l) => some l | _ => none) = _
  rw [e]
theorem oCat_ref {h : Hep} {n m : Nat} {l k : List Val} (e : h[n]? = some (.lst l)) (e2 : h[m]? = some (.lst k)) (z : l.length + k.length ≤ 16777216) : oCat h (.ref n) (.ref m) = some (.ref h.length, h ++ [.lst (l ++ k)]) := by
  unfold oCat
  simp only [e, e2]
  rw [if_pos (szOk_iff.mpr z)]
theorem bIntS_of {h : Hep} {s : List Nat} (h1 : (s.all fun c => decide (48 ≤ c) && decide (c ≤ 57)) = true) (h2 : s ≠ []) (h3 : s.length ≤ 640) : bIntS [.str s] h = some (.int (digV s), h) := by
  show (if digOk s then _ else _) = _
  rw [if_pos (show digOk s from ⟨h1, h2, h3⟩)]
theorem in_refI (h : Hep) (v : Int) (n : Nat) (row : List Int) (e1 : h[n]? = some (.lst (row.map .int))) : oNin h (.int v) (.ref n) = some (.bl (!row.any fun y => y == v)) := by
  have e : isIn h (.int v) (.ref n) = match seqOf h (.ref n) with | some l => if flat (.int v) && l.all flat then some (l.any fun y => eqF y (.int v)) else none | none => none := rfl
  have e2 : seqOf h (.ref n) = some (row.map .int) := by
    show (match h[n]? with | some (.lst l) => some l | _ => none) = _
    rw [e1]
  have f : (row.map Val.int).all flat = true := by simp [flat]
  have g : ((row.map Val.int).any fun y => eqF y (.int v)) = row.any fun y => y == v := by
    rw [List.any_map]; rfl
  unfold oNin
  rw [e, e2]
  show ((if flat (.int v) && (row.map Val.int).all flat then some ((row.map Val.int).any fun y => eqF y (.int v)) else none).map fun k => Val.bl (!k)) = _
  rw [f, g]
  rfl
theorem append_ok {h : Hep} {n : Nat} {l : List Val} (e : h[n]? = some (.lst l)) (z : l.length + 1 ≤ 16777216) (v : Val) : mAppend (.ref n) [v] h = some (.non, h.set n (.lst (l ++ [v]))) := by
  unfold mAppend
  simp only [e]
  rw [if_pos (szOk_iff.mpr z)]
theorem typ_lst {h : Hep} {n : Nat} {l : List Val} (e : h[n]? = some (.lst l)) : typ h (.ref n) = some "list" := by
  show (match h[n]? with | some (.lst _) => some "list" | some (.dct _) => some "dict" | _ => none) = _
  rw [e]
theorem ints_map : ∀ l : List Int, intsL (l.map .int) = some l
  | [] => rfl
  | i :: l => by rw [List.map_cons, intsL, ints_map l]; rfl
theorem sort_ok {h : Hep} {n : Nat} {l : List Int} (e : h[n]? = some (.lst (l.map .int))) : bSortI [.ref n] h = some (.ref h.length, h ++ [.lst ((srtI l).map .int)]) := by
  have e2 : itsL h (.ref n) = some (l.map .int) := by
    show (match h[n]? with | some (.lst l) => some l | _ => none) = _
    rw [e]
  unfold bSortI
  simp only [e2, Option.bind_some, ints_map]
theorem tuple_ok {h : Hep} {n : Nat} {l : List Val} (e : h[n]? = some (.lst l)) : bTuple [.ref n] h = some (.tup l, h) := by
  show (match h[n]? with | some (.lst l) => some (Val.tup l, h) | _ => none) = _
  rw [e]
theorem setIx_ref {h : Hep} {n : Nat} {l : List Val} {k : Int} {j : Nat} {v : Val} (e : h[n]? = some (.lst l)) (q : ixN l.length k = some j) : setIx h (.ref n) (.int k) v = some (h.set n (.lst (l.set j v))) := by
  show (match h[n]? with | some (.lst l) => (match ixN l.length k with | some j => some (h.set n (.lst (l.set j v))) | none => none) | _ => none) = _
  rw [e]
  simp only [q]
/-! dicts -/
@[simp] theorem eDNew_eq (η : Env) (h : Hep) : eDNew η h = .ok (.ref h.length) (h ++ [.dct []]) := id rfl
@[simp] theorem eDTxt_eq (l : List (String × String)) (η : Env) (h : Hep) : eDTxt l η h = .ok (.ref h.length) (h ++ [.dct (l.map fun p => (.str (S p.1), .str (S p.2)))]) := id rfl
@[simp] theorem eDGet2_eq (o k v : EM) (η : Env) (h : Hep) : eDGet2 o k v η h = (o η h).bind fun x h1 => if isDct h1 x then (k η h1).bind fun y h2 => (v η h2).bind fun z h3 => ofO (oDGet2 h3 x y z) h3 else .stuck := id rfl
@[simp] theorem sSetDx_eq (o i e : EM) (η : Env) (h : Hep) : sSetDx o i e η h = (e η h).thn η fun v h1 => (o η h1).thn η fun x h2 => (i η h2).thn η fun k h3 => match setDx h3 x k v with
  | some h4 => .nx η h4
  | none => .stuck := id rfl
@[simp] theorem isKey_int (i : Int) : isKey (.int i) = true := id rfl
@[simp] theorem isKey_str (i : List Nat) : isKey (.str i) = true := id rfl
@[simp] theorem keyEq_int (i j : Int) : keyEq (.int i) (.int j) = (i == j) := id rfl
@[simp] theorem keyEq_str (i j : List Nat) : keyEq (.str i) (.str j) = (i == j) := id rfl
@[simp] theorem dGet_nil (k : Val) : dGet [] k = none := id rfl
@[simp] theorem dGet_cons (p : Val × Val) (l : List (Val × Val)) (k : Val) : dGet (p :: l) k = if keyEq p.1 k then some p.2 else dGet l k := rfl
theorem isDct_ref {h : Hep} {n : Nat} {l : List (Val × Val)} (e : h[n]? = some (.dct l)) : isDct h (.ref n) = true := by
  show (match h[n]? with | some (.dct _) => true | _ => false) = _
  rw [e]
theorem oDGet2_ref {h : Hep} {n : Nat} {l : List (Val × Val)} {k z : Val} (e : h[n]? = some (.dct l)) (hk : isKey k = true) : oDGet2 h (.ref n) k z = some ((dGet l k).getD z) := by
  show (match h[n]? with | some (.dct l) => if isKey k then some ((dGet l k).getD z) else none | _ => none) = _
  rw [e]
  simp only [hk, if_true]
theorem oDIdx_ref {h : Hep} {n : Nat} {l : List (Val × Val)} {k : Val} (e : h[n]? = some (.dct l)) (hk : isKey k = true) : oDIdx h (.ref n) k = dGet l k := by
  show (match h[n]? with | some (.dct l) => if isKey k then dGet l k else none | _ => none) = _
  rw [e]
  simp only [hk, if_true]
theorem oDIn_ref {h : Hep} {n : Nat} {l : List (Val × Val)} {k : Val} (e : h[n]? = some (.dct l)) (hk : isKey k = true) : oDIn h k (.ref n) = some (.bl (dHas l k)) := by
  show (match h[n]? with | some (.dct l) => if isKey k then some (Val.bl (dHas l k)) else none | _ => none) = _
  rw [e]
  simp only [hk, if_true]
theorem oDNin_ref {h : Hep} {n : Nat} {l : List (Val × Val)} {k : Val} (e : h[n]? = some (.dct l)) (hk : isKey k = true) : oDNin h k (.ref n) = some (.bl (!dHas l k)) := by
  show (match h[n]? with | some (.dct l) => if isKey k then some (Val.bl (!dHas l k)) else none | _ => none) = _
  rw [e]
  simp only [hk, if_true]
theorem setDx_ref {h : Hep} {n : Nat} {l : List (Val × Val)} {k v : Val} (e : h[n]? = some (.dct l)) (hk : isKey k = true) (z : l.length + 1 ≤ 16777216) : setDx h (.ref n) k v = some (h.set n (.dct (dPut l k v))) := by
  show (match h[n]? with | some (.dct l) => if isKey k then (if szOk (l.length + 1) then some (h.set n (.dct (dPut l k v))) else none) else none | _ => none) = _
  rw [e]
  simp only [hk, if_true]
  rw [if_pos (szOk_iff.mpr z)]
theorem mUpper_of {h : Hep} {s : List Nat} (h1 : (s.all fun c => decide (c < 128)) = true) (h2 : s.length ≤ 1000000) : mUpper (.str s) [] h = some (.str (s.map up1), h) := by
  show (if upOk s then _ else _) = _
  rw [if_pos (show upOk s from ⟨h1, h2⟩)]
theorem joinL_chars : ∀ l : List Nat, joinL [] (l.map fun c => [c]) = l
  | [] => rfl
  | [c] => rfl
  | c :: d :: l => by
    have := joinL_chars (d :: l)
    rw [List.map_cons] at this
    rw [List.map_cons, List.map_cons, joinL, this]
    rfl
/-- a comprehension whose parts leave the heap -/
theorem compL_pure {g : GM} {e : EM} {η : Env} {h : Hep} {f : Val → Val} : ∀ xs : List Val, (∀ x ∈ xs, ∃ η1, g x η = some η1 ∧ e η1 h = .ok (f x) h) → compL g (fun _ => true) tTrue e η xs h = .ok (xs.map f) h
  | [], _ => rfl
  | x :: xs, q => by
    obtain ⟨η1, e1, e2⟩ := q x List.mem_cons_self
    have ih := compL_pure (f := f) xs fun y hy => q y (List.mem_cons_of_mem _ hy)
    rw [compL, if_pos rfl, e1]
    show (match e η1 h with | .ok y h2 => _ | _ => _) = _
    rw [e2]
    simp only [ih, Res.bind_ok, List.map_cons]
/-- with a condition, over what must stand -/
theorem compL_if {g : GM} {chk : Hep → Bool} {c : TM} {e : EM} {η : Env} {h : Hep} {f : Val → Val} {k : Val → Bool} (hc : chk h = true) : ∀ xs : List Val, (∀ x ∈ xs, ∃ η1, g x η = some η1 ∧ c η1 h = .ok (k x) h ∧ e η1 h = .ok (f x) h) → compL g chk c e η xs h = .ok ((xs.filter k).map f) h
  | [], _ => by rw [compL, if_pos hc]; rfl
  | x :: xs, q => by
    obtain ⟨η1, e1, e3, e2⟩ := q x List.mem_cons_self
    have ih := compL_if (f := f) (k := k) hc xs fun y hy => q y (List.mem_cons_of_mem _ hy)
    rw [compL, if_pos hc, e1]
    simp only [e3]
    cases kx : k x with
    | true => simp only [if_true, e2, ih, Res.bind_ok, List.filter_cons, kx, List.map_cons]
    | false => simp only [Bool.false_eq_true, if_false, ih, List.filter_cons, kx]
/-- [[] for _ in ..] -/
theorem compL_new {g : GM} {η : Env} (hg : ∀ x, ∃ η1, g x η = some η1) : ∀ (xs : List Val) (h : Hep), compL g (fun _ => true) tTrue (eLst aNil) η xs h = .ok ((List.range xs.length).map fun i => .ref (h.length + i)) (h ++ List.replicate xs.length (.lst []))
  | [], h => by simp [compL]
  | x :: xs, h => by
    obtain ⟨η1, e1⟩ := hg x
    have ih := compL_new hg xs (h ++ [.lst []])
    rw [compL, if_pos rfl, e1]
    have e2 : eLst aNil η1 h = .ok (.ref h.length) (h ++ [.lst []]) := by simp
    show (match eLst aNil η1 h with | .ok y h2 => _ | _ => _) = _
    rw [e2]
    simp only [ih, Res.bind_ok, List.length_append, List.length_cons, List.length_nil, List.append_assoc]
    rw [List.range_succ_eq_map, List.map_cons, List.map_map, List.replicate_succ]
    congr 2
    refine List.map_congr_left fun i _ => ?_
    simp only [Function.comp]
    congr 1
    omega
end Cd

set_option maxRecDepth 100000
set_option maxHeartbeats 1000000
set_option linter.all false
/-! Pk: the pictures that the laws k10 to k13 draw -/
namespace Law
open Cd Mir
/-- the heap only grows -/
def Ext (h h' : Hep) : Prop := ∃ t, h' = h ++ t
theorem Ext.refl (h : Hep) : Ext h h := ⟨[], by simp⟩
theorem Ext.one (h : Hep) (o : Obj) : Ext h (h ++ [o]) := ⟨_, rfl⟩
theorem Ext.trans {h h1 h2 : Hep} (a : Ext h h1) (b : Ext h1 h2) : Ext h h2 := by
  obtain ⟨t, rfl⟩ := a
  obtain ⟨u, rfl⟩ := b
  exact ⟨t ++ u, by rw [List.append_assoc]⟩
theorem Ext.get {h h' : Hep} (a : Ext h h') {n : Nat} {o : Obj} (e : h[n]? = some o) : h'[n]? = some o := by
  obtain ⟨t, rfl⟩ := a
  rw [List.getElem?_append_left (List.getElem?_eq_some_iff.mp e).1]; exact e
@[simp] theorem S_e : S "" = [] := by decide
@[simp] theorem S_0 : S "0" = [48] := by decide
@[simp] theorem S_9 : S "9" = [57] := by decide
@[simp] theorem S_mi : S "-" = [45] := by decide
@[simp] theorem S_po : S "." = [46] := by decide
@[simp] theorem S_zs9 : S "z*9" = [122, 42, 57] := by decide
@[simp] theorem S_num : S "number" = [110, 117, 109, 98, 101, 114] := by decide
@[simp] theorem S_ed : S "edited" = [101, 100, 105, 116, 101, 100] := by decide
@[simp] theorem S_text : S "text" = [116, 101, 120, 116] := by decide
def signs : List (List Nat) := [[], [45], [43], [46, 45], [46, 43], [99, 114], [100, 98]]
def isDig (c : Nat) : Bool := c == 122 || c == 42 || c == 57
def okB (c : Nat) : Prop := c = 122 ∨ c = 42 ∨ c = 57 ∨ c = 46 ∨ c = 44 ∨ c = 98 ∨ c = 48 ∨ c = 47
def nDig (r : List Nat) : Nat := (r.filter isDig).length
def txts (l : List Nat) : List Val := l.map fun c => .str [c]
def okBb (c : Nat) : Bool := c == 122 || c == 42 || c == 57 || c == 46 || c == 44 || c == 98 || c == 48 || c == 47
theorem okBb_ok {c : Nat} (h : okBb c = true) : okB c := by
  unfold okBb at h
  unfold okB
  simp only [Bool.or_eq_true, beq_iff_eq] at h
  omega
def pbOk (b : List Nat) : Bool := b != [] && b.all okBb && decide (b.length ≤ 10) && decide (0 < nDig b) && decide (nDig b ≤ 6)
def bodyL : List (List Nat) := [[122, 122, 57], [122, 122, 122], [122, 57], [57], [42, 42, 42], [42, 42, 57], [122, 122, 44, 122, 122, 57], [42, 42, 44, 42, 42, 42], [57, 57, 47, 57, 57], [122, 44, 122, 122, 57, 98, 57], [57, 98, 57], [122, 48, 122], [57, 57], [122, 98, 57]]
theorem bodyL_ok : ∀ b ∈ bodyL, pbOk b = true := by decide
def edB (b : List Nat) (f : Nat) : List Nat := if 0 < f then b ++ [46] ++ List.replicate f 57 else b
/-- a drawn picture -/
inductive Pic : Val → Prop
  | tx (n : Nat) (h0 : 0 < n) (h1 : n ≤ 12) : Pic (.tup [.str [116, 101, 120, 116], .int n])
  | num (b : Bool) (w f : Nat) (h0 : 0 < w + f) (hw : w ≤ 4) (hf : f ≤ 2) : Pic (.tup [.str [110, 117, 109, 98, 101, 114], .bl b, .int w, .int f])
  | ed (b sign : List Nat) (f : Nat) (hb : b ∈ bodyL) (hf : f ≤ 3) (hs : sign ∈ signs) (h9 : sign = [] → edB b f ≠ [57] ∧ edB b f ≠ [57, 57]) : Pic (.tup [.str [101, 100, 105, 116, 101, 100], .str (edB b f), .int (nDig b), .int f, .str sign])
def bodies : List Val := [.str (S "zz9"), .str (S "zzz"), .str (S "z9"), .str (S "9"), .str (S "***"), .str (S "**9"), .str (S "zz,zz9"), .str (S "**,***"), .str (S "99/99"), .str (S "z,zz9b9"), .str (S "9b9"), .str (S "z0z"), .str (S "99"), .str (S "zb9")]
theorem body_at {m : Int} (h0 : 0 ≤ m) (h1 : m < 14) : ∃ b, atI bodies m = some (.str b) ∧ b ∈ bodyL := by
  have c : m = 0 ∨ m = 1 ∨ m = 2 ∨ m = 3 ∨ m = 4 ∨ m = 5 ∨ m = 6 ∨ m = 7 ∨ m = 8 ∨ m = 9 ∨ m = 10 ∨ m = 11 ∨ m = 12 ∨ m = 13 := by omega
  rcases c with rfl | rfl | rfl | rfl | rfl | rfl | rfl | rfl | rfl | rfl | rfl | rfl | rfl | rfl <;> exact ⟨_, rfl, by decide⟩
def signV : List Val := [.str (S ""), .str (S "-"), .str (S "+"), .str (S ".-"), .str (S ".+"), .str (S "cr"), .str (S "db"), .str (S "")]
theorem sign_at {m : Int} (h0 : 0 ≤ m) (h1 : m < 8) : ∃ b, atI signV m = some (.str b) ∧ b ∈ signs := by
  have c : m = 0 ∨ m = 1 ∨ m = 2 ∨ m = 3 ∨ m = 4 ∨ m = 5 ∨ m = 6 ∨ m = 7 := by omega
  rcases c with rfl | rfl | rfl | rfl | rfl | rfl | rfl | rfl <;> exact ⟨_, rfl, by decide⟩
theorem nDig_app (a b : List Nat) : nDig (a ++ b) = nDig a + nDig b := by
  unfold nDig
  rw [List.filter_append, List.length_append]
theorem nDig_nines (n : Nat) : nDig (List.replicate n 57) = n := by
  induction n with
  | zero => rfl
  | succ n ih => rw [List.replicate_succ]; unfold nDig at *; rw [List.filter_cons, if_pos (by rfl), List.length_cons, ih]
theorem comp_marks (b : List Nat) (η : Env) (h : Hep) (a0 : ∀ x, ((η.set 8 (some x))[8]?).join = some x) :
    compL (gNam 8) (fun _ => true) (tVal (eBin oIn (eVar 8) (eC (.str (S "z*9"))))) (eVar 8) η (txts b) h = .ok (txts (b.filter isDig)) h := by
  have c := compL_if (g := gNam 8) (chk := fun _ => true) (c := tVal (eBin oIn (eVar 8) (eC (.str (S "z*9"))))) (e := eVar 8) (η := η) (h := h) (f := fun x => x) (k := fun x => match x with | .str [c] => isDig c | _ => false) rfl (txts b) (fun x hx => by
    obtain ⟨c, _, rfl⟩ := List.mem_map.mp hx
    refine ⟨_, rfl, ?_, ?_⟩
    · have e : decide (c ∈ [122, 42, 57]) = isDig c := by
        unfold isDig
        by_cases q : c ∈ [122, 42, 57]
        · rw [decide_eq_true q]
          simp only [List.mem_cons, List.not_mem_nil, or_false] at q
          rcases q with rfl | rfl | rfl <;> rfl
        · rw [decide_eq_false q]
          simp only [List.mem_cons, List.not_mem_nil, or_false, not_or] at q
          obtain ⟨q1, q2, q3⟩ := q
          simp [q1, q2, q3]
      simp only [tVal_eq, eBin_eq, eVar_eq, eC_eq, a0, ofO_some, Res.bind_ok, S_zs9, oIn_ch, e]
    · simp only [eVar_eq, a0, ofO_some])
  rw [c, List.map_id']
  unfold txts
  rw [List.filter_map]
  rfl
theorem lV {l : List Val} {n : Nat} (e : l.length = n) (z : n ≤ 100) : (l.length ≤ 16777216) = True := eq_true (by omega)
@[simp] theorem S_999 : S "999" = [57, 57, 57] := by decide
theorem picture_ok (r : Int) (h : Hep) : ∃ P h', M_v_law_picture [.int r] h = .ok P h' ∧ Pic P ∧ Ext h h' := by
  by_cases hr : r % 8 = 0
  · have z0 : (r % 8 == 0) = true := by rw [hr]; rfl
    have en : 1 + r / 8 % 12 = ((1 + r / 8 % 12).toNat : Int) := by omega
    refine ⟨.tup [.str [116, 101, 120, 116], .int ((1 + r / 8 % 12).toNat : Nat)], h, ?_, .tx _ (by omega) (by omega), Ext.refl h⟩
    rw [← en]
    simp (disch := omega) only [M_v_law_picture, B_v_law_picture, fn_1, List.replicate, sSeq_eq, sSet_eq, eBin_eq, eVar_eq, eC_eq, get_0, get_S, Option.join_some, ofO_some, Res.bind_ok, oMod_s, oDiv_s, Res.thn_ok, SR.bind_nx, List.set_cons_succ, List.set_cons_zero, sIf_eq, tVal_eq, oEq_int, z0, if_true, sRet_eq, eTup_eq, aCons_eq, aNil_eq, oAdd_int, S_text, List.length_cons, List.length_nil, szOk_iff, show (0 + 1 + 1 ≤ 16777216) = True by decide, SR.bind_ret, SR.res_ret]
  · have z0 : (r % 8 == 0) = false := beq_false_of_ne hr
    by_cases q : r % 8 < 3
    · let w := max (r / 8 % 5).toNat (1 - (r / 8 / 10 % 3).toNat)
      let f := (r / 8 / 10 % 3).toNat
      have ew : (if 1 - r / 8 / 10 % 3 > r / 8 % 5 then 1 - r / 8 / 10 % 3 else r / 8 % 5) = (w : Int) := by
        show _ = ((max (r / 8 % 5).toNat (1 - (r / 8 / 10 % 3).toNat) : Nat) : Int)
        split <;> omega
      have ef : r / 8 / 10 % 3 = (f : Int) := by
        show _ = (((r / 8 / 10 % 3).toNat : Nat) : Int)
        omega
      refine ⟨.tup [.str [110, 117, 109, 98, 101, 114], .bl (r / 8 / 5 % 2 == 1), .int w, .int f], h, ?_, .num _ w f (by show 0 < max _ _ + _; omega) (by show max _ _ ≤ _; omega) (by show Int.toNat _ ≤ _; omega), Ext.refl h⟩
      simp (disch := omega) only [M_v_law_picture, B_v_law_picture, T_v_law_picture_3, fn_1, List.replicate, sSeq_eq, sSet_eq, eBin_eq, eVar_eq, eC_eq, get_0, get_S, Option.join_some, ofO_some, Res.bind_ok, oMod_s, oDiv_s, Res.thn_ok, SR.bind_nx, List.set_cons_succ, List.set_cons_zero, sIf_eq, tVal_eq, oEq_int, z0, Bool.false_eq_true, if_false, sNop_eq, oLt_int, decide_eq_true q, if_true, sRet_eq, eTup_eq, aCons_eq, aNil_eq, eCallB_eq, oSub_int, bMax2_int, ew, S_num, List.length_cons, List.length_nil, szOk_iff, show (0 + 1 + 1 + 1 + 1 ≤ 16777216) = True by decide, SR.bind_ret, SR.res_ret]
      rw [ef]
    · obtain ⟨b, eb, pb⟩ := body_at (m := r / 8 % 14) (by omega) (by omega)
      obtain ⟨sn, es, ps⟩ := sign_at (m := r / 8 / 56 % 8) (by omega) (by omega)
      have mb := pb
      have pb := bodyL_ok b pb
      unfold pbOk at pb
      simp only [Bool.and_eq_true, decide_eq_true_eq, bne_iff_ne, ne_eq] at pb
      obtain ⟨⟨⟨⟨b0, ball⟩, bl⟩, bd0⟩, bd1⟩ := pb
      have hb : ∀ c ∈ b, okB c := fun c hc => okBb_ok (List.all_eq_true.mp ball c hc)
      let f := (r / 8 / 14 % 4).toNat
      have ef : r / 8 / 14 % 4 = (f : Int) := by
        show _ = (((r / 8 / 14 % 4).toNat : Nat) : Int)
        omega
      have f3 : f ≤ 3 := by show (r / 8 / 14 % 4).toNat ≤ 3; omega
      let B := if 0 < f then b ++ [46] ++ List.replicate f 57 else b
      have B0 : B ≠ [] := by
        show (if 0 < f then b ++ [46] ++ List.replicate f 57 else b) ≠ []
        split
        · simp
        · exact b0
      have hB : ∀ c ∈ B, okB c := by
        intro c hc
        have hc : c ∈ (if 0 < f then b ++ [46] ++ List.replicate f 57 else b) := hc
        split at hc
        · rcases List.mem_append.mp hc with z | z
          · rcases List.mem_append.mp z with z | z
            · exact hb c z
            · rw [List.mem_singleton.mp z]; exact okBb_ok rfl
          · rw [(List.mem_replicate.mp z).2]; exact okBb_ok rfl
        · exact hb c hc
      have lB : B.length ≤ 20 := by
        show (if 0 < f then b ++ [46] ++ List.replicate f 57 else b).length ≤ 20
        split
        · simp; omega
        · omega
      have nB : nDig B = nDig b + f := by
        show nDig (if 0 < f then b ++ [46] ++ List.replicate f 57 else b) = _
        split
        · rw [nDig_app, nDig_app, nDig_nines]; rfl
        · omega
      let h1 := h ++ [Obj.lst bodies]
      have e1 : eBin oIdx (eLst (aCons (eC (.str (S "zz9"))) (aCons (eC (.str (S "zzz"))) (aCons (eC (.str (S "z9"))) (aCons (eC (.str (S "9"))) (aCons (eC (.str (S "***"))) (aCons (eC (.str (S "**9"))) (aCons (eC (.str (S "zz,zz9"))) (aCons (eC (.str (S "**,***"))) (aCons (eC (.str (S "99/99"))) (aCons (eC (.str (S "z,zz9b9"))) (aCons (eC (.str (S "9b9"))) (aCons (eC (.str (S "z0z"))) (aCons (eC (.str (S "99"))) (aCons (eC (.str (S "zb9"))) aNil))))))))))))))) (eBin oMod (eVar 2) (eC (.int 14))) [some (.int r), some (.int (r % 8)), some (.int (r / 8)), none, none, none, none, none, none] h = .ok (.str b) h1 := by
        have g : oIdx h1 (.ref h.length) (.int (r / 8 % 14)) = some (.str b) := by rw [oIdx_ref (get_new _ _), eb]
        have m : oMod h1 (.int (r / 8)) (.int 14) = some (.int (r / 8 % 14)) := oMod_s (by decide)
        rw [eBin_eq, eLst_eq]
        simp only [aCons_eq, aNil_eq, eC_eq, Res.bind_ok]
        rw [if_pos (szOk_iff.mpr (by decide))]
        show (Res.ok (Val.ref h.length) h1).bind _ = _
        simp only [Res.bind_ok, eBin_eq, eVar_eq, eC_eq, get_0, get_S, Option.join_some, ofO_some, m, g]
      have st2 : sIf (tVal (eBin oGt (eVar 5) (eC (.int 0)))) (sSet 4 (eBin oAdd (eBin oAdd (eVar 4) (eC (.str (S ".")))) (eSl (eC (.str (S "999"))) pNo (pSome (eVar 5))))) sNop [some (.int r), some (.int (r % 8)), some (.int (r / 8)), none, some (.str b), some (.int f), none, none, none] h1 = .nx [some (.int r), some (.int (r % 8)), some (.int (r / 8)), none, some (.str B), some (.int f), none, none, none] h1 := by
        by_cases z : 0 < f
        · have z2 : (0 : Int) < f := by omega
          have BB : B = b ++ [46] ++ List.replicate f 57 := if_pos z
          have a1 : oAdd h1 (.str b) (.str [46]) = some (.str (b ++ [46])) := oAdd_str (by simp; omega)
          have sl : oSl h1 (.str [57, 57, 57]) none (some (f : Int)) = some (.str (List.replicate f 57), h1) := by
            rw [oSl_str (by decide)]
            congr 2
            have : f = 1 ∨ f = 2 ∨ f = 3 := by omega
            rcases this with q | q | q <;> rw [q] <;> rfl
          have a2 : oAdd h1 (.str (b ++ [46])) (.str (List.replicate f 57)) = some (.str B) := by rw [BB, oAdd_str (by simp; omega)]
          simp only [sIf_eq, tVal_eq, eBin_eq, eVar_eq, eC_eq, get_0, get_S, Option.join_some, ofO_some, Res.bind_ok, oGt_int, decide_eq_true z2, Res.thn_ok, if_true, sSet_eq, S_po, a1, eSl_eq, S_999, pNo_eq, pSome_eq, sl, a2, List.set_cons_succ, List.set_cons_zero]
        · have z2 : ¬ (0 : Int) < f := by omega
          have BB : B = b := if_neg z
          simp only [sIf_eq, tVal_eq, eBin_eq, eVar_eq, eC_eq, get_0, get_S, Option.join_some, ofO_some, Res.bind_ok, oGt_int, decide_eq_false z2, Res.thn_ok, Bool.false_eq_true, if_false, sNop_eq, BB]
      let h2 := h1 ++ [Obj.lst signV]
      have e3 : eBin oIdx (eLst (aCons (eC (.str (S ""))) (aCons (eC (.str (S "-"))) (aCons (eC (.str (S "+"))) (aCons (eC (.str (S ".-"))) (aCons (eC (.str (S ".+"))) (aCons (eC (.str (S "cr"))) (aCons (eC (.str (S "db"))) (aCons (eC (.str (S ""))) aNil))))))))) (eBin oMod (eBin oDiv (eVar 2) (eC (.int 56))) (eC (.int 8))) [some (.int r), some (.int (r % 8)), some (.int (r / 8)), none, some (.str B), some (.int f), none, none, none] h1 = .ok (.str sn) h2 := by
        have g : oIdx h2 (.ref h1.length) (.int (r / 8 / 56 % 8)) = some (.str sn) := by rw [oIdx_ref (get_new _ _), es]
        have m1 : oDiv h2 (.int (r / 8)) (.int 56) = some (.int (r / 8 / 56)) := oDiv_s (by decide) (by decide)
        have m2 : oMod h2 (.int (r / 8 / 56)) (.int 8) = some (.int (r / 8 / 56 % 8)) := oMod_s (by decide)
        rw [eBin_eq, eLst_eq]
        simp only [aCons_eq, aNil_eq, eC_eq, Res.bind_ok]
        rw [if_pos (szOk_iff.mpr (by decide))]
        show (Res.ok (Val.ref h1.length) h2).bind _ = _
        simp only [Res.bind_ok, eBin_eq, eVar_eq, eC_eq, get_0, get_S, Option.join_some, ofO_some, m1, m2, g]
      have cm := comp_marks B (Cd.wipe [some (.int r), some (.int (r % 8)), some (.int (r / 8)), none, some (.str B), some (.int f), some (.str sn), none, none] [8]) h2 (fun x => rfl)
      let h3 := h2 ++ [Obj.lst (txts (B.filter isDig))]
      have e4 : eCallB bLen (aCons (eComp [8] (iVal (eVar 4)) (gNam 8) (tVal (eBin oIn (eVar 8) (eC (.str (S "z*9"))))) (eVar 8)) aNil) [some (.int r), some (.int (r % 8)), some (.int (r / 8)), none, some (.str B), some (.int f), some (.str sn), none, none] h2 = .ok (.int ((nDig b + f : Nat) : Int)) h3 := by
        have g := bLen_ref (get_new h2 (.lst (txts (B.filter isDig))))
        have ll : (txts (B.filter isDig)).length = nDig b + f := by rw [← nB]; unfold txts nDig; rw [List.length_map]
        rw [ll] at g
        simp only [eCallB_eq, aCons_eq, aNil_eq, eComp_eq, iVal_eq, eVar_eq, get_0, get_S, Option.join_some, ofO_some, Res.bind_ok, items_str]
        rw [show (B.map fun c => Val.str [c]) = txts B from rfl, cm]
        simp only [Res.bind_ok]
        rw [if_pos (szOk_iff.mpr (by rw [ll]; omega))]
        simp only [Res.bind_ok, g]
        rfl
      have st5 : ∃ sn' h4, sn' ∈ signs ∧ Ext h3 h4 ∧ (sn' = [] → B ≠ [57] ∧ B ≠ [57, 57]) ∧ sIf (tAnd (tVal (eBin oEq (eVar 6) (eC (.str (S ""))))) (tVal (eBin oIn (eVar 4) (eLst (aCons (eC (.str (S "9"))) (aCons (eC (.str (S "99"))) aNil)))))) (sSet 6 (eC (.str (S "-")))) sNop [some (.int r), some (.int (r % 8)), some (.int (r / 8)), none, some (.str B), some (.int f), some (.str sn), some (.int ((nDig b + f : Nat) : Int)), none] h3 = .nx [some (.int r), some (.int (r % 8)), some (.int (r / 8)), none, some (.str B), some (.int f), some (.str sn'), some (.int ((nDig b + f : Nat) : Int)), none] h4 := by
        by_cases z : (sn == []) = true
        · have i := in_ref (h3 ++ [.lst [.str [57], .str (S "99")]]) B h3.length [.str [57], .str (S "99")] (get_new _ _) rfl
          by_cases y : ([Val.str [57], .str (S "99")].any fun y => eqF y (.str B)) = true
          · rw [y] at i
            refine ⟨[45], h3 ++ [.lst [.str [57], .str (S "99")]], by decide, Ext.one _ _, (fun z => by cases z), ?_⟩
            simp only [sIf_eq, tAnd_eq, tVal_eq, eBin_eq, eVar_eq, eC_eq, get_0, get_S, Option.join_some, ofO_some, Res.bind_ok, S_e, oEq_str, z, if_true, eLst_eq, aCons_eq, aNil_eq, S_9, List.length_cons, List.length_nil, szOk_iff, show (0 + 1 + 1 ≤ 16777216) = True by decide, i, Res.thn_ok, sSet_eq, List.set_cons_succ, List.set_cons_zero, S_mi]
          · rw [Bool.eq_false_iff.mpr y] at i
            refine ⟨sn, h3 ++ [.lst [.str [57], .str (S "99")]], ps, Ext.one _ _, (fun _ => ⟨fun z => y (by rw [z]; decide), fun z => y (by rw [z]; decide)⟩), ?_⟩
            simp only [sIf_eq, tAnd_eq, tVal_eq, eBin_eq, eVar_eq, eC_eq, get_0, get_S, Option.join_some, ofO_some, Res.bind_ok, S_e, oEq_str, z, if_true, eLst_eq, aCons_eq, aNil_eq, S_9, List.length_cons, List.length_nil, szOk_iff, show (0 + 1 + 1 ≤ 16777216) = True by decide, i, Res.thn_ok, Bool.false_eq_true, if_false, sNop_eq]
        · have z' := Bool.eq_false_iff.mpr z
          refine ⟨sn, h3, ps, Ext.refl _, (fun y => absurd (by rw [y]; rfl) z), ?_⟩
          simp only [sIf_eq, tAnd_eq, tVal_eq, eBin_eq, eVar_eq, eC_eq, get_0, get_S, Option.join_some, ofO_some, Res.bind_ok, S_e, oEq_str, z', Bool.false_eq_true, if_false, Res.thn_ok, sNop_eq]
      obtain ⟨sn', h4, ps', xt, n9, st5⟩ := st5
      have sub : ((nDig b + f : Nat) : Int) - f = (nDig b : Int) := by omega
      refine ⟨.tup [.str [101, 100, 105, 116, 101, 100], .str B, .int (nDig b), .int f, .str sn'], h4, ?_, .ed b sn' f mb f3 ps' n9, ((Ext.one h _).trans ((Ext.one h1 _).trans (Ext.one h2 _))).trans xt⟩
      have s1 : sSet 1 (eBin oMod (eVar 0) (eC (.int 8))) [some (.int r), none, none, none, none, none, none, none, none] h = .nx [some (.int r), some (.int (r % 8)), none, none, none, none, none, none, none] h := by
        simp (disch := omega) only [sSet_eq, eBin_eq, eVar_eq, eC_eq, get_0, get_S, Option.join_some, ofO_some, Res.bind_ok, oMod_s, Res.thn_ok, List.set_cons_succ, List.set_cons_zero]
      have s2 : sSet 2 (eBin oDiv (eVar 0) (eC (.int 8))) [some (.int r), some (.int (r % 8)), none, none, none, none, none, none, none] h = .nx [some (.int r), some (.int (r % 8)), some (.int (r / 8)), none, none, none, none, none, none] h := by
        simp (disch := omega) only [sSet_eq, eBin_eq, eVar_eq, eC_eq, get_0, get_S, Option.join_some, ofO_some, Res.bind_ok, oDiv_s, Res.thn_ok, List.set_cons_succ, List.set_cons_zero]
      have s3 : ∀ X : SM, sIf (tVal (eBin oEq (eVar 1) (eC (.int 0)))) X sNop [some (.int r), some (.int (r % 8)), some (.int (r / 8)), none, none, none, none, none, none] h = .nx [some (.int r), some (.int (r % 8)), some (.int (r / 8)), none, none, none, none, none, none] h := fun X => by
        simp only [sIf_eq, tVal_eq, eBin_eq, eVar_eq, eC_eq, get_0, get_S, Option.join_some, ofO_some, Res.bind_ok, oEq_int, z0, Res.thn_ok, Bool.false_eq_true, if_false, sNop_eq]
      have s4 : ∀ X : SM, sIf (tVal (eBin oLt (eVar 1) (eC (.int 3)))) X sNop [some (.int r), some (.int (r % 8)), some (.int (r / 8)), none, none, none, none, none, none] h = .nx [some (.int r), some (.int (r % 8)), some (.int (r / 8)), none, none, none, none, none, none] h := fun X => by
        simp only [sIf_eq, tVal_eq, eBin_eq, eVar_eq, eC_eq, get_0, get_S, Option.join_some, ofO_some, Res.bind_ok, oLt_int, decide_eq_false q, Res.thn_ok, Bool.false_eq_true, if_false, sNop_eq]
      have s6 : sSet 5 (eBin oMod (eBin oDiv (eVar 2) (eC (.int 14))) (eC (.int 4))) [some (.int r), some (.int (r % 8)), some (.int (r / 8)), none, some (.str b), none, none, none, none] h1 = .nx [some (.int r), some (.int (r % 8)), some (.int (r / 8)), none, some (.str b), some (.int f), none, none, none] h1 := by
        rw [← ef]
        simp (disch := omega) only [sSet_eq, eBin_eq, eVar_eq, eC_eq, get_0, get_S, Option.join_some, ofO_some, Res.bind_ok, oDiv_s, oMod_s, Res.thn_ok, List.set_cons_succ, List.set_cons_zero]
      show SR.res (B_v_law_picture [some (.int r), none, none, none, none, none, none, none, none] h) = _
      unfold B_v_law_picture T_v_law_picture_3 T_v_law_picture_2 T_v_law_picture_1
      rw [sSeq_eq, s1, SR.bind_nx, sSeq_eq, s2, SR.bind_nx, sSeq_eq, s3, SR.bind_nx, sSeq_eq, s4, SR.bind_nx, sSeq_eq, sSet_eq 4, e1, Res.thn_ok]
      simp only [List.set_cons_succ, List.set_cons_zero, SR.bind_nx]
      rw [sSeq_eq, s6, SR.bind_nx, sSeq_eq, st2, SR.bind_nx, sSeq_eq, sSet_eq 6, e3, Res.thn_ok]
      simp only [List.set_cons_succ, List.set_cons_zero, SR.bind_nx]
      rw [sSeq_eq, sSet_eq 7, e4, Res.thn_ok]
      simp only [List.set_cons_succ, List.set_cons_zero, SR.bind_nx]
      rw [sSeq_eq, st5, SR.bind_nx]
      simp only [sRet_eq, eTup_eq, aCons_eq, aNil_eq, eBin_eq, eVar_eq, eC_eq, get_0, get_S, Option.join_some, ofO_some, Res.bind_ok, oSub_int, sub, S_ed, List.length_cons, List.length_nil, szOk_iff, show (0 + 1 + 1 + 1 + 1 + 1 ≤ 16777216) = True by decide, if_true, Res.thn_ok, SR.res_ret]
end Law

set_option maxRecDepth 100000
set_option maxHeartbeats 1000000
set_option linter.all false
/-! Pp: the readers of pictures, plain: marks of one kind, numbers -/
namespace Law
open Cd Mir
theorem beqI_t {a b : Int} (h : a = b) : (a == b) = true := by rw [h]; exact beq_self_eq_true b
theorem beqI_f {a b : Int} (h : a ≠ b) : (a == b) = false := beq_false_of_ne h
theorem szOk_of {n : Nat} (h : n ≤ 16777216) : szOk n = True := eq_true (szOk_iff.mpr h)
theorem cutTo (t : List Nat) (n : Nat) : cut t none (some (n : Int)) = t.take n := by
  unfold cut sIx
  simp only [if_neg (show ¬ (n : Int) < 0 by omega), Int.toNat_natCast, List.drop_zero, Nat.sub_zero]
  by_cases q : n ≤ t.length
  · rw [Nat.min_eq_left q]
  · rw [Nat.min_eq_right (by omega), List.take_of_length_le (by omega), List.take_of_length_le (by omega)]
theorem cutFrom (t : List Nat) (n : Nat) : cut t (some (n : Int)) none = t.drop n := by
  unfold cut sIx
  simp only [if_neg (show ¬ (n : Int) < 0 by omega), Int.toNat_natCast]
  by_cases q : n ≤ t.length
  · rw [Nat.min_eq_left q, List.take_of_length_le (by rw [List.length_drop]; omega)]
  · rw [Nat.min_eq_right (by omega), List.drop_eq_nil_of_le (Nat.le_refl _), List.drop_eq_nil_of_le (by omega), List.take_nil]
theorem cutMid (t : List Nat) (a b : Nat) (h : a ≤ t.length) : cut t (some (a : Int)) (some (b : Int)) = (t.drop a).take (b - a) := by
  unfold cut sIx
  simp only [if_neg (show ¬ (a : Int) < 0 by omega), if_neg (show ¬ (b : Int) < 0 by omega), Int.toNat_natCast, Nat.min_eq_left h]
  by_cases q : b ≤ t.length
  · rw [Nat.min_eq_left q]
  · rw [Nat.min_eq_right (by omega), List.take_of_length_le (by rw [List.length_drop]; omega), List.take_of_length_le (by rw [List.length_drop]; omega)]
theorem cutToN (t : List Nat) (n : Nat) (h0 : 0 < n) : cut t none (some (-(n : Int))) = t.take (t.length - n) := by
  unfold cut sIx
  simp only [if_pos (show -(n : Int) < 0 by omega), List.drop_zero, Nat.sub_zero, show (-(n : Int) + t.length).toNat = t.length - n by omega]
theorem cutFromN (t : List Nat) (n : Nat) (h0 : 0 < n) : cut t (some (-(n : Int))) none = t.drop (t.length - n) := by
  unfold cut sIx
  simp only [if_pos (show -(n : Int) < 0 by omega), show (-(n : Int) + t.length).toNat = t.length - n by omega]
  rw [List.take_of_length_le (by rw [List.length_drop]; omega)]
theorem cutTo1 (t : List Nat) : cut t none (some 1) = t.take 1 := cutTo t 1
theorem cutFrom1 (t : List Nat) : cut t (some 1) none = t.drop 1 := cutFrom t 1
theorem cutFrom0 (t : List Nat) : cut t (some 0) none = t := cutFrom t 0
theorem cutAt_ne (c : Nat) : ∀ (l acc : List Nat), cutAt c acc l ≠ []
  | [], acc => by simp [cutAt]
  | x :: l, acc => by
    rw [cutAt]
    split
    · simp
    · exact cutAt_ne c l _
theorem joinL_nil : ∀ ps : List (List Nat), joinL [] ps = ps.flatten
  | [] => rfl
  | [p] => by simp [joinL]
  | p :: q :: r => by
    rw [joinL, joinL_nil (q :: r)]
    simp
theorem cutAt_sum (c : Nat) : ∀ (l acc : List Nat), ((cutAt c acc l).map List.length).sum + (cutAt c acc l).length = acc.length + l.length + 1
  | [], acc => by simp [cutAt]
  | x :: l, acc => by
    rw [cutAt]
    split
    · have := cutAt_sum c l []
      simp only [List.map_cons, List.sum_cons, List.length_cons, List.length_nil] at this ⊢
      omega
    · have := cutAt_sum c l (acc ++ [x])
      simp only [List.length_append, List.length_cons, List.length_nil] at this ⊢
      omega
theorem cutAt_join (c : Nat) : ∀ (l acc : List Nat), joinL [c] (cutAt c acc l) = acc ++ l
  | [], acc => by simp [cutAt, joinL]
  | x :: l, acc => by
    rw [cutAt]
    split
    · rename_i q
      subst q
      have ih := cutAt_join x l []
      cases e : cutAt x [] l with
      | nil => exact absurd e (cutAt_ne x l [])
      | cons p ps =>
        rw [e] at ih
        rw [joinL, ih]
        simp
    · rw [cutAt_join c l]
      simp
theorem cutAt_free (c : Nat) : ∀ (l acc : List Nat), c ∉ acc → ∀ p ∈ cutAt c acc l, c ∉ p
  | [], acc, h, p, hp => by
    rw [cutAt, List.mem_singleton] at hp
    rw [hp]; exact h
  | x :: l, acc, h, p, hp => by
    rw [cutAt] at hp
    split at hp
    · rcases List.mem_cons.mp hp with rfl | hp
      · exact h
      · exact cutAt_free c l [] (by simp) p hp
    · rename_i q
      exact cutAt_free c l _ (by
        simp only [List.mem_append, List.mem_singleton, not_or]
        exact ⟨h, fun z => q z.symm⟩) p hp
def allIn (t m : List Nat) : Bool := t.all fun c => decide (c ∈ m)
theorem only_ok (t m : List Nat) (h : Hep) : M_only [.str t, .str m] h = .ok (.bl (allIn t m)) h := by
  have al := all_loop 2 L_only_1 (fun c => decide (c ∈ m)) (fun x => [some (.str t), some (.str m), x]) (fun x v => rfl) (fun c h => by
    by_cases z : c ∈ m
    · rw [decide_eq_true z]
      simp (disch := omega) only [sSeq_eq, sSet_eq, sIf_eq, sRet_eq, sNop_eq, sExpr_eq, sAsg_eq, sAug_eq, sFor_eq, sRaise_eq, eBin_eq, eUn_eq, eVar_eq, eC_eq, eTup_eq, eLst_eq, eCall_eq, eCallB_eq, eMth_eq, eIf_eq, eAnd_eq, eOr_eq, eNot_eq, eSl_eq, pNo_eq, pSome_eq, eComp_eq, iVal_eq, iArgs_eq, aNil_eq, aCons_eq, tVal_eq, tAnd_eq, tOr_eq, tNot_eq, tTru_eq, truth_bl, truth_non, get_0, get_S, Option.join_some, ofO_some, Res.bind_ok, Res.thn_ok, SR.bind_nx, SR.bind_ret, SR.res_ret, SR.res_nx, List.set_cons_succ, List.set_cons_zero, if_true, Bool.false_eq_true, if_false, typ_str, gTpl_eq, gsCons_eq, gsNil_eq, gNam_eq, Option.bind_some, Bool.not_true, Bool.not_false, List.replicate, fn_1, fn_2, fn_3, fn_4, oEq_str, oNe_str, oEq_int, oNe_int, oAdd_int, oSub_int, oLt_int, oGt_int, oLe_int, oGe_int, oIsN_eq, oNeg_int, bLen_str, oIn_ch, oNin_ch, S_e, S_0, S_9, S_mi, S_po, S_zs9, S_num, S_ed, S_text, decide_eq_true, decide_eq_false, beqI_t, beqI_f, szOk_of, List.length_cons, List.length_nil, Nat.reduceAdd, L_only_1, decide_eq_true z]
    · rw [decide_eq_false z]
      simp (disch := omega) only [sSeq_eq, sSet_eq, sIf_eq, sRet_eq, sNop_eq, sExpr_eq, sAsg_eq, sAug_eq, sFor_eq, sRaise_eq, eBin_eq, eUn_eq, eVar_eq, eC_eq, eTup_eq, eLst_eq, eCall_eq, eCallB_eq, eMth_eq, eIf_eq, eAnd_eq, eOr_eq, eNot_eq, eSl_eq, pNo_eq, pSome_eq, eComp_eq, iVal_eq, iArgs_eq, aNil_eq, aCons_eq, tVal_eq, tAnd_eq, tOr_eq, tNot_eq, tTru_eq, truth_bl, truth_non, get_0, get_S, Option.join_some, ofO_some, Res.bind_ok, Res.thn_ok, SR.bind_nx, SR.bind_ret, SR.res_ret, SR.res_nx, List.set_cons_succ, List.set_cons_zero, if_true, Bool.false_eq_true, if_false, typ_str, gTpl_eq, gsCons_eq, gsNil_eq, gNam_eq, Option.bind_some, Bool.not_true, Bool.not_false, List.replicate, fn_1, fn_2, fn_3, fn_4, oEq_str, oNe_str, oEq_int, oNe_int, oAdd_int, oSub_int, oLt_int, oGt_int, oLe_int, oGe_int, oIsN_eq, oNeg_int, bLen_str, oIn_ch, oNin_ch, S_e, S_0, S_9, S_mi, S_po, S_zs9, S_num, S_ed, S_text, decide_eq_true, decide_eq_false, beqI_t, beqI_f, szOk_of, List.length_cons, List.length_nil, Nat.reduceAdd, L_only_1, decide_eq_false z]) t none h
  simp (disch := omega) only [sSeq_eq, sSet_eq, sIf_eq, sRet_eq, sNop_eq, sExpr_eq, sAsg_eq, sAug_eq, sFor_eq, sRaise_eq, eBin_eq, eUn_eq, eVar_eq, eC_eq, eTup_eq, eLst_eq, eCall_eq, eCallB_eq, eMth_eq, eIf_eq, eAnd_eq, eOr_eq, eNot_eq, eSl_eq, pNo_eq, pSome_eq, eComp_eq, iVal_eq, iArgs_eq, aNil_eq, aCons_eq, tVal_eq, tAnd_eq, tOr_eq, tNot_eq, tTru_eq, truth_bl, truth_non, get_0, get_S, Option.join_some, ofO_some, Res.bind_ok, Res.thn_ok, SR.bind_nx, SR.bind_ret, SR.res_ret, SR.res_nx, List.set_cons_succ, List.set_cons_zero, if_true, Bool.false_eq_true, if_false, typ_str, gTpl_eq, gsCons_eq, gsNil_eq, gNam_eq, Option.bind_some, Bool.not_true, Bool.not_false, List.replicate, fn_1, fn_2, fn_3, fn_4, oEq_str, oNe_str, oEq_int, oNe_int, oAdd_int, oSub_int, oLt_int, oGt_int, oLe_int, oGe_int, oIsN_eq, oNeg_int, bLen_str, oIn_ch, oNin_ch, S_e, S_0, S_9, S_mi, S_po, S_zs9, S_num, S_ed, S_text, decide_eq_true, decide_eq_false, beqI_t, beqI_f, szOk_of, List.length_cons, List.length_nil, Nat.reduceAdd, M_only, B_only, items_str]
  rw [al]
  rfl
theorem bls_of (f : Nat → Bool) : ∀ t : List Nat, bls (t.map fun c => .bl (f c)) = some (t.map f)
  | [] => rfl
  | c :: t => by rw [List.map_cons, bls, bls_of f t]; rfl
@[simp] theorem S_s : S "s" = [115] := by decide
@[simp] theorem S_v : S "v" = [118] := by decide
/-! numbers -/
def numB (t : List Nat) : List Nat := if t.take 1 = [115] then t.drop 1 else t
def numS (t : List Nat) : Val := match cutAt 118 [] (numB t) with
  | [p] => if allIn p [57] = true ∧ 1 ≤ p.length ∧ p.length ≤ 18 then .tup [.str [110, 117, 109, 98, 101, 114], .bl (decide (t.take 1 = [115])), .int p.length, .int 0] else .non
  | [p, q] => if allIn (p ++ q) [57] = true ∧ q ≠ [] ∧ p.length + q.length ≤ 18 then .tup [.str [110, 117, 109, 98, 101, 114], .bl (decide (t.take 1 = [115])), .int p.length, .int q.length] else .non
  | _ => .non
theorem numB_len (t : List Nat) : (numB t).length ≤ t.length := by
  unfold numB
  split
  · rw [List.length_drop]; omega
  · omega
theorem number_ok (t : List Nat) (tl : t.length ≤ 2000) (h : Hep) : ∃ h', Ext h h' ∧ M_v_number [.str t] h = .ok (numS t) h' := by
  have bl := numB_len t
  have sp := split_ok (h := h) (s := numB t) (c := 118) (by decide) (by omega)
  have su := cutAt_sum 118 (numB t) []
  have e1 : sSet 1 (eMth "str" mStarts (eVar 0) (aCons (eC (.str (S "s"))) aNil)) [some (.str t), none, none, none, none] h = .nx [some (.str t), some (.bl (decide (t.take 1 = [115]))), none, none, none] h := by
    simp (disch := omega) only [sSeq_eq, sSet_eq, sIf_eq, sRet_eq, sNop_eq, sExpr_eq, sAsg_eq, sAug_eq, sFor_eq, sRaise_eq, eBin_eq, eUn_eq, eVar_eq, eC_eq, eTup_eq, eLst_eq, eCall_eq, eCallB_eq, eMth_eq, eIf_eq, eAnd_eq, eOr_eq, eNot_eq, eSl_eq, pNo_eq, pSome_eq, eComp_eq, iVal_eq, iArgs_eq, aNil_eq, aCons_eq, tVal_eq, tAnd_eq, tOr_eq, tNot_eq, tTru_eq, truth_bl, truth_non, get_0, get_S, Option.join_some, ofO_some, Res.bind_ok, Res.thn_ok, SR.bind_nx, SR.bind_ret, SR.res_ret, SR.res_nx, List.set_cons_succ, List.set_cons_zero, if_true, Bool.false_eq_true, if_false, typ_str, gTpl_eq, gsCons_eq, gsNil_eq, gNam_eq, Option.bind_some, Bool.not_true, Bool.not_false, List.replicate, fn_1, fn_2, fn_3, fn_4, oEq_str, oNe_str, oEq_int, oNe_int, oAdd_int, oSub_int, oLt_int, oGt_int, oLe_int, oGe_int, oIsN_eq, oNeg_int, bLen_str, oIn_ch, oNin_ch, S_e, S_0, S_9, S_mi, S_po, S_zs9, S_num, S_ed, S_text, decide_eq_true, decide_eq_false, beqI_t, beqI_f, szOk_of, List.length_cons, List.length_nil, Nat.reduceAdd, S_s, mStarts_eq]
  have e2 : sSet 2 (eIf (tTru (eVar 1)) (eSl (eVar 0) (pSome (eC (.int 1))) pNo) (eVar 0)) [some (.str t), some (.bl (decide (t.take 1 = [115]))), none, none, none] h = .nx [some (.str t), some (.bl (decide (t.take 1 = [115]))), some (.str (numB t)), none, none] h := by
    have sl : oSl h (.str t) (some 1) none = some (.str (t.drop 1), h) := by rw [oSl_str (by omega), cutFrom1]
    unfold numB
    by_cases q : t.take 1 = [115]
    · rw [decide_eq_true q, if_pos q]
      simp (disch := omega) only [sSeq_eq, sSet_eq, sIf_eq, sRet_eq, sNop_eq, sExpr_eq, sAsg_eq, sAug_eq, sFor_eq, sRaise_eq, eBin_eq, eUn_eq, eVar_eq, eC_eq, eTup_eq, eLst_eq, eCall_eq, eCallB_eq, eMth_eq, eIf_eq, eAnd_eq, eOr_eq, eNot_eq, eSl_eq, pNo_eq, pSome_eq, eComp_eq, iVal_eq, iArgs_eq, aNil_eq, aCons_eq, tVal_eq, tAnd_eq, tOr_eq, tNot_eq, tTru_eq, truth_bl, truth_non, get_0, get_S, Option.join_some, ofO_some, Res.bind_ok, Res.thn_ok, SR.bind_nx, SR.bind_ret, SR.res_ret, SR.res_nx, List.set_cons_succ, List.set_cons_zero, if_true, Bool.false_eq_true, if_false, typ_str, gTpl_eq, gsCons_eq, gsNil_eq, gNam_eq, Option.bind_some, Bool.not_true, Bool.not_false, List.replicate, fn_1, fn_2, fn_3, fn_4, oEq_str, oNe_str, oEq_int, oNe_int, oAdd_int, oSub_int, oLt_int, oGt_int, oLe_int, oGe_int, oIsN_eq, oNeg_int, bLen_str, oIn_ch, oNin_ch, S_e, S_0, S_9, S_mi, S_po, S_zs9, S_num, S_ed, S_text, decide_eq_true, decide_eq_false, beqI_t, beqI_f, szOk_of, List.length_cons, List.length_nil, Nat.reduceAdd, sl]
    · rw [decide_eq_false q, if_neg q]
      simp (disch := omega) only [sSeq_eq, sSet_eq, sIf_eq, sRet_eq, sNop_eq, sExpr_eq, sAsg_eq, sAug_eq, sFor_eq, sRaise_eq, eBin_eq, eUn_eq, eVar_eq, eC_eq, eTup_eq, eLst_eq, eCall_eq, eCallB_eq, eMth_eq, eIf_eq, eAnd_eq, eOr_eq, eNot_eq, eSl_eq, pNo_eq, pSome_eq, eComp_eq, iVal_eq, iArgs_eq, aNil_eq, aCons_eq, tVal_eq, tAnd_eq, tOr_eq, tNot_eq, tTru_eq, truth_bl, truth_non, get_0, get_S, Option.join_some, ofO_some, Res.bind_ok, Res.thn_ok, SR.bind_nx, SR.bind_ret, SR.res_ret, SR.res_nx, List.set_cons_succ, List.set_cons_zero, if_true, Bool.false_eq_true, if_false, typ_str, gTpl_eq, gsCons_eq, gsNil_eq, gNam_eq, Option.bind_some, Bool.not_true, Bool.not_false, List.replicate, fn_1, fn_2, fn_3, fn_4, oEq_str, oNe_str, oEq_int, oNe_int, oAdd_int, oSub_int, oLt_int, oGt_int, oLe_int, oGe_int, oIsN_eq, oNeg_int, bLen_str, oIn_ch, oNin_ch, S_e, S_0, S_9, S_mi, S_po, S_zs9, S_num, S_ed, S_text, decide_eq_true, decide_eq_false, beqI_t, beqI_f, szOk_of, List.length_cons, List.length_nil, Nat.reduceAdd]
  have e3 : sSet 3 (eMth "str" mSplit (eVar 2) (aCons (eC (.str (S "v"))) aNil)) [some (.str t), some (.bl (decide (t.take 1 = [115]))), some (.str (numB t)), none, none] h = .nx [some (.str t), some (.bl (decide (t.take 1 = [115]))), some (.str (numB t)), some (.ref h.length), none] (h ++ [.lst ((cutAt 118 [] (numB t)).map .str)]) := by
    simp (disch := omega) only [sSeq_eq, sSet_eq, sIf_eq, sRet_eq, sNop_eq, sExpr_eq, sAsg_eq, sAug_eq, sFor_eq, sRaise_eq, eBin_eq, eUn_eq, eVar_eq, eC_eq, eTup_eq, eLst_eq, eCall_eq, eCallB_eq, eMth_eq, eIf_eq, eAnd_eq, eOr_eq, eNot_eq, eSl_eq, pNo_eq, pSome_eq, eComp_eq, iVal_eq, iArgs_eq, aNil_eq, aCons_eq, tVal_eq, tAnd_eq, tOr_eq, tNot_eq, tTru_eq, truth_bl, truth_non, get_0, get_S, Option.join_some, ofO_some, Res.bind_ok, Res.thn_ok, SR.bind_nx, SR.bind_ret, SR.res_ret, SR.res_nx, List.set_cons_succ, List.set_cons_zero, if_true, Bool.false_eq_true, if_false, typ_str, gTpl_eq, gsCons_eq, gsNil_eq, gNam_eq, Option.bind_some, Bool.not_true, Bool.not_false, List.replicate, fn_1, fn_2, fn_3, fn_4, oEq_str, oNe_str, oEq_int, oNe_int, oAdd_int, oSub_int, oLt_int, oGt_int, oLe_int, oGe_int, oIsN_eq, oNeg_int, bLen_str, oIn_ch, oNin_ch, S_e, S_0, S_9, S_mi, S_po, S_zs9, S_num, S_ed, S_text, decide_eq_true, decide_eq_false, beqI_t, beqI_f, szOk_of, List.length_cons, List.length_nil, Nat.reduceAdd, S_v, sp]
  refine ⟨h ++ [.lst ((cutAt 118 [] (numB t)).map .str)], Ext.one _ _, ?_⟩
  show SR.res (B_v_number [some (.str t), none, none, none, none] h) = _
  unfold B_v_number
  rw [sSeq_eq, e1, SR.bind_nx, sSeq_eq, e2, SR.bind_nx, sSeq_eq, e3, SR.bind_nx]
  unfold numS
  generalize decide (t.take 1 = [115]) = sg at *
  have g1 : (h ++ [Obj.lst ((cutAt 118 [] (numB t)).map .str)])[h.length]? = some (.lst ((cutAt 118 [] (numB t)).map .str)) := get_new _ _
  have ln := bLen_ref g1
  have jn : ((cutAt 118 [] (numB t)).map List.length).sum ≤ 2000 → mJoin (.str []) [.ref h.length] (h ++ [Obj.lst ((cutAt 118 [] (numB t)).map .str)]) = some (.str ((cutAt 118 [] (numB t)).flatten), h ++ [Obj.lst ((cutAt 118 [] (numB t)).map .str)]) := fun z => by
    rw [mJoin_ref g1 (by simp; omega), joinL_nil]
  have ty := typ_lst g1
  generalize hh : h ++ [Obj.lst ((cutAt 118 [] (numB t)).map .str)] = h1 at *
  generalize h.length = n0 at *
  cases e : cutAt 118 [] (numB t) with
  | nil => exact absurd e (cutAt_ne _ _ _)
  | cons p ps =>
    rw [e] at g1 ln jn su
    have ix0 : oIdx h1 (.ref n0) (.int 0) = some (.str p) := by rw [oIdx_ref g1]; exact atI_zero _ _
    cases ps with
    | nil =>
      simp only [List.map_cons, List.map_nil, List.sum_cons, List.sum_nil, List.length_cons, List.length_nil, List.flatten_cons, List.flatten_nil, List.append_nil] at su jn ln
      have jn := jn (by omega)
      have c1 : ((0 + 1 : Nat) : Int) = 1 := rfl
      have on := only_ok p [57] h1
      cases a : allIn p [57] with
      | false =>
        rw [a] at on
        simp (disch := omega) only [sSeq_eq, sSet_eq, sIf_eq, sRet_eq, sNop_eq, sExpr_eq, sAsg_eq, sAug_eq, sFor_eq, sRaise_eq, eBin_eq, eUn_eq, eVar_eq, eC_eq, eTup_eq, eLst_eq, eCall_eq, eCallB_eq, eMth_eq, eIf_eq, eAnd_eq, eOr_eq, eNot_eq, eSl_eq, pNo_eq, pSome_eq, eComp_eq, iVal_eq, iArgs_eq, aNil_eq, aCons_eq, tVal_eq, tAnd_eq, tOr_eq, tNot_eq, tTru_eq, truth_bl, truth_non, get_0, get_S, Option.join_some, ofO_some, Res.bind_ok, Res.thn_ok, SR.bind_nx, SR.bind_ret, SR.res_ret, SR.res_nx, List.set_cons_succ, List.set_cons_zero, if_true, Bool.false_eq_true, if_false, typ_str, gTpl_eq, gsCons_eq, gsNil_eq, gNam_eq, Option.bind_some, Bool.not_true, Bool.not_false, List.replicate, fn_1, fn_2, fn_3, fn_4, oEq_str, oNe_str, oEq_int, oNe_int, oAdd_int, oSub_int, oLt_int, oGt_int, oLe_int, oGe_int, oIsN_eq, oNeg_int, bLen_str, oIn_ch, oNin_ch, S_e, S_0, S_9, S_mi, S_po, S_zs9, S_num, S_ed, S_text, decide_eq_true, decide_eq_false, beqI_t, beqI_f, szOk_of, List.length_cons, List.length_nil, Nat.reduceAdd, ln, jn, on]
        rw [if_neg (fun z => by rw [a] at z; cases z.1)]
      | true =>
        rw [a] at on
        by_cases q1 : 1 ≤ p.length
        · by_cases q2 : p.length ≤ 18
          · simp (disch := omega) only [sSeq_eq, sSet_eq, sIf_eq, sRet_eq, sNop_eq, sExpr_eq, sAsg_eq, sAug_eq, sFor_eq, sRaise_eq, eBin_eq, eUn_eq, eVar_eq, eC_eq, eTup_eq, eLst_eq, eCall_eq, eCallB_eq, eMth_eq, eIf_eq, eAnd_eq, eOr_eq, eNot_eq, eSl_eq, pNo_eq, pSome_eq, eComp_eq, iVal_eq, iArgs_eq, aNil_eq, aCons_eq, tVal_eq, tAnd_eq, tOr_eq, tNot_eq, tTru_eq, truth_bl, truth_non, get_0, get_S, Option.join_some, ofO_some, Res.bind_ok, Res.thn_ok, SR.bind_nx, SR.bind_ret, SR.res_ret, SR.res_nx, List.set_cons_succ, List.set_cons_zero, if_true, Bool.false_eq_true, if_false, typ_str, gTpl_eq, gsCons_eq, gsNil_eq, gNam_eq, Option.bind_some, Bool.not_true, Bool.not_false, List.replicate, fn_1, fn_2, fn_3, fn_4, oEq_str, oNe_str, oEq_int, oNe_int, oAdd_int, oSub_int, oLt_int, oGt_int, oLe_int, oGe_int, oIsN_eq, oNeg_int, bLen_str, oIn_ch, oNin_ch, S_e, S_0, S_9, S_mi, S_po, S_zs9, S_num, S_ed, S_text, decide_eq_true, decide_eq_false, beqI_t, beqI_f, szOk_of, List.length_cons, List.length_nil, Nat.reduceAdd, ln, jn, on, T_v_number_1, ix0, c_MOST_DIGITS]
            rw [if_pos ⟨a, q1, q2⟩]
          · simp (disch := omega) only [sSeq_eq, sSet_eq, sIf_eq, sRet_eq, sNop_eq, sExpr_eq, sAsg_eq, sAug_eq, sFor_eq, sRaise_eq, eBin_eq, eUn_eq, eVar_eq, eC_eq, eTup_eq, eLst_eq, eCall_eq, eCallB_eq, eMth_eq, eIf_eq, eAnd_eq, eOr_eq, eNot_eq, eSl_eq, pNo_eq, pSome_eq, eComp_eq, iVal_eq, iArgs_eq, aNil_eq, aCons_eq, tVal_eq, tAnd_eq, tOr_eq, tNot_eq, tTru_eq, truth_bl, truth_non, get_0, get_S, Option.join_some, ofO_some, Res.bind_ok, Res.thn_ok, SR.bind_nx, SR.bind_ret, SR.res_ret, SR.res_nx, List.set_cons_succ, List.set_cons_zero, if_true, Bool.false_eq_true, if_false, typ_str, gTpl_eq, gsCons_eq, gsNil_eq, gNam_eq, Option.bind_some, Bool.not_true, Bool.not_false, List.replicate, fn_1, fn_2, fn_3, fn_4, oEq_str, oNe_str, oEq_int, oNe_int, oAdd_int, oSub_int, oLt_int, oGt_int, oLe_int, oGe_int, oIsN_eq, oNeg_int, bLen_str, oIn_ch, oNin_ch, S_e, S_0, S_9, S_mi, S_po, S_zs9, S_num, S_ed, S_text, decide_eq_true, decide_eq_false, beqI_t, beqI_f, szOk_of, List.length_cons, List.length_nil, Nat.reduceAdd, ln, jn, on, T_v_number_1, ix0, c_MOST_DIGITS]
            rw [if_neg (fun z => q2 z.2.2)]
        · simp (disch := omega) only [sSeq_eq, sSet_eq, sIf_eq, sRet_eq, sNop_eq, sExpr_eq, sAsg_eq, sAug_eq, sFor_eq, sRaise_eq, eBin_eq, eUn_eq, eVar_eq, eC_eq, eTup_eq, eLst_eq, eCall_eq, eCallB_eq, eMth_eq, eIf_eq, eAnd_eq, eOr_eq, eNot_eq, eSl_eq, pNo_eq, pSome_eq, eComp_eq, iVal_eq, iArgs_eq, aNil_eq, aCons_eq, tVal_eq, tAnd_eq, tOr_eq, tNot_eq, tTru_eq, truth_bl, truth_non, get_0, get_S, Option.join_some, ofO_some, Res.bind_ok, Res.thn_ok, SR.bind_nx, SR.bind_ret, SR.res_ret, SR.res_nx, List.set_cons_succ, List.set_cons_zero, if_true, Bool.false_eq_true, if_false, typ_str, gTpl_eq, gsCons_eq, gsNil_eq, gNam_eq, Option.bind_some, Bool.not_true, Bool.not_false, List.replicate, fn_1, fn_2, fn_3, fn_4, oEq_str, oNe_str, oEq_int, oNe_int, oAdd_int, oSub_int, oLt_int, oGt_int, oLe_int, oGe_int, oIsN_eq, oNeg_int, bLen_str, oIn_ch, oNin_ch, S_e, S_0, S_9, S_mi, S_po, S_zs9, S_num, S_ed, S_text, decide_eq_true, decide_eq_false, beqI_t, beqI_f, szOk_of, List.length_cons, List.length_nil, Nat.reduceAdd, ln, jn, on, T_v_number_1, ix0, c_MOST_DIGITS]
          rw [if_neg (fun z => q1 z.2.1)]
    | cons q rs =>
      have ix1 : oIdx h1 (.ref n0) (.int 1) = some (.str q) := by rw [oIdx_ref g1]; exact atI_one _ _ _
      cases rs with
      | nil =>
        simp only [List.map_cons, List.map_nil, List.sum_cons, List.sum_nil, List.length_cons, List.length_nil, List.flatten_cons, List.flatten_nil, List.append_nil] at su jn ln
        have jn := jn (by omega)
        have on := only_ok (p ++ q) [57] h1
        cases a : allIn (p ++ q) [57] with
        | false =>
          rw [a] at on
          simp (disch := omega) only [sSeq_eq, sSet_eq, sIf_eq, sRet_eq, sNop_eq, sExpr_eq, sAsg_eq, sAug_eq, sFor_eq, sRaise_eq, eBin_eq, eUn_eq, eVar_eq, eC_eq, eTup_eq, eLst_eq, eCall_eq, eCallB_eq, eMth_eq, eIf_eq, eAnd_eq, eOr_eq, eNot_eq, eSl_eq, pNo_eq, pSome_eq, eComp_eq, iVal_eq, iArgs_eq, aNil_eq, aCons_eq, tVal_eq, tAnd_eq, tOr_eq, tNot_eq, tTru_eq, truth_bl, truth_non, get_0, get_S, Option.join_some, ofO_some, Res.bind_ok, Res.thn_ok, SR.bind_nx, SR.bind_ret, SR.res_ret, SR.res_nx, List.set_cons_succ, List.set_cons_zero, if_true, Bool.false_eq_true, if_false, typ_str, gTpl_eq, gsCons_eq, gsNil_eq, gNam_eq, Option.bind_some, Bool.not_true, Bool.not_false, List.replicate, fn_1, fn_2, fn_3, fn_4, oEq_str, oNe_str, oEq_int, oNe_int, oAdd_int, oSub_int, oLt_int, oGt_int, oLe_int, oGe_int, oIsN_eq, oNeg_int, bLen_str, oIn_ch, oNin_ch, S_e, S_0, S_9, S_mi, S_po, S_zs9, S_num, S_ed, S_text, decide_eq_true, decide_eq_false, beqI_t, beqI_f, szOk_of, List.length_cons, List.length_nil, Nat.reduceAdd, ln, jn, on]
          rw [if_neg (fun z => by rw [a] at z; cases z.1)]
        | true =>
          rw [a] at on
          by_cases q1 : q = []
          · subst q1
            simp (disch := omega) only [sSeq_eq, sSet_eq, sIf_eq, sRet_eq, sNop_eq, sExpr_eq, sAsg_eq, sAug_eq, sFor_eq, sRaise_eq, eBin_eq, eUn_eq, eVar_eq, eC_eq, eTup_eq, eLst_eq, eCall_eq, eCallB_eq, eMth_eq, eIf_eq, eAnd_eq, eOr_eq, eNot_eq, eSl_eq, pNo_eq, pSome_eq, eComp_eq, iVal_eq, iArgs_eq, aNil_eq, aCons_eq, tVal_eq, tAnd_eq, tOr_eq, tNot_eq, tTru_eq, truth_bl, truth_non, get_0, get_S, Option.join_some, ofO_some, Res.bind_ok, Res.thn_ok, SR.bind_nx, SR.bind_ret, SR.res_ret, SR.res_nx, List.set_cons_succ, List.set_cons_zero, if_true, Bool.false_eq_true, if_false, typ_str, gTpl_eq, gsCons_eq, gsNil_eq, gNam_eq, Option.bind_some, Bool.not_true, Bool.not_false, List.replicate, fn_1, fn_2, fn_3, fn_4, oEq_str, oNe_str, oEq_int, oNe_int, oAdd_int, oSub_int, oLt_int, oGt_int, oLe_int, oGe_int, oIsN_eq, oNeg_int, bLen_str, oIn_ch, oNin_ch, S_e, S_0, S_9, S_mi, S_po, S_zs9, S_num, S_ed, S_text, decide_eq_true, decide_eq_false, beqI_t, beqI_f, szOk_of, List.length_cons, List.length_nil, Nat.reduceAdd, ln, jn, on, ix1, show (([] : List Nat) == []) = true from rfl]
            rw [if_neg (fun z => z.2.1 rfl)]
          · have q1' : (q == []) = false := beq_false_of_ne q1
            have q0 : 1 ≤ q.length := List.length_pos_iff.mpr q1
            by_cases q2 : p.length + q.length ≤ 18
            · simp (disch := omega) only [sSeq_eq, sSet_eq, sIf_eq, sRet_eq, sNop_eq, sExpr_eq, sAsg_eq, sAug_eq, sFor_eq, sRaise_eq, eBin_eq, eUn_eq, eVar_eq, eC_eq, eTup_eq, eLst_eq, eCall_eq, eCallB_eq, eMth_eq, eIf_eq, eAnd_eq, eOr_eq, eNot_eq, eSl_eq, pNo_eq, pSome_eq, eComp_eq, iVal_eq, iArgs_eq, aNil_eq, aCons_eq, tVal_eq, tAnd_eq, tOr_eq, tNot_eq, tTru_eq, truth_bl, truth_non, get_0, get_S, Option.join_some, ofO_some, Res.bind_ok, Res.thn_ok, SR.bind_nx, SR.bind_ret, SR.res_ret, SR.res_nx, List.set_cons_succ, List.set_cons_zero, if_true, Bool.false_eq_true, if_false, typ_str, gTpl_eq, gsCons_eq, gsNil_eq, gNam_eq, Option.bind_some, Bool.not_true, Bool.not_false, List.replicate, fn_1, fn_2, fn_3, fn_4, oEq_str, oNe_str, oEq_int, oNe_int, oAdd_int, oSub_int, oLt_int, oGt_int, oLe_int, oGe_int, oIsN_eq, oNeg_int, bLen_str, oIn_ch, oNin_ch, S_e, S_0, S_9, S_mi, S_po, S_zs9, S_num, S_ed, S_text, decide_eq_true, decide_eq_false, beqI_t, beqI_f, szOk_of, List.length_cons, List.length_nil, Nat.reduceAdd, ln, jn, on, T_v_number_1, ix0, ix1, c_MOST_DIGITS, q1']
              rw [if_pos ⟨a, q1, q2⟩]
            · simp (disch := omega) only [sSeq_eq, sSet_eq, sIf_eq, sRet_eq, sNop_eq, sExpr_eq, sAsg_eq, sAug_eq, sFor_eq, sRaise_eq, eBin_eq, eUn_eq, eVar_eq, eC_eq, eTup_eq, eLst_eq, eCall_eq, eCallB_eq, eMth_eq, eIf_eq, eAnd_eq, eOr_eq, eNot_eq, eSl_eq, pNo_eq, pSome_eq, eComp_eq, iVal_eq, iArgs_eq, aNil_eq, aCons_eq, tVal_eq, tAnd_eq, tOr_eq, tNot_eq, tTru_eq, truth_bl, truth_non, get_0, get_S, Option.join_some, ofO_some, Res.bind_ok, Res.thn_ok, SR.bind_nx, SR.bind_ret, SR.res_ret, SR.res_nx, List.set_cons_succ, List.set_cons_zero, if_true, Bool.false_eq_true, if_false, typ_str, gTpl_eq, gsCons_eq, gsNil_eq, gNam_eq, Option.bind_some, Bool.not_true, Bool.not_false, List.replicate, fn_1, fn_2, fn_3, fn_4, oEq_str, oNe_str, oEq_int, oNe_int, oAdd_int, oSub_int, oLt_int, oGt_int, oLe_int, oGe_int, oIsN_eq, oNeg_int, bLen_str, oIn_ch, oNin_ch, S_e, S_0, S_9, S_mi, S_po, S_zs9, S_num, S_ed, S_text, decide_eq_true, decide_eq_false, beqI_t, beqI_f, szOk_of, List.length_cons, List.length_nil, Nat.reduceAdd, ln, jn, on, T_v_number_1, ix0, ix1, c_MOST_DIGITS, q1']
              rw [if_neg (fun z => q2 z.2.2)]
      | cons r rest =>
        simp only [List.map_cons, List.length_cons] at ln
        simp (disch := omega) only [sSeq_eq, sSet_eq, sIf_eq, sRet_eq, sNop_eq, sExpr_eq, sAsg_eq, sAug_eq, sFor_eq, sRaise_eq, eBin_eq, eUn_eq, eVar_eq, eC_eq, eTup_eq, eLst_eq, eCall_eq, eCallB_eq, eMth_eq, eIf_eq, eAnd_eq, eOr_eq, eNot_eq, eSl_eq, pNo_eq, pSome_eq, eComp_eq, iVal_eq, iArgs_eq, aNil_eq, aCons_eq, tVal_eq, tAnd_eq, tOr_eq, tNot_eq, tTru_eq, truth_bl, truth_non, get_0, get_S, Option.join_some, ofO_some, Res.bind_ok, Res.thn_ok, SR.bind_nx, SR.bind_ret, SR.res_ret, SR.res_nx, List.set_cons_succ, List.set_cons_zero, if_true, Bool.false_eq_true, if_false, typ_str, gTpl_eq, gsCons_eq, gsNil_eq, gNam_eq, Option.bind_some, Bool.not_true, Bool.not_false, List.replicate, fn_1, fn_2, fn_3, fn_4, oEq_str, oNe_str, oEq_int, oNe_int, oAdd_int, oSub_int, oLt_int, oGt_int, oLe_int, oGe_int, oIsN_eq, oNeg_int, bLen_str, oIn_ch, oNin_ch, S_e, S_0, S_9, S_mi, S_po, S_zs9, S_num, S_ed, S_text, decide_eq_true, decide_eq_false, beqI_t, beqI_f, szOk_of, List.length_cons, List.length_nil, Nat.reduceAdd, ln]
theorem atI_neg1 {α : Type} (xs : List α) (x : α) : atI (xs ++ [x]) (-1) = some x := by
  have i : ixN (xs.length + 1) (-1) = some xs.length := by
    unfold ixN
    rw [if_neg (by omega), if_pos (by omega)]
    congr 1
    omega
  unfold atI
  simp [i]
end Law

set_option maxRecDepth 100000
set_option maxHeartbeats 1000000
set_option linter.all false
/-! Pe: the readers of edited pictures -/
namespace Law
open Cd Mir
@[simp] theorem S_cr : S "cr" = [99, 114] := by decide
@[simp] theorem S_db : S "db" = [100, 98] := by decide
@[simp] theorem S_pl : S "+" = [43] := by decide
@[simp] theorem S_z : S "z" = [122] := by decide
@[simp] theorem S_st : S "*" = [42] := by decide
@[simp] theorem S_ins : S ",b0/" = [44, 98, 48, 47] := by decide
@[simp] theorem S_marks : S "z*9,b0/." = [122, 42, 57, 44, 98, 48, 47, 46] := by decide
@[simp] theorem S_marks7 : S "z*9,b0/" = [122, 42, 57, 44, 98, 48, 47] := by decide
def tl2 (t : List Nat) : List Nat := t.drop (t.length - 2)
def tl1 (t : List Nat) : List Nat := t.drop (t.length - 1)
def isEnd (t : List Nat) : Bool := tl2 t == [99, 114] || tl2 t == [100, 98]
def isPM (t : List Nat) : Bool := t == [45] || t == [43]
def sgS (t : List Nat) : List Nat × List Nat :=
  if isEnd t then (t.take (t.length - 2), tl2 t)
  else if isPM (t.take 1) then (t.drop 1, t.take 1)
  else if isPM (tl1 t) then (t.take (t.length - 1), 46 :: tl1 t)
  else (t, [])
theorem ends2 (s : List Nat) (a b : Nat) (h : Hep) : mEnds (.str s) [.str [a, b]] h = some (.bl (tl2 s == [a, b]), h) := by
  rw [mEnds_eq]
  have e : (decide (([a, b] : List Nat).length ≤ s.length) && decide (s.drop (s.length - ([a, b] : List Nat).length) = [a, b])) = (tl2 s == [a, b]) := by
    show (decide (2 ≤ s.length) && decide (s.drop (s.length - 2) = [a, b])) = (s.drop (s.length - 2) == [a, b])
    by_cases q : s.drop (s.length - 2) = [a, b]
    · have := congrArg List.length q
      rw [List.length_drop] at this
      simp only [List.length_cons, List.length_nil] at this
      rw [q, decide_eq_true (by omega : 2 ≤ s.length)]
      simp
    · rw [decide_eq_false q, Bool.and_false]
      exact (beq_false_of_ne q).symm
  rw [e]
theorem ends1 (s : List Nat) (a : Nat) (h : Hep) : mEnds (.str s) [.str [a]] h = some (.bl (tl1 s == [a]), h) := by
  rw [mEnds_eq]
  have e : (decide (([a] : List Nat).length ≤ s.length) && decide (s.drop (s.length - ([a] : List Nat).length) = [a])) = (tl1 s == [a]) := by
    show (decide (1 ≤ s.length) && decide (s.drop (s.length - 1) = [a])) = (s.drop (s.length - 1) == [a])
    by_cases q : s.drop (s.length - 1) = [a]
    · have := congrArg List.length q
      rw [List.length_drop] at this
      simp only [List.length_cons, List.length_nil] at this
      rw [q, decide_eq_true (by omega : 1 ≤ s.length)]
      simp
    · rw [decide_eq_false q, Bool.and_false]
      exact (beq_false_of_ne q).symm
  rw [e]
theorem cutN2 (t : List Nat) : cut t none (some (-2)) = t.take (t.length - 2) := cutToN t 2 (by decide)
theorem cutN1 (t : List Nat) : cut t none (some (-1)) = t.take (t.length - 1) := cutToN t 1 (by decide)
theorem cutF2 (t : List Nat) : cut t (some (-2)) none = tl2 t := cutFromN t 2 (by decide)
theorem cutF1 (t : List Nat) : cut t (some (-1)) none = tl1 t := cutFromN t 1 (by decide)
theorem last_ix {t : List Nat} (t0 : t ≠ []) : ∃ c, atI t (-1) = some c ∧ tl1 t = [c] := by
  obtain ⟨r, c, rfl⟩ : ∃ r c, t = r ++ [c] := ⟨t.dropLast, t.getLast t0, (List.dropLast_concat_getLast t0).symm⟩
  refine ⟨c, atI_neg1 r c, ?_⟩
  unfold tl1
  simp
theorem first_ix {t : List Nat} (t0 : t ≠ []) : ∃ c, atI t 0 = some c ∧ t.take 1 = [c] := by
  cases t with
  | nil => exact absurd rfl t0
  | cons c r => exact ⟨c, atI_zero _ _, rfl⟩
theorem sgS_len (t : List Nat) : (sgS t).1.length ≤ t.length ∧ (sgS t).2.length ≤ 3 := by
  unfold sgS tl2 tl1
  repeat' split
  all_goals simp only [List.length_take, List.length_drop, List.length_cons, List.length_nil]
  all_goals omega
theorem signs_ok (t : List Nat) (t0 : t ≠ []) (tl : t.length ≤ 2000) (h : Hep) : M_v_signs [.str t] h = .ok (.tup [.str (sgS t).1, .str (sgS t).2]) h := by
  obtain ⟨c, c1, c2⟩ := first_ix t0
  obtain ⟨d, d1, d2⟩ := last_ix t0
  have i0 : oIdx h (.str t) (.int 0) = some (.str (t.take 1)) := by rw [oIdx_str (by omega) c1, c2]
  have i1 : oIdx h (.str t) (.int (-1)) = some (.str (tl1 t)) := by rw [oIdx_str (by omega) d1, d2]
  have s1 : oSl h (.str t) none (some (-2)) = some (.str (t.take (t.length - 2)), h) := by rw [oSl_str (by omega), cutN2]
  have s2 : oSl h (.str t) (some (-2)) none = some (.str (tl2 t), h) := by rw [oSl_str (by omega), cutF2]
  have s3 : oSl h (.str t) (some 1) none = some (.str (t.drop 1), h) := by rw [oSl_str (by omega), cutFrom1]
  have s4 : oSl h (.str t) none (some (-1)) = some (.str (t.take (t.length - 1)), h) := by rw [oSl_str (by omega), cutN1]
  have a1 : oAdd h (.str [46]) (.str (tl1 t)) = some (.str (46 :: tl1 t)) := by rw [oAdd_str (by rw [d2]; simp)]; rfl
  unfold sgS isEnd isPM
  cases q1 : (tl2 t == [99, 114]) with
  | true => simp (disch := omega) only [sSeq_eq, sSet_eq, sIf_eq, sRet_eq, sNop_eq, sExpr_eq, sAsg_eq, sAug_eq, sFor_eq, sRaise_eq, eBin_eq, eUn_eq, eVar_eq, eC_eq, eTup_eq, eLst_eq, eCall_eq, eCallB_eq, eMth_eq, eIf_eq, eAnd_eq, eOr_eq, eNot_eq, eSl_eq, pNo_eq, pSome_eq, eComp_eq, iVal_eq, iArgs_eq, aNil_eq, aCons_eq, tVal_eq, tAnd_eq, tOr_eq, tNot_eq, tTru_eq, truth_bl, truth_non, get_0, get_S, Option.join_some, ofO_some, Res.bind_ok, Res.thn_ok, SR.bind_nx, SR.bind_ret, SR.res_ret, SR.res_nx, List.set_cons_succ, List.set_cons_zero, if_true, Bool.false_eq_true, if_false, typ_str, gTpl_eq, gsCons_eq, gsNil_eq, gNam_eq, Option.bind_some, Bool.not_true, Bool.not_false, List.replicate, fn_1, fn_2, fn_3, fn_4, oEq_str, oNe_str, oEq_int, oNe_int, oAdd_int, oSub_int, oLt_int, oGt_int, oLe_int, oGe_int, oIsN_eq, oNeg_int, bLen_str, oIn_ch, oNin_ch, S_e, S_0, S_9, S_mi, S_po, S_zs9, S_num, S_ed, S_text, decide_eq_true, decide_eq_false, beqI_t, beqI_f, szOk_of, List.length_cons, List.length_nil, Nat.reduceAdd, M_v_signs, B_v_signs, S_cr, S_db, S_pl, ends2, ends1, q1, s1, s2, Bool.true_or]
  | false =>
    cases q2 : (tl2 t == [100, 98]) with
    | true => simp (disch := omega) only [sSeq_eq, sSet_eq, sIf_eq, sRet_eq, sNop_eq, sExpr_eq, sAsg_eq, sAug_eq, sFor_eq, sRaise_eq, eBin_eq, eUn_eq, eVar_eq, eC_eq, eTup_eq, eLst_eq, eCall_eq, eCallB_eq, eMth_eq, eIf_eq, eAnd_eq, eOr_eq, eNot_eq, eSl_eq, pNo_eq, pSome_eq, eComp_eq, iVal_eq, iArgs_eq, aNil_eq, aCons_eq, tVal_eq, tAnd_eq, tOr_eq, tNot_eq, tTru_eq, truth_bl, truth_non, get_0, get_S, Option.join_some, ofO_some, Res.bind_ok, Res.thn_ok, SR.bind_nx, SR.bind_ret, SR.res_ret, SR.res_nx, List.set_cons_succ, List.set_cons_zero, if_true, Bool.false_eq_true, if_false, typ_str, gTpl_eq, gsCons_eq, gsNil_eq, gNam_eq, Option.bind_some, Bool.not_true, Bool.not_false, List.replicate, fn_1, fn_2, fn_3, fn_4, oEq_str, oNe_str, oEq_int, oNe_int, oAdd_int, oSub_int, oLt_int, oGt_int, oLe_int, oGe_int, oIsN_eq, oNeg_int, bLen_str, oIn_ch, oNin_ch, S_e, S_0, S_9, S_mi, S_po, S_zs9, S_num, S_ed, S_text, decide_eq_true, decide_eq_false, beqI_t, beqI_f, szOk_of, List.length_cons, List.length_nil, Nat.reduceAdd, M_v_signs, B_v_signs, S_cr, S_db, S_pl, ends2, ends1, q1, q2, s1, s2, Bool.or_true]
    | false =>
      cases q3 : (t.take 1 == [45]) with
      | true => simp (disch := omega) only [sSeq_eq, sSet_eq, sIf_eq, sRet_eq, sNop_eq, sExpr_eq, sAsg_eq, sAug_eq, sFor_eq, sRaise_eq, eBin_eq, eUn_eq, eVar_eq, eC_eq, eTup_eq, eLst_eq, eCall_eq, eCallB_eq, eMth_eq, eIf_eq, eAnd_eq, eOr_eq, eNot_eq, eSl_eq, pNo_eq, pSome_eq, eComp_eq, iVal_eq, iArgs_eq, aNil_eq, aCons_eq, tVal_eq, tAnd_eq, tOr_eq, tNot_eq, tTru_eq, truth_bl, truth_non, get_0, get_S, Option.join_some, ofO_some, Res.bind_ok, Res.thn_ok, SR.bind_nx, SR.bind_ret, SR.res_ret, SR.res_nx, List.set_cons_succ, List.set_cons_zero, if_true, Bool.false_eq_true, if_false, typ_str, gTpl_eq, gsCons_eq, gsNil_eq, gNam_eq, Option.bind_some, Bool.not_true, Bool.not_false, List.replicate, fn_1, fn_2, fn_3, fn_4, oEq_str, oNe_str, oEq_int, oNe_int, oAdd_int, oSub_int, oLt_int, oGt_int, oLe_int, oGe_int, oIsN_eq, oNeg_int, bLen_str, oIn_ch, oNin_ch, S_e, S_0, S_9, S_mi, S_po, S_zs9, S_num, S_ed, S_text, decide_eq_true, decide_eq_false, beqI_t, beqI_f, szOk_of, List.length_cons, List.length_nil, Nat.reduceAdd, M_v_signs, B_v_signs, S_cr, S_db, S_pl, ends2, ends1, q1, q2, q3, i0, s3, Bool.or_false, Bool.true_or]
      | false =>
        cases q4 : (t.take 1 == [43]) with
        | true => simp (disch := omega) only [sSeq_eq, sSet_eq, sIf_eq, sRet_eq, sNop_eq, sExpr_eq, sAsg_eq, sAug_eq, sFor_eq, sRaise_eq, eBin_eq, eUn_eq, eVar_eq, eC_eq, eTup_eq, eLst_eq, eCall_eq, eCallB_eq, eMth_eq, eIf_eq, eAnd_eq, eOr_eq, eNot_eq, eSl_eq, pNo_eq, pSome_eq, eComp_eq, iVal_eq, iArgs_eq, aNil_eq, aCons_eq, tVal_eq, tAnd_eq, tOr_eq, tNot_eq, tTru_eq, truth_bl, truth_non, get_0, get_S, Option.join_some, ofO_some, Res.bind_ok, Res.thn_ok, SR.bind_nx, SR.bind_ret, SR.res_ret, SR.res_nx, List.set_cons_succ, List.set_cons_zero, if_true, Bool.false_eq_true, if_false, typ_str, gTpl_eq, gsCons_eq, gsNil_eq, gNam_eq, Option.bind_some, Bool.not_true, Bool.not_false, List.replicate, fn_1, fn_2, fn_3, fn_4, oEq_str, oNe_str, oEq_int, oNe_int, oAdd_int, oSub_int, oLt_int, oGt_int, oLe_int, oGe_int, oIsN_eq, oNeg_int, bLen_str, oIn_ch, oNin_ch, S_e, S_0, S_9, S_mi, S_po, S_zs9, S_num, S_ed, S_text, decide_eq_true, decide_eq_false, beqI_t, beqI_f, szOk_of, List.length_cons, List.length_nil, Nat.reduceAdd, M_v_signs, B_v_signs, S_cr, S_db, S_pl, ends2, ends1, q1, q2, q3, q4, i0, s3, Bool.or_false, Bool.or_true]
        | false =>
          cases q5 : (tl1 t == [45]) with
          | true => simp (disch := omega) only [sSeq_eq, sSet_eq, sIf_eq, sRet_eq, sNop_eq, sExpr_eq, sAsg_eq, sAug_eq, sFor_eq, sRaise_eq, eBin_eq, eUn_eq, eVar_eq, eC_eq, eTup_eq, eLst_eq, eCall_eq, eCallB_eq, eMth_eq, eIf_eq, eAnd_eq, eOr_eq, eNot_eq, eSl_eq, pNo_eq, pSome_eq, eComp_eq, iVal_eq, iArgs_eq, aNil_eq, aCons_eq, tVal_eq, tAnd_eq, tOr_eq, tNot_eq, tTru_eq, truth_bl, truth_non, get_0, get_S, Option.join_some, ofO_some, Res.bind_ok, Res.thn_ok, SR.bind_nx, SR.bind_ret, SR.res_ret, SR.res_nx, List.set_cons_succ, List.set_cons_zero, if_true, Bool.false_eq_true, if_false, typ_str, gTpl_eq, gsCons_eq, gsNil_eq, gNam_eq, Option.bind_some, Bool.not_true, Bool.not_false, List.replicate, fn_1, fn_2, fn_3, fn_4, oEq_str, oNe_str, oEq_int, oNe_int, oAdd_int, oSub_int, oLt_int, oGt_int, oLe_int, oGe_int, oIsN_eq, oNeg_int, bLen_str, oIn_ch, oNin_ch, S_e, S_0, S_9, S_mi, S_po, S_zs9, S_num, S_ed, S_text, decide_eq_true, decide_eq_false, beqI_t, beqI_f, szOk_of, List.length_cons, List.length_nil, Nat.reduceAdd, M_v_signs, B_v_signs, S_cr, S_db, S_pl, ends2, ends1, q1, q2, q3, q4, q5, i0, i1, s4, a1, Bool.or_false, Bool.or_true, Bool.true_or]
          | false =>
            cases q6 : (tl1 t == [43]) with
            | true => simp (disch := omega) only [sSeq_eq, sSet_eq, sIf_eq, sRet_eq, sNop_eq, sExpr_eq, sAsg_eq, sAug_eq, sFor_eq, sRaise_eq, eBin_eq, eUn_eq, eVar_eq, eC_eq, eTup_eq, eLst_eq, eCall_eq, eCallB_eq, eMth_eq, eIf_eq, eAnd_eq, eOr_eq, eNot_eq, eSl_eq, pNo_eq, pSome_eq, eComp_eq, iVal_eq, iArgs_eq, aNil_eq, aCons_eq, tVal_eq, tAnd_eq, tOr_eq, tNot_eq, tTru_eq, truth_bl, truth_non, get_0, get_S, Option.join_some, ofO_some, Res.bind_ok, Res.thn_ok, SR.bind_nx, SR.bind_ret, SR.res_ret, SR.res_nx, List.set_cons_succ, List.set_cons_zero, if_true, Bool.false_eq_true, if_false, typ_str, gTpl_eq, gsCons_eq, gsNil_eq, gNam_eq, Option.bind_some, Bool.not_true, Bool.not_false, List.replicate, fn_1, fn_2, fn_3, fn_4, oEq_str, oNe_str, oEq_int, oNe_int, oAdd_int, oSub_int, oLt_int, oGt_int, oLe_int, oGe_int, oIsN_eq, oNeg_int, bLen_str, oIn_ch, oNin_ch, S_e, S_0, S_9, S_mi, S_po, S_zs9, S_num, S_ed, S_text, decide_eq_true, decide_eq_false, beqI_t, beqI_f, szOk_of, List.length_cons, List.length_nil, Nat.reduceAdd, M_v_signs, B_v_signs, S_cr, S_db, S_pl, ends2, ends1, q1, q2, q3, q4, q5, q6, i0, i1, s4, a1, Bool.or_false, Bool.or_true]
            | false => simp (disch := omega) only [sSeq_eq, sSet_eq, sIf_eq, sRet_eq, sNop_eq, sExpr_eq, sAsg_eq, sAug_eq, sFor_eq, sRaise_eq, eBin_eq, eUn_eq, eVar_eq, eC_eq, eTup_eq, eLst_eq, eCall_eq, eCallB_eq, eMth_eq, eIf_eq, eAnd_eq, eOr_eq, eNot_eq, eSl_eq, pNo_eq, pSome_eq, eComp_eq, iVal_eq, iArgs_eq, aNil_eq, aCons_eq, tVal_eq, tAnd_eq, tOr_eq, tNot_eq, tTru_eq, truth_bl, truth_non, get_0, get_S, Option.join_some, ofO_some, Res.bind_ok, Res.thn_ok, SR.bind_nx, SR.bind_ret, SR.res_ret, SR.res_nx, List.set_cons_succ, List.set_cons_zero, if_true, Bool.false_eq_true, if_false, typ_str, gTpl_eq, gsCons_eq, gsNil_eq, gNam_eq, Option.bind_some, Bool.not_true, Bool.not_false, List.replicate, fn_1, fn_2, fn_3, fn_4, oEq_str, oNe_str, oEq_int, oNe_int, oAdd_int, oSub_int, oLt_int, oGt_int, oLe_int, oGe_int, oIsN_eq, oNeg_int, bLen_str, oIn_ch, oNin_ch, S_e, S_0, S_9, S_mi, S_po, S_zs9, S_num, S_ed, S_text, decide_eq_true, decide_eq_false, beqI_t, beqI_f, szOk_of, List.length_cons, List.length_nil, Nat.reduceAdd, M_v_signs, B_v_signs, S_cr, S_db, S_pl, ends2, ends1, q1, q2, q3, q4, q5, q6, i0, Bool.or_false]
/-! the body -/
def all9 (t : List Nat) : Bool := allIn t [57]
def shape (k : List Nat) : Bool := all9 (k.dropWhile fun c => [122].contains c) || all9 (k.dropWhile fun c => [42].contains c)
def fig (p : List Nat) : List Nat := p.filter fun c => decide (c ∈ [122, 42, 57])
def coreOk (p : List Nat) (f : Nat) : Bool := allIn p [122, 42, 57, 44, 98, 48, 47] && shape (fig p) && decide ((fig p).length + f ≤ 18)
def edV (m sign : List Nat) (p : List Nat) (f : Nat) : Val := if coreOk p f then .tup [.str [101, 100, 105, 116, 101, 100], .str m, .int (fig p).length, .int f, .str sign] else .non
def edM (m sign : List Nat) : Val := if allIn (m.take 1) [122, 42, 57] then
    match cutAt 46 [] m with
    | [p] => edV m sign p 0
    | [p, q] => if q ≠ [] ∧ all9 q = true then edV m sign p q.length else .non
    | _ => .non
  else .non
def edS (t : List Nat) : Val := if (sgS t).1 = [] then .non else edM (sgS t).1 (sgS t).2
theorem allIn_app (a b m : List Nat) : allIn (a ++ b) m = (allIn a m && allIn b m) := by unfold allIn; rw [List.all_append]
theorem allIn_sub {t m k : List Nat} (h : allIn t m = true) (s : ∀ c ∈ m, c ∈ k) : allIn t k = true := by
  unfold allIn at *
  rw [List.all_eq_true] at *
  exact fun c hc => decide_eq_true (s c (of_decide_eq_true (h c hc)))
theorem dot_out {p : List Nat} (h : 46 ∉ p) : allIn p [122, 42, 57, 44, 98, 48, 47, 46] = allIn p [122, 42, 57, 44, 98, 48, 47] := by
  unfold allIn
  rw [Bool.eq_iff_iff, List.all_eq_true, List.all_eq_true]
  constructor
  · intro z c hc
    have := of_decide_eq_true (z c hc)
    have ne : c ≠ 46 := fun e => h (e ▸ hc)
    refine decide_eq_true ?_
    simp only [List.mem_cons, List.not_mem_nil, or_false] at this ⊢
    omega
  · intro z c hc
    have := of_decide_eq_true (z c hc)
    refine decide_eq_true ?_
    simp only [List.mem_cons, List.not_mem_nil, or_false] at this ⊢
    omega
theorem fig_eq {p : List Nat} (h : allIn p [122, 42, 57, 44, 98, 48, 47] = true) : (p.filter fun c => !decide (c ∈ [44, 98, 48, 47])) = fig p := by
  unfold fig
  unfold allIn at h
  rw [List.all_eq_true] at h
  refine List.filter_congr fun c hc => ?_
  have := of_decide_eq_true (h c hc)
  simp only [List.mem_cons, List.not_mem_nil, or_false] at this
  rcases this with rfl | rfl | rfl | rfl | rfl | rfl | rfl <;> rfl
def insF (p : List Nat) : List Nat := p.filter fun c => !decide (c ∈ [44, 98, 48, 47])
theorem comp_fil (i : Nat) (e : EM) (f : Nat → Bool) (p : List Nat) (η : Env) (h : Hep) (a0 : ∀ x, ((η.set i (some x))[i]?).join = some x)
    (he : ∀ c (η1 : Env), (η1[i]?).join = some (.str [c]) → e η1 h = .ok (.bl (f c)) h) :
    compL (gNam i) (fun _ => true) (tVal e) (eVar i) η (p.map fun c => .str [c]) h = .ok ((p.filter f).map fun c => .str [c]) h := by
  have c := compL_if (g := gNam i) (chk := fun _ => true) (c := tVal e) (e := eVar i) (η := η) (h := h) (f := fun x => x) (k := fun x => match x with | .str [c] => f c | _ => false) rfl (p.map fun c => .str [c]) (fun x hx => by
    obtain ⟨c, _, rfl⟩ := List.mem_map.mp hx
    refine ⟨_, rfl, ?_, ?_⟩
    · rw [tVal_eq, he c _ (a0 _)]
      rfl
    · simp only [eVar_eq, a0, ofO_some])
  rw [c, List.map_id', List.filter_map]
  rfl
theorem chars_sum (l : List Nat) : ((l.map fun c => [c]).map List.length).sum = l.length := by
  induction l with
  | nil => rfl
  | cons c l ih => simp only [List.map_cons, List.sum_cons, List.length_cons, List.length_nil] at ih ⊢; omega
theorem join_chars {h : Hep} {n : Nat} {l : List Nat} (e : h[n]? = some (.lst (l.map fun c => .str [c]))) (z : l.length ≤ 16777216) : mJoin (.str []) [.ref n] h = some (.str l, h) := by
  have e2 : h[n]? = some (.lst ((l.map fun c => [c]).map .str)) := by rw [List.map_map]; exact e
  rw [mJoin_ref e2 (by rw [chars_sum]; simp; exact z), joinL_chars]
def bodyB (m : List Nat) : Bool := !(m == []) && allIn m [122, 42, 57, 44, 98, 48, 47, 46] && allIn (m.take 1) [122, 42, 57] && match cutAt 46 [] m with
  | [p] => shape (insF p)
  | [p, q] => !(q == []) && all9 q && shape (insF p)
  | _ => false
open Classical in
theorem ls_of {h : Hep} {s t : List Nat} (l : s.length ≤ 16777216) : mLstrip (.str s) [.str t] h = some (.str (s.dropWhile fun c => t.contains c), h) := by
  show (if szOk s.length then _ else _) = _
  rw [if_pos (szOk_iff.mpr l)]
theorem dw_len (s : List Nat) (f : Nat → Bool) : (s.dropWhile f).length ≤ s.length := (List.dropWhile_sublist f).length_le
noncomputable def tailB : SM := sSeq (sSet 2 (eMth "str" mJoin (eC (.str (S ""))) (aCons (eComp [3] (iVal (eBin oIdx (eVar 1) (eC (.int 0)))) (gNam 3) (tVal (eBin oNin (eVar 3) (eC c_INSERTED))) (eVar 3)) aNil))) (sRet (eOr (eCall M_only (aCons (eMth "str" mLstrip (eVar 2) (aCons (eC (.str (S "z"))) aNil)) (aCons (eC (.str (S "9"))) aNil))) (eCall M_only (aCons (eMth "str" mLstrip (eVar 2) (aCons (eC (.str (S "*"))) aNil)) (aCons (eC (.str (S "9"))) aNil)))))
theorem is_body_ok (m : List Nat) (ml : m.length ≤ 2000) (h : Hep) : ∃ h', Ext h h' ∧ M_v_is_body [.str m] h = .ok (.bl (bodyB m)) h' := by
  by_cases m0 : m = []
  · subst m0
    refine ⟨h, Ext.refl h, ?_⟩
    simp (disch := omega) only [sSeq_eq, sSet_eq, sIf_eq, sRet_eq, sNop_eq, sExpr_eq, sAsg_eq, sAug_eq, sFor_eq, sRaise_eq, eBin_eq, eUn_eq, eVar_eq, eC_eq, eTup_eq, eLst_eq, eCall_eq, eCallB_eq, eMth_eq, eIf_eq, eAnd_eq, eOr_eq, eNot_eq, eSl_eq, pNo_eq, pSome_eq, eComp_eq, iVal_eq, iArgs_eq, aNil_eq, aCons_eq, tVal_eq, tAnd_eq, tOr_eq, tNot_eq, tTru_eq, truth_bl, truth_non, get_0, get_S, Option.join_some, ofO_some, Res.bind_ok, Res.thn_ok, SR.bind_nx, SR.bind_ret, SR.res_ret, SR.res_nx, List.set_cons_succ, List.set_cons_zero, if_true, Bool.false_eq_true, if_false, typ_str, gTpl_eq, gsCons_eq, gsNil_eq, gNam_eq, Option.bind_some, Bool.not_true, Bool.not_false, List.replicate, fn_1, fn_2, fn_3, fn_4, oEq_str, oNe_str, oEq_int, oNe_int, oAdd_int, oSub_int, oLt_int, oGt_int, oLe_int, oGe_int, oIsN_eq, oNeg_int, bLen_str, oIn_ch, oNin_ch, S_e, S_0, S_9, S_mi, S_po, S_zs9, S_num, S_ed, S_text, decide_eq_true, decide_eq_false, beqI_t, beqI_f, szOk_of, List.length_cons, List.length_nil, Nat.reduceAdd, M_v_is_body, B_v_is_body, show (([] : List Nat) == []) = true from rfl]
    rfl
  · have m0' : (m == []) = false := beq_false_of_ne m0
    have on := only_ok m [122, 42, 57, 44, 98, 48, 47, 46] h
    obtain ⟨c, c1, c2⟩ := first_ix m0
    have i0 : oIdx h (.str m) (.int 0) = some (.str [c]) := oIdx_str (by omega) c1
    have ac : allIn (m.take 1) [122, 42, 57] = decide (c ∈ [122, 42, 57]) := by rw [c2]; unfold allIn; simp
    unfold bodyB
    rw [m0', ac]
    cases a1 : allIn m [122, 42, 57, 44, 98, 48, 47, 46] with
    | false =>
      rw [a1] at on
      refine ⟨h, Ext.refl h, ?_⟩
      simp (disch := omega) only [sSeq_eq, sSet_eq, sIf_eq, sRet_eq, sNop_eq, sExpr_eq, sAsg_eq, sAug_eq, sFor_eq, sRaise_eq, eBin_eq, eUn_eq, eVar_eq, eC_eq, eTup_eq, eLst_eq, eCall_eq, eCallB_eq, eMth_eq, eIf_eq, eAnd_eq, eOr_eq, eNot_eq, eSl_eq, pNo_eq, pSome_eq, eComp_eq, iVal_eq, iArgs_eq, aNil_eq, aCons_eq, tVal_eq, tAnd_eq, tOr_eq, tNot_eq, tTru_eq, truth_bl, truth_non, get_0, get_S, Option.join_some, ofO_some, Res.bind_ok, Res.thn_ok, SR.bind_nx, SR.bind_ret, SR.res_ret, SR.res_nx, List.set_cons_succ, List.set_cons_zero, if_true, Bool.false_eq_true, if_false, typ_str, gTpl_eq, gsCons_eq, gsNil_eq, gNam_eq, Option.bind_some, Bool.not_true, Bool.not_false, List.replicate, fn_1, fn_2, fn_3, fn_4, oEq_str, oNe_str, oEq_int, oNe_int, oAdd_int, oSub_int, oLt_int, oGt_int, oLe_int, oGe_int, oIsN_eq, oNeg_int, bLen_str, oIn_ch, oNin_ch, S_e, S_0, S_9, S_mi, S_po, S_zs9, S_num, S_ed, S_text, decide_eq_true, decide_eq_false, beqI_t, beqI_f, szOk_of, List.length_cons, List.length_nil, Nat.reduceAdd, M_v_is_body, B_v_is_body, m0', c_MARKS, S_marks, on]
      simp
    | true =>
      rw [a1] at on
      by_cases a2 : c ∈ [122, 42, 57]
      · have sp := split_ok (h := h) (s := m) (c := 46) (by decide) (by omega)
        have su := cutAt_sum 46 m []
        have g1 : (h ++ [Obj.lst ((cutAt 46 [] m).map .str)])[h.length]? = some (.lst ((cutAt 46 [] m).map .str)) := get_new _ _
        have ln := bLen_ref g1
        have x1 : Ext h (h ++ [Obj.lst ((cutAt 46 [] m).map .str)]) := Ext.one _ _
        have nth : ∃ p ps, cutAt 46 [] m = p :: ps := by
          cases e : cutAt 46 [] m with
          | nil => exact absurd e (cutAt_ne _ _ _)
          | cons p ps => exact ⟨p, ps, rfl⟩
        rw [decide_eq_true a2]
        -- the first rows
        have pre : ∀ R : Res Val, (T_v_is_body_1 [some (.str m), none, none, none] h).res = R → M_v_is_body [.str m] h = R := fun R e => by
          rw [← e]
          simp (disch := omega) only [sSeq_eq, sSet_eq, sIf_eq, sRet_eq, sNop_eq, sExpr_eq, sAsg_eq, sAug_eq, sFor_eq, sRaise_eq, eBin_eq, eUn_eq, eVar_eq, eC_eq, eTup_eq, eLst_eq, eCall_eq, eCallB_eq, eMth_eq, eIf_eq, eAnd_eq, eOr_eq, eNot_eq, eSl_eq, pNo_eq, pSome_eq, eComp_eq, iVal_eq, iArgs_eq, aNil_eq, aCons_eq, tVal_eq, tAnd_eq, tOr_eq, tNot_eq, tTru_eq, truth_bl, truth_non, get_0, get_S, Option.join_some, ofO_some, Res.bind_ok, Res.thn_ok, SR.bind_nx, SR.bind_ret, SR.res_ret, SR.res_nx, List.set_cons_succ, List.set_cons_zero, if_true, Bool.false_eq_true, if_false, typ_str, gTpl_eq, gsCons_eq, gsNil_eq, gNam_eq, Option.bind_some, Bool.not_true, Bool.not_false, List.replicate, fn_1, fn_2, fn_3, fn_4, oEq_str, oNe_str, oEq_int, oNe_int, oAdd_int, oSub_int, oLt_int, oGt_int, oLe_int, oGe_int, oIsN_eq, oNeg_int, bLen_str, oIn_ch, oNin_ch, S_e, S_0, S_9, S_mi, S_po, S_zs9, S_num, S_ed, S_text, decide_eq_true, decide_eq_false, beqI_t, beqI_f, szOk_of, List.length_cons, List.length_nil, Nat.reduceAdd, M_v_is_body, B_v_is_body, m0', c_MARKS, S_marks, on, i0, decide_eq_true a2]
        generalize hh : h ++ [Obj.lst ((cutAt 46 [] m).map .str)] = h1 at *
        generalize h.length = n0 at *
        obtain ⟨p, ps, e⟩ := nth
        rw [e] at g1 ln su ⊢
        have ix0 : oIdx h1 (.ref n0) (.int 0) = some (.str p) := by rw [oIdx_ref g1]; exact atI_zero _ _
        have pl : p.length ≤ 2000 := by simp only [List.map_cons, List.sum_cons, List.length_cons, List.length_nil] at su; omega
        have fl : (insF p).length ≤ 2000 := Nat.le_trans (List.length_filter_le _ _) pl
        have cp := comp_fil 3 (eBin oNin (eVar 3) (eC c_INSERTED)) (fun c => !decide (c ∈ [44, 98, 48, 47])) p (wipe [some (.str m), some (.ref n0), none, none] [3]) h1 (fun x => rfl) (fun c η1 hη => by
          simp (disch := omega) only [sSeq_eq, sSet_eq, sIf_eq, sRet_eq, sNop_eq, sExpr_eq, sAsg_eq, sAug_eq, sFor_eq, sRaise_eq, eBin_eq, eUn_eq, eVar_eq, eC_eq, eTup_eq, eLst_eq, eCall_eq, eCallB_eq, eMth_eq, eIf_eq, eAnd_eq, eOr_eq, eNot_eq, eSl_eq, pNo_eq, pSome_eq, eComp_eq, iVal_eq, iArgs_eq, aNil_eq, aCons_eq, tVal_eq, tAnd_eq, tOr_eq, tNot_eq, tTru_eq, truth_bl, truth_non, get_0, get_S, Option.join_some, ofO_some, Res.bind_ok, Res.thn_ok, SR.bind_nx, SR.bind_ret, SR.res_ret, SR.res_nx, List.set_cons_succ, List.set_cons_zero, if_true, Bool.false_eq_true, if_false, typ_str, gTpl_eq, gsCons_eq, gsNil_eq, gNam_eq, Option.bind_some, Bool.not_true, Bool.not_false, List.replicate, fn_1, fn_2, fn_3, fn_4, oEq_str, oNe_str, oEq_int, oNe_int, oAdd_int, oSub_int, oLt_int, oGt_int, oLe_int, oGe_int, oIsN_eq, oNeg_int, bLen_str, oIn_ch, oNin_ch, S_e, S_0, S_9, S_mi, S_po, S_zs9, S_num, S_ed, S_text, decide_eq_true, decide_eq_false, beqI_t, beqI_f, szOk_of, List.length_cons, List.length_nil, Nat.reduceAdd, hη, c_INSERTED, S_ins])
        have x2 : Ext h1 (h1 ++ [Obj.lst ((insF p).map fun c => .str [c])]) := Ext.one _ _
        have jc := join_chars (get_new h1 (Obj.lst ((insF p).map fun c => .str [c]))) (by omega)
        have lz := fun h' => ls_of (h := h') (s := insF p) (t := [122]) (by omega)
        have ls := fun h' => ls_of (h := h') (s := insF p) (t := [42]) (by omega)
        have tail : tailB [some (.str m), some (.ref n0), none, none] h1 = .ret (.bl (shape (insF p))) (h1 ++ [Obj.lst ((insF p).map fun c => .str [c])]) := by
          unfold tailB
          simp (disch := omega) only [sSeq_eq, sSet_eq, sIf_eq, sRet_eq, sNop_eq, sExpr_eq, sAsg_eq, sAug_eq, sFor_eq, sRaise_eq, eBin_eq, eUn_eq, eVar_eq, eC_eq, eTup_eq, eLst_eq, eCall_eq, eCallB_eq, eMth_eq, eIf_eq, eAnd_eq, eOr_eq, eNot_eq, eSl_eq, pNo_eq, pSome_eq, eComp_eq, iVal_eq, iArgs_eq, aNil_eq, aCons_eq, tVal_eq, tAnd_eq, tOr_eq, tNot_eq, tTru_eq, truth_bl, truth_non, get_0, get_S, Option.join_some, ofO_some, Res.bind_ok, Res.thn_ok, SR.bind_nx, SR.bind_ret, SR.res_ret, SR.res_nx, List.set_cons_succ, List.set_cons_zero, if_true, Bool.false_eq_true, if_false, typ_str, gTpl_eq, gsCons_eq, gsNil_eq, gNam_eq, Option.bind_some, Bool.not_true, Bool.not_false, List.replicate, fn_1, fn_2, fn_3, fn_4, oEq_str, oNe_str, oEq_int, oNe_int, oAdd_int, oSub_int, oLt_int, oGt_int, oLe_int, oGe_int, oIsN_eq, oNeg_int, bLen_str, oIn_ch, oNin_ch, S_e, S_0, S_9, S_mi, S_po, S_zs9, S_num, S_ed, S_text, decide_eq_true, decide_eq_false, beqI_t, beqI_f, szOk_of, List.length_cons, List.length_nil, Nat.reduceAdd, ix0, items_str]
          rw [cp]
          simp (disch := omega) only [sSeq_eq, sSet_eq, sIf_eq, sRet_eq, sNop_eq, sExpr_eq, sAsg_eq, sAug_eq, sFor_eq, sRaise_eq, eBin_eq, eUn_eq, eVar_eq, eC_eq, eTup_eq, eLst_eq, eCall_eq, eCallB_eq, eMth_eq, eIf_eq, eAnd_eq, eOr_eq, eNot_eq, eSl_eq, pNo_eq, pSome_eq, eComp_eq, iVal_eq, iArgs_eq, aNil_eq, aCons_eq, tVal_eq, tAnd_eq, tOr_eq, tNot_eq, tTru_eq, truth_bl, truth_non, get_0, get_S, Option.join_some, ofO_some, Res.bind_ok, Res.thn_ok, SR.bind_nx, SR.bind_ret, SR.res_ret, SR.res_nx, List.set_cons_succ, List.set_cons_zero, if_true, Bool.false_eq_true, if_false, typ_str, gTpl_eq, gsCons_eq, gsNil_eq, gNam_eq, Option.bind_some, Bool.not_true, Bool.not_false, List.replicate, fn_1, fn_2, fn_3, fn_4, oEq_str, oNe_str, oEq_int, oNe_int, oAdd_int, oSub_int, oLt_int, oGt_int, oLe_int, oGe_int, oIsN_eq, oNeg_int, bLen_str, oIn_ch, oNin_ch, S_e, S_0, S_9, S_mi, S_po, S_zs9, S_num, S_ed, S_text, decide_eq_true, decide_eq_false, beqI_t, beqI_f, szOk_of, List.length_cons, List.length_nil, Nat.reduceAdd, show (List.map (fun c => Val.str [c]) (List.filter (fun c => !decide (c ∈ [44, 98, 48, 47])) p)) = (insF p).map (fun c => .str [c]) from rfl, List.length_map]
          rw [jc]
          unfold shape all9
          cases z : allIn ((insF p).dropWhile fun c => [122].contains c) [57] with
          | true => simp (disch := omega) only [sSeq_eq, sSet_eq, sIf_eq, sRet_eq, sNop_eq, sExpr_eq, sAsg_eq, sAug_eq, sFor_eq, sRaise_eq, eBin_eq, eUn_eq, eVar_eq, eC_eq, eTup_eq, eLst_eq, eCall_eq, eCallB_eq, eMth_eq, eIf_eq, eAnd_eq, eOr_eq, eNot_eq, eSl_eq, pNo_eq, pSome_eq, eComp_eq, iVal_eq, iArgs_eq, aNil_eq, aCons_eq, tVal_eq, tAnd_eq, tOr_eq, tNot_eq, tTru_eq, truth_bl, truth_non, get_0, get_S, Option.join_some, ofO_some, Res.bind_ok, Res.thn_ok, SR.bind_nx, SR.bind_ret, SR.res_ret, SR.res_nx, List.set_cons_succ, List.set_cons_zero, if_true, Bool.false_eq_true, if_false, typ_str, gTpl_eq, gsCons_eq, gsNil_eq, gNam_eq, Option.bind_some, Bool.not_true, Bool.not_false, List.replicate, fn_1, fn_2, fn_3, fn_4, oEq_str, oNe_str, oEq_int, oNe_int, oAdd_int, oSub_int, oLt_int, oGt_int, oLe_int, oGe_int, oIsN_eq, oNeg_int, bLen_str, oIn_ch, oNin_ch, S_e, S_0, S_9, S_mi, S_po, S_zs9, S_num, S_ed, S_text, decide_eq_true, decide_eq_false, beqI_t, beqI_f, szOk_of, List.length_cons, List.length_nil, Nat.reduceAdd, S_z, lz, only_ok, z, Bool.true_or]
          | false => simp (disch := omega) only [sSeq_eq, sSet_eq, sIf_eq, sRet_eq, sNop_eq, sExpr_eq, sAsg_eq, sAug_eq, sFor_eq, sRaise_eq, eBin_eq, eUn_eq, eVar_eq, eC_eq, eTup_eq, eLst_eq, eCall_eq, eCallB_eq, eMth_eq, eIf_eq, eAnd_eq, eOr_eq, eNot_eq, eSl_eq, pNo_eq, pSome_eq, eComp_eq, iVal_eq, iArgs_eq, aNil_eq, aCons_eq, tVal_eq, tAnd_eq, tOr_eq, tNot_eq, tTru_eq, truth_bl, truth_non, get_0, get_S, Option.join_some, ofO_some, Res.bind_ok, Res.thn_ok, SR.bind_nx, SR.bind_ret, SR.res_ret, SR.res_nx, List.set_cons_succ, List.set_cons_zero, if_true, Bool.false_eq_true, if_false, typ_str, gTpl_eq, gsCons_eq, gsNil_eq, gNam_eq, Option.bind_some, Bool.not_true, Bool.not_false, List.replicate, fn_1, fn_2, fn_3, fn_4, oEq_str, oNe_str, oEq_int, oNe_int, oAdd_int, oSub_int, oLt_int, oGt_int, oLe_int, oGe_int, oIsN_eq, oNeg_int, bLen_str, oIn_ch, oNin_ch, S_e, S_0, S_9, S_mi, S_po, S_zs9, S_num, S_ed, S_text, decide_eq_true, decide_eq_false, beqI_t, beqI_f, szOk_of, List.length_cons, List.length_nil, Nat.reduceAdd, S_z, S_st, lz, ls, only_ok, z, Bool.false_or]
        cases ps with
        | nil =>
          simp only [List.map_cons, List.map_nil, List.length_cons, List.length_nil] at ln
          refine ⟨_, x1.trans x2, pre _ ?_⟩
          show SR.res (sSeq (sSet 1 _) (sSeq (sIf _ _ _) tailB) _ _) = _
          simp (disch := omega) only [sSeq_eq, sSet_eq, sIf_eq, sRet_eq, sNop_eq, sExpr_eq, sAsg_eq, sAug_eq, sFor_eq, sRaise_eq, eBin_eq, eUn_eq, eVar_eq, eC_eq, eTup_eq, eLst_eq, eCall_eq, eCallB_eq, eMth_eq, eIf_eq, eAnd_eq, eOr_eq, eNot_eq, eSl_eq, pNo_eq, pSome_eq, eComp_eq, iVal_eq, iArgs_eq, aNil_eq, aCons_eq, tVal_eq, tAnd_eq, tOr_eq, tNot_eq, tTru_eq, truth_bl, truth_non, get_0, get_S, Option.join_some, ofO_some, Res.bind_ok, Res.thn_ok, SR.bind_nx, SR.bind_ret, SR.res_ret, SR.res_nx, List.set_cons_succ, List.set_cons_zero, if_true, Bool.false_eq_true, if_false, typ_str, gTpl_eq, gsCons_eq, gsNil_eq, gNam_eq, Option.bind_some, Bool.not_true, Bool.not_false, List.replicate, fn_1, fn_2, fn_3, fn_4, oEq_str, oNe_str, oEq_int, oNe_int, oAdd_int, oSub_int, oLt_int, oGt_int, oLe_int, oGe_int, oIsN_eq, oNeg_int, bLen_str, oIn_ch, oNin_ch, S_e, S_0, S_9, S_mi, S_po, S_zs9, S_num, S_ed, S_text, decide_eq_true, decide_eq_false, beqI_t, beqI_f, szOk_of, List.length_cons, List.length_nil, Nat.reduceAdd, sp, ln, tail]
          rfl
        | cons q rs =>
          have ix1 : oIdx h1 (.ref n0) (.int 1) = some (.str q) := by rw [oIdx_ref g1]; exact atI_one _ _ _
          cases rs with
          | nil =>
            simp only [List.map_cons, List.map_nil, List.length_cons, List.length_nil] at ln
            have on2 := only_ok q [57] h1
            by_cases q1 : q = []
            · subst q1
              refine ⟨_, x1, pre _ ?_⟩
              simp (disch := omega) only [sSeq_eq, sSet_eq, sIf_eq, sRet_eq, sNop_eq, sExpr_eq, sAsg_eq, sAug_eq, sFor_eq, sRaise_eq, eBin_eq, eUn_eq, eVar_eq, eC_eq, eTup_eq, eLst_eq, eCall_eq, eCallB_eq, eMth_eq, eIf_eq, eAnd_eq, eOr_eq, eNot_eq, eSl_eq, pNo_eq, pSome_eq, eComp_eq, iVal_eq, iArgs_eq, aNil_eq, aCons_eq, tVal_eq, tAnd_eq, tOr_eq, tNot_eq, tTru_eq, truth_bl, truth_non, get_0, get_S, Option.join_some, ofO_some, Res.bind_ok, Res.thn_ok, SR.bind_nx, SR.bind_ret, SR.res_ret, SR.res_nx, List.set_cons_succ, List.set_cons_zero, if_true, Bool.false_eq_true, if_false, typ_str, gTpl_eq, gsCons_eq, gsNil_eq, gNam_eq, Option.bind_some, Bool.not_true, Bool.not_false, List.replicate, fn_1, fn_2, fn_3, fn_4, oEq_str, oNe_str, oEq_int, oNe_int, oAdd_int, oSub_int, oLt_int, oGt_int, oLe_int, oGe_int, oIsN_eq, oNeg_int, bLen_str, oIn_ch, oNin_ch, S_e, S_0, S_9, S_mi, S_po, S_zs9, S_num, S_ed, S_text, decide_eq_true, decide_eq_false, beqI_t, beqI_f, szOk_of, List.length_cons, List.length_nil, Nat.reduceAdd, T_v_is_body_1, sp, ln, ix1, show (([] : List Nat) == []) = true from rfl]
              rfl
            · have q1' : (q == []) = false := beq_false_of_ne q1
              cases q2 : all9 q with
              | false =>
                rw [show allIn q [57] = false from q2] at on2
                refine ⟨_, x1, pre _ ?_⟩
                simp (disch := omega) only [sSeq_eq, sSet_eq, sIf_eq, sRet_eq, sNop_eq, sExpr_eq, sAsg_eq, sAug_eq, sFor_eq, sRaise_eq, eBin_eq, eUn_eq, eVar_eq, eC_eq, eTup_eq, eLst_eq, eCall_eq, eCallB_eq, eMth_eq, eIf_eq, eAnd_eq, eOr_eq, eNot_eq, eSl_eq, pNo_eq, pSome_eq, eComp_eq, iVal_eq, iArgs_eq, aNil_eq, aCons_eq, tVal_eq, tAnd_eq, tOr_eq, tNot_eq, tTru_eq, truth_bl, truth_non, get_0, get_S, Option.join_some, ofO_some, Res.bind_ok, Res.thn_ok, SR.bind_nx, SR.bind_ret, SR.res_ret, SR.res_nx, List.set_cons_succ, List.set_cons_zero, if_true, Bool.false_eq_true, if_false, typ_str, gTpl_eq, gsCons_eq, gsNil_eq, gNam_eq, Option.bind_some, Bool.not_true, Bool.not_false, List.replicate, fn_1, fn_2, fn_3, fn_4, oEq_str, oNe_str, oEq_int, oNe_int, oAdd_int, oSub_int, oLt_int, oGt_int, oLe_int, oGe_int, oIsN_eq, oNeg_int, bLen_str, oIn_ch, oNin_ch, S_e, S_0, S_9, S_mi, S_po, S_zs9, S_num, S_ed, S_text, decide_eq_true, decide_eq_false, beqI_t, beqI_f, szOk_of, List.length_cons, List.length_nil, Nat.reduceAdd, T_v_is_body_1, sp, ln, ix1, q1', on2]
                rw [q2]
                simp
              | true =>
                rw [show allIn q [57] = true from q2] at on2
                refine ⟨_, x1.trans x2, pre _ ?_⟩
                show SR.res (sSeq (sSet 1 _) (sSeq (sIf _ _ _) tailB) _ _) = _
                simp (disch := omega) only [sSeq_eq, sSet_eq, sIf_eq, sRet_eq, sNop_eq, sExpr_eq, sAsg_eq, sAug_eq, sFor_eq, sRaise_eq, eBin_eq, eUn_eq, eVar_eq, eC_eq, eTup_eq, eLst_eq, eCall_eq, eCallB_eq, eMth_eq, eIf_eq, eAnd_eq, eOr_eq, eNot_eq, eSl_eq, pNo_eq, pSome_eq, eComp_eq, iVal_eq, iArgs_eq, aNil_eq, aCons_eq, tVal_eq, tAnd_eq, tOr_eq, tNot_eq, tTru_eq, truth_bl, truth_non, get_0, get_S, Option.join_some, ofO_some, Res.bind_ok, Res.thn_ok, SR.bind_nx, SR.bind_ret, SR.res_ret, SR.res_nx, List.set_cons_succ, List.set_cons_zero, if_true, Bool.false_eq_true, if_false, typ_str, gTpl_eq, gsCons_eq, gsNil_eq, gNam_eq, Option.bind_some, Bool.not_true, Bool.not_false, List.replicate, fn_1, fn_2, fn_3, fn_4, oEq_str, oNe_str, oEq_int, oNe_int, oAdd_int, oSub_int, oLt_int, oGt_int, oLe_int, oGe_int, oIsN_eq, oNeg_int, bLen_str, oIn_ch, oNin_ch, S_e, S_0, S_9, S_mi, S_po, S_zs9, S_num, S_ed, S_text, decide_eq_true, decide_eq_false, beqI_t, beqI_f, szOk_of, List.length_cons, List.length_nil, Nat.reduceAdd, sp, ln, ix1, q1', on2, tail]
                rw [q2]
                simp
          | cons r rest =>
            simp only [List.map_cons, List.length_cons] at ln
            refine ⟨_, x1, pre _ ?_⟩
            simp (disch := omega) only [sSeq_eq, sSet_eq, sIf_eq, sRet_eq, sNop_eq, sExpr_eq, sAsg_eq, sAug_eq, sFor_eq, sRaise_eq, eBin_eq, eUn_eq, eVar_eq, eC_eq, eTup_eq, eLst_eq, eCall_eq, eCallB_eq, eMth_eq, eIf_eq, eAnd_eq, eOr_eq, eNot_eq, eSl_eq, pNo_eq, pSome_eq, eComp_eq, iVal_eq, iArgs_eq, aNil_eq, aCons_eq, tVal_eq, tAnd_eq, tOr_eq, tNot_eq, tTru_eq, truth_bl, truth_non, get_0, get_S, Option.join_some, ofO_some, Res.bind_ok, Res.thn_ok, SR.bind_nx, SR.bind_ret, SR.res_ret, SR.res_nx, List.set_cons_succ, List.set_cons_zero, if_true, Bool.false_eq_true, if_false, typ_str, gTpl_eq, gsCons_eq, gsNil_eq, gNam_eq, Option.bind_some, Bool.not_true, Bool.not_false, List.replicate, fn_1, fn_2, fn_3, fn_4, oEq_str, oNe_str, oEq_int, oNe_int, oAdd_int, oSub_int, oLt_int, oGt_int, oLe_int, oGe_int, oIsN_eq, oNeg_int, bLen_str, oIn_ch, oNin_ch, S_e, S_0, S_9, S_mi, S_po, S_zs9, S_num, S_ed, S_text, decide_eq_true, decide_eq_false, beqI_t, beqI_f, szOk_of, List.length_cons, List.length_nil, Nat.reduceAdd, T_v_is_body_1, sp, ln]
            simp
      · refine ⟨h, Ext.refl h, ?_⟩
        rw [decide_eq_false a2]
        simp (disch := omega) only [sSeq_eq, sSet_eq, sIf_eq, sRet_eq, sNop_eq, sExpr_eq, sAsg_eq, sAug_eq, sFor_eq, sRaise_eq, eBin_eq, eUn_eq, eVar_eq, eC_eq, eTup_eq, eLst_eq, eCall_eq, eCallB_eq, eMth_eq, eIf_eq, eAnd_eq, eOr_eq, eNot_eq, eSl_eq, pNo_eq, pSome_eq, eComp_eq, iVal_eq, iArgs_eq, aNil_eq, aCons_eq, tVal_eq, tAnd_eq, tOr_eq, tNot_eq, tTru_eq, truth_bl, truth_non, get_0, get_S, Option.join_some, ofO_some, Res.bind_ok, Res.thn_ok, SR.bind_nx, SR.bind_ret, SR.res_ret, SR.res_nx, List.set_cons_succ, List.set_cons_zero, if_true, Bool.false_eq_true, if_false, typ_str, gTpl_eq, gsCons_eq, gsNil_eq, gNam_eq, Option.bind_some, Bool.not_true, Bool.not_false, List.replicate, fn_1, fn_2, fn_3, fn_4, oEq_str, oNe_str, oEq_int, oNe_int, oAdd_int, oSub_int, oLt_int, oGt_int, oLe_int, oGe_int, oIsN_eq, oNeg_int, bLen_str, oIn_ch, oNin_ch, S_e, S_0, S_9, S_mi, S_po, S_zs9, S_num, S_ed, S_text, decide_eq_true, decide_eq_false, beqI_t, beqI_f, szOk_of, List.length_cons, List.length_nil, Nat.reduceAdd, M_v_is_body, B_v_is_body, m0', c_MARKS, S_marks, on, i0, decide_eq_false a2]
        simp
end Law

set_option maxRecDepth 100000
set_option maxHeartbeats 1000000
set_option linter.all false
namespace Law
open Cd Mir
def frac (m : List Nat) : Nat := match cutAt 46 [] m with
  | [_, q] => q.length
  | _ => 0
def whole (m : List Nat) : List Nat := (cutAt 46 [] m).headD []
theorem digits_of_ok (m : List Nat) (ml : m.length ≤ 2000) (h : Hep) : ∃ h', Ext h h' ∧ M_digits_of [.str m] h = .ok (.tup [.int (insF (whole m)).length, .int (frac m)]) h' := by
  have sp := split_ok (h := h) (s := m) (c := 46) (by decide) (by omega)
  have su := cutAt_sum 46 m []
  have g1 : (h ++ [Obj.lst ((cutAt 46 [] m).map .str)])[h.length]? = some (.lst ((cutAt 46 [] m).map .str)) := get_new _ _
  have x1 : Ext h (h ++ [Obj.lst ((cutAt 46 [] m).map .str)]) := Ext.one _ _
  have nth : ∃ p ps, cutAt 46 [] m = p :: ps := by
    cases e : cutAt 46 [] m with
    | nil => exact absurd e (cutAt_ne _ _ _)
    | cons p ps => exact ⟨p, ps, rfl⟩
  unfold whole frac
  generalize hh : h ++ [Obj.lst ((cutAt 46 [] m).map .str)] = h1 at *
  generalize h.length = n0 at *
  obtain ⟨p, ps, e⟩ := nth
  rw [e] at g1 su ⊢
  have ix0 : oIdx h1 (.ref n0) (.int 0) = some (.str p) := by rw [oIdx_ref g1]; exact atI_zero _ _
  have pl : p.length ≤ 2000 := by simp only [List.map_cons, List.sum_cons, List.length_cons, List.length_nil] at su; omega
  have fl : (insF p).length ≤ 2000 := Nat.le_trans (List.length_filter_le _ _) pl
  have cp := comp_fil 3 (eBin oNin (eVar 3) (eC c_INSERTED)) (fun c => !decide (c ∈ [44, 98, 48, 47])) p (wipe [some (.str m), some (.ref n0), none, none] [3]) h1 (fun x => rfl) (fun c η1 hη => by
    simp (disch := omega) only [sSeq_eq, sSet_eq, sIf_eq, sRet_eq, sNop_eq, sExpr_eq, sAsg_eq, sAug_eq, sFor_eq, sRaise_eq, eBin_eq, eUn_eq, eVar_eq, eC_eq, eTup_eq, eLst_eq, eCall_eq, eCallB_eq, eMth_eq, eIf_eq, eAnd_eq, eOr_eq, eNot_eq, eSl_eq, pNo_eq, pSome_eq, eComp_eq, iVal_eq, iArgs_eq, aNil_eq, aCons_eq, tVal_eq, tAnd_eq, tOr_eq, tNot_eq, tTru_eq, truth_bl, truth_non, get_0, get_S, Option.join_some, ofO_some, Res.bind_ok, Res.thn_ok, SR.bind_nx, SR.bind_ret, SR.res_ret, SR.res_nx, List.set_cons_succ, List.set_cons_zero, if_true, Bool.false_eq_true, if_false, typ_str, gTpl_eq, gsCons_eq, gsNil_eq, gNam_eq, Option.bind_some, Bool.not_true, Bool.not_false, List.replicate, fn_1, fn_2, fn_3, fn_4, oEq_str, oNe_str, oEq_int, oNe_int, oAdd_int, oSub_int, oLt_int, oGt_int, oLe_int, oGe_int, oIsN_eq, oNeg_int, bLen_str, oIn_ch, oNin_ch, S_e, S_0, S_9, S_mi, S_po, S_zs9, S_num, S_ed, S_text, decide_eq_true, decide_eq_false, beqI_t, beqI_f, szOk_of, List.length_cons, List.length_nil, Nat.reduceAdd, hη, c_INSERTED, S_ins])
  have x2 : Ext h1 (h1 ++ [Obj.lst ((insF p).map fun c => .str [c])]) := Ext.one _ _
  have l2 := bLen_ref (get_new h1 (Obj.lst ((insF p).map fun c => .str [c])))
  have g2 := x2.get g1
  have st : sSet 2 (eCallB bLen (aCons (eComp [3] (iVal (eBin oIdx (eVar 1) (eC (.int 0)))) (gNam 3) (tVal (eBin oNin (eVar 3) (eC c_INSERTED))) (eVar 3)) aNil)) [some (.str m), some (.ref n0), none, none] h1 = .nx [some (.str m), some (.ref n0), some (.int (insF p).length), none] (h1 ++ [Obj.lst ((insF p).map fun c => .str [c])]) := by
    simp (disch := omega) only [sSeq_eq, sSet_eq, sIf_eq, sRet_eq, sNop_eq, sExpr_eq, sAsg_eq, sAug_eq, sFor_eq, sRaise_eq, eBin_eq, eUn_eq, eVar_eq, eC_eq, eTup_eq, eLst_eq, eCall_eq, eCallB_eq, eMth_eq, eIf_eq, eAnd_eq, eOr_eq, eNot_eq, eSl_eq, pNo_eq, pSome_eq, eComp_eq, iVal_eq, iArgs_eq, aNil_eq, aCons_eq, tVal_eq, tAnd_eq, tOr_eq, tNot_eq, tTru_eq, truth_bl, truth_non, get_0, get_S, Option.join_some, ofO_some, Res.bind_ok, Res.thn_ok, SR.bind_nx, SR.bind_ret, SR.res_ret, SR.res_nx, List.set_cons_succ, List.set_cons_zero, if_true, Bool.false_eq_true, if_false, typ_str, gTpl_eq, gsCons_eq, gsNil_eq, gNam_eq, Option.bind_some, Bool.not_true, Bool.not_false, List.replicate, fn_1, fn_2, fn_3, fn_4, oEq_str, oNe_str, oEq_int, oNe_int, oAdd_int, oSub_int, oLt_int, oGt_int, oLe_int, oGe_int, oIsN_eq, oNeg_int, bLen_str, oIn_ch, oNin_ch, S_e, S_0, S_9, S_mi, S_po, S_zs9, S_num, S_ed, S_text, decide_eq_true, decide_eq_false, beqI_t, beqI_f, szOk_of, List.length_cons, List.length_nil, Nat.reduceAdd, ix0, items_str]
    rw [cp]
    simp (disch := omega) only [sSeq_eq, sSet_eq, sIf_eq, sRet_eq, sNop_eq, sExpr_eq, sAsg_eq, sAug_eq, sFor_eq, sRaise_eq, eBin_eq, eUn_eq, eVar_eq, eC_eq, eTup_eq, eLst_eq, eCall_eq, eCallB_eq, eMth_eq, eIf_eq, eAnd_eq, eOr_eq, eNot_eq, eSl_eq, pNo_eq, pSome_eq, eComp_eq, iVal_eq, iArgs_eq, aNil_eq, aCons_eq, tVal_eq, tAnd_eq, tOr_eq, tNot_eq, tTru_eq, truth_bl, truth_non, get_0, get_S, Option.join_some, ofO_some, Res.bind_ok, Res.thn_ok, SR.bind_nx, SR.bind_ret, SR.res_ret, SR.res_nx, List.set_cons_succ, List.set_cons_zero, if_true, Bool.false_eq_true, if_false, typ_str, gTpl_eq, gsCons_eq, gsNil_eq, gNam_eq, Option.bind_some, Bool.not_true, Bool.not_false, List.replicate, fn_1, fn_2, fn_3, fn_4, oEq_str, oNe_str, oEq_int, oNe_int, oAdd_int, oSub_int, oLt_int, oGt_int, oLe_int, oGe_int, oIsN_eq, oNeg_int, bLen_str, oIn_ch, oNin_ch, S_e, S_0, S_9, S_mi, S_po, S_zs9, S_num, S_ed, S_text, decide_eq_true, decide_eq_false, beqI_t, beqI_f, szOk_of, List.length_cons, List.length_nil, Nat.reduceAdd, show (List.map (fun c => Val.str [c]) (List.filter (fun c => !decide (c ∈ [44, 98, 48, 47])) p)) = (insF p).map (fun c => .str [c]) from rfl, List.length_map, l2]
  generalize h1 ++ [Obj.lst ((insF p).map fun c => .str [c])] = h2 at *
  have ln := bLen_ref g2
  refine ⟨h2, x1.trans x2, ?_⟩
  show SR.res (sSeq (sSet 1 _) (sSeq (sSet 2 _) (sRet _)) [some (.str m), none, none, none] h) = _
  have e1 : sSet 1 (eMth "str" mSplit (eVar 0) (aCons (eC (.str (S "."))) aNil)) [some (.str m), none, none, none] h = .nx [some (.str m), some (.ref n0), none, none] h1 := by simp (disch := omega) only [sSeq_eq, sSet_eq, sIf_eq, sRet_eq, sNop_eq, sExpr_eq, sAsg_eq, sAug_eq, sFor_eq, sRaise_eq, eBin_eq, eUn_eq, eVar_eq, eC_eq, eTup_eq, eLst_eq, eCall_eq, eCallB_eq, eMth_eq, eIf_eq, eAnd_eq, eOr_eq, eNot_eq, eSl_eq, pNo_eq, pSome_eq, eComp_eq, iVal_eq, iArgs_eq, aNil_eq, aCons_eq, tVal_eq, tAnd_eq, tOr_eq, tNot_eq, tTru_eq, truth_bl, truth_non, get_0, get_S, Option.join_some, ofO_some, Res.bind_ok, Res.thn_ok, SR.bind_nx, SR.bind_ret, SR.res_ret, SR.res_nx, List.set_cons_succ, List.set_cons_zero, if_true, Bool.false_eq_true, if_false, typ_str, gTpl_eq, gsCons_eq, gsNil_eq, gNam_eq, Option.bind_some, Bool.not_true, Bool.not_false, List.replicate, fn_1, fn_2, fn_3, fn_4, oEq_str, oNe_str, oEq_int, oNe_int, oAdd_int, oSub_int, oLt_int, oGt_int, oLe_int, oGe_int, oIsN_eq, oNeg_int, bLen_str, oIn_ch, oNin_ch, S_e, S_0, S_9, S_mi, S_po, S_zs9, S_num, S_ed, S_text, decide_eq_true, decide_eq_false, beqI_t, beqI_f, szOk_of, List.length_cons, List.length_nil, Nat.reduceAdd, sp]
  rw [sSeq_eq, e1, SR.bind_nx, sSeq_eq, st, SR.bind_nx]
  cases ps with
  | nil =>
    simp only [List.map_cons, List.map_nil, List.length_cons, List.length_nil] at ln
    simp (disch := omega) only [sSeq_eq, sSet_eq, sIf_eq, sRet_eq, sNop_eq, sExpr_eq, sAsg_eq, sAug_eq, sFor_eq, sRaise_eq, eBin_eq, eUn_eq, eVar_eq, eC_eq, eTup_eq, eLst_eq, eCall_eq, eCallB_eq, eMth_eq, eIf_eq, eAnd_eq, eOr_eq, eNot_eq, eSl_eq, pNo_eq, pSome_eq, eComp_eq, iVal_eq, iArgs_eq, aNil_eq, aCons_eq, tVal_eq, tAnd_eq, tOr_eq, tNot_eq, tTru_eq, truth_bl, truth_non, get_0, get_S, Option.join_some, ofO_some, Res.bind_ok, Res.thn_ok, SR.bind_nx, SR.bind_ret, SR.res_ret, SR.res_nx, List.set_cons_succ, List.set_cons_zero, if_true, Bool.false_eq_true, if_false, typ_str, gTpl_eq, gsCons_eq, gsNil_eq, gNam_eq, Option.bind_some, Bool.not_true, Bool.not_false, List.replicate, fn_1, fn_2, fn_3, fn_4, oEq_str, oNe_str, oEq_int, oNe_int, oAdd_int, oSub_int, oLt_int, oGt_int, oLe_int, oGe_int, oIsN_eq, oNeg_int, bLen_str, oIn_ch, oNin_ch, S_e, S_0, S_9, S_mi, S_po, S_zs9, S_num, S_ed, S_text, decide_eq_true, decide_eq_false, beqI_t, beqI_f, szOk_of, List.length_cons, List.length_nil, Nat.reduceAdd, ln]
    rfl
  | cons q rs =>
    have ix1 : oIdx h2 (.ref n0) (.int 1) = some (.str q) := by rw [oIdx_ref g2]; exact atI_one _ _ _
    cases rs with
    | nil =>
      simp only [List.map_cons, List.map_nil, List.length_cons, List.length_nil, List.sum_cons, List.sum_nil] at ln su
      simp (disch := omega) only [sSeq_eq, sSet_eq, sIf_eq, sRet_eq, sNop_eq, sExpr_eq, sAsg_eq, sAug_eq, sFor_eq, sRaise_eq, eBin_eq, eUn_eq, eVar_eq, eC_eq, eTup_eq, eLst_eq, eCall_eq, eCallB_eq, eMth_eq, eIf_eq, eAnd_eq, eOr_eq, eNot_eq, eSl_eq, pNo_eq, pSome_eq, eComp_eq, iVal_eq, iArgs_eq, aNil_eq, aCons_eq, tVal_eq, tAnd_eq, tOr_eq, tNot_eq, tTru_eq, truth_bl, truth_non, get_0, get_S, Option.join_some, ofO_some, Res.bind_ok, Res.thn_ok, SR.bind_nx, SR.bind_ret, SR.res_ret, SR.res_nx, List.set_cons_succ, List.set_cons_zero, if_true, Bool.false_eq_true, if_false, typ_str, gTpl_eq, gsCons_eq, gsNil_eq, gNam_eq, Option.bind_some, Bool.not_true, Bool.not_false, List.replicate, fn_1, fn_2, fn_3, fn_4, oEq_str, oNe_str, oEq_int, oNe_int, oAdd_int, oSub_int, oLt_int, oGt_int, oLe_int, oGe_int, oIsN_eq, oNeg_int, bLen_str, oIn_ch, oNin_ch, S_e, S_0, S_9, S_mi, S_po, S_zs9, S_num, S_ed, S_text, decide_eq_true, decide_eq_false, beqI_t, beqI_f, szOk_of, List.length_cons, List.length_nil, Nat.reduceAdd, ln, ix1]
      rfl
    | cons r rest =>
      simp only [List.map_cons, List.length_cons] at ln
      simp (disch := omega) only [sSeq_eq, sSet_eq, sIf_eq, sRet_eq, sNop_eq, sExpr_eq, sAsg_eq, sAug_eq, sFor_eq, sRaise_eq, eBin_eq, eUn_eq, eVar_eq, eC_eq, eTup_eq, eLst_eq, eCall_eq, eCallB_eq, eMth_eq, eIf_eq, eAnd_eq, eOr_eq, eNot_eq, eSl_eq, pNo_eq, pSome_eq, eComp_eq, iVal_eq, iArgs_eq, aNil_eq, aCons_eq, tVal_eq, tAnd_eq, tOr_eq, tNot_eq, tTru_eq, truth_bl, truth_non, get_0, get_S, Option.join_some, ofO_some, Res.bind_ok, Res.thn_ok, SR.bind_nx, SR.bind_ret, SR.res_ret, SR.res_nx, List.set_cons_succ, List.set_cons_zero, if_true, Bool.false_eq_true, if_false, typ_str, gTpl_eq, gsCons_eq, gsNil_eq, gNam_eq, Option.bind_some, Bool.not_true, Bool.not_false, List.replicate, fn_1, fn_2, fn_3, fn_4, oEq_str, oNe_str, oEq_int, oNe_int, oAdd_int, oSub_int, oLt_int, oGt_int, oLe_int, oGe_int, oIsN_eq, oNeg_int, bLen_str, oIn_ch, oNin_ch, S_e, S_0, S_9, S_mi, S_po, S_zs9, S_num, S_ed, S_text, decide_eq_true, decide_eq_false, beqI_t, beqI_f, szOk_of, List.length_cons, List.length_nil, Nat.reduceAdd, ln]
      rfl
theorem cut_parts {c : Nat} {m p q : List Nat} (e : cutAt c [] m = [p, q]) : m = p ++ [c] ++ q ∧ c ∉ p := by
  have j := cutAt_join c m []
  rw [e] at j
  exact ⟨by simpa [joinL] using j.symm, cutAt_free c m [] (by simp) p (by rw [e]; simp)⟩
theorem cut_part1 {c : Nat} {m p : List Nat} (e : cutAt c [] m = [p]) : m = p ∧ c ∉ p := by
  have j := cutAt_join c m []
  rw [e] at j
  exact ⟨by simpa [joinL] using j.symm, cutAt_free c m [] (by simp) p (by rw [e]; simp)⟩
theorem take1_app {p q : List Nat} (h : p ≠ []) : (p ++ q).take 1 = p.take 1 := by
  cases p with
  | nil => exact absurd rfl h
  | cons c r => rfl
/-- the body's test and the digits come to the reader of the law -/
theorem ed_is (m sign : List Nat) (m0 : m ≠ []) : edM m sign = if bodyB m = true ∧ (insF (whole m)).length + frac m ≤ 18 then .tup [.str [101, 100, 105, 116, 101, 100], .str m, .int (insF (whole m)).length, .int (frac m), .str sign] else .non := by
  have m0' : (m == []) = false := beq_false_of_ne m0
  unfold edM bodyB whole frac edV coreOk
  rw [m0']
  cases a : allIn (m.take 1) [122, 42, 57] with
  | false => simp
  | true =>
    cases e : cutAt 46 [] m with
    | nil => exact absurd e (cutAt_ne _ _ _)
    | cons p ps =>
      cases ps with
      | nil =>
        obtain ⟨rfl, nd⟩ := cut_part1 e
        simp only [dot_out nd, List.headD_cons]
        cases z : allIn m [122, 42, 57, 44, 98, 48, 47] with
        | false => simp
        | true =>
          rw [show insF m = fig m from fig_eq z]
          simp
      | cons q rs =>
        cases rs with
        | nil =>
          obtain ⟨em, nd⟩ := cut_parts e
          have ea : allIn m [122, 42, 57, 44, 98, 48, 47, 46] = (allIn p [122, 42, 57, 44, 98, 48, 47] && allIn q [122, 42, 57, 44, 98, 48, 47, 46]) := by
            rw [em, allIn_app, allIn_app, dot_out nd, show allIn [46] [122, 42, 57, 44, 98, 48, 47, 46] = true by decide, Bool.and_true]
          simp only [List.headD_cons]
          rw [ea]
          cases z : allIn p [122, 42, 57, 44, 98, 48, 47] with
          | false => simp
          | true =>
            have fe : insF p = fig p := fig_eq z
            by_cases q1 : q = []
            · simp [q1, fe]
            · by_cases q2 : all9 q = true
              · have q3 : allIn q [122, 42, 57, 44, 98, 48, 47, 46] = true := allIn_sub (m := [57]) q2 (by decide)
                simp [q1, q2, q3, fe]
              · simp [q1, q2, fe]
        | cons r rest => simp
theorem edited_ok (t : List Nat) (t0 : t ≠ []) (tl : t.length ≤ 2000) (h : Hep) : ∃ h', Ext h h' ∧ M_v_edited [.str t] h = .ok (edS t) h' := by
  have so := signs_ok t t0 tl h
  have sl := sgS_len t
  obtain ⟨h1, x1, bo⟩ := is_body_ok (sgS t).1 (by omega) h
  obtain ⟨h2, x2, dg⟩ := digits_of_ok (sgS t).1 (by omega) h1
  unfold edS
  by_cases m0 : (sgS t).1 = []
  · rw [if_pos m0]
    have b0 : bodyB (sgS t).1 = false := by rw [m0]; rfl
    rw [b0] at bo
    refine ⟨h1, x1, ?_⟩
    simp (disch := omega) only [sSeq_eq, sSet_eq, sIf_eq, sRet_eq, sNop_eq, sExpr_eq, sAsg_eq, sAug_eq, sFor_eq, sRaise_eq, eBin_eq, eUn_eq, eVar_eq, eC_eq, eTup_eq, eLst_eq, eCall_eq, eCallB_eq, eMth_eq, eIf_eq, eAnd_eq, eOr_eq, eNot_eq, eSl_eq, pNo_eq, pSome_eq, eComp_eq, iVal_eq, iArgs_eq, aNil_eq, aCons_eq, tVal_eq, tAnd_eq, tOr_eq, tNot_eq, tTru_eq, truth_bl, truth_non, get_0, get_S, Option.join_some, ofO_some, Res.bind_ok, Res.thn_ok, SR.bind_nx, SR.bind_ret, SR.res_ret, SR.res_nx, List.set_cons_succ, List.set_cons_zero, if_true, Bool.false_eq_true, if_false, typ_str, gTpl_eq, gsCons_eq, gsNil_eq, gNam_eq, Option.bind_some, Bool.not_true, Bool.not_false, List.replicate, fn_1, fn_2, fn_3, fn_4, oEq_str, oNe_str, oEq_int, oNe_int, oAdd_int, oSub_int, oLt_int, oGt_int, oLe_int, oGe_int, oIsN_eq, oNeg_int, bLen_str, oIn_ch, oNin_ch, S_e, S_0, S_9, S_mi, S_po, S_zs9, S_num, S_ed, S_text, decide_eq_true, decide_eq_false, beqI_t, beqI_f, szOk_of, List.length_cons, List.length_nil, Nat.reduceAdd, M_v_edited, B_v_edited, so, bo]
  · rw [if_neg m0, ed_is _ _ m0]
    cases b : bodyB (sgS t).1 with
    | false =>
      rw [b] at bo
      refine ⟨h1, x1, ?_⟩
      simp (disch := omega) only [sSeq_eq, sSet_eq, sIf_eq, sRet_eq, sNop_eq, sExpr_eq, sAsg_eq, sAug_eq, sFor_eq, sRaise_eq, eBin_eq, eUn_eq, eVar_eq, eC_eq, eTup_eq, eLst_eq, eCall_eq, eCallB_eq, eMth_eq, eIf_eq, eAnd_eq, eOr_eq, eNot_eq, eSl_eq, pNo_eq, pSome_eq, eComp_eq, iVal_eq, iArgs_eq, aNil_eq, aCons_eq, tVal_eq, tAnd_eq, tOr_eq, tNot_eq, tTru_eq, truth_bl, truth_non, get_0, get_S, Option.join_some, ofO_some, Res.bind_ok, Res.thn_ok, SR.bind_nx, SR.bind_ret, SR.res_ret, SR.res_nx, List.set_cons_succ, List.set_cons_zero, if_true, Bool.false_eq_true, if_false, typ_str, gTpl_eq, gsCons_eq, gsNil_eq, gNam_eq, Option.bind_some, Bool.not_true, Bool.not_false, List.replicate, fn_1, fn_2, fn_3, fn_4, oEq_str, oNe_str, oEq_int, oNe_int, oAdd_int, oSub_int, oLt_int, oGt_int, oLe_int, oGe_int, oIsN_eq, oNeg_int, bLen_str, oIn_ch, oNin_ch, S_e, S_0, S_9, S_mi, S_po, S_zs9, S_num, S_ed, S_text, decide_eq_true, decide_eq_false, beqI_t, beqI_f, szOk_of, List.length_cons, List.length_nil, Nat.reduceAdd, M_v_edited, B_v_edited, so, bo]
      simp
    | true =>
      rw [b] at bo
      refine ⟨h2, x1.trans x2, ?_⟩
      by_cases q : (insF (whole (sgS t).1)).length + frac (sgS t).1 ≤ 18
      · simp (disch := omega) only [sSeq_eq, sSet_eq, sIf_eq, sRet_eq, sNop_eq, sExpr_eq, sAsg_eq, sAug_eq, sFor_eq, sRaise_eq, eBin_eq, eUn_eq, eVar_eq, eC_eq, eTup_eq, eLst_eq, eCall_eq, eCallB_eq, eMth_eq, eIf_eq, eAnd_eq, eOr_eq, eNot_eq, eSl_eq, pNo_eq, pSome_eq, eComp_eq, iVal_eq, iArgs_eq, aNil_eq, aCons_eq, tVal_eq, tAnd_eq, tOr_eq, tNot_eq, tTru_eq, truth_bl, truth_non, get_0, get_S, Option.join_some, ofO_some, Res.bind_ok, Res.thn_ok, SR.bind_nx, SR.bind_ret, SR.res_ret, SR.res_nx, List.set_cons_succ, List.set_cons_zero, if_true, Bool.false_eq_true, if_false, typ_str, gTpl_eq, gsCons_eq, gsNil_eq, gNam_eq, Option.bind_some, Bool.not_true, Bool.not_false, List.replicate, fn_1, fn_2, fn_3, fn_4, oEq_str, oNe_str, oEq_int, oNe_int, oAdd_int, oSub_int, oLt_int, oGt_int, oLe_int, oGe_int, oIsN_eq, oNeg_int, bLen_str, oIn_ch, oNin_ch, S_e, S_0, S_9, S_mi, S_po, S_zs9, S_num, S_ed, S_text, decide_eq_true, decide_eq_false, beqI_t, beqI_f, szOk_of, List.length_cons, List.length_nil, Nat.reduceAdd, M_v_edited, B_v_edited, T_v_edited_1, so, bo, dg, c_MOST_DIGITS]
        rw [if_pos ⟨trivial, q⟩]
      · simp (disch := omega) only [sSeq_eq, sSet_eq, sIf_eq, sRet_eq, sNop_eq, sExpr_eq, sAsg_eq, sAug_eq, sFor_eq, sRaise_eq, eBin_eq, eUn_eq, eVar_eq, eC_eq, eTup_eq, eLst_eq, eCall_eq, eCallB_eq, eMth_eq, eIf_eq, eAnd_eq, eOr_eq, eNot_eq, eSl_eq, pNo_eq, pSome_eq, eComp_eq, iVal_eq, iArgs_eq, aNil_eq, aCons_eq, tVal_eq, tAnd_eq, tOr_eq, tNot_eq, tTru_eq, truth_bl, truth_non, get_0, get_S, Option.join_some, ofO_some, Res.bind_ok, Res.thn_ok, SR.bind_nx, SR.bind_ret, SR.res_ret, SR.res_nx, List.set_cons_succ, List.set_cons_zero, if_true, Bool.false_eq_true, if_false, typ_str, gTpl_eq, gsCons_eq, gsNil_eq, gNam_eq, Option.bind_some, Bool.not_true, Bool.not_false, List.replicate, fn_1, fn_2, fn_3, fn_4, oEq_str, oNe_str, oEq_int, oNe_int, oAdd_int, oSub_int, oLt_int, oGt_int, oLe_int, oGe_int, oIsN_eq, oNeg_int, bLen_str, oIn_ch, oNin_ch, S_e, S_0, S_9, S_mi, S_po, S_zs9, S_num, S_ed, S_text, decide_eq_true, decide_eq_false, beqI_t, beqI_f, szOk_of, List.length_cons, List.length_nil, Nat.reduceAdd, M_v_edited, B_v_edited, T_v_edited_1, so, bo, dg, c_MOST_DIGITS]
        rw [if_neg (fun z => q z.2)]
end Law

set_option maxRecDepth 100000
set_option maxHeartbeats 1000000
set_option linter.all false
/-! Pi: counts written out -/
namespace Law
open Cd Mir
@[simp] theorem S_op : S "(" = [40] := by decide
@[simp] theorem S_cl : S ")" = [41] := by decide
@[simp] theorem S_figs : S "0123456789" = [48, 49, 50, 51, 52, 53, 54, 55, 56, 57] := by decide
def isF (c : Nat) : Bool := decide (c ∈ [48, 49, 50, 51, 52, 53, 54, 55, 56, 57])
theorem isF_iff (c : Nat) : isF c = true ↔ 48 ≤ c ∧ c ≤ 57 := by
  unfold isF
  rw [decide_eq_true_eq]
  simp only [List.mem_cons, List.not_mem_nil, or_false]
  omega
/-- a count behind the bracket: the figures and what stands behind the other bracket -/
def grp (r : List Nat) : Option (List Nat × List Nat) :=
  let w := r.takeWhile isF
  if w ≠ [] ∧ w.length ≤ 2 ∧ w.take 1 ≠ [48] ∧ (r.drop w.length).take 1 = [41] then some (w, r.drop (w.length + 1)) else none
def xpd : Nat → List Nat → Option (List Nat)
  | 0, _ => some []
  | _ + 1, [] => some []
  | n + 1, c :: r => if r.take 1 = [40] then (match grp (r.drop 1) with
      | some (w, k) => (xpd n k).map fun y => List.replicate (digV w) c ++ y
      | none => none)
    else (xpd n r).map fun y => c :: y
theorem grp_some {r w k : List Nat} : grp r = some (w, k) ↔ r = w ++ 41 :: k ∧ w.all isF = true ∧ w ≠ [] ∧ w.length ≤ 2 ∧ w.take 1 ≠ [48] := by
  have tw : ∀ (w k : List Nat), w.all isF = true → (w ++ 41 :: k).takeWhile isF = w := by
    intro w
    induction w with
    | nil => intro k _; rfl
    | cons c w ih =>
      intro k h
      rw [List.all_cons, Bool.and_eq_true] at h
      rw [List.cons_append, List.takeWhile_cons_of_pos h.1, ih k h.2]
  constructor
  · intro h
    unfold grp at h
    simp only at h
    split at h
    · rename_i q
      obtain ⟨q1, q2, q3, q4⟩ := q
      injection h with h
      injection h with hw hk
      have e := List.takeWhile_append_dropWhile (p := isF) (l := r)
      have ed : r.drop (r.takeWhile isF).length = r.dropWhile isF := by
        conv => lhs; rw [show r.drop (r.takeWhile isF).length = (r.takeWhile isF ++ r.dropWhile isF).drop (r.takeWhile isF).length by rw [e]]
        exact List.drop_left
      have all : (r.takeWhile isF).all isF = true := List.all_takeWhile
      subst hw
      refine ⟨?_, all, q1, q2, q3⟩
      rw [← List.drop_drop] at hk
      cases z : r.drop (r.takeWhile isF).length with
      | nil => rw [z] at q4; cases q4
      | cons x y =>
        rw [z] at q4 hk
        have : x = 41 := (List.cons.inj q4).1
        subst this
        have hk : y = k := hk
        subst hk
        rw [← z, ed, e]
    · cases h
  · rintro ⟨rfl, h1, h2, h3, h4⟩
    unfold grp
    simp only [tw w k h1]
    rw [if_pos ⟨h2, h3, h4, by rw [List.drop_left]; rfl⟩]
    rw [← List.drop_drop, List.drop_left]
    rfl
end Law

set_option maxRecDepth 100000
set_option maxHeartbeats 1000000
set_option linter.all false
namespace Law
open Cd Mir
def okF (p : List Nat) : Bool := !(p == []) && p.all isF
theorem are_figures_ok (p : List Nat) (h : Hep) : M_are_figures [.str p] h = .ok (.bl (okF p)) h := by
  have t1 : isT "str" "str" = true := by decide
  unfold okF
  cases q : (p == []) with
  | true => simp (disch := omega) only [sSeq_eq, sSet_eq, sIf_eq, sRet_eq, sNop_eq, sExpr_eq, sAsg_eq, sAug_eq, sFor_eq, sRaise_eq, eBin_eq, eUn_eq, eVar_eq, eC_eq, eTup_eq, eLst_eq, eCall_eq, eCallB_eq, eMth_eq, eIf_eq, eAnd_eq, eOr_eq, eNot_eq, eSl_eq, pNo_eq, pSome_eq, eComp_eq, iVal_eq, iArgs_eq, aNil_eq, aCons_eq, tVal_eq, tAnd_eq, tOr_eq, tNot_eq, tTru_eq, truth_bl, truth_non, get_0, get_S, Option.join_some, ofO_some, Res.bind_ok, Res.thn_ok, SR.bind_nx, SR.bind_ret, SR.res_ret, SR.res_nx, List.set_cons_succ, List.set_cons_zero, if_true, Bool.false_eq_true, if_false, typ_str, gTpl_eq, gsCons_eq, gsNil_eq, gNam_eq, Option.bind_some, Bool.not_true, Bool.not_false, List.replicate, fn_1, fn_2, fn_3, fn_4, oEq_str, oNe_str, oEq_int, oNe_int, oAdd_int, oSub_int, oLt_int, oGt_int, oLe_int, oGe_int, oIsN_eq, oNeg_int, bLen_str, oIn_ch, oNin_ch, S_e, S_0, S_9, S_mi, S_po, S_zs9, S_num, S_ed, S_text, decide_eq_true, decide_eq_false, beqI_t, beqI_f, szOk_of, List.length_cons, List.length_nil, Nat.reduceAdd, M_are_figures, B_are_figures, oIsi_eq, Option.map_some, t1, q]; rfl
  | false =>
    have al := all_loop 1 L_are_figures_1 isF (fun x => [some (.str p), x]) (fun x v => rfl) (fun c h => by
      unfold isF
      by_cases z : c ∈ [48, 49, 50, 51, 52, 53, 54, 55, 56, 57]
      · rw [decide_eq_true z]
        simp (disch := omega) only [sSeq_eq, sSet_eq, sIf_eq, sRet_eq, sNop_eq, sExpr_eq, sAsg_eq, sAug_eq, sFor_eq, sRaise_eq, eBin_eq, eUn_eq, eVar_eq, eC_eq, eTup_eq, eLst_eq, eCall_eq, eCallB_eq, eMth_eq, eIf_eq, eAnd_eq, eOr_eq, eNot_eq, eSl_eq, pNo_eq, pSome_eq, eComp_eq, iVal_eq, iArgs_eq, aNil_eq, aCons_eq, tVal_eq, tAnd_eq, tOr_eq, tNot_eq, tTru_eq, truth_bl, truth_non, get_0, get_S, Option.join_some, ofO_some, Res.bind_ok, Res.thn_ok, SR.bind_nx, SR.bind_ret, SR.res_ret, SR.res_nx, List.set_cons_succ, List.set_cons_zero, if_true, Bool.false_eq_true, if_false, typ_str, gTpl_eq, gsCons_eq, gsNil_eq, gNam_eq, Option.bind_some, Bool.not_true, Bool.not_false, List.replicate, fn_1, fn_2, fn_3, fn_4, oEq_str, oNe_str, oEq_int, oNe_int, oAdd_int, oSub_int, oLt_int, oGt_int, oLe_int, oGe_int, oIsN_eq, oNeg_int, bLen_str, oIn_ch, oNin_ch, S_e, S_0, S_9, S_mi, S_po, S_zs9, S_num, S_ed, S_text, decide_eq_true, decide_eq_false, beqI_t, beqI_f, szOk_of, List.length_cons, List.length_nil, Nat.reduceAdd, L_are_figures_1, c_FIGURES, S_figs, decide_eq_true z]
      · rw [decide_eq_false z]
        simp (disch := omega) only [sSeq_eq, sSet_eq, sIf_eq, sRet_eq, sNop_eq, sExpr_eq, sAsg_eq, sAug_eq, sFor_eq, sRaise_eq, eBin_eq, eUn_eq, eVar_eq, eC_eq, eTup_eq, eLst_eq, eCall_eq, eCallB_eq, eMth_eq, eIf_eq, eAnd_eq, eOr_eq, eNot_eq, eSl_eq, pNo_eq, pSome_eq, eComp_eq, iVal_eq, iArgs_eq, aNil_eq, aCons_eq, tVal_eq, tAnd_eq, tOr_eq, tNot_eq, tTru_eq, truth_bl, truth_non, get_0, get_S, Option.join_some, ofO_some, Res.bind_ok, Res.thn_ok, SR.bind_nx, SR.bind_ret, SR.res_ret, SR.res_nx, List.set_cons_succ, List.set_cons_zero, if_true, Bool.false_eq_true, if_false, typ_str, gTpl_eq, gsCons_eq, gsNil_eq, gNam_eq, Option.bind_some, Bool.not_true, Bool.not_false, List.replicate, fn_1, fn_2, fn_3, fn_4, oEq_str, oNe_str, oEq_int, oNe_int, oAdd_int, oSub_int, oLt_int, oGt_int, oLe_int, oGe_int, oIsN_eq, oNeg_int, bLen_str, oIn_ch, oNin_ch, S_e, S_0, S_9, S_mi, S_po, S_zs9, S_num, S_ed, S_text, decide_eq_true, decide_eq_false, beqI_t, beqI_f, szOk_of, List.length_cons, List.length_nil, Nat.reduceAdd, L_are_figures_1, c_FIGURES, S_figs, decide_eq_false z]) p none h
    simp (disch := omega) only [sSeq_eq, sSet_eq, sIf_eq, sRet_eq, sNop_eq, sExpr_eq, sAsg_eq, sAug_eq, sFor_eq, sRaise_eq, eBin_eq, eUn_eq, eVar_eq, eC_eq, eTup_eq, eLst_eq, eCall_eq, eCallB_eq, eMth_eq, eIf_eq, eAnd_eq, eOr_eq, eNot_eq, eSl_eq, pNo_eq, pSome_eq, eComp_eq, iVal_eq, iArgs_eq, aNil_eq, aCons_eq, tVal_eq, tAnd_eq, tOr_eq, tNot_eq, tTru_eq, truth_bl, truth_non, get_0, get_S, Option.join_some, ofO_some, Res.bind_ok, Res.thn_ok, SR.bind_nx, SR.bind_ret, SR.res_ret, SR.res_nx, List.set_cons_succ, List.set_cons_zero, if_true, Bool.false_eq_true, if_false, typ_str, gTpl_eq, gsCons_eq, gsNil_eq, gNam_eq, Option.bind_some, Bool.not_true, Bool.not_false, List.replicate, fn_1, fn_2, fn_3, fn_4, oEq_str, oNe_str, oEq_int, oNe_int, oAdd_int, oSub_int, oLt_int, oGt_int, oLe_int, oGe_int, oIsN_eq, oNeg_int, bLen_str, oIn_ch, oNin_ch, S_e, S_0, S_9, S_mi, S_po, S_zs9, S_num, S_ed, S_text, decide_eq_true, decide_eq_false, beqI_t, beqI_f, szOk_of, List.length_cons, List.length_nil, Nat.reduceAdd, M_are_figures, B_are_figures, oIsi_eq, Option.map_some, t1, q, items_str]
    rw [al]
    rfl
theorem digV_two {w : List Nat} (h : w.all isF = true) (l : w.length ≤ 2) : digV w ≤ 99 := by
  match w, l with
  | [], _ => decide
  | [a], _ =>
    have := (isF_iff a).mp (List.all_eq_true.mp h a (by simp))
    show 0 * 10 + (a - 48) ≤ 99
    omega
  | [a, b], _ =>
    have h1 := (isF_iff a).mp (List.all_eq_true.mp h a (by simp))
    have h2 := (isF_iff b).mp (List.all_eq_true.mp h b (by simp))
    show (0 * 10 + (a - 48)) * 10 + (b - 48) ≤ 99
    omega
theorem bIntS_two {w : List Nat} (h : w.all isF = true) (w0 : w ≠ []) (l : w.length ≤ 2) (hh : Hep) : bIntS [.str w] hh = some (.int (digV w), hh) := bIntS_of (by
  rw [List.all_eq_true] at h ⊢
  intro c hc
  have := (isF_iff c).mp (h c hc)
  simp [this]) w0 (by omega)
theorem drop_succ {t r : List Nat} {i c : Nat} (e : t.drop i = c :: r) : t.drop (i + 1) = r ∧ atI t (i : Int) = some c ∧ i < t.length := by
  have hi : i < t.length := by
    have := congrArg List.length e
    rw [List.length_drop, List.length_cons] at this
    omega
  refine ⟨by rw [← List.drop_drop, e]; rfl, ?_, hi⟩
  rw [atI_nat hi]
  have : (t.drop i)[0]? = some c := by rw [e]; rfl
  rw [List.getElem?_drop] at this
  exact this
theorem cut_one (t : List Nat) (i : Nat) (hi : i ≤ t.length) : cut t (some (i : Int)) (some ((i : Int) + 1)) = (t.drop i).take 1 := by
  have := cutMid t i (i + 1) hi
  rw [show i + 1 - i = 1 by omega] at this
  exact this
/-! the program's loop -/
section
variable {t : List Nat} (tl : t.length ≤ 2000)
include tl
theorem ex_plain {i c : Nat} {r : List Nat} (e : t.drop i = c :: r) (hb : (r.take 1 == [40]) = false) {n : Nat} (ps : List (List Nat)) (pl : ps.length ≤ 2000) {h : Hep} (g : h[n]? = some (.lst (ps.map .str))) (w3 w4 w5 w6 w7 : Option Val) :
    L_expanded_4 [some (.str t), some (.ref n), some (.int i), w3, w4, w5, w6, w7] h = .nx [some (.str t), some (.ref n), some (.int (i + 1)), some (.str [c]), some (.int 1), w5, w6, w7] (h.set n (.lst ((ps ++ [List.replicate 1 c]).map .str))) := by
  obtain ⟨d1, a1, hi⟩ := drop_succ e
  have i0 : oIdx h (.str t) (.int i) = some (.str [c]) := oIdx_str (by omega) a1
  have sl : oSl h (.str t) (some ((i : Int) + 1)) (some ((i : Int) + 1 + 1)) = some (.str (r.take 1), h) := by
    rw [oSl_str (by omega)]
    have := cut_one t (i + 1) (by omega)
    rw [d1] at this
    rw [← this]
    rfl
  have ap := append_ok g (by rw [List.length_map]; omega) (.str (repL [c] 1))
  have mu : oMulS h (.str [c]) (.int 1) = some (.str (repL [c] 1)) := oMulS_str ⟨by decide, by decide, by simp⟩
  simp (disch := omega) only [sSeq_eq, sSet_eq, sIf_eq, sRet_eq, sNop_eq, sExpr_eq, sAsg_eq, sAug_eq, sFor_eq, sRaise_eq, eBin_eq, eUn_eq, eVar_eq, eC_eq, eTup_eq, eLst_eq, eCall_eq, eCallB_eq, eMth_eq, eIf_eq, eAnd_eq, eOr_eq, eNot_eq, eSl_eq, pNo_eq, pSome_eq, eComp_eq, iVal_eq, iArgs_eq, aNil_eq, aCons_eq, tVal_eq, tAnd_eq, tOr_eq, tNot_eq, tTru_eq, truth_bl, truth_non, get_0, get_S, Option.join_some, ofO_some, Res.bind_ok, Res.thn_ok, SR.bind_nx, SR.bind_ret, SR.res_ret, SR.res_nx, List.set_cons_succ, List.set_cons_zero, if_true, Bool.false_eq_true, if_false, typ_str, gTpl_eq, gsCons_eq, gsNil_eq, gNam_eq, Option.bind_some, Bool.not_true, Bool.not_false, List.replicate, fn_1, fn_2, fn_3, fn_4, oEq_str, oNe_str, oEq_int, oNe_int, oAdd_int, oSub_int, oLt_int, oGt_int, oLe_int, oGe_int, oIsN_eq, oNeg_int, bLen_str, oIn_ch, oNin_ch, S_e, S_0, S_9, S_mi, S_po, S_zs9, S_num, S_ed, S_text, decide_eq_true, decide_eq_false, beqI_t, beqI_f, szOk_of, List.length_cons, List.length_nil, Nat.reduceAdd, L_expanded_4, i0, oIAdd_int, sl, S_op, hb, T_expanded_2, typ_lst g, mu, ap]
  rw [List.map_append, repL_ch]
  rfl
theorem ex_count {i c : Nat} {r w k : List Nat} (e : t.drop i = c :: r) (hb : (r.take 1 == [40]) = true) (hg : grp (r.drop 1) = some (w, k)) {n : Nat} (ps : List (List Nat)) (pl : ps.length ≤ 2000) {h : Hep} (g : h[n]? = some (.lst (ps.map .str))) (w3 w4 w5 w6 w7 : Option Val) :
    ∃ j : Nat, i < j ∧ t.drop j = k ∧ j ≤ t.length ∧ L_expanded_4 [some (.str t), some (.ref n), some (.int i), w3, w4, w5, w6, w7] h = .nx [some (.str t), some (.ref n), some (.int j), some (.str [c]), some (.int (digV w)), some (.int ((j : Int) - 1)), some (.str w), w7] (h.set n (.lst ((ps ++ [List.replicate (digV w) c]).map .str))) := by
  obtain ⟨d1, a1, hi⟩ := drop_succ e
  obtain ⟨e1, f1, f2, f3, f4⟩ := grp_some.mp hg
  have rr : r = 40 :: (w ++ 41 :: k) := by
    cases r with
    | nil => cases hb
    | cons x y =>
      have : x = 40 := by simpa using hb
      subst this
      rw [← e1]; rfl
  have i0 : oIdx h (.str t) (.int i) = some (.str [c]) := oIdx_str (by omega) a1
  have sl : oSl h (.str t) (some ((i : Int) + 1)) (some ((i : Int) + 1 + 1)) = some (.str (r.take 1), h) := by
    rw [oSl_str (by omega)]
    have := cut_one t (i + 1) (by omega)
    rw [d1] at this
    rw [← this]
    rfl
  have rl : r.length = 1 + w.length + 1 + k.length := by rw [rr]; simp; omega
  have tlen : t.length = i + 1 + r.length := by
    have := congrArg List.length e
    rw [List.length_drop, List.length_cons] at this
    omega
  have n41 : ∀ d ∈ w, (!(d == 41)) = true := fun d hd => by
    have := (isF_iff d).mp (List.all_eq_true.mp f1 d hd)
    have : d ≠ 41 := by omega
    simp [this]
  have tw : r.takeWhile (fun d => !(d == 41)) = 40 :: w := by
    rw [rr, List.takeWhile_cons_of_pos (by decide), List.takeWhile_append_of_pos n41, List.takeWhile_cons_of_neg (by simp), List.append_nil]
  have fi : findFrom 41 (i + 1) t = ((i + 1 + (w.length + 1) : Nat) : Int) := by
    unfold findFrom
    rw [d1, if_pos (by rw [rr]; simp), tw]
    rfl
  have fm : mFind3 (.str t) [.str [41], .int ((i : Int) + 1)] h = some (.int ((i + 1 + (w.length + 1) : Nat) : Int), h) := by
    have : mFind3 (.str t) [.str [41], .int ((i : Int) + 1)] h = if 0 ≤ ((i : Int) + 1) ∧ ((i : Int) + 1).toNat ≤ t.length then some (.int (findFrom 41 ((i : Int) + 1).toNat t), h) else none := by
      unfold mFind3
      simp only
    rw [this, if_pos ⟨by omega, by omega⟩, show ((i : Int) + 1).toNat = i + 1 by omega, fi]
  have sw : oSl h (.str t) (some ((i : Int) + 1 + 1)) (some ((i + 1 + (w.length + 1) : Nat) : Int)) = some (.str w, h) := by
    have d2 : t.drop (i + 2) = w ++ 41 :: k := by rw [show i + 2 = (i + 1) + 1 by omega, ← List.drop_drop, d1, rr]; rfl
    rw [oSl_str (by omega), show ((i : Int) + 1 + 1) = ((i + 2 : Nat) : Int) by omega, cutMid _ _ _ (by omega), d2, show i + 1 + (w.length + 1) - (i + 2) = w.length by omega, List.take_left]
  have okw : okF w = true := by unfold okF; rw [f1, beq_false_of_ne f2]; rfl
  have ar := are_figures_ok w h
  rw [okw] at ar
  have iw : oIdx h (.str w) (.int 0) = some (.str (w.take 1)) := by
    cases w with
    | nil => exact absurd rfl f2
    | cons x y => exact oIdx_str (by omega) (atI_zero _ _)
  have w48 : (w.take 1 == [48]) = false := beq_false_of_ne f4
  have bi := bIntS_two f1 f2 f3 h
  have dl := digV_two f1 f3
  have ap := append_ok g (by rw [List.length_map]; omega) (.str (repL [c] (digV w)))
  have mu : oMulS h (.str [c]) (.int (digV w)) = some (.str (repL [c] (digV w))) := by
    rw [oMulS_str ⟨by omega, by omega, by simp; omega⟩, Int.toNat_natCast]
  refine ⟨i + 1 + (w.length + 1) + 1, by omega, ?_, by omega, ?_⟩
  · rw [show i + 1 + (w.length + 1) + 1 = (i + 1) + (1 + w.length + 1) by omega, ← List.drop_drop, d1, rr]
    rw [show 1 + w.length + 1 = (w.length + 1) + 1 by omega, List.drop_succ_cons, ← List.drop_drop, List.drop_left]
    rfl
  · have lw : w.length ≤ 16777216 := by omega
    simp (disch := omega) only [sSeq_eq, sSet_eq, sIf_eq, sRet_eq, sNop_eq, sExpr_eq, sAsg_eq, sAug_eq, sFor_eq, sRaise_eq, eBin_eq, eUn_eq, eVar_eq, eC_eq, eTup_eq, eLst_eq, eCall_eq, eCallB_eq, eMth_eq, eIf_eq, eAnd_eq, eOr_eq, eNot_eq, eSl_eq, pNo_eq, pSome_eq, eComp_eq, iVal_eq, iArgs_eq, aNil_eq, aCons_eq, tVal_eq, tAnd_eq, tOr_eq, tNot_eq, tTru_eq, truth_bl, truth_non, get_0, get_S, Option.join_some, ofO_some, Res.bind_ok, Res.thn_ok, SR.bind_nx, SR.bind_ret, SR.res_ret, SR.res_nx, List.set_cons_succ, List.set_cons_zero, if_true, Bool.false_eq_true, if_false, typ_str, gTpl_eq, gsCons_eq, gsNil_eq, gNam_eq, Option.bind_some, Bool.not_true, Bool.not_false, List.replicate, fn_1, fn_2, fn_3, fn_4, oEq_str, oNe_str, oEq_int, oNe_int, oAdd_int, oSub_int, oLt_int, oGt_int, oLe_int, oGe_int, oIsN_eq, oNeg_int, bLen_str, oIn_ch, oNin_ch, S_e, S_0, S_9, S_mi, S_po, S_zs9, S_num, S_ed, S_text, decide_eq_true, decide_eq_false, beqI_t, beqI_f, szOk_of, List.length_cons, List.length_nil, Nat.reduceAdd, L_expanded_4, i0, oIAdd_int, sl, S_op, hb, S_cl, fm, sw, ar, iw, w48, bi, T_expanded_3, T_expanded_2, typ_lst g, mu, ap]
    rw [List.map_append, repL_ch]
    rw [show ((i + 1 + (w.length + 1) : Nat) : Int) + 1 = ((i + 1 + (w.length + 1) + 1 : Nat) : Int) by omega, show ((i + 1 + (w.length + 1) + 1 : Nat) : Int) - 1 = ((i + 1 + (w.length + 1) : Nat) : Int) by omega]
    rfl
theorem ex_none {i c : Nat} {r : List Nat} (e : t.drop i = c :: r) (hb : (r.take 1 == [40]) = true) (hg : grp (r.drop 1) = none) (v1 : Val) (h : Hep) (w3 w4 w5 w6 w7 : Option Val) :
    ∃ η, L_expanded_4 [some (.str t), some v1, some (.int i), w3, w4, w5, w6, w7] h = .exc ⟨"BadPicture", []⟩ η h := by
  obtain ⟨d1, a1, hi⟩ := drop_succ e
  obtain ⟨r1, rr⟩ : ∃ r1, r = 40 :: r1 := by
    cases r with
    | nil => cases hb
    | cons x y =>
      have : x = 40 := by simpa using hb
      subst this
      exact ⟨y, rfl⟩
  have hg : grp r1 = none := by rw [rr] at hg; exact hg
  have i0 : oIdx h (.str t) (.int i) = some (.str [c]) := oIdx_str (by omega) a1
  have sl : oSl h (.str t) (some ((i : Int) + 1)) (some ((i : Int) + 1 + 1)) = some (.str (r.take 1), h) := by
    rw [oSl_str (by omega)]
    have := cut_one t (i + 1) (by omega)
    rw [d1] at this
    rw [← this]
    rfl
  have tlen : t.length = i + 1 + r.length := by
    have := congrArg List.length e
    rw [List.length_drop, List.length_cons] at this
    omega
  have fm : mFind3 (.str t) [.str [41], .int ((i : Int) + 1)] h = some (.int (findFrom 41 (i + 1) t), h) := by
    have : mFind3 (.str t) [.str [41], .int ((i : Int) + 1)] h = if 0 ≤ ((i : Int) + 1) ∧ ((i : Int) + 1).toNat ≤ t.length then some (.int (findFrom 41 ((i : Int) + 1).toNat t), h) else none := by
      unfold mFind3
      simp only
    rw [this, if_pos ⟨by omega, by omega⟩, show ((i : Int) + 1).toNat = i + 1 by omega]
  by_cases m : 41 ∈ r1
  · have tw : r.takeWhile (fun d => !(d == 41)) = 40 :: r1.takeWhile (fun d => !(d == 41)) := by
      rw [rr, List.takeWhile_cons_of_pos (by decide)]
    have es := List.takeWhile_append_dropWhile (p := fun d => !(d == 41)) (l := r1)
    obtain ⟨k, hk⟩ : ∃ k, r1.dropWhile (fun d => !(d == 41)) = 41 :: k := by
      cases z : r1.dropWhile (fun d => !(d == 41)) with
      | nil =>
        rw [z, List.append_nil] at es
        rw [← es] at m
        have := List.all_eq_true.mp (List.all_takeWhile (p := fun d => !(d == 41)) (l := r1)) 41 m
        simp at this
      | cons x y =>
        have hh := List.head?_dropWhile_not (fun d => !(d == 41)) r1
        rw [z] at hh
        have : x = 41 := by simpa using hh
        subst this
        exact ⟨y, rfl⟩
    rw [hk] at es
    generalize hw : r1.takeWhile (fun d => !(d == 41)) = w at *
    have fi : findFrom 41 (i + 1) t = ((i + 1 + (w.length + 1) : Nat) : Int) := by
      unfold findFrom
      rw [d1, if_pos (by rw [rr]; exact List.mem_cons_of_mem _ m), tw]
      rfl
    have r1l : r1.length = w.length + 1 + k.length := by rw [← es]; simp; omega
    have rl : r.length = 1 + r1.length := by rw [rr]; simp; omega
    have sw : oSl h (.str t) (some ((i : Int) + 1 + 1)) (some ((i + 1 + (w.length + 1) : Nat) : Int)) = some (.str w, h) := by
      have d2 : t.drop (i + 2) = w ++ 41 :: k := by rw [show i + 2 = (i + 1) + 1 by omega, ← List.drop_drop, d1, rr, es]; rfl
      rw [oSl_str (by omega), show ((i : Int) + 1 + 1) = ((i + 2 : Nat) : Int) by omega, cutMid _ _ _ (by omega), d2, show i + 1 + (w.length + 1) - (i + 2) = w.length by omega, List.take_left]
    rw [fi] at fm
    have ar := are_figures_ok w h
    have lw : w.length ≤ 16777216 := by omega
    cases ok : okF w with
    | false =>
      rw [ok] at ar
      refine ⟨[some (.str t), some v1, some (.int ((i : Int) + 1)), some (.str [c]), some (.int 1), some (.int ((i + 1 + (w.length + 1) : Nat) : Int)), some (.str w), w7], ?_⟩
      simp (disch := omega) only [sSeq_eq, sSet_eq, sIf_eq, sRet_eq, sNop_eq, sExpr_eq, sAsg_eq, sAug_eq, sFor_eq, sRaise_eq, eBin_eq, eUn_eq, eVar_eq, eC_eq, eTup_eq, eLst_eq, eCall_eq, eCallB_eq, eMth_eq, eIf_eq, eAnd_eq, eOr_eq, eNot_eq, eSl_eq, pNo_eq, pSome_eq, eComp_eq, iVal_eq, iArgs_eq, aNil_eq, aCons_eq, tVal_eq, tAnd_eq, tOr_eq, tNot_eq, tTru_eq, truth_bl, truth_non, get_0, get_S, Option.join_some, ofO_some, Res.bind_ok, Res.thn_ok, SR.bind_nx, SR.bind_ret, SR.res_ret, SR.res_nx, List.set_cons_succ, List.set_cons_zero, if_true, Bool.false_eq_true, if_false, typ_str, gTpl_eq, gsCons_eq, gsNil_eq, gNam_eq, Option.bind_some, Bool.not_true, Bool.not_false, List.replicate, fn_1, fn_2, fn_3, fn_4, oEq_str, oNe_str, oEq_int, oNe_int, oAdd_int, oSub_int, oLt_int, oGt_int, oLe_int, oGe_int, oIsN_eq, oNeg_int, bLen_str, oIn_ch, oNin_ch, S_e, S_0, S_9, S_mi, S_po, S_zs9, S_num, S_ed, S_text, decide_eq_true, decide_eq_false, beqI_t, beqI_f, szOk_of, List.length_cons, List.length_nil, Nat.reduceAdd, L_expanded_4, i0, oIAdd_int, sl, S_op, hb, S_cl, fm, sw, ar, SR.bind_exc]
    | true =>
      rw [ok] at ar
      unfold okF at ok
      rw [Bool.and_eq_true] at ok
      have w0 : w ≠ [] := by simpa using ok.1
      have iw : oIdx h (.str w) (.int 0) = some (.str (w.take 1)) := by
        cases w with
        | nil => exact absurd rfl w0
        | cons x y => exact oIdx_str (by omega) (atI_zero _ _)
      by_cases z : (w.take 1 == [48]) = true
      · refine ⟨[some (.str t), some v1, some (.int ((i : Int) + 1)), some (.str [c]), some (.int 1), some (.int ((i + 1 + (w.length + 1) : Nat) : Int)), some (.str w), w7], ?_⟩
        simp (disch := omega) only [sSeq_eq, sSet_eq, sIf_eq, sRet_eq, sNop_eq, sExpr_eq, sAsg_eq, sAug_eq, sFor_eq, sRaise_eq, eBin_eq, eUn_eq, eVar_eq, eC_eq, eTup_eq, eLst_eq, eCall_eq, eCallB_eq, eMth_eq, eIf_eq, eAnd_eq, eOr_eq, eNot_eq, eSl_eq, pNo_eq, pSome_eq, eComp_eq, iVal_eq, iArgs_eq, aNil_eq, aCons_eq, tVal_eq, tAnd_eq, tOr_eq, tNot_eq, tTru_eq, truth_bl, truth_non, get_0, get_S, Option.join_some, ofO_some, Res.bind_ok, Res.thn_ok, SR.bind_nx, SR.bind_ret, SR.res_ret, SR.res_nx, List.set_cons_succ, List.set_cons_zero, if_true, Bool.false_eq_true, if_false, typ_str, gTpl_eq, gsCons_eq, gsNil_eq, gNam_eq, Option.bind_some, Bool.not_true, Bool.not_false, List.replicate, fn_1, fn_2, fn_3, fn_4, oEq_str, oNe_str, oEq_int, oNe_int, oAdd_int, oSub_int, oLt_int, oGt_int, oLe_int, oGe_int, oIsN_eq, oNeg_int, bLen_str, oIn_ch, oNin_ch, S_e, S_0, S_9, S_mi, S_po, S_zs9, S_num, S_ed, S_text, decide_eq_true, decide_eq_false, beqI_t, beqI_f, szOk_of, List.length_cons, List.length_nil, Nat.reduceAdd, L_expanded_4, i0, oIAdd_int, sl, S_op, hb, S_cl, fm, sw, ar, iw, z, SR.bind_exc]
      · have z' := Bool.eq_false_iff.mpr z
        have l2 : 2 < w.length := by
          refine Nat.lt_of_not_le fun l => ?_
          have : grp r1 = some (w, k) := grp_some.mpr ⟨es.symm, ok.2, w0, l, fun y => z (by rw [y]; rfl)⟩
          rw [this] at hg; cases hg
        refine ⟨[some (.str t), some v1, some (.int ((i : Int) + 1)), some (.str [c]), some (.int 1), some (.int ((i + 1 + (w.length + 1) : Nat) : Int)), some (.str w), w7], ?_⟩
        simp (disch := omega) only [sSeq_eq, sSet_eq, sIf_eq, sRet_eq, sNop_eq, sExpr_eq, sAsg_eq, sAug_eq, sFor_eq, sRaise_eq, eBin_eq, eUn_eq, eVar_eq, eC_eq, eTup_eq, eLst_eq, eCall_eq, eCallB_eq, eMth_eq, eIf_eq, eAnd_eq, eOr_eq, eNot_eq, eSl_eq, pNo_eq, pSome_eq, eComp_eq, iVal_eq, iArgs_eq, aNil_eq, aCons_eq, tVal_eq, tAnd_eq, tOr_eq, tNot_eq, tTru_eq, truth_bl, truth_non, get_0, get_S, Option.join_some, ofO_some, Res.bind_ok, Res.thn_ok, SR.bind_nx, SR.bind_ret, SR.res_ret, SR.res_nx, List.set_cons_succ, List.set_cons_zero, if_true, Bool.false_eq_true, if_false, typ_str, gTpl_eq, gsCons_eq, gsNil_eq, gNam_eq, Option.bind_some, Bool.not_true, Bool.not_false, List.replicate, fn_1, fn_2, fn_3, fn_4, oEq_str, oNe_str, oEq_int, oNe_int, oAdd_int, oSub_int, oLt_int, oGt_int, oLe_int, oGe_int, oIsN_eq, oNeg_int, bLen_str, oIn_ch, oNin_ch, S_e, S_0, S_9, S_mi, S_po, S_zs9, S_num, S_ed, S_text, decide_eq_true, decide_eq_false, beqI_t, beqI_f, szOk_of, List.length_cons, List.length_nil, Nat.reduceAdd, L_expanded_4, i0, oIAdd_int, sl, S_op, hb, S_cl, fm, sw, ar, iw, z', SR.bind_exc]
  · have fi : findFrom 41 (i + 1) t = -1 := by
      unfold findFrom
      rw [d1, if_neg (by rw [rr]; simp [m])]
    rw [fi] at fm
    have sw : oSl h (.str t) (some ((i : Int) + 1 + 1)) (some (-1)) = some (.str (cut t (some ((i : Int) + 1 + 1)) (some (-1))), h) := oSl_str (by omega) _ _
    refine ⟨[some (.str t), some v1, some (.int ((i : Int) + 1)), some (.str [c]), some (.int 1), some (.int (-1)), some (.str (cut t (some ((i : Int) + 1 + 1)) (some (-1)))), w7], ?_⟩
    simp (disch := omega) only [sSeq_eq, sSet_eq, sIf_eq, sRet_eq, sNop_eq, sExpr_eq, sAsg_eq, sAug_eq, sFor_eq, sRaise_eq, eBin_eq, eUn_eq, eVar_eq, eC_eq, eTup_eq, eLst_eq, eCall_eq, eCallB_eq, eMth_eq, eIf_eq, eAnd_eq, eOr_eq, eNot_eq, eSl_eq, pNo_eq, pSome_eq, eComp_eq, iVal_eq, iArgs_eq, aNil_eq, aCons_eq, tVal_eq, tAnd_eq, tOr_eq, tNot_eq, tTru_eq, truth_bl, truth_non, get_0, get_S, Option.join_some, ofO_some, Res.bind_ok, Res.thn_ok, SR.bind_nx, SR.bind_ret, SR.res_ret, SR.res_nx, List.set_cons_succ, List.set_cons_zero, if_true, Bool.false_eq_true, if_false, typ_str, gTpl_eq, gsCons_eq, gsNil_eq, gNam_eq, Option.bind_some, Bool.not_true, Bool.not_false, List.replicate, fn_1, fn_2, fn_3, fn_4, oEq_str, oNe_str, oEq_int, oNe_int, oAdd_int, oSub_int, oLt_int, oGt_int, oLe_int, oGe_int, oIsN_eq, oNeg_int, bLen_str, oIn_ch, oNin_ch, S_e, S_0, S_9, S_mi, S_po, S_zs9, S_num, S_ed, S_text, decide_eq_true, decide_eq_false, beqI_t, beqI_f, szOk_of, List.length_cons, List.length_nil, Nat.reduceAdd, L_expanded_4, i0, oIAdd_int, sl, S_op, hb, S_cl, fm, sw, SR.bind_exc]
end
end Law

set_option maxRecDepth 100000
set_option maxHeartbeats 1000000
set_option linter.all false
namespace Law
open Cd Mir
/-- what stood stands -/
def Ke (h h' : Hep) : Prop := ∀ (n : Nat) (o : Obj), h[n]? = some o → h'[n]? = some o
theorem Ext.ke {h h' : Hep} (x : Ext h h') : Ke h h' := fun _ _ e => x.get e
theorem Ke.trans {h h1 h2 : Hep} (a : Ke h h1) (b : Ke h1 h2) : Ke h h2 := fun n o e => b n o (a n o e)
def outS (t : List Nat) : List Nat := match xpd t.length t with
  | some y => if y.length ≤ 80 then y else []
  | none => []
theorem rep_len (w : List Nat) (c : Nat) : (List.replicate (digV w) c).length = digV w := List.length_replicate
/-- the program's loop comes to what is due -/
theorem ex_loop {t : List Nat} (tl : t.length ≤ 2000) {n : Nat} : ∀ (m i : Nat), i ≤ t.length → t.length ≤ i + m → ∀ (ps : List (List Nat)) (h : Hep) (w3 w4 w5 w6 w7 : Option Val), h[n]? = some (.lst (ps.map .str)) → ps.length ≤ i → ps.flatten.length ≤ 99 * i →
    (∃ y, xpd m (t.drop i) = some y ∧ ∃ (ps' : List (List Nat)) (h' : Hep) (v3 v4 v5 v6 : Option Val), sWhile (tVal (eBin oLt (eVar 2) (eCallB bLen (aCons (eVar 0) aNil)))) L_expanded_4 [some (.str t), some (.ref n), some (.int i), w3, w4, w5, w6, w7] h = .nx [some (.str t), some (.ref n), some (.int t.length), v3, v4, v5, v6, w7] h' ∧ h'[n]? = some (.lst (ps'.map .str)) ∧ ps'.flatten = ps.flatten ++ y ∧ ps'.length ≤ t.length ∧ ps'.flatten.length ≤ 99 * t.length ∧ h'.length = h.length ∧ ∀ a, a ≠ n → h'[a]? = h[a]?) ∨
    (xpd m (t.drop i) = none ∧ ∃ (η : Env) (h' : Hep), sWhile (tVal (eBin oLt (eVar 2) (eCallB bLen (aCons (eVar 0) aNil)))) L_expanded_4 [some (.str t), some (.ref n), some (.int i), w3, w4, w5, w6, w7] h = .exc ⟨"BadPicture", []⟩ η h' ∧ ∀ a, a ≠ n → h'[a]? = h[a]?) := by
  have done : ∀ (m : Nat) (ps : List (List Nat)) (h : Hep) (w3 w4 w5 w6 w7 : Option Val), h[n]? = some (.lst (ps.map .str)) → ps.length ≤ t.length → ps.flatten.length ≤ 99 * t.length → (∃ y, xpd m (t.drop t.length) = some y ∧ ∃ (ps' : List (List Nat)) (h' : Hep) (v3 v4 v5 v6 : Option Val), sWhile (tVal (eBin oLt (eVar 2) (eCallB bLen (aCons (eVar 0) aNil)))) L_expanded_4 [some (.str t), some (.ref n), some (.int t.length), w3, w4, w5, w6, w7] h = .nx [some (.str t), some (.ref n), some (.int t.length), v3, v4, v5, v6, w7] h' ∧ h'[n]? = some (.lst (ps'.map .str)) ∧ ps'.flatten = ps.flatten ++ y ∧ ps'.length ≤ t.length ∧ ps'.flatten.length ≤ 99 * t.length ∧ h'.length = h.length ∧ ∀ a, a ≠ n → h'[a]? = h[a]?) := fun m ps h w3 w4 w5 w6 w7 g l1 l2 => by
    refine ⟨[], ?_, ps, h, w3, w4, w5, w6, ?_, g, by rw [List.append_nil], l1, l2, rfl, fun a ne => rfl⟩
    · rw [List.drop_length]
      cases m <;> rfl
    · rw [sWhile_eq]
      simp (disch := omega) only [sSeq_eq, sSet_eq, sIf_eq, sRet_eq, sNop_eq, sExpr_eq, sAsg_eq, sAug_eq, sFor_eq, sRaise_eq, eBin_eq, eUn_eq, eVar_eq, eC_eq, eTup_eq, eLst_eq, eCall_eq, eCallB_eq, eMth_eq, eIf_eq, eAnd_eq, eOr_eq, eNot_eq, eSl_eq, pNo_eq, pSome_eq, eComp_eq, iVal_eq, iArgs_eq, aNil_eq, aCons_eq, tVal_eq, tAnd_eq, tOr_eq, tNot_eq, tTru_eq, truth_bl, truth_non, get_0, get_S, Option.join_some, ofO_some, Res.bind_ok, Res.thn_ok, SR.bind_nx, SR.bind_ret, SR.res_ret, SR.res_nx, List.set_cons_succ, List.set_cons_zero, if_true, Bool.false_eq_true, if_false, typ_str, gTpl_eq, gsCons_eq, gsNil_eq, gNam_eq, Option.bind_some, Bool.not_true, Bool.not_false, List.replicate, fn_1, fn_2, fn_3, fn_4, oEq_str, oNe_str, oEq_int, oNe_int, oAdd_int, oSub_int, oLt_int, oGt_int, oLe_int, oGe_int, oIsN_eq, oNeg_int, bLen_str, oIn_ch, oNin_ch, S_e, S_0, S_9, S_mi, S_po, S_zs9, S_num, S_ed, S_text, decide_eq_true, decide_eq_false, beqI_t, beqI_f, szOk_of, List.length_cons, List.length_nil, Nat.reduceAdd]
  intro m
  induction m with
  | zero =>
    intro i h1 h2 ps h w3 w4 w5 w6 w7 g l1 l2
    have : i = t.length := by omega
    subst this
    exact .inl (done 0 ps h w3 w4 w5 w6 w7 g l1 l2)
  | succ m ih =>
    intro i h1 h2 ps h w3 w4 w5 w6 w7 g l1 l2
    by_cases q : i = t.length
    · subst q
      exact .inl (done (m + 1) ps h w3 w4 w5 w6 w7 g l1 l2)
    · cases e : t.drop i with
      | nil => have := List.drop_eq_nil_iff.mp e; omega
      | cons c r =>
        obtain ⟨d1, a1, hi⟩ := drop_succ e
        have nl : n < h.length := (List.getElem?_eq_some_iff.mp g).1
        have go : ∀ (η : Env) (h' : Hep), L_expanded_4 [some (.str t), some (.ref n), some (.int i), w3, w4, w5, w6, w7] h = .nx η h' → sWhile (tVal (eBin oLt (eVar 2) (eCallB bLen (aCons (eVar 0) aNil)))) L_expanded_4 [some (.str t), some (.ref n), some (.int i), w3, w4, w5, w6, w7] h = sWhile (tVal (eBin oLt (eVar 2) (eCallB bLen (aCons (eVar 0) aNil)))) L_expanded_4 η h' := fun η h' ee => by
          rw [sWhile_eq]
          simp (disch := omega) only [sSeq_eq, sSet_eq, sIf_eq, sRet_eq, sNop_eq, sExpr_eq, sAsg_eq, sAug_eq, sFor_eq, sRaise_eq, eBin_eq, eUn_eq, eVar_eq, eC_eq, eTup_eq, eLst_eq, eCall_eq, eCallB_eq, eMth_eq, eIf_eq, eAnd_eq, eOr_eq, eNot_eq, eSl_eq, pNo_eq, pSome_eq, eComp_eq, iVal_eq, iArgs_eq, aNil_eq, aCons_eq, tVal_eq, tAnd_eq, tOr_eq, tNot_eq, tTru_eq, truth_bl, truth_non, get_0, get_S, Option.join_some, ofO_some, Res.bind_ok, Res.thn_ok, SR.bind_nx, SR.bind_ret, SR.res_ret, SR.res_nx, List.set_cons_succ, List.set_cons_zero, if_true, Bool.false_eq_true, if_false, typ_str, gTpl_eq, gsCons_eq, gsNil_eq, gNam_eq, Option.bind_some, Bool.not_true, Bool.not_false, List.replicate, fn_1, fn_2, fn_3, fn_4, oEq_str, oNe_str, oEq_int, oNe_int, oAdd_int, oSub_int, oLt_int, oGt_int, oLe_int, oGe_int, oIsN_eq, oNeg_int, bLen_str, oIn_ch, oNin_ch, S_e, S_0, S_9, S_mi, S_po, S_zs9, S_num, S_ed, S_text, decide_eq_true, decide_eq_false, beqI_t, beqI_f, szOk_of, List.length_cons, List.length_nil, Nat.reduceAdd, ee]
        rw [xpd]
        by_cases hb : (r.take 1 == [40]) = true
        · have hb' : r.take 1 = [40] := by simpa using hb
          rw [if_pos hb']
          cases hg : grp (r.drop 1) with
          | none =>
            obtain ⟨η, ee⟩ := ex_none tl e hb hg (.ref n) h w3 w4 w5 w6 w7
            refine .inr ⟨rfl, η, h, ?_, fun a ne => rfl⟩
            rw [sWhile_eq]
            simp (disch := omega) only [sSeq_eq, sSet_eq, sIf_eq, sRet_eq, sNop_eq, sExpr_eq, sAsg_eq, sAug_eq, sFor_eq, sRaise_eq, eBin_eq, eUn_eq, eVar_eq, eC_eq, eTup_eq, eLst_eq, eCall_eq, eCallB_eq, eMth_eq, eIf_eq, eAnd_eq, eOr_eq, eNot_eq, eSl_eq, pNo_eq, pSome_eq, eComp_eq, iVal_eq, iArgs_eq, aNil_eq, aCons_eq, tVal_eq, tAnd_eq, tOr_eq, tNot_eq, tTru_eq, truth_bl, truth_non, get_0, get_S, Option.join_some, ofO_some, Res.bind_ok, Res.thn_ok, SR.bind_nx, SR.bind_ret, SR.res_ret, SR.res_nx, List.set_cons_succ, List.set_cons_zero, if_true, Bool.false_eq_true, if_false, typ_str, gTpl_eq, gsCons_eq, gsNil_eq, gNam_eq, Option.bind_some, Bool.not_true, Bool.not_false, List.replicate, fn_1, fn_2, fn_3, fn_4, oEq_str, oNe_str, oEq_int, oNe_int, oAdd_int, oSub_int, oLt_int, oGt_int, oLe_int, oGe_int, oIsN_eq, oNeg_int, bLen_str, oIn_ch, oNin_ch, S_e, S_0, S_9, S_mi, S_po, S_zs9, S_num, S_ed, S_text, decide_eq_true, decide_eq_false, beqI_t, beqI_f, szOk_of, List.length_cons, List.length_nil, Nat.reduceAdd, ee]
          | some p =>
            obtain ⟨w, k⟩ := p
            obtain ⟨j, j1, j2, j3, ee⟩ := ex_count tl e hb hg ps (by omega) g w3 w4 w5 w6 w7
            obtain ⟨_, f1, _, f3, _⟩ := grp_some.mp hg
            have dl := digV_two f1 f3
            have fl : (ps ++ [List.replicate (digV w) c]).flatten = ps.flatten ++ List.replicate (digV w) c := by simp
            have ih := ih j j3 (by omega) (ps ++ [List.replicate (digV w) c]) (h.set n (.lst ((ps ++ [List.replicate (digV w) c]).map .str))) (some (.str [c])) (some (.int (digV w))) (some (.int ((j : Int) - 1))) (some (.str w)) w7 (List.getElem?_set_self nl) (by simp; omega) (by rw [fl, List.length_append, rep_len]; omega)
            rw [j2, List.length_set] at ih
            rw [go _ _ ee]
            rcases ih with ⟨y, e1, ps', h', v3, v4, v5, v6, e2, e3, e4, e5, e6, e7, e8⟩ | ⟨e1, η, h', e2, e8⟩
            · refine .inl ⟨List.replicate (digV w) c ++ y, by simp only [e1, Option.map_some], ps', h', v3, v4, v5, v6, e2, e3, ?_, e5, e6, e7, fun a ne => by rw [e8 a ne, List.getElem?_set_ne (Ne.symm ne)]⟩
              rw [e4, fl, List.append_assoc]
            · exact .inr ⟨by simp only [e1, Option.map_none], η, h', e2, fun a ne => by rw [e8 a ne, List.getElem?_set_ne (Ne.symm ne)]⟩
        · have hb' : ¬ r.take 1 = [40] := by simpa using hb
          rw [if_neg hb']
          have ee := ex_plain tl e (Bool.eq_false_iff.mpr hb) ps (by omega) g w3 w4 w5 w6 w7
          have fl : (ps ++ [List.replicate 1 c]).flatten = ps.flatten ++ [c] := by simp
          have ih := ih (i + 1) (by omega) (by omega) (ps ++ [List.replicate 1 c]) (h.set n (.lst ((ps ++ [List.replicate 1 c]).map .str))) (some (.str [c])) (some (.int 1)) w5 w6 w7 (List.getElem?_set_self nl) (by simp; omega) (by rw [fl, List.length_append, List.length_singleton]; omega)
          rw [d1, List.length_set] at ih
          rw [go _ _ ee]
          rcases ih with ⟨y, e1, ps', h', v3, v4, v5, v6, e2, e3, e4, e5, e6, e7, e8⟩ | ⟨e1, η, h', e2, e8⟩
          · refine .inl ⟨c :: y, by rw [e1, Option.map_some], ps', h', v3, v4, v5, v6, e2, e3, ?_, e5, e6, e7, fun a ne => by rw [e8 a ne, List.getElem?_set_ne (Ne.symm ne)]⟩
            rw [e4, fl, List.append_assoc]
            rfl
          · exact .inr ⟨by rw [e1, Option.map_none], η, h', e2, fun a ne => by rw [e8 a ne, List.getElem?_set_ne (Ne.symm ne)]⟩
theorem expanded_ok (t : List Nat) (tl : t.length ≤ 2000) (h : Hep) : ∃ h', Ke h h' ∧ M_expanded [.str t] h = if outS t = [] then .exc ⟨"BadPicture", []⟩ h' else .ok (.str (outS t)) h' := by
  have lo := ex_loop tl (n := h.length) t.length 0 (by omega) (by omega) [] (h ++ [.lst []]) none none none none none (get_new _ _) (by simp) (by simp)
  rw [List.drop_zero] at lo
  have pre : M_expanded [.str t] h = ((sWhile (tVal (eBin oLt (eVar 2) (eCallB bLen (aCons (eVar 0) aNil)))) L_expanded_4 [some (.str t), some (.ref h.length), some (.int (0 : Nat)), none, none, none, none, none] (h ++ [.lst []])).bind fun η1 h1 => T_expanded_1 η1 h1).res := by
    simp (disch := omega) only [sSeq_eq, sSet_eq, sIf_eq, sRet_eq, sNop_eq, sExpr_eq, sAsg_eq, sAug_eq, sFor_eq, sRaise_eq, eBin_eq, eUn_eq, eVar_eq, eC_eq, eTup_eq, eLst_eq, eCall_eq, eCallB_eq, eMth_eq, eIf_eq, eAnd_eq, eOr_eq, eNot_eq, eSl_eq, pNo_eq, pSome_eq, eComp_eq, iVal_eq, iArgs_eq, aNil_eq, aCons_eq, tVal_eq, tAnd_eq, tOr_eq, tNot_eq, tTru_eq, truth_bl, truth_non, get_0, get_S, Option.join_some, ofO_some, Res.bind_ok, Res.thn_ok, SR.bind_nx, SR.bind_ret, SR.res_ret, SR.res_nx, List.set_cons_succ, List.set_cons_zero, if_true, Bool.false_eq_true, if_false, typ_str, gTpl_eq, gsCons_eq, gsNil_eq, gNam_eq, Option.bind_some, Bool.not_true, Bool.not_false, List.replicate, fn_1, fn_2, fn_3, fn_4, oEq_str, oNe_str, oEq_int, oNe_int, oAdd_int, oSub_int, oLt_int, oGt_int, oLe_int, oGe_int, oIsN_eq, oNeg_int, bLen_str, oIn_ch, oNin_ch, S_e, S_0, S_9, S_mi, S_po, S_zs9, S_num, S_ed, S_text, decide_eq_true, decide_eq_false, beqI_t, beqI_f, szOk_of, List.length_cons, List.length_nil, Nat.reduceAdd, M_expanded, B_expanded]
    rfl
  rw [pre]
  unfold outS
  have kp : ∀ h' : Hep, (∀ a, a ≠ h.length → h'[a]? = (h ++ [Obj.lst []])[a]?) → Ke h h' := fun h' q n o e => by
    have nl := (List.getElem?_eq_some_iff.mp e).1
    rw [q n (by omega), List.getElem?_append_left nl, e]
  rcases lo with ⟨y, e1, ps', h', v3, v4, v5, v6, e2, e3, e4, e5, e6, _, e8⟩ | ⟨e1, η, h', e2, e8⟩
  · rw [e2, e1, SR.bind_nx]
    rw [List.flatten_nil, List.nil_append] at e4
    have jn := mJoin_ref (s := []) e3 (by rw [List.length_flatten] at e6; simp; omega)
    rw [joinL_nil, e4] at jn
    rw [e4] at e6
    refine ⟨h', kp h' e8, ?_⟩
    by_cases q : y.length ≤ 80
    · simp only [q, if_true]
      by_cases z : y = []
      · subst z
        rw [if_pos rfl]
        simp (disch := omega) only [sSeq_eq, sSet_eq, sIf_eq, sRet_eq, sNop_eq, sExpr_eq, sAsg_eq, sAug_eq, sFor_eq, sRaise_eq, eBin_eq, eUn_eq, eVar_eq, eC_eq, eTup_eq, eLst_eq, eCall_eq, eCallB_eq, eMth_eq, eIf_eq, eAnd_eq, eOr_eq, eNot_eq, eSl_eq, pNo_eq, pSome_eq, eComp_eq, iVal_eq, iArgs_eq, aNil_eq, aCons_eq, tVal_eq, tAnd_eq, tOr_eq, tNot_eq, tTru_eq, truth_bl, truth_non, get_0, get_S, Option.join_some, ofO_some, Res.bind_ok, Res.thn_ok, SR.bind_nx, SR.bind_ret, SR.res_ret, SR.res_nx, List.set_cons_succ, List.set_cons_zero, if_true, Bool.false_eq_true, if_false, typ_str, gTpl_eq, gsCons_eq, gsNil_eq, gNam_eq, Option.bind_some, Bool.not_true, Bool.not_false, List.replicate, fn_1, fn_2, fn_3, fn_4, oEq_str, oNe_str, oEq_int, oNe_int, oAdd_int, oSub_int, oLt_int, oGt_int, oLe_int, oGe_int, oIsN_eq, oNeg_int, bLen_str, oIn_ch, oNin_ch, S_e, S_0, S_9, S_mi, S_po, S_zs9, S_num, S_ed, S_text, decide_eq_true, decide_eq_false, beqI_t, beqI_f, szOk_of, List.length_cons, List.length_nil, Nat.reduceAdd, T_expanded_1, jn, show (([] : List Nat) == []) = true from rfl]
        rfl
      · rw [if_neg z]
        have z' : (y == []) = false := beq_false_of_ne z
        simp (disch := omega) only [sSeq_eq, sSet_eq, sIf_eq, sRet_eq, sNop_eq, sExpr_eq, sAsg_eq, sAug_eq, sFor_eq, sRaise_eq, eBin_eq, eUn_eq, eVar_eq, eC_eq, eTup_eq, eLst_eq, eCall_eq, eCallB_eq, eMth_eq, eIf_eq, eAnd_eq, eOr_eq, eNot_eq, eSl_eq, pNo_eq, pSome_eq, eComp_eq, iVal_eq, iArgs_eq, aNil_eq, aCons_eq, tVal_eq, tAnd_eq, tOr_eq, tNot_eq, tTru_eq, truth_bl, truth_non, get_0, get_S, Option.join_some, ofO_some, Res.bind_ok, Res.thn_ok, SR.bind_nx, SR.bind_ret, SR.res_ret, SR.res_nx, List.set_cons_succ, List.set_cons_zero, if_true, Bool.false_eq_true, if_false, typ_str, gTpl_eq, gsCons_eq, gsNil_eq, gNam_eq, Option.bind_some, Bool.not_true, Bool.not_false, List.replicate, fn_1, fn_2, fn_3, fn_4, oEq_str, oNe_str, oEq_int, oNe_int, oAdd_int, oSub_int, oLt_int, oGt_int, oLe_int, oGe_int, oIsN_eq, oNeg_int, bLen_str, oIn_ch, oNin_ch, S_e, S_0, S_9, S_mi, S_po, S_zs9, S_num, S_ed, S_text, decide_eq_true, decide_eq_false, beqI_t, beqI_f, szOk_of, List.length_cons, List.length_nil, Nat.reduceAdd, T_expanded_1, jn, z', c_MOST_TEXT]
    · simp only [q, if_false]
      rw [if_pos trivial]
      have z' : (y == []) = false := beq_false_of_ne (fun z => q (by rw [z]; simp))
      simp (disch := omega) only [sSeq_eq, sSet_eq, sIf_eq, sRet_eq, sNop_eq, sExpr_eq, sAsg_eq, sAug_eq, sFor_eq, sRaise_eq, eBin_eq, eUn_eq, eVar_eq, eC_eq, eTup_eq, eLst_eq, eCall_eq, eCallB_eq, eMth_eq, eIf_eq, eAnd_eq, eOr_eq, eNot_eq, eSl_eq, pNo_eq, pSome_eq, eComp_eq, iVal_eq, iArgs_eq, aNil_eq, aCons_eq, tVal_eq, tAnd_eq, tOr_eq, tNot_eq, tTru_eq, truth_bl, truth_non, get_0, get_S, Option.join_some, ofO_some, Res.bind_ok, Res.thn_ok, SR.bind_nx, SR.bind_ret, SR.res_ret, SR.res_nx, List.set_cons_succ, List.set_cons_zero, if_true, Bool.false_eq_true, if_false, typ_str, gTpl_eq, gsCons_eq, gsNil_eq, gNam_eq, Option.bind_some, Bool.not_true, Bool.not_false, List.replicate, fn_1, fn_2, fn_3, fn_4, oEq_str, oNe_str, oEq_int, oNe_int, oAdd_int, oSub_int, oLt_int, oGt_int, oLe_int, oGe_int, oIsN_eq, oNeg_int, bLen_str, oIn_ch, oNin_ch, S_e, S_0, S_9, S_mi, S_po, S_zs9, S_num, S_ed, S_text, decide_eq_true, decide_eq_false, beqI_t, beqI_f, szOk_of, List.length_cons, List.length_nil, Nat.reduceAdd, T_expanded_1, jn, z', c_MOST_TEXT]
      rfl
  · rw [e2, e1]
    refine ⟨h', kp h' e8, ?_⟩
    simp only
    rfl
end Law

set_option maxRecDepth 100000
set_option maxHeartbeats 1000000
set_option linter.all false
namespace Law
open Cd Mir
theorem outS_len (t : List Nat) : (outS t).length ≤ 80 := by
  unfold outS
  split
  · split
    · assumption
    · decide
  · decide
/-! what is read -/
@[simp] theorem S_x : S "x" = [120] := by decide
def psS (full : List Nat) : Val := if allIn full [120] then .tup [.str [116, 101, 120, 116], .int full.length] else if isNon (numS full) then edS full else numS full
theorem parse_ok (t : List Nat) (tl : t.length ≤ 2000) (h : Hep) : ∃ h', Ke h h' ∧ M_parse_picture [.str t] h = if outS t = [] ∨ isNon (psS (outS t)) = true then .exc ⟨"BadPicture", []⟩ h' else .ok (psS (outS t)) h' := by
  obtain ⟨h1, x1, ex⟩ := expanded_ok t tl h
  by_cases q : outS t = []
  · rw [if_pos q] at ex
    refine ⟨h1, x1, ?_⟩
    rw [if_pos (.inl q)]
    simp (disch := omega) only [sSeq_eq, sSet_eq, sIf_eq, sRet_eq, sNop_eq, sExpr_eq, sAsg_eq, sAug_eq, sFor_eq, sRaise_eq, eBin_eq, eUn_eq, eVar_eq, eC_eq, eTup_eq, eLst_eq, eCall_eq, eCallB_eq, eMth_eq, eIf_eq, eAnd_eq, eOr_eq, eNot_eq, eSl_eq, pNo_eq, pSome_eq, eComp_eq, iVal_eq, iArgs_eq, aNil_eq, aCons_eq, tVal_eq, tAnd_eq, tOr_eq, tNot_eq, tTru_eq, truth_bl, truth_non, get_0, get_S, Option.join_some, ofO_some, Res.bind_ok, Res.thn_ok, SR.bind_nx, SR.bind_ret, SR.res_ret, SR.res_nx, List.set_cons_succ, List.set_cons_zero, if_true, Bool.false_eq_true, if_false, typ_str, gTpl_eq, gsCons_eq, gsNil_eq, gNam_eq, Option.bind_some, Bool.not_true, Bool.not_false, List.replicate, fn_1, fn_2, fn_3, fn_4, oEq_str, oNe_str, oEq_int, oNe_int, oAdd_int, oSub_int, oLt_int, oGt_int, oLe_int, oGe_int, oIsN_eq, oNeg_int, bLen_str, oIn_ch, oNin_ch, S_e, S_0, S_9, S_mi, S_po, S_zs9, S_num, S_ed, S_text, decide_eq_true, decide_eq_false, beqI_t, beqI_f, szOk_of, List.length_cons, List.length_nil, Nat.reduceAdd, M_parse_picture, B_parse_picture, ex]
    rfl
  · rw [if_neg q] at ex
    have ol := outS_len t
    have on := only_ok (outS t) [120] h1
    obtain ⟨h2, x2, nu⟩ := number_ok (outS t) (by omega) h1
    obtain ⟨h3, x3, ed⟩ := edited_ok (outS t) q (by omega) h2
    unfold psS
    cases a : allIn (outS t) [120] with
    | true =>
      rw [a] at on
      refine ⟨h1, x1, ?_⟩
      rw [if_neg (fun z => z.elim q (fun y => by cases y))]
      simp (disch := omega) only [sSeq_eq, sSet_eq, sIf_eq, sRet_eq, sNop_eq, sExpr_eq, sAsg_eq, sAug_eq, sFor_eq, sRaise_eq, eBin_eq, eUn_eq, eVar_eq, eC_eq, eTup_eq, eLst_eq, eCall_eq, eCallB_eq, eMth_eq, eIf_eq, eAnd_eq, eOr_eq, eNot_eq, eSl_eq, pNo_eq, pSome_eq, eComp_eq, iVal_eq, iArgs_eq, aNil_eq, aCons_eq, tVal_eq, tAnd_eq, tOr_eq, tNot_eq, tTru_eq, truth_bl, truth_non, get_0, get_S, Option.join_some, ofO_some, Res.bind_ok, Res.thn_ok, SR.bind_nx, SR.bind_ret, SR.res_ret, SR.res_nx, List.set_cons_succ, List.set_cons_zero, if_true, Bool.false_eq_true, if_false, typ_str, gTpl_eq, gsCons_eq, gsNil_eq, gNam_eq, Option.bind_some, Bool.not_true, Bool.not_false, List.replicate, fn_1, fn_2, fn_3, fn_4, oEq_str, oNe_str, oEq_int, oNe_int, oAdd_int, oSub_int, oLt_int, oGt_int, oLe_int, oGe_int, oIsN_eq, oNeg_int, bLen_str, oIn_ch, oNin_ch, S_e, S_0, S_9, S_mi, S_po, S_zs9, S_num, S_ed, S_text, decide_eq_true, decide_eq_false, beqI_t, beqI_f, szOk_of, List.length_cons, List.length_nil, Nat.reduceAdd, M_parse_picture, B_parse_picture, ex, S_x, on]
    | false =>
      rw [a] at on
      simp only [Bool.false_eq_true, if_false, q, false_or]
      cases b : isNon (numS (outS t)) with
      | false =>
        refine ⟨h2, x1.trans x2.ke, ?_⟩
        simp only [Bool.false_eq_true, if_false, b]
        simp (disch := omega) only [sSeq_eq, sSet_eq, sIf_eq, sRet_eq, sNop_eq, sExpr_eq, sAsg_eq, sAug_eq, sFor_eq, sRaise_eq, eBin_eq, eUn_eq, eVar_eq, eC_eq, eTup_eq, eLst_eq, eCall_eq, eCallB_eq, eMth_eq, eIf_eq, eAnd_eq, eOr_eq, eNot_eq, eSl_eq, pNo_eq, pSome_eq, eComp_eq, iVal_eq, iArgs_eq, aNil_eq, aCons_eq, tVal_eq, tAnd_eq, tOr_eq, tNot_eq, tTru_eq, truth_bl, truth_non, get_0, get_S, Option.join_some, ofO_some, Res.bind_ok, Res.thn_ok, SR.bind_nx, SR.bind_ret, SR.res_ret, SR.res_nx, List.set_cons_succ, List.set_cons_zero, if_true, Bool.false_eq_true, if_false, typ_str, gTpl_eq, gsCons_eq, gsNil_eq, gNam_eq, Option.bind_some, Bool.not_true, Bool.not_false, List.replicate, fn_1, fn_2, fn_3, fn_4, oEq_str, oNe_str, oEq_int, oNe_int, oAdd_int, oSub_int, oLt_int, oGt_int, oLe_int, oGe_int, oIsN_eq, oNeg_int, bLen_str, oIn_ch, oNin_ch, S_e, S_0, S_9, S_mi, S_po, S_zs9, S_num, S_ed, S_text, decide_eq_true, decide_eq_false, beqI_t, beqI_f, szOk_of, List.length_cons, List.length_nil, Nat.reduceAdd, M_parse_picture, B_parse_picture, T_parse_picture_1, ex, S_x, on, nu, b]
      | true =>
        refine ⟨h3, (x1.trans x2.ke).trans x3.ke, ?_⟩
        rw [if_pos rfl]
        cases c : isNon (edS (outS t)) with
        | true =>
          rw [if_pos rfl]
          simp (disch := omega) only [sSeq_eq, sSet_eq, sIf_eq, sRet_eq, sNop_eq, sExpr_eq, sAsg_eq, sAug_eq, sFor_eq, sRaise_eq, eBin_eq, eUn_eq, eVar_eq, eC_eq, eTup_eq, eLst_eq, eCall_eq, eCallB_eq, eMth_eq, eIf_eq, eAnd_eq, eOr_eq, eNot_eq, eSl_eq, pNo_eq, pSome_eq, eComp_eq, iVal_eq, iArgs_eq, aNil_eq, aCons_eq, tVal_eq, tAnd_eq, tOr_eq, tNot_eq, tTru_eq, truth_bl, truth_non, get_0, get_S, Option.join_some, ofO_some, Res.bind_ok, Res.thn_ok, SR.bind_nx, SR.bind_ret, SR.res_ret, SR.res_nx, List.set_cons_succ, List.set_cons_zero, if_true, Bool.false_eq_true, if_false, typ_str, gTpl_eq, gsCons_eq, gsNil_eq, gNam_eq, Option.bind_some, Bool.not_true, Bool.not_false, List.replicate, fn_1, fn_2, fn_3, fn_4, oEq_str, oNe_str, oEq_int, oNe_int, oAdd_int, oSub_int, oLt_int, oGt_int, oLe_int, oGe_int, oIsN_eq, oNeg_int, bLen_str, oIn_ch, oNin_ch, S_e, S_0, S_9, S_mi, S_po, S_zs9, S_num, S_ed, S_text, decide_eq_true, decide_eq_false, beqI_t, beqI_f, szOk_of, List.length_cons, List.length_nil, Nat.reduceAdd, M_parse_picture, B_parse_picture, T_parse_picture_1, ex, S_x, on, nu, b, ed, c]
          rfl
        | false =>
          rw [if_neg (by decide)]
          simp (disch := omega) only [sSeq_eq, sSet_eq, sIf_eq, sRet_eq, sNop_eq, sExpr_eq, sAsg_eq, sAug_eq, sFor_eq, sRaise_eq, eBin_eq, eUn_eq, eVar_eq, eC_eq, eTup_eq, eLst_eq, eCall_eq, eCallB_eq, eMth_eq, eIf_eq, eAnd_eq, eOr_eq, eNot_eq, eSl_eq, pNo_eq, pSome_eq, eComp_eq, iVal_eq, iArgs_eq, aNil_eq, aCons_eq, tVal_eq, tAnd_eq, tOr_eq, tNot_eq, tTru_eq, truth_bl, truth_non, get_0, get_S, Option.join_some, ofO_some, Res.bind_ok, Res.thn_ok, SR.bind_nx, SR.bind_ret, SR.res_ret, SR.res_nx, List.set_cons_succ, List.set_cons_zero, if_true, Bool.false_eq_true, if_false, typ_str, gTpl_eq, gsCons_eq, gsNil_eq, gNam_eq, Option.bind_some, Bool.not_true, Bool.not_false, List.replicate, fn_1, fn_2, fn_3, fn_4, oEq_str, oNe_str, oEq_int, oNe_int, oAdd_int, oSub_int, oLt_int, oGt_int, oLe_int, oGe_int, oIsN_eq, oNeg_int, bLen_str, oIn_ch, oNin_ch, S_e, S_0, S_9, S_mi, S_po, S_zs9, S_num, S_ed, S_text, decide_eq_true, decide_eq_false, beqI_t, beqI_f, szOk_of, List.length_cons, List.length_nil, Nat.reduceAdd, M_parse_picture, B_parse_picture, T_parse_picture_1, ex, S_x, on, nu, b, ed, c]
end Law

set_option maxRecDepth 100000
set_option maxHeartbeats 1000000
set_option linter.all false
/-! Fl: tuples of plain values compared; what the readers of pictures give -/
namespace Law
open Cd Mir
def flatOk : Val → Prop
  | .non => True
  | .bl _ => True
  | .int _ => True
  | .str s => chOk s
  | _ => False
def datF : Val → Dat
  | .bl b => .bl b
  | .int i => .int i
  | .str s => .str s
  | _ => .non
def eqFs : List Val → List Val → Bool
  | [], [] => true
  | a :: l, b :: m => eqF a b && eqFs l m
  | _, _ => false
theorem rsl_flat (h : Hep) (n : Nat) {v : Val} (hv : flatOk v) : rsl h (n + 1) v = some (datF v) := by
  cases v with
  | non => simp [rsl, datF]
  | bl b => simp [rsl, datF]
  | int i => simp [rsl, datF]
  | str s => simp [rsl, datF, show chOk s from hv]
  | _ => exact hv.elim
theorem rsls_flat (h : Hep) (n : Nat) : ∀ l : List Val, (∀ v ∈ l, flatOk v) → rsls h (n + 1) l = some (l.map datF)
  | [], _ => by simp [rsls]
  | v :: l, hl => by
    have d := rsl_flat h n (hl v List.mem_cons_self)
    have ds := rsls_flat h n l fun w hw => hl w (List.mem_cons_of_mem _ hw)
    simp [rsls, d, ds]
theorem rsl_tup (h : Hep) (n : Nat) {l : List Val} (hl : ∀ v ∈ l, flatOk v) : rsl h (n + 2) (.tup l) = some (.tup (l.map datF)) := by
  rw [rsl, rsls_flat h n l hl]
  rfl
theorem datF_eqv {v w : Val} (hv : flatOk v) (hw : flatOk w) : (datF v).eqv (datF w) = eqF v w := by
  cases v <;> cases w <;> first | exact hv.elim | exact hw.elim | simp [datF, Dat.eqv, eqF]
theorem eqvs_eq : ∀ {l m : List Val}, (∀ v ∈ l, flatOk v) → (∀ v ∈ m, flatOk v) → Dat.eqvs (l.map datF) (m.map datF) = eqFs l m
  | [], [], _, _ => by simp [Dat.eqvs, eqFs]
  | [], _ :: _, _, _ => by simp [Dat.eqvs, eqFs]
  | _ :: _, [], _, _ => by simp [Dat.eqvs, eqFs]
  | v :: l, w :: m, h1, h2 => by
    simp only [List.map_cons, Dat.eqvs, eqFs]
    rw [datF_eqv (h1 v List.mem_cons_self) (h2 w List.mem_cons_self), eqvs_eq (fun x hx => h1 x (List.mem_cons_of_mem _ hx)) (fun x hx => h2 x (List.mem_cons_of_mem _ hx))]
theorem vEq_tups (h : Hep) {l m : List Val} (hl : ∀ v ∈ l, flatOk v) (hm : ∀ v ∈ m, flatOk v) : vEq h (.tup l) (.tup m) = some (eqFs l m) := by
  unfold vEq
  rw [show scl (.tup l) (.tup m) = none from rfl, rsl_tup h 38 hl, rsl_tup h 38 hm]
  simp only
  rw [Dat.eqv, eqvs_eq hl hm]
theorem eqF_self {v : Val} (hv : flatOk v) : eqF v v = true := by
  cases v <;> first | exact hv.elim | simp [eqF]
theorem eqFs_self : ∀ {l : List Val}, (∀ v ∈ l, flatOk v) → eqFs l l = true
  | [], _ => rfl
  | v :: l, h => by rw [eqFs, eqF_self (h v List.mem_cons_self), eqFs_self fun x hx => h x (List.mem_cons_of_mem _ hx)]; rfl
theorem ch_in {s m : List Nat} (h : allIn s m = true) (hm : chOk m) : chOk s := fun c hc => hm c (of_decide_eq_true (List.all_eq_true.mp h c hc))
theorem ch_app {a b : List Nat} (ha : chOk a) (hb : chOk b) : chOk (a ++ b) := fun c hc => (List.mem_append.mp hc).elim (ha c) (hb c)
theorem ch_num : chOk [110, 117, 109, 98, 101, 114] := by unfold chOk; decide
theorem ch_ed : chOk [101, 100, 105, 116, 101, 100] := by unfold chOk; decide
theorem ch_tx : chOk [116, 101, 120, 116] := by unfold chOk; decide
theorem ch_none : chOk (S "none") := by unfold chOk; decide
/-- a picture, or nothing -/
def GoodV (v : Val) : Prop := v = .non ∨ ∃ a l, v = .tup (.str a :: l) ∧ (∀ x ∈ (.str a :: l : List Val), flatOk x) ∧ (a = [110, 117, 109, 98, 101, 114] → ∃ b l2, l = .bl b :: l2)
theorem num_good (t : List Nat) : GoodV (numS t) := by
  have mk : ∀ (b : Bool) (w f : Int), GoodV (.tup [.str [110, 117, 109, 98, 101, 114], .bl b, .int w, .int f]) := fun b w f => .inr ⟨_, _, rfl, by
    intro x hx
    simp only [List.mem_cons, List.not_mem_nil, or_false] at hx
    rcases hx with rfl | rfl | rfl | rfl
    · exact ch_num
    · trivial
    · trivial
    · trivial, fun _ => ⟨_, _, rfl⟩⟩
  unfold numS
  split
  · split
    · exact mk _ _ 0
    · exact .inl rfl
  · split
    · exact mk _ _ _
    · exact .inl rfl
  · exact .inl rfl
theorem sg_ch (t : List Nat) : chOk (sgS t).2 := by
  unfold sgS
  split
  · rename_i h
    unfold isEnd at h
    simp only [Bool.or_eq_true, beq_iff_eq] at h
    rcases h with h | h <;> (show chOk (tl2 t); rw [h]; unfold chOk; decide)
  · split
    · rename_i h
      unfold isPM at h
      simp only [Bool.or_eq_true, beq_iff_eq] at h
      rcases h with h | h <;> (show chOk (t.take 1); rw [h]; unfold chOk; decide)
    · split
      · rename_i h
        unfold isPM at h
        simp only [Bool.or_eq_true, beq_iff_eq] at h
        rcases h with h | h <;> (show chOk (46 :: tl1 t); rw [h]; unfold chOk; decide)
      · intro c hc; cases hc
theorem marks_ch : chOk [122, 42, 57, 44, 98, 48, 47] := by unfold chOk; decide
theorem ed_good (t : List Nat) : GoodV (edS t) := by
  have mk : ∀ (m s : List Nat) (w f : Int), chOk m → chOk s → GoodV (.tup [.str [101, 100, 105, 116, 101, 100], .str m, .int w, .int f, .str s]) := fun m s w f hm hs => .inr ⟨_, _, rfl, by
    intro x hx
    simp only [List.mem_cons, List.not_mem_nil, or_false] at hx
    rcases hx with rfl | rfl | rfl | rfl | rfl
    · exact ch_ed
    · exact hm
    · trivial
    · trivial
    · exact hs, fun z => by cases z⟩
  have core : ∀ (m s p : List Nat) (f : Nat), (allIn p [122, 42, 57, 44, 98, 48, 47] = true → chOk m) → chOk s → GoodV (edV m s p f) := fun m s p f hm hs => by
    unfold edV
    split
    · rename_i h
      unfold coreOk at h
      simp only [Bool.and_eq_true] at h
      exact mk _ _ _ _ (hm h.1.1) hs
    · exact .inl rfl
  unfold edS
  split
  · exact .inl rfl
  · have sc := sg_ch t
    generalize (sgS t).1 = m at *
    unfold edM
    split
    · split
      · rename_i p e
        obtain ⟨rfl, _⟩ := cut_part1 e
        exact core _ _ _ _ (fun h => ch_in h marks_ch) sc
      · rename_i p q e
        obtain ⟨em, _⟩ := cut_parts e
        split
        · rename_i hq
          refine core _ _ _ _ (fun h => ?_) sc
          rw [em]
          exact ch_app (ch_app (ch_in h marks_ch) (by unfold chOk; decide)) (ch_in (m := [57]) hq.2 (by unfold chOk; decide))
        · exact .inl rfl
      · exact .inl rfl
    · exact .inl rfl
theorem ps_good (t : List Nat) : GoodV (psS t) := by
  unfold psS
  split
  · exact .inr ⟨_, _, rfl, by
      intro x hx
      simp only [List.mem_cons, List.not_mem_nil, or_false] at hx
      rcases hx with rfl | rfl
      · exact ch_tx
      · trivial, fun z => by cases z⟩
  · split
    · exact ed_good t
    · exact num_good t
end Law

set_option maxRecDepth 100000
set_option maxHeartbeats 1000000
set_option linter.all false
/-! Ip: what is a picture, as the program says -/
namespace Law
open Cd Mir
theorem t_ii : isT "int" "int" = true := by decide
theorem t_bi : isT "bool" "int" = true := by decide
theorem t_si : isT "str" "int" = false := by decide
theorem t_ni : isT "NoneType" "int" = false := by decide
theorem t_ib : isT "int" "bool" = false := by decide
theorem t_bb : isT "bool" "bool" = true := by decide
theorem t_sb : isT "str" "bool" = false := by decide
theorem t_nb : isT "NoneType" "bool" = false := by decide
theorem t_is : isT "int" "str" = false := by decide
theorem t_bs : isT "bool" "str" = false := by decide
theorem t_ss : isT "str" "str" = true := by decide
theorem t_ns : isT "NoneType" "str" = false := by decide
theorem t_tt : isT "tuple" "tuple" = true := by decide
theorem t_it : isT "int" "tuple" = false := by decide
theorem t_st : isT "str" "tuple" = false := by decide
theorem t_nt : isT "NoneType" "tuple" = false := by decide
theorem t_lt : isT "list" "tuple" = false := by decide
def intIn (v : Val) (a b : Int) : Bool := match v with
  | .int i => decide (a ≤ i) && decide (i ≤ b)
  | _ => false
theorem is_integer_ok {v : Val} (hv : flatOk v) (a b : Int) (h : Hep) : M_is_integer [v, .int a, .int b] h = .ok (.bl (intIn v a b)) h := by
  cases v with
  | non => simp (disch := omega) only [sSeq_eq, sSet_eq, sIf_eq, sRet_eq, sNop_eq, sExpr_eq, sAsg_eq, sAug_eq, sFor_eq, sRaise_eq, eBin_eq, eUn_eq, eVar_eq, eC_eq, eTup_eq, eLst_eq, eCall_eq, eCallB_eq, eMth_eq, eIf_eq, eAnd_eq, eOr_eq, eNot_eq, eSl_eq, pNo_eq, pSome_eq, eComp_eq, iVal_eq, iArgs_eq, aNil_eq, aCons_eq, tVal_eq, tAnd_eq, tOr_eq, tNot_eq, tTru_eq, truth_bl, truth_non, get_0, get_S, Option.join_some, ofO_some, Res.bind_ok, Res.thn_ok, SR.bind_nx, SR.bind_ret, SR.res_ret, SR.res_nx, List.set_cons_succ, List.set_cons_zero, if_true, Bool.false_eq_true, if_false, typ_str, gTpl_eq, gsCons_eq, gsNil_eq, gNam_eq, Option.bind_some, Bool.not_true, Bool.not_false, List.replicate, fn_1, fn_2, fn_3, fn_4, oEq_str, oNe_str, oEq_int, oNe_int, oAdd_int, oSub_int, oLt_int, oGt_int, oLe_int, oGe_int, oIsN_eq, oNeg_int, bLen_str, oIn_ch, oNin_ch, S_e, S_0, S_9, S_mi, S_po, S_zs9, S_num, S_ed, S_text, decide_eq_true, decide_eq_false, beqI_t, beqI_f, szOk_of, List.length_cons, List.length_nil, Nat.reduceAdd, M_is_integer, B_is_integer, oIsi_eq, typ_non, Option.map_some, t_ni]; rfl
  | bl b => simp (disch := omega) only [sSeq_eq, sSet_eq, sIf_eq, sRet_eq, sNop_eq, sExpr_eq, sAsg_eq, sAug_eq, sFor_eq, sRaise_eq, eBin_eq, eUn_eq, eVar_eq, eC_eq, eTup_eq, eLst_eq, eCall_eq, eCallB_eq, eMth_eq, eIf_eq, eAnd_eq, eOr_eq, eNot_eq, eSl_eq, pNo_eq, pSome_eq, eComp_eq, iVal_eq, iArgs_eq, aNil_eq, aCons_eq, tVal_eq, tAnd_eq, tOr_eq, tNot_eq, tTru_eq, truth_bl, truth_non, get_0, get_S, Option.join_some, ofO_some, Res.bind_ok, Res.thn_ok, SR.bind_nx, SR.bind_ret, SR.res_ret, SR.res_nx, List.set_cons_succ, List.set_cons_zero, if_true, Bool.false_eq_true, if_false, typ_str, gTpl_eq, gsCons_eq, gsNil_eq, gNam_eq, Option.bind_some, Bool.not_true, Bool.not_false, List.replicate, fn_1, fn_2, fn_3, fn_4, oEq_str, oNe_str, oEq_int, oNe_int, oAdd_int, oSub_int, oLt_int, oGt_int, oLe_int, oGe_int, oIsN_eq, oNeg_int, bLen_str, oIn_ch, oNin_ch, S_e, S_0, S_9, S_mi, S_po, S_zs9, S_num, S_ed, S_text, decide_eq_true, decide_eq_false, beqI_t, beqI_f, szOk_of, List.length_cons, List.length_nil, Nat.reduceAdd, M_is_integer, B_is_integer, oIsi_eq, typ_bl, Option.map_some, t_bi, t_bb]; rfl
  | str s => simp (disch := omega) only [sSeq_eq, sSet_eq, sIf_eq, sRet_eq, sNop_eq, sExpr_eq, sAsg_eq, sAug_eq, sFor_eq, sRaise_eq, eBin_eq, eUn_eq, eVar_eq, eC_eq, eTup_eq, eLst_eq, eCall_eq, eCallB_eq, eMth_eq, eIf_eq, eAnd_eq, eOr_eq, eNot_eq, eSl_eq, pNo_eq, pSome_eq, eComp_eq, iVal_eq, iArgs_eq, aNil_eq, aCons_eq, tVal_eq, tAnd_eq, tOr_eq, tNot_eq, tTru_eq, truth_bl, truth_non, get_0, get_S, Option.join_some, ofO_some, Res.bind_ok, Res.thn_ok, SR.bind_nx, SR.bind_ret, SR.res_ret, SR.res_nx, List.set_cons_succ, List.set_cons_zero, if_true, Bool.false_eq_true, if_false, typ_str, gTpl_eq, gsCons_eq, gsNil_eq, gNam_eq, Option.bind_some, Bool.not_true, Bool.not_false, List.replicate, fn_1, fn_2, fn_3, fn_4, oEq_str, oNe_str, oEq_int, oNe_int, oAdd_int, oSub_int, oLt_int, oGt_int, oLe_int, oGe_int, oIsN_eq, oNeg_int, bLen_str, oIn_ch, oNin_ch, S_e, S_0, S_9, S_mi, S_po, S_zs9, S_num, S_ed, S_text, decide_eq_true, decide_eq_false, beqI_t, beqI_f, szOk_of, List.length_cons, List.length_nil, Nat.reduceAdd, M_is_integer, B_is_integer, oIsi_eq, Option.map_some, t_si]; rfl
  | int i =>
    by_cases q : a ≤ i
    · simp (disch := omega) only [sSeq_eq, sSet_eq, sIf_eq, sRet_eq, sNop_eq, sExpr_eq, sAsg_eq, sAug_eq, sFor_eq, sRaise_eq, eBin_eq, eUn_eq, eVar_eq, eC_eq, eTup_eq, eLst_eq, eCall_eq, eCallB_eq, eMth_eq, eIf_eq, eAnd_eq, eOr_eq, eNot_eq, eSl_eq, pNo_eq, pSome_eq, eComp_eq, iVal_eq, iArgs_eq, aNil_eq, aCons_eq, tVal_eq, tAnd_eq, tOr_eq, tNot_eq, tTru_eq, truth_bl, truth_non, get_0, get_S, Option.join_some, ofO_some, Res.bind_ok, Res.thn_ok, SR.bind_nx, SR.bind_ret, SR.res_ret, SR.res_nx, List.set_cons_succ, List.set_cons_zero, if_true, Bool.false_eq_true, if_false, typ_str, gTpl_eq, gsCons_eq, gsNil_eq, gNam_eq, Option.bind_some, Bool.not_true, Bool.not_false, List.replicate, fn_1, fn_2, fn_3, fn_4, oEq_str, oNe_str, oEq_int, oNe_int, oAdd_int, oSub_int, oLt_int, oGt_int, oLe_int, oGe_int, oIsN_eq, oNeg_int, bLen_str, oIn_ch, oNin_ch, S_e, S_0, S_9, S_mi, S_po, S_zs9, S_num, S_ed, S_text, decide_eq_true, decide_eq_false, beqI_t, beqI_f, szOk_of, List.length_cons, List.length_nil, Nat.reduceAdd, M_is_integer, B_is_integer, oIsi_eq, typ_int, Option.map_some, t_ii, t_ib, decide_eq_true q]
      show _ = Res.ok (Val.bl (decide (a ≤ i) && decide (i ≤ b))) h
      rw [decide_eq_true q, Bool.true_and]
    · simp (disch := omega) only [sSeq_eq, sSet_eq, sIf_eq, sRet_eq, sNop_eq, sExpr_eq, sAsg_eq, sAug_eq, sFor_eq, sRaise_eq, eBin_eq, eUn_eq, eVar_eq, eC_eq, eTup_eq, eLst_eq, eCall_eq, eCallB_eq, eMth_eq, eIf_eq, eAnd_eq, eOr_eq, eNot_eq, eSl_eq, pNo_eq, pSome_eq, eComp_eq, iVal_eq, iArgs_eq, aNil_eq, aCons_eq, tVal_eq, tAnd_eq, tOr_eq, tNot_eq, tTru_eq, truth_bl, truth_non, get_0, get_S, Option.join_some, ofO_some, Res.bind_ok, Res.thn_ok, SR.bind_nx, SR.bind_ret, SR.res_ret, SR.res_nx, List.set_cons_succ, List.set_cons_zero, if_true, Bool.false_eq_true, if_false, typ_str, gTpl_eq, gsCons_eq, gsNil_eq, gNam_eq, Option.bind_some, Bool.not_true, Bool.not_false, List.replicate, fn_1, fn_2, fn_3, fn_4, oEq_str, oNe_str, oEq_int, oNe_int, oAdd_int, oSub_int, oLt_int, oGt_int, oLe_int, oGe_int, oIsN_eq, oNeg_int, bLen_str, oIn_ch, oNin_ch, S_e, S_0, S_9, S_mi, S_po, S_zs9, S_num, S_ed, S_text, decide_eq_true, decide_eq_false, beqI_t, beqI_f, szOk_of, List.length_cons, List.length_nil, Nat.reduceAdd, M_is_integer, B_is_integer, oIsi_eq, typ_int, Option.map_some, t_ii, t_ib, decide_eq_false q]
      show _ = Res.ok (Val.bl (decide (a ≤ i) && decide (i ≤ b))) h
      rw [decide_eq_false q, Bool.false_and]
  | _ => exact hv.elim
/-- the texts in a value are short -/
def shortV : Val → Prop
  | .str s => s.length ≤ 100
  | _ => True
def strB (v : Val) : Bool := match v with | .str _ => true | _ => false
theorem isi_str {v : Val} (hv : flatOk v) (h : Hep) : oIsi "str" h v = some (.bl (strB v)) := by
  cases v with
  | non => rw [oIsi_eq, typ_non, Option.map_some, t_ns]; rfl
  | bl b => rw [oIsi_eq, typ_bl, Option.map_some, t_bs]; rfl
  | str s => rw [oIsi_eq, typ_str, Option.map_some, t_ss]; rfl
  | int i => rw [oIsi_eq, typ_int, Option.map_some, t_is]; rfl
  | _ => exact hv.elim
def blB (v : Val) : Bool := match v with | .bl _ => true | _ => false
theorem isi_bl {v : Val} (hv : flatOk v) (h : Hep) : oIsi "bool" h v = some (.bl (blB v)) := by
  cases v with
  | non => rw [oIsi_eq, typ_non, Option.map_some, t_nb]; rfl
  | bl b => rw [oIsi_eq, typ_bl, Option.map_some, t_bb]; rfl
  | str s => rw [oIsi_eq, typ_str, Option.map_some, t_sb]; rfl
  | int i => rw [oIsi_eq, typ_int, Option.map_some, t_ib]; rfl
  | _ => exact hv.elim
def inB (v : Val) : Bool := match v with | .bl _ => true | .int _ => true | _ => false
theorem isi_in {v : Val} (hv : flatOk v) (h : Hep) : oIsi "int" h v = some (.bl (inB v)) := by
  cases v with
  | non => rw [oIsi_eq, typ_non, Option.map_some, t_ni]; rfl
  | bl b => rw [oIsi_eq, typ_bl, Option.map_some, t_bi]; rfl
  | str s => rw [oIsi_eq, typ_str, Option.map_some, t_si]; rfl
  | int i => rw [oIsi_eq, typ_int, Option.map_some, t_ii]; rfl
  | _ => exact hv.elim
def inSigns (s : List Nat) : Bool := signs.any fun y => y == s
theorem nin_signs (s : List Nat) (h : Hep) : oNin h (.str s) c_SIGNS = some (.bl (!inSigns s)) := by
  unfold oNin
  have e : isIn h (.str s) c_SIGNS = some (inSigns s) := by
    have e2 : isIn h (.str s) c_SIGNS = match seqOf h c_SIGNS with | some l => if flat (.str s) && l.all flat then some (l.any fun y => eqF y (.str s)) else none | none => none := by
      unfold isIn c_SIGNS
      cases s with
      | nil => rfl
      | cons c r => cases r <;> rfl
    rw [e2]
    rfl
  rw [e]
  rfl
def stripD (s : List Nat) : List Nat := s.dropWhile fun c => [46].contains c
def edOk (m : List Nat) (w f : Val) (s : List Nat) : Bool :=
  bodyB m && inSigns s && intIn w (insF (whole m)).length (insF (whole m)).length && intIn f (frac m) (frac m) && decide ((insF (whole m)).length + frac m ≤ 18) && decide (m.length + (stripD s).length ≤ 80) && (!(s == []) || !allIn m [57])
theorem is_edited_ok {t : Val} {a b c d : Val} (ha : flatOk a) (hb : flatOk b) (hc : flatOk c) (hd : flatOk d) (sa : shortV a) (sd : shortV d) (h : Hep) :
    ∃ h', Ext h h' ∧ M_v_is_edited [.tup [t, a, b, c, d]] h = .ok (.bl (match a, d with | .str m, .str s => edOk m b c s | _, _ => false)) h' := by
  have i1 : ∀ h, oIdx h (.tup [t, a, b, c, d]) (.int 1) = some a := fun h => by rw [oIdx_tup, atI_one]
  have i4 : ∀ h, oIdx h (.tup [t, a, b, c, d]) (.int 4) = some d := fun h => by rw [oIdx_tup, atI_four]
  have i2 : ∀ h, oIdx h (.tup [t, a, b, c, d]) (.int 2) = some b := fun h => by rw [oIdx_tup, atI_two]
  have i3 : ∀ h, oIdx h (.tup [t, a, b, c, d]) (.int 3) = some c := fun h => by rw [oIdx_tup, atI_three]
  have e1 : sSwp 1 2 (eTup (aCons (eBin oIdx (eVar 0) (eC (.int 1))) (aCons (eBin oIdx (eVar 0) (eC (.int 4))) aNil))) [some (.tup [t, a, b, c, d]), none, none, none, none] h = .nx [some (.tup [t, a, b, c, d]), some a, some d, none, none] h := by
    unfold sSwp
    simp (disch := omega) only [sSeq_eq, sSet_eq, sIf_eq, sRet_eq, sNop_eq, sExpr_eq, sAsg_eq, sAug_eq, sFor_eq, sRaise_eq, eBin_eq, eUn_eq, eVar_eq, eC_eq, eTup_eq, eLst_eq, eCall_eq, eCallB_eq, eMth_eq, eIf_eq, eAnd_eq, eOr_eq, eNot_eq, eSl_eq, pNo_eq, pSome_eq, eComp_eq, iVal_eq, iArgs_eq, aNil_eq, aCons_eq, tVal_eq, tAnd_eq, tOr_eq, tNot_eq, tTru_eq, truth_bl, truth_non, get_0, get_S, Option.join_some, ofO_some, Res.bind_ok, Res.thn_ok, SR.bind_nx, SR.bind_ret, SR.res_ret, SR.res_nx, List.set_cons_succ, List.set_cons_zero, if_true, Bool.false_eq_true, if_false, typ_str, gTpl_eq, gsCons_eq, gsNil_eq, gNam_eq, Option.bind_some, Bool.not_true, Bool.not_false, List.replicate, fn_1, fn_2, fn_3, fn_4, oEq_str, oNe_str, oEq_int, oNe_int, oAdd_int, oSub_int, oLt_int, oGt_int, oLe_int, oGe_int, oIsN_eq, oNeg_int, bLen_str, oIn_ch, oNin_ch, S_e, S_0, S_9, S_mi, S_po, S_zs9, S_num, S_ed, S_text, decide_eq_true, decide_eq_false, beqI_t, beqI_f, szOk_of, List.length_cons, List.length_nil, Nat.reduceAdd, i1, i4]
  have pre : ∀ R : Res Val, ((sSeq (sIf (tOr (tNot (tTru (eUn (oIsi "str") (eVar 1)))) (tOr (tNot (tTru (eUn (oIsi "str") (eVar 2)))) (tOr (tNot (tTru (eCall M_v_is_body (aCons (eVar 1) aNil)))) (tVal (eBin oNin (eVar 2) (eC c_SIGNS)))))) (sRet (eC (.bl false))) sNop) T_v_is_edited_1) [some (.tup [t, a, b, c, d]), some a, some d, none, none] h).res = R → M_v_is_edited [.tup [t, a, b, c, d]] h = R := fun R q => by
    rw [← q]
    show SR.res (B_v_is_edited [some (.tup [t, a, b, c, d]), none, none, none, none] h) = _
    unfold B_v_is_edited
    rw [sSeq_eq, e1, SR.bind_nx]
  have ia := isi_str ha h
  have id := isi_str hd h
  cases za : strB a with
  | false =>
    rw [za] at ia
    refine ⟨h, Ext.refl h, pre _ ?_⟩
    simp (disch := omega) only [sSeq_eq, sSet_eq, sIf_eq, sRet_eq, sNop_eq, sExpr_eq, sAsg_eq, sAug_eq, sFor_eq, sRaise_eq, eBin_eq, eUn_eq, eVar_eq, eC_eq, eTup_eq, eLst_eq, eCall_eq, eCallB_eq, eMth_eq, eIf_eq, eAnd_eq, eOr_eq, eNot_eq, eSl_eq, pNo_eq, pSome_eq, eComp_eq, iVal_eq, iArgs_eq, aNil_eq, aCons_eq, tVal_eq, tAnd_eq, tOr_eq, tNot_eq, tTru_eq, truth_bl, truth_non, get_0, get_S, Option.join_some, ofO_some, Res.bind_ok, Res.thn_ok, SR.bind_nx, SR.bind_ret, SR.res_ret, SR.res_nx, List.set_cons_succ, List.set_cons_zero, if_true, Bool.false_eq_true, if_false, typ_str, gTpl_eq, gsCons_eq, gsNil_eq, gNam_eq, Option.bind_some, Bool.not_true, Bool.not_false, List.replicate, fn_1, fn_2, fn_3, fn_4, oEq_str, oNe_str, oEq_int, oNe_int, oAdd_int, oSub_int, oLt_int, oGt_int, oLe_int, oGe_int, oIsN_eq, oNeg_int, bLen_str, oIn_ch, oNin_ch, S_e, S_0, S_9, S_mi, S_po, S_zs9, S_num, S_ed, S_text, decide_eq_true, decide_eq_false, beqI_t, beqI_f, szOk_of, List.length_cons, List.length_nil, Nat.reduceAdd, ia]
    cases a <;> first | rfl | cases za
  | true =>
    rw [za] at ia
    cases zd : strB d with
    | false =>
      rw [zd] at id
      refine ⟨h, Ext.refl h, pre _ ?_⟩
      simp (disch := omega) only [sSeq_eq, sSet_eq, sIf_eq, sRet_eq, sNop_eq, sExpr_eq, sAsg_eq, sAug_eq, sFor_eq, sRaise_eq, eBin_eq, eUn_eq, eVar_eq, eC_eq, eTup_eq, eLst_eq, eCall_eq, eCallB_eq, eMth_eq, eIf_eq, eAnd_eq, eOr_eq, eNot_eq, eSl_eq, pNo_eq, pSome_eq, eComp_eq, iVal_eq, iArgs_eq, aNil_eq, aCons_eq, tVal_eq, tAnd_eq, tOr_eq, tNot_eq, tTru_eq, truth_bl, truth_non, get_0, get_S, Option.join_some, ofO_some, Res.bind_ok, Res.thn_ok, SR.bind_nx, SR.bind_ret, SR.res_ret, SR.res_nx, List.set_cons_succ, List.set_cons_zero, if_true, Bool.false_eq_true, if_false, typ_str, gTpl_eq, gsCons_eq, gsNil_eq, gNam_eq, Option.bind_some, Bool.not_true, Bool.not_false, List.replicate, fn_1, fn_2, fn_3, fn_4, oEq_str, oNe_str, oEq_int, oNe_int, oAdd_int, oSub_int, oLt_int, oGt_int, oLe_int, oGe_int, oIsN_eq, oNeg_int, bLen_str, oIn_ch, oNin_ch, S_e, S_0, S_9, S_mi, S_po, S_zs9, S_num, S_ed, S_text, decide_eq_true, decide_eq_false, beqI_t, beqI_f, szOk_of, List.length_cons, List.length_nil, Nat.reduceAdd, ia, id]
      cases a <;> cases d <;> first | rfl | cases zd | cases za
    | true =>
      rw [zd] at id
      cases a with
      | str m =>
        cases d with
        | str s =>
          have ml : m.length ≤ 100 := sa
          have sl : s.length ≤ 100 := sd
          obtain ⟨h1, x1, bo⟩ := is_body_ok m (by omega) h
          unfold edOk
          simp only
          cases zb : bodyB m with
          | false =>
            rw [zb] at bo
            refine ⟨h1, x1, pre _ ?_⟩
            simp (disch := omega) only [sSeq_eq, sSet_eq, sIf_eq, sRet_eq, sNop_eq, sExpr_eq, sAsg_eq, sAug_eq, sFor_eq, sRaise_eq, eBin_eq, eUn_eq, eVar_eq, eC_eq, eTup_eq, eLst_eq, eCall_eq, eCallB_eq, eMth_eq, eIf_eq, eAnd_eq, eOr_eq, eNot_eq, eSl_eq, pNo_eq, pSome_eq, eComp_eq, iVal_eq, iArgs_eq, aNil_eq, aCons_eq, tVal_eq, tAnd_eq, tOr_eq, tNot_eq, tTru_eq, truth_bl, truth_non, get_0, get_S, Option.join_some, ofO_some, Res.bind_ok, Res.thn_ok, SR.bind_nx, SR.bind_ret, SR.res_ret, SR.res_nx, List.set_cons_succ, List.set_cons_zero, if_true, Bool.false_eq_true, if_false, typ_str, gTpl_eq, gsCons_eq, gsNil_eq, gNam_eq, Option.bind_some, Bool.not_true, Bool.not_false, List.replicate, fn_1, fn_2, fn_3, fn_4, oEq_str, oNe_str, oEq_int, oNe_int, oAdd_int, oSub_int, oLt_int, oGt_int, oLe_int, oGe_int, oIsN_eq, oNeg_int, bLen_str, oIn_ch, oNin_ch, S_e, S_0, S_9, S_mi, S_po, S_zs9, S_num, S_ed, S_text, decide_eq_true, decide_eq_false, beqI_t, beqI_f, szOk_of, List.length_cons, List.length_nil, Nat.reduceAdd, ia, id, bo]
            simp
          | true =>
            rw [zb] at bo
            have ns := nin_signs s h1
            cases zs : inSigns s with
            | false =>
              rw [zs] at ns
              refine ⟨h1, x1, pre _ ?_⟩
              simp (disch := omega) only [sSeq_eq, sSet_eq, sIf_eq, sRet_eq, sNop_eq, sExpr_eq, sAsg_eq, sAug_eq, sFor_eq, sRaise_eq, eBin_eq, eUn_eq, eVar_eq, eC_eq, eTup_eq, eLst_eq, eCall_eq, eCallB_eq, eMth_eq, eIf_eq, eAnd_eq, eOr_eq, eNot_eq, eSl_eq, pNo_eq, pSome_eq, eComp_eq, iVal_eq, iArgs_eq, aNil_eq, aCons_eq, tVal_eq, tAnd_eq, tOr_eq, tNot_eq, tTru_eq, truth_bl, truth_non, get_0, get_S, Option.join_some, ofO_some, Res.bind_ok, Res.thn_ok, SR.bind_nx, SR.bind_ret, SR.res_ret, SR.res_nx, List.set_cons_succ, List.set_cons_zero, if_true, Bool.false_eq_true, if_false, typ_str, gTpl_eq, gsCons_eq, gsNil_eq, gNam_eq, Option.bind_some, Bool.not_true, Bool.not_false, List.replicate, fn_1, fn_2, fn_3, fn_4, oEq_str, oNe_str, oEq_int, oNe_int, oAdd_int, oSub_int, oLt_int, oGt_int, oLe_int, oGe_int, oIsN_eq, oNeg_int, bLen_str, oIn_ch, oNin_ch, S_e, S_0, S_9, S_mi, S_po, S_zs9, S_num, S_ed, S_text, decide_eq_true, decide_eq_false, beqI_t, beqI_f, szOk_of, List.length_cons, List.length_nil, Nat.reduceAdd, ia, id, bo, ns]
              simp
            | true =>
              rw [zs] at ns
              obtain ⟨h2, x2, dg⟩ := digits_of_ok m (by omega) h1
              have n1 := is_integer_ok hb (insF (whole m)).length (insF (whole m)).length h2
              have n2 := is_integer_ok hc (frac m) (frac m) h2
              have ls := ls_of (h := h2) (s := s) (t := [46]) (by omega)
              have dl := dw_len s (fun c => [46].contains c)
              have on := only_ok m [57] h2
              refine ⟨h2, x1.trans x2, pre _ ?_⟩
              show _ = Res.ok (Val.bl (true && true && _ && _ && _ && _ && _)) h2
              have cont : ((sIf (tOr (tNot (tTru (eUn (oIsi "str") (eVar 1)))) (tOr (tNot (tTru (eUn (oIsi "str") (eVar 2)))) (tOr (tNot (tTru (eCall M_v_is_body (aCons (eVar 1) aNil)))) (tVal (eBin oNin (eVar 2) (eC c_SIGNS)))))) (sRet (eC (.bl false))) sNop) [some (.tup [t, .str m, b, c, .str s]), some (.str m), some (.str s), none, none] h) = .nx [some (.tup [t, .str m, b, c, .str s]), some (.str m), some (.str s), none, none] h1 := by
                simp (disch := omega) only [sSeq_eq, sSet_eq, sIf_eq, sRet_eq, sNop_eq, sExpr_eq, sAsg_eq, sAug_eq, sFor_eq, sRaise_eq, eBin_eq, eUn_eq, eVar_eq, eC_eq, eTup_eq, eLst_eq, eCall_eq, eCallB_eq, eMth_eq, eIf_eq, eAnd_eq, eOr_eq, eNot_eq, eSl_eq, pNo_eq, pSome_eq, eComp_eq, iVal_eq, iArgs_eq, aNil_eq, aCons_eq, tVal_eq, tAnd_eq, tOr_eq, tNot_eq, tTru_eq, truth_bl, truth_non, get_0, get_S, Option.join_some, ofO_some, Res.bind_ok, Res.thn_ok, SR.bind_nx, SR.bind_ret, SR.res_ret, SR.res_nx, List.set_cons_succ, List.set_cons_zero, if_true, Bool.false_eq_true, if_false, typ_str, gTpl_eq, gsCons_eq, gsNil_eq, gNam_eq, Option.bind_some, Bool.not_true, Bool.not_false, List.replicate, fn_1, fn_2, fn_3, fn_4, oEq_str, oNe_str, oEq_int, oNe_int, oAdd_int, oSub_int, oLt_int, oGt_int, oLe_int, oGe_int, oIsN_eq, oNeg_int, bLen_str, oIn_ch, oNin_ch, S_e, S_0, S_9, S_mi, S_po, S_zs9, S_num, S_ed, S_text, decide_eq_true, decide_eq_false, beqI_t, beqI_f, szOk_of, List.length_cons, List.length_nil, Nat.reduceAdd, ia, id, bo, ns]
              rw [sSeq_eq, cont, SR.bind_nx]
              unfold T_v_is_edited_1
              have asg : sAsg (gTpl (gsCons (gNam 3) (gsCons (gNam 4) gsNil))) (eCall M_digits_of (aCons (eVar 1) aNil)) [some (.tup [t, .str m, b, c, .str s]), some (.str m), some (.str s), none, none] h1 = .nx [some (.tup [t, .str m, b, c, .str s]), some (.str m), some (.str s), some (.int (insF (whole m)).length), some (.int (frac m))] h2 := by
                simp (disch := omega) only [sSeq_eq, sSet_eq, sIf_eq, sRet_eq, sNop_eq, sExpr_eq, sAsg_eq, sAug_eq, sFor_eq, sRaise_eq, eBin_eq, eUn_eq, eVar_eq, eC_eq, eTup_eq, eLst_eq, eCall_eq, eCallB_eq, eMth_eq, eIf_eq, eAnd_eq, eOr_eq, eNot_eq, eSl_eq, pNo_eq, pSome_eq, eComp_eq, iVal_eq, iArgs_eq, aNil_eq, aCons_eq, tVal_eq, tAnd_eq, tOr_eq, tNot_eq, tTru_eq, truth_bl, truth_non, get_0, get_S, Option.join_some, ofO_some, Res.bind_ok, Res.thn_ok, SR.bind_nx, SR.bind_ret, SR.res_ret, SR.res_nx, List.set_cons_succ, List.set_cons_zero, if_true, Bool.false_eq_true, if_false, typ_str, gTpl_eq, gsCons_eq, gsNil_eq, gNam_eq, Option.bind_some, Bool.not_true, Bool.not_false, List.replicate, fn_1, fn_2, fn_3, fn_4, oEq_str, oNe_str, oEq_int, oNe_int, oAdd_int, oSub_int, oLt_int, oGt_int, oLe_int, oGe_int, oIsN_eq, oNeg_int, bLen_str, oIn_ch, oNin_ch, S_e, S_0, S_9, S_mi, S_po, S_zs9, S_num, S_ed, S_text, decide_eq_true, decide_eq_false, beqI_t, beqI_f, szOk_of, List.length_cons, List.length_nil, Nat.reduceAdd, dg]
              rw [sSeq_eq, asg, SR.bind_nx]
              unfold stripD
              generalize (insF (whole m)).length = W at *
              generalize frac m = F at *
              cases z1 : intIn b W W with
              | false =>
                rw [z1] at n1
                simp (disch := omega) only [sSeq_eq, sSet_eq, sIf_eq, sRet_eq, sNop_eq, sExpr_eq, sAsg_eq, sAug_eq, sFor_eq, sRaise_eq, eBin_eq, eUn_eq, eVar_eq, eC_eq, eTup_eq, eLst_eq, eCall_eq, eCallB_eq, eMth_eq, eIf_eq, eAnd_eq, eOr_eq, eNot_eq, eSl_eq, pNo_eq, pSome_eq, eComp_eq, iVal_eq, iArgs_eq, aNil_eq, aCons_eq, tVal_eq, tAnd_eq, tOr_eq, tNot_eq, tTru_eq, truth_bl, truth_non, get_0, get_S, Option.join_some, ofO_some, Res.bind_ok, Res.thn_ok, SR.bind_nx, SR.bind_ret, SR.res_ret, SR.res_nx, List.set_cons_succ, List.set_cons_zero, if_true, Bool.false_eq_true, if_false, typ_str, gTpl_eq, gsCons_eq, gsNil_eq, gNam_eq, Option.bind_some, Bool.not_true, Bool.not_false, List.replicate, fn_1, fn_2, fn_3, fn_4, oEq_str, oNe_str, oEq_int, oNe_int, oAdd_int, oSub_int, oLt_int, oGt_int, oLe_int, oGe_int, oIsN_eq, oNeg_int, bLen_str, oIn_ch, oNin_ch, S_e, S_0, S_9, S_mi, S_po, S_zs9, S_num, S_ed, S_text, decide_eq_true, decide_eq_false, beqI_t, beqI_f, szOk_of, List.length_cons, List.length_nil, Nat.reduceAdd, i2, n1]
                simp
              | true =>
                rw [z1] at n1
                cases z2 : intIn c F F with
                | false =>
                  rw [z2] at n2
                  simp (disch := omega) only [sSeq_eq, sSet_eq, sIf_eq, sRet_eq, sNop_eq, sExpr_eq, sAsg_eq, sAug_eq, sFor_eq, sRaise_eq, eBin_eq, eUn_eq, eVar_eq, eC_eq, eTup_eq, eLst_eq, eCall_eq, eCallB_eq, eMth_eq, eIf_eq, eAnd_eq, eOr_eq, eNot_eq, eSl_eq, pNo_eq, pSome_eq, eComp_eq, iVal_eq, iArgs_eq, aNil_eq, aCons_eq, tVal_eq, tAnd_eq, tOr_eq, tNot_eq, tTru_eq, truth_bl, truth_non, get_0, get_S, Option.join_some, ofO_some, Res.bind_ok, Res.thn_ok, SR.bind_nx, SR.bind_ret, SR.res_ret, SR.res_nx, List.set_cons_succ, List.set_cons_zero, if_true, Bool.false_eq_true, if_false, typ_str, gTpl_eq, gsCons_eq, gsNil_eq, gNam_eq, Option.bind_some, Bool.not_true, Bool.not_false, List.replicate, fn_1, fn_2, fn_3, fn_4, oEq_str, oNe_str, oEq_int, oNe_int, oAdd_int, oSub_int, oLt_int, oGt_int, oLe_int, oGe_int, oIsN_eq, oNeg_int, bLen_str, oIn_ch, oNin_ch, S_e, S_0, S_9, S_mi, S_po, S_zs9, S_num, S_ed, S_text, decide_eq_true, decide_eq_false, beqI_t, beqI_f, szOk_of, List.length_cons, List.length_nil, Nat.reduceAdd, i2, i3, n1, n2]
                  simp
                | true =>
                  rw [z2] at n2
                  by_cases q1 : W + F ≤ 18
                  · by_cases q2 : m.length + (s.dropWhile fun c => [46].contains c).length ≤ 80
                    · cases z3 : (s == []) with
                      | false =>
                        simp (disch := omega) only [sSeq_eq, sSet_eq, sIf_eq, sRet_eq, sNop_eq, sExpr_eq, sAsg_eq, sAug_eq, sFor_eq, sRaise_eq, eBin_eq, eUn_eq, eVar_eq, eC_eq, eTup_eq, eLst_eq, eCall_eq, eCallB_eq, eMth_eq, eIf_eq, eAnd_eq, eOr_eq, eNot_eq, eSl_eq, pNo_eq, pSome_eq, eComp_eq, iVal_eq, iArgs_eq, aNil_eq, aCons_eq, tVal_eq, tAnd_eq, tOr_eq, tNot_eq, tTru_eq, truth_bl, truth_non, get_0, get_S, Option.join_some, ofO_some, Res.bind_ok, Res.thn_ok, SR.bind_nx, SR.bind_ret, SR.res_ret, SR.res_nx, List.set_cons_succ, List.set_cons_zero, if_true, Bool.false_eq_true, if_false, typ_str, gTpl_eq, gsCons_eq, gsNil_eq, gNam_eq, Option.bind_some, Bool.not_true, Bool.not_false, List.replicate, fn_1, fn_2, fn_3, fn_4, oEq_str, oNe_str, oEq_int, oNe_int, oAdd_int, oSub_int, oLt_int, oGt_int, oLe_int, oGe_int, oIsN_eq, oNeg_int, bLen_str, oIn_ch, oNin_ch, S_e, S_0, S_9, S_mi, S_po, S_zs9, S_num, S_ed, S_text, decide_eq_true, decide_eq_false, beqI_t, beqI_f, szOk_of, List.length_cons, List.length_nil, Nat.reduceAdd, i2, i3, n1, n2, c_MOST_DIGITS, c_MOST_TEXT, ls, z3]
                        simp
                      | true =>
                        simp (disch := omega) only [sSeq_eq, sSet_eq, sIf_eq, sRet_eq, sNop_eq, sExpr_eq, sAsg_eq, sAug_eq, sFor_eq, sRaise_eq, eBin_eq, eUn_eq, eVar_eq, eC_eq, eTup_eq, eLst_eq, eCall_eq, eCallB_eq, eMth_eq, eIf_eq, eAnd_eq, eOr_eq, eNot_eq, eSl_eq, pNo_eq, pSome_eq, eComp_eq, iVal_eq, iArgs_eq, aNil_eq, aCons_eq, tVal_eq, tAnd_eq, tOr_eq, tNot_eq, tTru_eq, truth_bl, truth_non, get_0, get_S, Option.join_some, ofO_some, Res.bind_ok, Res.thn_ok, SR.bind_nx, SR.bind_ret, SR.res_ret, SR.res_nx, List.set_cons_succ, List.set_cons_zero, if_true, Bool.false_eq_true, if_false, typ_str, gTpl_eq, gsCons_eq, gsNil_eq, gNam_eq, Option.bind_some, Bool.not_true, Bool.not_false, List.replicate, fn_1, fn_2, fn_3, fn_4, oEq_str, oNe_str, oEq_int, oNe_int, oAdd_int, oSub_int, oLt_int, oGt_int, oLe_int, oGe_int, oIsN_eq, oNeg_int, bLen_str, oIn_ch, oNin_ch, S_e, S_0, S_9, S_mi, S_po, S_zs9, S_num, S_ed, S_text, decide_eq_true, decide_eq_false, beqI_t, beqI_f, szOk_of, List.length_cons, List.length_nil, Nat.reduceAdd, i2, i3, n1, n2, c_MOST_DIGITS, c_MOST_TEXT, ls, z3, on]
                        simp
                    · simp (disch := omega) only [sSeq_eq, sSet_eq, sIf_eq, sRet_eq, sNop_eq, sExpr_eq, sAsg_eq, sAug_eq, sFor_eq, sRaise_eq, eBin_eq, eUn_eq, eVar_eq, eC_eq, eTup_eq, eLst_eq, eCall_eq, eCallB_eq, eMth_eq, eIf_eq, eAnd_eq, eOr_eq, eNot_eq, eSl_eq, pNo_eq, pSome_eq, eComp_eq, iVal_eq, iArgs_eq, aNil_eq, aCons_eq, tVal_eq, tAnd_eq, tOr_eq, tNot_eq, tTru_eq, truth_bl, truth_non, get_0, get_S, Option.join_some, ofO_some, Res.bind_ok, Res.thn_ok, SR.bind_nx, SR.bind_ret, SR.res_ret, SR.res_nx, List.set_cons_succ, List.set_cons_zero, if_true, Bool.false_eq_true, if_false, typ_str, gTpl_eq, gsCons_eq, gsNil_eq, gNam_eq, Option.bind_some, Bool.not_true, Bool.not_false, List.replicate, fn_1, fn_2, fn_3, fn_4, oEq_str, oNe_str, oEq_int, oNe_int, oAdd_int, oSub_int, oLt_int, oGt_int, oLe_int, oGe_int, oIsN_eq, oNeg_int, bLen_str, oIn_ch, oNin_ch, S_e, S_0, S_9, S_mi, S_po, S_zs9, S_num, S_ed, S_text, decide_eq_true, decide_eq_false, beqI_t, beqI_f, szOk_of, List.length_cons, List.length_nil, Nat.reduceAdd, i2, i3, n1, n2, c_MOST_DIGITS, c_MOST_TEXT, ls]
                      simp
                  · simp (disch := omega) only [sSeq_eq, sSet_eq, sIf_eq, sRet_eq, sNop_eq, sExpr_eq, sAsg_eq, sAug_eq, sFor_eq, sRaise_eq, eBin_eq, eUn_eq, eVar_eq, eC_eq, eTup_eq, eLst_eq, eCall_eq, eCallB_eq, eMth_eq, eIf_eq, eAnd_eq, eOr_eq, eNot_eq, eSl_eq, pNo_eq, pSome_eq, eComp_eq, iVal_eq, iArgs_eq, aNil_eq, aCons_eq, tVal_eq, tAnd_eq, tOr_eq, tNot_eq, tTru_eq, truth_bl, truth_non, get_0, get_S, Option.join_some, ofO_some, Res.bind_ok, Res.thn_ok, SR.bind_nx, SR.bind_ret, SR.res_ret, SR.res_nx, List.set_cons_succ, List.set_cons_zero, if_true, Bool.false_eq_true, if_false, typ_str, gTpl_eq, gsCons_eq, gsNil_eq, gNam_eq, Option.bind_some, Bool.not_true, Bool.not_false, List.replicate, fn_1, fn_2, fn_3, fn_4, oEq_str, oNe_str, oEq_int, oNe_int, oAdd_int, oSub_int, oLt_int, oGt_int, oLe_int, oGe_int, oIsN_eq, oNeg_int, bLen_str, oIn_ch, oNin_ch, S_e, S_0, S_9, S_mi, S_po, S_zs9, S_num, S_ed, S_text, decide_eq_true, decide_eq_false, beqI_t, beqI_f, szOk_of, List.length_cons, List.length_nil, Nat.reduceAdd, i2, i3, n1, n2, c_MOST_DIGITS, c_MOST_TEXT]
                    simp
        | _ => cases zd
      | _ => cases za
end Law

set_option maxRecDepth 100000
set_option maxHeartbeats 1000000
set_option linter.all false
namespace Law
open Cd Mir
def sumOk (w f : Val) : Bool := match w, f with
  | .int a, .int b => decide (1 ≤ a + b) && decide (a + b ≤ 18)
  | _, _ => false
def numOk (l : List Val) : Bool := match l with
  | [.bl _, w, f] => intIn w 0 18 && intIn f 0 18 && sumOk w f
  | _ => false
def edlOk (l : List Val) : Bool := match l with
  | [.str m, w, f, .str s] => edOk m w f s
  | _ => false
def txOk (l : List Val) : Bool := match l with
  | [y] => intIn y 1 80
  | _ => false
def isPB : List Val → Bool
  | .str t :: l => if t == [116, 101, 120, 116] then txOk l else if t == [110, 117, 109, 98, 101, 114] then numOk l else if t == [101, 100, 105, 116, 101, 100] then edlOk l else false
  | _ => false
theorem intIn_int {v : Val} {a b : Int} (h : intIn v a b = true) : ∃ i, v = .int i ∧ a ≤ i ∧ i ≤ b := by
  cases v <;> first | cases h | skip
  rename_i i
  have h : (decide (a ≤ i) && decide (i ≤ b)) = true := h
  rw [Bool.and_eq_true] at h
  exact ⟨i, rfl, of_decide_eq_true h.1, of_decide_eq_true h.2⟩
theorem is_pic_tup {x : Val} {l : List Val} (hf : ∀ y ∈ x :: l, flatOk y) (hs : ∀ y ∈ x :: l, shortV y) (ll : l.length ≤ 100) (h : Hep) : ∃ h', Ext h h' ∧ M_is_picture [.tup (x :: l)] h = .ok (.bl (isPB (x :: l))) h' := by
  have ty : typ h (.tup (x :: l)) = some "tuple" := typ_tup h _
  have i0 : ∀ h, oIdx h (.tup (x :: l)) (.int 0) = some x := fun h => by rw [oIdx_tup, atI_zero]
  have e0 : oEq h (.tup (x :: l)) (.tup []) = some (.bl false) := oEq_of (vEq_tups h hf (by simp))
  have ix := isi_str (hf x List.mem_cons_self) h
  have ln : ∀ h, bLen [.tup (x :: l)] h = some (.int ((l.length + 1 : Nat) : Int), h) := fun h => by rw [bLen_tup]; rfl
  cases zx : strB x with
  | false =>
    rw [zx] at ix
    refine ⟨h, Ext.refl h, ?_⟩
    simp (disch := omega) only [sSeq_eq, sSet_eq, sIf_eq, sRet_eq, sNop_eq, sExpr_eq, sAsg_eq, sAug_eq, sFor_eq, sRaise_eq, eBin_eq, eUn_eq, eVar_eq, eC_eq, eTup_eq, eLst_eq, eCall_eq, eCallB_eq, eMth_eq, eIf_eq, eAnd_eq, eOr_eq, eNot_eq, eSl_eq, pNo_eq, pSome_eq, eComp_eq, iVal_eq, iArgs_eq, aNil_eq, aCons_eq, tVal_eq, tAnd_eq, tOr_eq, tNot_eq, tTru_eq, truth_bl, truth_non, get_0, get_S, Option.join_some, ofO_some, Res.bind_ok, Res.thn_ok, SR.bind_nx, SR.bind_ret, SR.res_ret, SR.res_nx, List.set_cons_succ, List.set_cons_zero, if_true, Bool.false_eq_true, if_false, typ_str, gTpl_eq, gsCons_eq, gsNil_eq, gNam_eq, Option.bind_some, Bool.not_true, Bool.not_false, List.replicate, fn_1, fn_2, fn_3, fn_4, oEq_str, oNe_str, oEq_int, oNe_int, oAdd_int, oSub_int, oLt_int, oGt_int, oLe_int, oGe_int, oIsN_eq, oNeg_int, bLen_str, oIn_ch, oNin_ch, S_e, S_0, S_9, S_mi, S_po, S_zs9, S_num, S_ed, S_text, decide_eq_true, decide_eq_false, beqI_t, beqI_f, szOk_of, List.length_cons, List.length_nil, Nat.reduceAdd, M_is_picture, B_is_picture, oIsi_eq "tuple", ty, Option.map_some, t_tt, e0, i0, ix]
    cases x <;> first | rfl | cases zx
  | true =>
    rw [zx] at ix
    cases x with
    | str t =>
      have pre : ∀ R : Res Val, ((sSeq (sIf (tVal (eBin oEq (eBin oIdx (eVar 0) (eC (.int 0))) (eC (.str (S "text"))))) (sRet (eAnd (eBin oEq (eCallB bLen (aCons (eVar 0) aNil)) (eC (.int 2))) (eCall M_is_integer (aCons (eBin oIdx (eVar 0) (eC (.int 1))) (aCons (eC (.int 1)) (aCons (eC c_MOST_TEXT) aNil)))))) sNop) (sSeq (sIf (tVal (eBin oEq (eBin oIdx (eVar 0) (eC (.int 0))) (eC (.str (S "number"))))) (sSeq (sIf (tOr (tVal (eBin oNe (eCallB bLen (aCons (eVar 0) aNil)) (eC (.int 4)))) (tNot (tTru (eUn (oIsi "bool") (eBin oIdx (eVar 0) (eC (.int 1))))))) (sRet (eC (.bl false))) sNop) (sSeq (sIf (tOr (tNot (tTru (eCall M_is_integer (aCons (eBin oIdx (eVar 0) (eC (.int 2))) (aCons (eC (.int 0)) (aCons (eC c_MOST_DIGITS) aNil)))))) (tNot (tTru (eCall M_is_integer (aCons (eBin oIdx (eVar 0) (eC (.int 3))) (aCons (eC (.int 0)) (aCons (eC c_MOST_DIGITS) aNil))))))) (sRet (eC (.bl false))) sNop) (sRet (eAnd (eBin oLe (eC (.int 1)) (eBin oAdd (eBin oIdx (eVar 0) (eC (.int 2))) (eBin oIdx (eVar 0) (eC (.int 3))))) (eBin oLe (eBin oAdd (eBin oIdx (eVar 0) (eC (.int 2))) (eBin oIdx (eVar 0) (eC (.int 3)))) (eC c_MOST_DIGITS)))))) sNop) (sRet (eAnd (eBin oEq (eBin oIdx (eVar 0) (eC (.int 0))) (eC (.str (S "edited")))) (eAnd (eBin oEq (eCallB bLen (aCons (eVar 0) aNil)) (eC (.int 5))) (eCall M_v_is_edited (aCons (eVar 0) aNil))))))) [some (.tup (.str t :: l))] h).res = R → M_is_picture [.tup (.str t :: l)] h = R := fun R q => by
        rw [← q]
        show SR.res (B_is_picture [some (.tup (.str t :: l))] h) = _
        unfold B_is_picture
        rw [sSeq_eq]
        have e1 : sIf (tOr (tNot (tTru (eUn (oIsi "tuple") (eVar 0)))) (tOr (tVal (eBin oEq (eVar 0) (eTup aNil))) (tNot (tTru (eUn (oIsi "str") (eBin oIdx (eVar 0) (eC (.int 0)))))))) (sRet (eC (.bl false))) sNop [some (.tup (.str t :: l))] h = .nx [some (.tup (.str t :: l))] h := by
          simp (disch := omega) only [sSeq_eq, sSet_eq, sIf_eq, sRet_eq, sNop_eq, sExpr_eq, sAsg_eq, sAug_eq, sFor_eq, sRaise_eq, eBin_eq, eUn_eq, eVar_eq, eC_eq, eTup_eq, eLst_eq, eCall_eq, eCallB_eq, eMth_eq, eIf_eq, eAnd_eq, eOr_eq, eNot_eq, eSl_eq, pNo_eq, pSome_eq, eComp_eq, iVal_eq, iArgs_eq, aNil_eq, aCons_eq, tVal_eq, tAnd_eq, tOr_eq, tNot_eq, tTru_eq, truth_bl, truth_non, get_0, get_S, Option.join_some, ofO_some, Res.bind_ok, Res.thn_ok, SR.bind_nx, SR.bind_ret, SR.res_ret, SR.res_nx, List.set_cons_succ, List.set_cons_zero, if_true, Bool.false_eq_true, if_false, typ_str, gTpl_eq, gsCons_eq, gsNil_eq, gNam_eq, Option.bind_some, Bool.not_true, Bool.not_false, List.replicate, fn_1, fn_2, fn_3, fn_4, oEq_str, oNe_str, oEq_int, oNe_int, oAdd_int, oSub_int, oLt_int, oGt_int, oLe_int, oGe_int, oIsN_eq, oNeg_int, bLen_str, oIn_ch, oNin_ch, S_e, S_0, S_9, S_mi, S_po, S_zs9, S_num, S_ed, S_text, decide_eq_true, decide_eq_false, beqI_t, beqI_f, szOk_of, List.length_cons, List.length_nil, Nat.reduceAdd, oIsi_eq "tuple", ty, Option.map_some, t_tt, e0, i0, ix]
        rw [e1, SR.bind_nx]
      have n1 : ∀ {v : Val}, flatOk v → ∀ h, M_is_integer [v, .int 1, .int 80] h = .ok (.bl (intIn v 1 80)) h := fun hv h => is_integer_ok hv 1 80 h
      have n2 : ∀ {v : Val}, flatOk v → ∀ h, M_is_integer [v, .int 0, .int 18] h = .ok (.bl (intIn v 0 18)) h := fun hv h => is_integer_ok hv 0 18 h
      rw [show isPB (.str t :: l) = if (t == [116, 101, 120, 116]) = true then txOk l else if (t == [110, 117, 109, 98, 101, 114]) = true then numOk l else if (t == [101, 100, 105, 116, 101, 100]) = true then edlOk l else false from rfl]
      cases q1 : (t == [116, 101, 120, 116]) with
      | true =>
        refine ⟨h, Ext.refl h, pre _ ?_⟩
        cases l with
        | nil =>
          simp only [List.length_nil] at ln
          simp (disch := omega) only [sSeq_eq, sSet_eq, sIf_eq, sRet_eq, sNop_eq, sExpr_eq, sAsg_eq, sAug_eq, sFor_eq, sRaise_eq, eBin_eq, eUn_eq, eVar_eq, eC_eq, eTup_eq, eLst_eq, eCall_eq, eCallB_eq, eMth_eq, eIf_eq, eAnd_eq, eOr_eq, eNot_eq, eSl_eq, pNo_eq, pSome_eq, eComp_eq, iVal_eq, iArgs_eq, aNil_eq, aCons_eq, tVal_eq, tAnd_eq, tOr_eq, tNot_eq, tTru_eq, truth_bl, truth_non, get_0, get_S, Option.join_some, ofO_some, Res.bind_ok, Res.thn_ok, SR.bind_nx, SR.bind_ret, SR.res_ret, SR.res_nx, List.set_cons_succ, List.set_cons_zero, if_true, Bool.false_eq_true, if_false, typ_str, gTpl_eq, gsCons_eq, gsNil_eq, gNam_eq, Option.bind_some, Bool.not_true, Bool.not_false, List.replicate, fn_1, fn_2, fn_3, fn_4, oEq_str, oNe_str, oEq_int, oNe_int, oAdd_int, oSub_int, oLt_int, oGt_int, oLe_int, oGe_int, oIsN_eq, oNeg_int, bLen_str, oIn_ch, oNin_ch, S_e, S_0, S_9, S_mi, S_po, S_zs9, S_num, S_ed, S_text, decide_eq_true, decide_eq_false, beqI_t, beqI_f, szOk_of, List.length_cons, List.length_nil, Nat.reduceAdd, i0, q1, ln]
          rfl
        | cons y r =>
          cases r with
          | nil =>
            have i1 : ∀ h, oIdx h (.tup [.str t, y]) (.int 1) = some y := fun h => by rw [oIdx_tup, atI_one]
            simp only [List.length_cons, List.length_nil] at ln
            simp (disch := omega) only [sSeq_eq, sSet_eq, sIf_eq, sRet_eq, sNop_eq, sExpr_eq, sAsg_eq, sAug_eq, sFor_eq, sRaise_eq, eBin_eq, eUn_eq, eVar_eq, eC_eq, eTup_eq, eLst_eq, eCall_eq, eCallB_eq, eMth_eq, eIf_eq, eAnd_eq, eOr_eq, eNot_eq, eSl_eq, pNo_eq, pSome_eq, eComp_eq, iVal_eq, iArgs_eq, aNil_eq, aCons_eq, tVal_eq, tAnd_eq, tOr_eq, tNot_eq, tTru_eq, truth_bl, truth_non, get_0, get_S, Option.join_some, ofO_some, Res.bind_ok, Res.thn_ok, SR.bind_nx, SR.bind_ret, SR.res_ret, SR.res_nx, List.set_cons_succ, List.set_cons_zero, if_true, Bool.false_eq_true, if_false, typ_str, gTpl_eq, gsCons_eq, gsNil_eq, gNam_eq, Option.bind_some, Bool.not_true, Bool.not_false, List.replicate, fn_1, fn_2, fn_3, fn_4, oEq_str, oNe_str, oEq_int, oNe_int, oAdd_int, oSub_int, oLt_int, oGt_int, oLe_int, oGe_int, oIsN_eq, oNeg_int, bLen_str, oIn_ch, oNin_ch, S_e, S_0, S_9, S_mi, S_po, S_zs9, S_num, S_ed, S_text, decide_eq_true, decide_eq_false, beqI_t, beqI_f, szOk_of, List.length_cons, List.length_nil, Nat.reduceAdd, i0, q1, ln, i1, n1 (hf y (by simp)), c_MOST_TEXT]
            rfl
          | cons z r =>
            simp only [List.length_cons] at ln
            simp (disch := omega) only [sSeq_eq, sSet_eq, sIf_eq, sRet_eq, sNop_eq, sExpr_eq, sAsg_eq, sAug_eq, sFor_eq, sRaise_eq, eBin_eq, eUn_eq, eVar_eq, eC_eq, eTup_eq, eLst_eq, eCall_eq, eCallB_eq, eMth_eq, eIf_eq, eAnd_eq, eOr_eq, eNot_eq, eSl_eq, pNo_eq, pSome_eq, eComp_eq, iVal_eq, iArgs_eq, aNil_eq, aCons_eq, tVal_eq, tAnd_eq, tOr_eq, tNot_eq, tTru_eq, truth_bl, truth_non, get_0, get_S, Option.join_some, ofO_some, Res.bind_ok, Res.thn_ok, SR.bind_nx, SR.bind_ret, SR.res_ret, SR.res_nx, List.set_cons_succ, List.set_cons_zero, if_true, Bool.false_eq_true, if_false, typ_str, gTpl_eq, gsCons_eq, gsNil_eq, gNam_eq, Option.bind_some, Bool.not_true, Bool.not_false, List.replicate, fn_1, fn_2, fn_3, fn_4, oEq_str, oNe_str, oEq_int, oNe_int, oAdd_int, oSub_int, oLt_int, oGt_int, oLe_int, oGe_int, oIsN_eq, oNeg_int, bLen_str, oIn_ch, oNin_ch, S_e, S_0, S_9, S_mi, S_po, S_zs9, S_num, S_ed, S_text, decide_eq_true, decide_eq_false, beqI_t, beqI_f, szOk_of, List.length_cons, List.length_nil, Nat.reduceAdd, i0, q1, ln]
            rfl
      | false =>
        cases q2 : (t == [110, 117, 109, 98, 101, 114]) with
        | true =>
          refine ⟨h, Ext.refl h, pre _ ?_⟩
          match l, hf, hs, ll, ty, i0, e0, ln, pre with
          | [], hf, hs, ll, ty, i0, e0, ln, pre =>
            simp only [List.length_cons, List.length_nil] at ln
            simp (disch := omega) only [sSeq_eq, sSet_eq, sIf_eq, sRet_eq, sNop_eq, sExpr_eq, sAsg_eq, sAug_eq, sFor_eq, sRaise_eq, eBin_eq, eUn_eq, eVar_eq, eC_eq, eTup_eq, eLst_eq, eCall_eq, eCallB_eq, eMth_eq, eIf_eq, eAnd_eq, eOr_eq, eNot_eq, eSl_eq, pNo_eq, pSome_eq, eComp_eq, iVal_eq, iArgs_eq, aNil_eq, aCons_eq, tVal_eq, tAnd_eq, tOr_eq, tNot_eq, tTru_eq, truth_bl, truth_non, get_0, get_S, Option.join_some, ofO_some, Res.bind_ok, Res.thn_ok, SR.bind_nx, SR.bind_ret, SR.res_ret, SR.res_nx, List.set_cons_succ, List.set_cons_zero, if_true, Bool.false_eq_true, if_false, typ_str, gTpl_eq, gsCons_eq, gsNil_eq, gNam_eq, Option.bind_some, Bool.not_true, Bool.not_false, List.replicate, fn_1, fn_2, fn_3, fn_4, oEq_str, oNe_str, oEq_int, oNe_int, oAdd_int, oSub_int, oLt_int, oGt_int, oLe_int, oGe_int, oIsN_eq, oNeg_int, bLen_str, oIn_ch, oNin_ch, S_e, S_0, S_9, S_mi, S_po, S_zs9, S_num, S_ed, S_text, decide_eq_true, decide_eq_false, beqI_t, beqI_f, szOk_of, List.length_cons, List.length_nil, Nat.reduceAdd, i0, q1, q2, ln]
            rfl
          | [a], hf, hs, ll, ty, i0, e0, ln, pre =>
            simp only [List.length_cons, List.length_nil] at ln
            simp (disch := omega) only [sSeq_eq, sSet_eq, sIf_eq, sRet_eq, sNop_eq, sExpr_eq, sAsg_eq, sAug_eq, sFor_eq, sRaise_eq, eBin_eq, eUn_eq, eVar_eq, eC_eq, eTup_eq, eLst_eq, eCall_eq, eCallB_eq, eMth_eq, eIf_eq, eAnd_eq, eOr_eq, eNot_eq, eSl_eq, pNo_eq, pSome_eq, eComp_eq, iVal_eq, iArgs_eq, aNil_eq, aCons_eq, tVal_eq, tAnd_eq, tOr_eq, tNot_eq, tTru_eq, truth_bl, truth_non, get_0, get_S, Option.join_some, ofO_some, Res.bind_ok, Res.thn_ok, SR.bind_nx, SR.bind_ret, SR.res_ret, SR.res_nx, List.set_cons_succ, List.set_cons_zero, if_true, Bool.false_eq_true, if_false, typ_str, gTpl_eq, gsCons_eq, gsNil_eq, gNam_eq, Option.bind_some, Bool.not_true, Bool.not_false, List.replicate, fn_1, fn_2, fn_3, fn_4, oEq_str, oNe_str, oEq_int, oNe_int, oAdd_int, oSub_int, oLt_int, oGt_int, oLe_int, oGe_int, oIsN_eq, oNeg_int, bLen_str, oIn_ch, oNin_ch, S_e, S_0, S_9, S_mi, S_po, S_zs9, S_num, S_ed, S_text, decide_eq_true, decide_eq_false, beqI_t, beqI_f, szOk_of, List.length_cons, List.length_nil, Nat.reduceAdd, i0, q1, q2, ln]
            cases a <;> rfl
          | [a, b], hf, hs, ll, ty, i0, e0, ln, pre =>
            simp only [List.length_cons, List.length_nil] at ln
            simp (disch := omega) only [sSeq_eq, sSet_eq, sIf_eq, sRet_eq, sNop_eq, sExpr_eq, sAsg_eq, sAug_eq, sFor_eq, sRaise_eq, eBin_eq, eUn_eq, eVar_eq, eC_eq, eTup_eq, eLst_eq, eCall_eq, eCallB_eq, eMth_eq, eIf_eq, eAnd_eq, eOr_eq, eNot_eq, eSl_eq, pNo_eq, pSome_eq, eComp_eq, iVal_eq, iArgs_eq, aNil_eq, aCons_eq, tVal_eq, tAnd_eq, tOr_eq, tNot_eq, tTru_eq, truth_bl, truth_non, get_0, get_S, Option.join_some, ofO_some, Res.bind_ok, Res.thn_ok, SR.bind_nx, SR.bind_ret, SR.res_ret, SR.res_nx, List.set_cons_succ, List.set_cons_zero, if_true, Bool.false_eq_true, if_false, typ_str, gTpl_eq, gsCons_eq, gsNil_eq, gNam_eq, Option.bind_some, Bool.not_true, Bool.not_false, List.replicate, fn_1, fn_2, fn_3, fn_4, oEq_str, oNe_str, oEq_int, oNe_int, oAdd_int, oSub_int, oLt_int, oGt_int, oLe_int, oGe_int, oIsN_eq, oNeg_int, bLen_str, oIn_ch, oNin_ch, S_e, S_0, S_9, S_mi, S_po, S_zs9, S_num, S_ed, S_text, decide_eq_true, decide_eq_false, beqI_t, beqI_f, szOk_of, List.length_cons, List.length_nil, Nat.reduceAdd, i0, q1, q2, ln]
            cases a <;> rfl
          | [a, b, c], hf, hs, ll, ty, i0, e0, ln, pre =>
            have i1 : ∀ h, oIdx h (.tup [.str t, a, b, c]) (.int 1) = some a := fun h => by rw [oIdx_tup, atI_one]
            have i2 : ∀ h, oIdx h (.tup [.str t, a, b, c]) (.int 2) = some b := fun h => by rw [oIdx_tup, atI_two]
            have i3 : ∀ h, oIdx h (.tup [.str t, a, b, c]) (.int 3) = some c := fun h => by rw [oIdx_tup, atI_three]
            have ia := isi_bl (hf a (by simp)) h
            have nb := n2 (hf b (by simp)) h
            have nc := n2 (hf c (by simp)) h
            simp only [List.length_cons, List.length_nil] at ln
            cases za : blB a with
            | false =>
              rw [za] at ia
              simp (disch := omega) only [sSeq_eq, sSet_eq, sIf_eq, sRet_eq, sNop_eq, sExpr_eq, sAsg_eq, sAug_eq, sFor_eq, sRaise_eq, eBin_eq, eUn_eq, eVar_eq, eC_eq, eTup_eq, eLst_eq, eCall_eq, eCallB_eq, eMth_eq, eIf_eq, eAnd_eq, eOr_eq, eNot_eq, eSl_eq, pNo_eq, pSome_eq, eComp_eq, iVal_eq, iArgs_eq, aNil_eq, aCons_eq, tVal_eq, tAnd_eq, tOr_eq, tNot_eq, tTru_eq, truth_bl, truth_non, get_0, get_S, Option.join_some, ofO_some, Res.bind_ok, Res.thn_ok, SR.bind_nx, SR.bind_ret, SR.res_ret, SR.res_nx, List.set_cons_succ, List.set_cons_zero, if_true, Bool.false_eq_true, if_false, typ_str, gTpl_eq, gsCons_eq, gsNil_eq, gNam_eq, Option.bind_some, Bool.not_true, Bool.not_false, List.replicate, fn_1, fn_2, fn_3, fn_4, oEq_str, oNe_str, oEq_int, oNe_int, oAdd_int, oSub_int, oLt_int, oGt_int, oLe_int, oGe_int, oIsN_eq, oNeg_int, bLen_str, oIn_ch, oNin_ch, S_e, S_0, S_9, S_mi, S_po, S_zs9, S_num, S_ed, S_text, decide_eq_true, decide_eq_false, beqI_t, beqI_f, szOk_of, List.length_cons, List.length_nil, Nat.reduceAdd, i0, q1, q2, ln, i1, ia]
              cases a <;> first | rfl | cases za
            | true =>
              rw [za] at ia
              cases a with
              | bl k =>
                rw [if_neg (by decide), if_pos rfl]
                show _ = Res.ok (Val.bl (intIn b 0 18 && intIn c 0 18 && sumOk b c)) h
                cases zb : intIn b 0 18 with
                | false =>
                  rw [zb] at nb
                  simp (disch := omega) only [sSeq_eq, sSet_eq, sIf_eq, sRet_eq, sNop_eq, sExpr_eq, sAsg_eq, sAug_eq, sFor_eq, sRaise_eq, eBin_eq, eUn_eq, eVar_eq, eC_eq, eTup_eq, eLst_eq, eCall_eq, eCallB_eq, eMth_eq, eIf_eq, eAnd_eq, eOr_eq, eNot_eq, eSl_eq, pNo_eq, pSome_eq, eComp_eq, iVal_eq, iArgs_eq, aNil_eq, aCons_eq, tVal_eq, tAnd_eq, tOr_eq, tNot_eq, tTru_eq, truth_bl, truth_non, get_0, get_S, Option.join_some, ofO_some, Res.bind_ok, Res.thn_ok, SR.bind_nx, SR.bind_ret, SR.res_ret, SR.res_nx, List.set_cons_succ, List.set_cons_zero, if_true, Bool.false_eq_true, if_false, typ_str, gTpl_eq, gsCons_eq, gsNil_eq, gNam_eq, Option.bind_some, Bool.not_true, Bool.not_false, List.replicate, fn_1, fn_2, fn_3, fn_4, oEq_str, oNe_str, oEq_int, oNe_int, oAdd_int, oSub_int, oLt_int, oGt_int, oLe_int, oGe_int, oIsN_eq, oNeg_int, bLen_str, oIn_ch, oNin_ch, S_e, S_0, S_9, S_mi, S_po, S_zs9, S_num, S_ed, S_text, decide_eq_true, decide_eq_false, beqI_t, beqI_f, szOk_of, List.length_cons, List.length_nil, Nat.reduceAdd, i0, q1, q2, ln, i1, ia, i2, i3, nb, c_MOST_DIGITS]
                  rfl
                | true =>
                  rw [zb] at nb
                  cases zc : intIn c 0 18 with
                  | false =>
                    rw [zc] at nc
                    simp (disch := omega) only [sSeq_eq, sSet_eq, sIf_eq, sRet_eq, sNop_eq, sExpr_eq, sAsg_eq, sAug_eq, sFor_eq, sRaise_eq, eBin_eq, eUn_eq, eVar_eq, eC_eq, eTup_eq, eLst_eq, eCall_eq, eCallB_eq, eMth_eq, eIf_eq, eAnd_eq, eOr_eq, eNot_eq, eSl_eq, pNo_eq, pSome_eq, eComp_eq, iVal_eq, iArgs_eq, aNil_eq, aCons_eq, tVal_eq, tAnd_eq, tOr_eq, tNot_eq, tTru_eq, truth_bl, truth_non, get_0, get_S, Option.join_some, ofO_some, Res.bind_ok, Res.thn_ok, SR.bind_nx, SR.bind_ret, SR.res_ret, SR.res_nx, List.set_cons_succ, List.set_cons_zero, if_true, Bool.false_eq_true, if_false, typ_str, gTpl_eq, gsCons_eq, gsNil_eq, gNam_eq, Option.bind_some, Bool.not_true, Bool.not_false, List.replicate, fn_1, fn_2, fn_3, fn_4, oEq_str, oNe_str, oEq_int, oNe_int, oAdd_int, oSub_int, oLt_int, oGt_int, oLe_int, oGe_int, oIsN_eq, oNeg_int, bLen_str, oIn_ch, oNin_ch, S_e, S_0, S_9, S_mi, S_po, S_zs9, S_num, S_ed, S_text, decide_eq_true, decide_eq_false, beqI_t, beqI_f, szOk_of, List.length_cons, List.length_nil, Nat.reduceAdd, i0, q1, q2, ln, i1, ia, i2, i3, nb, nc, c_MOST_DIGITS]
                    rfl
                  | true =>
                    rw [zc] at nc
                    obtain ⟨u, rfl, _, _⟩ := intIn_int zb
                    obtain ⟨v, rfl, _, _⟩ := intIn_int zc
                    show _ = Res.ok (Val.bl (true && true && (decide (1 ≤ u + v) && decide (u + v ≤ 18)))) h
                    by_cases g : 1 ≤ u + v
                    · rw [decide_eq_true g]
                      simp (disch := omega) only [sSeq_eq, sSet_eq, sIf_eq, sRet_eq, sNop_eq, sExpr_eq, sAsg_eq, sAug_eq, sFor_eq, sRaise_eq, eBin_eq, eUn_eq, eVar_eq, eC_eq, eTup_eq, eLst_eq, eCall_eq, eCallB_eq, eMth_eq, eIf_eq, eAnd_eq, eOr_eq, eNot_eq, eSl_eq, pNo_eq, pSome_eq, eComp_eq, iVal_eq, iArgs_eq, aNil_eq, aCons_eq, tVal_eq, tAnd_eq, tOr_eq, tNot_eq, tTru_eq, truth_bl, truth_non, get_0, get_S, Option.join_some, ofO_some, Res.bind_ok, Res.thn_ok, SR.bind_nx, SR.bind_ret, SR.res_ret, SR.res_nx, List.set_cons_succ, List.set_cons_zero, if_true, Bool.false_eq_true, if_false, typ_str, gTpl_eq, gsCons_eq, gsNil_eq, gNam_eq, Option.bind_some, Bool.not_true, Bool.not_false, List.replicate, fn_1, fn_2, fn_3, fn_4, oEq_str, oNe_str, oEq_int, oNe_int, oAdd_int, oSub_int, oLt_int, oGt_int, oLe_int, oGe_int, oIsN_eq, oNeg_int, bLen_str, oIn_ch, oNin_ch, S_e, S_0, S_9, S_mi, S_po, S_zs9, S_num, S_ed, S_text, decide_eq_true, decide_eq_false, beqI_t, beqI_f, szOk_of, List.length_cons, List.length_nil, Nat.reduceAdd, i0, q1, q2, ln, i1, ia, i2, i3, nb, nc, c_MOST_DIGITS, decide_eq_true g]
                      rfl
                    · rw [decide_eq_false g]
                      simp (disch := omega) only [sSeq_eq, sSet_eq, sIf_eq, sRet_eq, sNop_eq, sExpr_eq, sAsg_eq, sAug_eq, sFor_eq, sRaise_eq, eBin_eq, eUn_eq, eVar_eq, eC_eq, eTup_eq, eLst_eq, eCall_eq, eCallB_eq, eMth_eq, eIf_eq, eAnd_eq, eOr_eq, eNot_eq, eSl_eq, pNo_eq, pSome_eq, eComp_eq, iVal_eq, iArgs_eq, aNil_eq, aCons_eq, tVal_eq, tAnd_eq, tOr_eq, tNot_eq, tTru_eq, truth_bl, truth_non, get_0, get_S, Option.join_some, ofO_some, Res.bind_ok, Res.thn_ok, SR.bind_nx, SR.bind_ret, SR.res_ret, SR.res_nx, List.set_cons_succ, List.set_cons_zero, if_true, Bool.false_eq_true, if_false, typ_str, gTpl_eq, gsCons_eq, gsNil_eq, gNam_eq, Option.bind_some, Bool.not_true, Bool.not_false, List.replicate, fn_1, fn_2, fn_3, fn_4, oEq_str, oNe_str, oEq_int, oNe_int, oAdd_int, oSub_int, oLt_int, oGt_int, oLe_int, oGe_int, oIsN_eq, oNeg_int, bLen_str, oIn_ch, oNin_ch, S_e, S_0, S_9, S_mi, S_po, S_zs9, S_num, S_ed, S_text, decide_eq_true, decide_eq_false, beqI_t, beqI_f, szOk_of, List.length_cons, List.length_nil, Nat.reduceAdd, i0, q1, q2, ln, i1, ia, i2, i3, nb, nc, c_MOST_DIGITS, decide_eq_false g]
                      rfl
              | _ => cases za
          | a :: b :: c :: d :: r, hf, hs, ll, ty, i0, e0, ln, pre =>
            simp only [List.length_cons] at ln
            simp (disch := omega) only [sSeq_eq, sSet_eq, sIf_eq, sRet_eq, sNop_eq, sExpr_eq, sAsg_eq, sAug_eq, sFor_eq, sRaise_eq, eBin_eq, eUn_eq, eVar_eq, eC_eq, eTup_eq, eLst_eq, eCall_eq, eCallB_eq, eMth_eq, eIf_eq, eAnd_eq, eOr_eq, eNot_eq, eSl_eq, pNo_eq, pSome_eq, eComp_eq, iVal_eq, iArgs_eq, aNil_eq, aCons_eq, tVal_eq, tAnd_eq, tOr_eq, tNot_eq, tTru_eq, truth_bl, truth_non, get_0, get_S, Option.join_some, ofO_some, Res.bind_ok, Res.thn_ok, SR.bind_nx, SR.bind_ret, SR.res_ret, SR.res_nx, List.set_cons_succ, List.set_cons_zero, if_true, Bool.false_eq_true, if_false, typ_str, gTpl_eq, gsCons_eq, gsNil_eq, gNam_eq, Option.bind_some, Bool.not_true, Bool.not_false, List.replicate, fn_1, fn_2, fn_3, fn_4, oEq_str, oNe_str, oEq_int, oNe_int, oAdd_int, oSub_int, oLt_int, oGt_int, oLe_int, oGe_int, oIsN_eq, oNeg_int, bLen_str, oIn_ch, oNin_ch, S_e, S_0, S_9, S_mi, S_po, S_zs9, S_num, S_ed, S_text, decide_eq_true, decide_eq_false, beqI_t, beqI_f, szOk_of, List.length_cons, List.length_nil, Nat.reduceAdd, i0, q1, q2, ln]
            cases a <;> rfl
        | false =>
          cases q3 : (t == [101, 100, 105, 116, 101, 100]) with
          | false =>
            refine ⟨h, Ext.refl h, pre _ ?_⟩
            simp (disch := omega) only [sSeq_eq, sSet_eq, sIf_eq, sRet_eq, sNop_eq, sExpr_eq, sAsg_eq, sAug_eq, sFor_eq, sRaise_eq, eBin_eq, eUn_eq, eVar_eq, eC_eq, eTup_eq, eLst_eq, eCall_eq, eCallB_eq, eMth_eq, eIf_eq, eAnd_eq, eOr_eq, eNot_eq, eSl_eq, pNo_eq, pSome_eq, eComp_eq, iVal_eq, iArgs_eq, aNil_eq, aCons_eq, tVal_eq, tAnd_eq, tOr_eq, tNot_eq, tTru_eq, truth_bl, truth_non, get_0, get_S, Option.join_some, ofO_some, Res.bind_ok, Res.thn_ok, SR.bind_nx, SR.bind_ret, SR.res_ret, SR.res_nx, List.set_cons_succ, List.set_cons_zero, if_true, Bool.false_eq_true, if_false, typ_str, gTpl_eq, gsCons_eq, gsNil_eq, gNam_eq, Option.bind_some, Bool.not_true, Bool.not_false, List.replicate, fn_1, fn_2, fn_3, fn_4, oEq_str, oNe_str, oEq_int, oNe_int, oAdd_int, oSub_int, oLt_int, oGt_int, oLe_int, oGe_int, oIsN_eq, oNeg_int, bLen_str, oIn_ch, oNin_ch, S_e, S_0, S_9, S_mi, S_po, S_zs9, S_num, S_ed, S_text, decide_eq_true, decide_eq_false, beqI_t, beqI_f, szOk_of, List.length_cons, List.length_nil, Nat.reduceAdd, i0, q1, q2, q3]
          | true =>
            match l, hf, hs, ll, ty, i0, e0, ln, pre with
            | [], hf, hs, ll, ty, i0, e0, ln, pre =>
              refine ⟨h, Ext.refl h, pre _ ?_⟩
              simp only [List.length_cons, List.length_nil] at ln
              simp (disch := omega) only [sSeq_eq, sSet_eq, sIf_eq, sRet_eq, sNop_eq, sExpr_eq, sAsg_eq, sAug_eq, sFor_eq, sRaise_eq, eBin_eq, eUn_eq, eVar_eq, eC_eq, eTup_eq, eLst_eq, eCall_eq, eCallB_eq, eMth_eq, eIf_eq, eAnd_eq, eOr_eq, eNot_eq, eSl_eq, pNo_eq, pSome_eq, eComp_eq, iVal_eq, iArgs_eq, aNil_eq, aCons_eq, tVal_eq, tAnd_eq, tOr_eq, tNot_eq, tTru_eq, truth_bl, truth_non, get_0, get_S, Option.join_some, ofO_some, Res.bind_ok, Res.thn_ok, SR.bind_nx, SR.bind_ret, SR.res_ret, SR.res_nx, List.set_cons_succ, List.set_cons_zero, if_true, Bool.false_eq_true, if_false, typ_str, gTpl_eq, gsCons_eq, gsNil_eq, gNam_eq, Option.bind_some, Bool.not_true, Bool.not_false, List.replicate, fn_1, fn_2, fn_3, fn_4, oEq_str, oNe_str, oEq_int, oNe_int, oAdd_int, oSub_int, oLt_int, oGt_int, oLe_int, oGe_int, oIsN_eq, oNeg_int, bLen_str, oIn_ch, oNin_ch, S_e, S_0, S_9, S_mi, S_po, S_zs9, S_num, S_ed, S_text, decide_eq_true, decide_eq_false, beqI_t, beqI_f, szOk_of, List.length_cons, List.length_nil, Nat.reduceAdd, i0, q1, q2, q3, ln]
              rfl
            | [a], hf, hs, ll, ty, i0, e0, ln, pre =>
              refine ⟨h, Ext.refl h, pre _ ?_⟩
              simp only [List.length_cons, List.length_nil] at ln
              simp (disch := omega) only [sSeq_eq, sSet_eq, sIf_eq, sRet_eq, sNop_eq, sExpr_eq, sAsg_eq, sAug_eq, sFor_eq, sRaise_eq, eBin_eq, eUn_eq, eVar_eq, eC_eq, eTup_eq, eLst_eq, eCall_eq, eCallB_eq, eMth_eq, eIf_eq, eAnd_eq, eOr_eq, eNot_eq, eSl_eq, pNo_eq, pSome_eq, eComp_eq, iVal_eq, iArgs_eq, aNil_eq, aCons_eq, tVal_eq, tAnd_eq, tOr_eq, tNot_eq, tTru_eq, truth_bl, truth_non, get_0, get_S, Option.join_some, ofO_some, Res.bind_ok, Res.thn_ok, SR.bind_nx, SR.bind_ret, SR.res_ret, SR.res_nx, List.set_cons_succ, List.set_cons_zero, if_true, Bool.false_eq_true, if_false, typ_str, gTpl_eq, gsCons_eq, gsNil_eq, gNam_eq, Option.bind_some, Bool.not_true, Bool.not_false, List.replicate, fn_1, fn_2, fn_3, fn_4, oEq_str, oNe_str, oEq_int, oNe_int, oAdd_int, oSub_int, oLt_int, oGt_int, oLe_int, oGe_int, oIsN_eq, oNeg_int, bLen_str, oIn_ch, oNin_ch, S_e, S_0, S_9, S_mi, S_po, S_zs9, S_num, S_ed, S_text, decide_eq_true, decide_eq_false, beqI_t, beqI_f, szOk_of, List.length_cons, List.length_nil, Nat.reduceAdd, i0, q1, q2, q3, ln]
              cases a <;> rfl
            | [a, b], hf, hs, ll, ty, i0, e0, ln, pre =>
              refine ⟨h, Ext.refl h, pre _ ?_⟩
              simp only [List.length_cons, List.length_nil] at ln
              simp (disch := omega) only [sSeq_eq, sSet_eq, sIf_eq, sRet_eq, sNop_eq, sExpr_eq, sAsg_eq, sAug_eq, sFor_eq, sRaise_eq, eBin_eq, eUn_eq, eVar_eq, eC_eq, eTup_eq, eLst_eq, eCall_eq, eCallB_eq, eMth_eq, eIf_eq, eAnd_eq, eOr_eq, eNot_eq, eSl_eq, pNo_eq, pSome_eq, eComp_eq, iVal_eq, iArgs_eq, aNil_eq, aCons_eq, tVal_eq, tAnd_eq, tOr_eq, tNot_eq, tTru_eq, truth_bl, truth_non, get_0, get_S, Option.join_some, ofO_some, Res.bind_ok, Res.thn_ok, SR.bind_nx, SR.bind_ret, SR.res_ret, SR.res_nx, List.set_cons_succ, List.set_cons_zero, if_true, Bool.false_eq_true, if_false, typ_str, gTpl_eq, gsCons_eq, gsNil_eq, gNam_eq, Option.bind_some, Bool.not_true, Bool.not_false, List.replicate, fn_1, fn_2, fn_3, fn_4, oEq_str, oNe_str, oEq_int, oNe_int, oAdd_int, oSub_int, oLt_int, oGt_int, oLe_int, oGe_int, oIsN_eq, oNeg_int, bLen_str, oIn_ch, oNin_ch, S_e, S_0, S_9, S_mi, S_po, S_zs9, S_num, S_ed, S_text, decide_eq_true, decide_eq_false, beqI_t, beqI_f, szOk_of, List.length_cons, List.length_nil, Nat.reduceAdd, i0, q1, q2, q3, ln]
              cases a <;> rfl
            | [a, b, c], hf, hs, ll, ty, i0, e0, ln, pre =>
              refine ⟨h, Ext.refl h, pre _ ?_⟩
              simp only [List.length_cons, List.length_nil] at ln
              simp (disch := omega) only [sSeq_eq, sSet_eq, sIf_eq, sRet_eq, sNop_eq, sExpr_eq, sAsg_eq, sAug_eq, sFor_eq, sRaise_eq, eBin_eq, eUn_eq, eVar_eq, eC_eq, eTup_eq, eLst_eq, eCall_eq, eCallB_eq, eMth_eq, eIf_eq, eAnd_eq, eOr_eq, eNot_eq, eSl_eq, pNo_eq, pSome_eq, eComp_eq, iVal_eq, iArgs_eq, aNil_eq, aCons_eq, tVal_eq, tAnd_eq, tOr_eq, tNot_eq, tTru_eq, truth_bl, truth_non, get_0, get_S, Option.join_some, ofO_some, Res.bind_ok, Res.thn_ok, SR.bind_nx, SR.bind_ret, SR.res_ret, SR.res_nx, List.set_cons_succ, List.set_cons_zero, if_true, Bool.false_eq_true, if_false, typ_str, gTpl_eq, gsCons_eq, gsNil_eq, gNam_eq, Option.bind_some, Bool.not_true, Bool.not_false, List.replicate, fn_1, fn_2, fn_3, fn_4, oEq_str, oNe_str, oEq_int, oNe_int, oAdd_int, oSub_int, oLt_int, oGt_int, oLe_int, oGe_int, oIsN_eq, oNeg_int, bLen_str, oIn_ch, oNin_ch, S_e, S_0, S_9, S_mi, S_po, S_zs9, S_num, S_ed, S_text, decide_eq_true, decide_eq_false, beqI_t, beqI_f, szOk_of, List.length_cons, List.length_nil, Nat.reduceAdd, i0, q1, q2, q3, ln]
              cases a <;> rfl
            | [a, b, c, d], hf, hs, ll, ty, i0, e0, ln, pre =>
              obtain ⟨h1, x1, ed⟩ := is_edited_ok (t := .str t) (hf a (by simp)) (hf b (by simp)) (hf c (by simp)) (hf d (by simp)) (hs a (by simp)) (hs d (by simp)) h
              refine ⟨h1, x1, pre _ ?_⟩
              simp only [List.length_cons, List.length_nil] at ln
              simp (disch := omega) only [sSeq_eq, sSet_eq, sIf_eq, sRet_eq, sNop_eq, sExpr_eq, sAsg_eq, sAug_eq, sFor_eq, sRaise_eq, eBin_eq, eUn_eq, eVar_eq, eC_eq, eTup_eq, eLst_eq, eCall_eq, eCallB_eq, eMth_eq, eIf_eq, eAnd_eq, eOr_eq, eNot_eq, eSl_eq, pNo_eq, pSome_eq, eComp_eq, iVal_eq, iArgs_eq, aNil_eq, aCons_eq, tVal_eq, tAnd_eq, tOr_eq, tNot_eq, tTru_eq, truth_bl, truth_non, get_0, get_S, Option.join_some, ofO_some, Res.bind_ok, Res.thn_ok, SR.bind_nx, SR.bind_ret, SR.res_ret, SR.res_nx, List.set_cons_succ, List.set_cons_zero, if_true, Bool.false_eq_true, if_false, typ_str, gTpl_eq, gsCons_eq, gsNil_eq, gNam_eq, Option.bind_some, Bool.not_true, Bool.not_false, List.replicate, fn_1, fn_2, fn_3, fn_4, oEq_str, oNe_str, oEq_int, oNe_int, oAdd_int, oSub_int, oLt_int, oGt_int, oLe_int, oGe_int, oIsN_eq, oNeg_int, bLen_str, oIn_ch, oNin_ch, S_e, S_0, S_9, S_mi, S_po, S_zs9, S_num, S_ed, S_text, decide_eq_true, decide_eq_false, beqI_t, beqI_f, szOk_of, List.length_cons, List.length_nil, Nat.reduceAdd, i0, q1, q2, q3, ln, ed]
              cases a <;> first | rfl | (cases d <;> rfl)
            | a :: b :: c :: d :: e :: r, hf, hs, ll, ty, i0, e0, ln, pre =>
              refine ⟨h, Ext.refl h, pre _ ?_⟩
              simp only [List.length_cons] at ln
              simp (disch := omega) only [sSeq_eq, sSet_eq, sIf_eq, sRet_eq, sNop_eq, sExpr_eq, sAsg_eq, sAug_eq, sFor_eq, sRaise_eq, eBin_eq, eUn_eq, eVar_eq, eC_eq, eTup_eq, eLst_eq, eCall_eq, eCallB_eq, eMth_eq, eIf_eq, eAnd_eq, eOr_eq, eNot_eq, eSl_eq, pNo_eq, pSome_eq, eComp_eq, iVal_eq, iArgs_eq, aNil_eq, aCons_eq, tVal_eq, tAnd_eq, tOr_eq, tNot_eq, tTru_eq, truth_bl, truth_non, get_0, get_S, Option.join_some, ofO_some, Res.bind_ok, Res.thn_ok, SR.bind_nx, SR.bind_ret, SR.res_ret, SR.res_nx, List.set_cons_succ, List.set_cons_zero, if_true, Bool.false_eq_true, if_false, typ_str, gTpl_eq, gsCons_eq, gsNil_eq, gNam_eq, Option.bind_some, Bool.not_true, Bool.not_false, List.replicate, fn_1, fn_2, fn_3, fn_4, oEq_str, oNe_str, oEq_int, oNe_int, oAdd_int, oSub_int, oLt_int, oGt_int, oLe_int, oGe_int, oIsN_eq, oNeg_int, bLen_str, oIn_ch, oNin_ch, S_e, S_0, S_9, S_mi, S_po, S_zs9, S_num, S_ed, S_text, decide_eq_true, decide_eq_false, beqI_t, beqI_f, szOk_of, List.length_cons, List.length_nil, Nat.reduceAdd, i0, q1, q2, q3, ln]
              cases a <;> first | rfl | (cases d <;> rfl)
    | _ => cases zx
theorem is_pic_other {v : Val} (hv : flatOk v ∨ v = .tup [] ∨ ∃ n, v = .ref n) {h : Hep} (hr : ∀ n, v = .ref n → ∃ l, h[n]? = some (.lst l)) : M_is_picture [v] h = .ok (.bl false) h := by
  have e0 : oEq h (.tup []) (.tup []) = some (.bl true) := oEq_of (vEq_tups h (by simp) (by simp))
  rcases hv with hv | rfl | ⟨n, rfl⟩
  · cases v with
    | non => simp (disch := omega) only [sSeq_eq, sSet_eq, sIf_eq, sRet_eq, sNop_eq, sExpr_eq, sAsg_eq, sAug_eq, sFor_eq, sRaise_eq, eBin_eq, eUn_eq, eVar_eq, eC_eq, eTup_eq, eLst_eq, eCall_eq, eCallB_eq, eMth_eq, eIf_eq, eAnd_eq, eOr_eq, eNot_eq, eSl_eq, pNo_eq, pSome_eq, eComp_eq, iVal_eq, iArgs_eq, aNil_eq, aCons_eq, tVal_eq, tAnd_eq, tOr_eq, tNot_eq, tTru_eq, truth_bl, truth_non, get_0, get_S, Option.join_some, ofO_some, Res.bind_ok, Res.thn_ok, SR.bind_nx, SR.bind_ret, SR.res_ret, SR.res_nx, List.set_cons_succ, List.set_cons_zero, if_true, Bool.false_eq_true, if_false, typ_str, gTpl_eq, gsCons_eq, gsNil_eq, gNam_eq, Option.bind_some, Bool.not_true, Bool.not_false, List.replicate, fn_1, fn_2, fn_3, fn_4, oEq_str, oNe_str, oEq_int, oNe_int, oAdd_int, oSub_int, oLt_int, oGt_int, oLe_int, oGe_int, oIsN_eq, oNeg_int, bLen_str, oIn_ch, oNin_ch, S_e, S_0, S_9, S_mi, S_po, S_zs9, S_num, S_ed, S_text, decide_eq_true, decide_eq_false, beqI_t, beqI_f, szOk_of, List.length_cons, List.length_nil, Nat.reduceAdd, M_is_picture, B_is_picture, oIsi_eq, typ_non, Option.map_some, t_nt]
    | bl b => simp (disch := omega) only [sSeq_eq, sSet_eq, sIf_eq, sRet_eq, sNop_eq, sExpr_eq, sAsg_eq, sAug_eq, sFor_eq, sRaise_eq, eBin_eq, eUn_eq, eVar_eq, eC_eq, eTup_eq, eLst_eq, eCall_eq, eCallB_eq, eMth_eq, eIf_eq, eAnd_eq, eOr_eq, eNot_eq, eSl_eq, pNo_eq, pSome_eq, eComp_eq, iVal_eq, iArgs_eq, aNil_eq, aCons_eq, tVal_eq, tAnd_eq, tOr_eq, tNot_eq, tTru_eq, truth_bl, truth_non, get_0, get_S, Option.join_some, ofO_some, Res.bind_ok, Res.thn_ok, SR.bind_nx, SR.bind_ret, SR.res_ret, SR.res_nx, List.set_cons_succ, List.set_cons_zero, if_true, Bool.false_eq_true, if_false, typ_str, gTpl_eq, gsCons_eq, gsNil_eq, gNam_eq, Option.bind_some, Bool.not_true, Bool.not_false, List.replicate, fn_1, fn_2, fn_3, fn_4, oEq_str, oNe_str, oEq_int, oNe_int, oAdd_int, oSub_int, oLt_int, oGt_int, oLe_int, oGe_int, oIsN_eq, oNeg_int, bLen_str, oIn_ch, oNin_ch, S_e, S_0, S_9, S_mi, S_po, S_zs9, S_num, S_ed, S_text, decide_eq_true, decide_eq_false, beqI_t, beqI_f, szOk_of, List.length_cons, List.length_nil, Nat.reduceAdd, M_is_picture, B_is_picture, oIsi_eq, typ_bl, Option.map_some, show isT "bool" "tuple" = false by decide]
    | int i => simp (disch := omega) only [sSeq_eq, sSet_eq, sIf_eq, sRet_eq, sNop_eq, sExpr_eq, sAsg_eq, sAug_eq, sFor_eq, sRaise_eq, eBin_eq, eUn_eq, eVar_eq, eC_eq, eTup_eq, eLst_eq, eCall_eq, eCallB_eq, eMth_eq, eIf_eq, eAnd_eq, eOr_eq, eNot_eq, eSl_eq, pNo_eq, pSome_eq, eComp_eq, iVal_eq, iArgs_eq, aNil_eq, aCons_eq, tVal_eq, tAnd_eq, tOr_eq, tNot_eq, tTru_eq, truth_bl, truth_non, get_0, get_S, Option.join_some, ofO_some, Res.bind_ok, Res.thn_ok, SR.bind_nx, SR.bind_ret, SR.res_ret, SR.res_nx, List.set_cons_succ, List.set_cons_zero, if_true, Bool.false_eq_true, if_false, typ_str, gTpl_eq, gsCons_eq, gsNil_eq, gNam_eq, Option.bind_some, Bool.not_true, Bool.not_false, List.replicate, fn_1, fn_2, fn_3, fn_4, oEq_str, oNe_str, oEq_int, oNe_int, oAdd_int, oSub_int, oLt_int, oGt_int, oLe_int, oGe_int, oIsN_eq, oNeg_int, bLen_str, oIn_ch, oNin_ch, S_e, S_0, S_9, S_mi, S_po, S_zs9, S_num, S_ed, S_text, decide_eq_true, decide_eq_false, beqI_t, beqI_f, szOk_of, List.length_cons, List.length_nil, Nat.reduceAdd, M_is_picture, B_is_picture, oIsi_eq, typ_int, Option.map_some, t_it]
    | str s => simp (disch := omega) only [sSeq_eq, sSet_eq, sIf_eq, sRet_eq, sNop_eq, sExpr_eq, sAsg_eq, sAug_eq, sFor_eq, sRaise_eq, eBin_eq, eUn_eq, eVar_eq, eC_eq, eTup_eq, eLst_eq, eCall_eq, eCallB_eq, eMth_eq, eIf_eq, eAnd_eq, eOr_eq, eNot_eq, eSl_eq, pNo_eq, pSome_eq, eComp_eq, iVal_eq, iArgs_eq, aNil_eq, aCons_eq, tVal_eq, tAnd_eq, tOr_eq, tNot_eq, tTru_eq, truth_bl, truth_non, get_0, get_S, Option.join_some, ofO_some, Res.bind_ok, Res.thn_ok, SR.bind_nx, SR.bind_ret, SR.res_ret, SR.res_nx, List.set_cons_succ, List.set_cons_zero, if_true, Bool.false_eq_true, if_false, typ_str, gTpl_eq, gsCons_eq, gsNil_eq, gNam_eq, Option.bind_some, Bool.not_true, Bool.not_false, List.replicate, fn_1, fn_2, fn_3, fn_4, oEq_str, oNe_str, oEq_int, oNe_int, oAdd_int, oSub_int, oLt_int, oGt_int, oLe_int, oGe_int, oIsN_eq, oNeg_int, bLen_str, oIn_ch, oNin_ch, S_e, S_0, S_9, S_mi, S_po, S_zs9, S_num, S_ed, S_text, decide_eq_true, decide_eq_false, beqI_t, beqI_f, szOk_of, List.length_cons, List.length_nil, Nat.reduceAdd, M_is_picture, B_is_picture, oIsi_eq, Option.map_some, t_st]
    | _ => exact hv.elim
  · simp (disch := omega) only [sSeq_eq, sSet_eq, sIf_eq, sRet_eq, sNop_eq, sExpr_eq, sAsg_eq, sAug_eq, sFor_eq, sRaise_eq, eBin_eq, eUn_eq, eVar_eq, eC_eq, eTup_eq, eLst_eq, eCall_eq, eCallB_eq, eMth_eq, eIf_eq, eAnd_eq, eOr_eq, eNot_eq, eSl_eq, pNo_eq, pSome_eq, eComp_eq, iVal_eq, iArgs_eq, aNil_eq, aCons_eq, tVal_eq, tAnd_eq, tOr_eq, tNot_eq, tTru_eq, truth_bl, truth_non, get_0, get_S, Option.join_some, ofO_some, Res.bind_ok, Res.thn_ok, SR.bind_nx, SR.bind_ret, SR.res_ret, SR.res_nx, List.set_cons_succ, List.set_cons_zero, if_true, Bool.false_eq_true, if_false, typ_str, gTpl_eq, gsCons_eq, gsNil_eq, gNam_eq, Option.bind_some, Bool.not_true, Bool.not_false, List.replicate, fn_1, fn_2, fn_3, fn_4, oEq_str, oNe_str, oEq_int, oNe_int, oAdd_int, oSub_int, oLt_int, oGt_int, oLe_int, oGe_int, oIsN_eq, oNeg_int, bLen_str, oIn_ch, oNin_ch, S_e, S_0, S_9, S_mi, S_po, S_zs9, S_num, S_ed, S_text, decide_eq_true, decide_eq_false, beqI_t, beqI_f, szOk_of, List.length_cons, List.length_nil, Nat.reduceAdd, M_is_picture, B_is_picture, oIsi_eq, typ_tup, Option.map_some, t_tt, e0]
  · obtain ⟨l, e⟩ := hr n rfl
    simp (disch := omega) only [sSeq_eq, sSet_eq, sIf_eq, sRet_eq, sNop_eq, sExpr_eq, sAsg_eq, sAug_eq, sFor_eq, sRaise_eq, eBin_eq, eUn_eq, eVar_eq, eC_eq, eTup_eq, eLst_eq, eCall_eq, eCallB_eq, eMth_eq, eIf_eq, eAnd_eq, eOr_eq, eNot_eq, eSl_eq, pNo_eq, pSome_eq, eComp_eq, iVal_eq, iArgs_eq, aNil_eq, aCons_eq, tVal_eq, tAnd_eq, tOr_eq, tNot_eq, tTru_eq, truth_bl, truth_non, get_0, get_S, Option.join_some, ofO_some, Res.bind_ok, Res.thn_ok, SR.bind_nx, SR.bind_ret, SR.res_ret, SR.res_nx, List.set_cons_succ, List.set_cons_zero, if_true, Bool.false_eq_true, if_false, typ_str, gTpl_eq, gsCons_eq, gsNil_eq, gNam_eq, Option.bind_some, Bool.not_true, Bool.not_false, List.replicate, fn_1, fn_2, fn_3, fn_4, oEq_str, oNe_str, oEq_int, oNe_int, oAdd_int, oSub_int, oLt_int, oGt_int, oLe_int, oGe_int, oIsN_eq, oNeg_int, bLen_str, oIn_ch, oNin_ch, S_e, S_0, S_9, S_mi, S_po, S_zs9, S_num, S_ed, S_text, decide_eq_true, decide_eq_false, beqI_t, beqI_f, szOk_of, List.length_cons, List.length_nil, Nat.reduceAdd, M_is_picture, B_is_picture, oIsi_eq, typ_lst e, Option.map_some, t_lt]
end Law

set_option maxRecDepth 100000
set_option maxHeartbeats 1000000
set_option linter.all false
/-! Il: texts of pictures -/
namespace Law
open Cd Mir
@[simp] theorem S_xo : S "x(" = [120, 40] := by decide
@[simp] theorem S_9o : S "9(" = [57, 40] := by decide
@[simp] theorem S_v9o : S "v9(" = [118, 57, 40] := by decide
def dgs (n : Nat) : List Nat := if n < 10 then [48 + n] else [49, 38 + n]
theorem dgs_eq : ∀ n < 19, S (toString ((n : Nat) : Int)) = dgs n := by decide
theorem dgs_len (n : Nat) : (dgs n).length ≤ 2 := by unfold dgs; split <;> simp
theorem bStr_dgs {n : Nat} (hn : n < 19) (h : Hep) : bStr [.int n] h = some (.str (dgs n), h) := by
  have : ∀ n < 19, ((n : Nat) : Int).natAbs.log2 < 1920 := by decide
  rw [bStr_of (this n hn), dgs_eq n hn]
def cntT (c n : Nat) : List Nat := if n = 0 then [] else [c, 40] ++ dgs n ++ [41]
def numText (b : Bool) (w f : Nat) : List Nat := (if b then [115] else []) ++ cntT 57 w ++ (if f = 0 then [] else [118] ++ cntT 57 f)
theorem cnt_len (c n : Nat) : (cntT c n).length ≤ 5 := by
  have := dgs_len n
  unfold cntT
  split
  · simp
  · simp; omega
theorem numText_len (b : Bool) (w f : Nat) : (numText b w f).length ≤ 12 := by
  have h1 := cnt_len 57 w
  have h2 := cnt_len 57 f
  unfold numText
  cases b <;> by_cases hf : f = 0 <;> simp [hf] <;> omega
def edText (m s : List Nat) : List Nat := if s == [45] || s == [43] then s ++ m else m ++ (if s.take 1 == [46] then s.drop 1 else s)
theorem sg_len {s : List Nat} (h : inSigns s = true) : s.length ≤ 2 := by
  obtain ⟨x, hx, e⟩ := List.any_eq_true.mp h
  have : x = s := by simpa using e
  subst this
  have : ∀ x ∈ signs, x.length ≤ 2 := by decide
  exact this x hx
theorem edText_len {m s : List Nat} (h : s.length ≤ 2) : (edText m s).length ≤ m.length + 2 := by
  unfold edText
  split
  · simp; omega
  · split
    · simp; omega
    · simp; omega
theorem law_text_num (b : Bool) (w f : Nat) (hw : w < 19) (hf : f < 19) (h : Hep) : M_v_law_picture_text [.tup [.str [110, 117, 109, 98, 101, 114], .bl b, .int w, .int f]] h = .ok (.str (numText b w f)) h := by
  have e := bStr_dgs hw h
  have e2 := bStr_dgs hf h
  have l1 := dgs_len w
  have l2 := dgs_len f
  have z : (([110, 117, 109, 98, 101, 114] : List Nat) == [116, 101, 120, 116]) = false := by decide
  have z2 : (([110, 117, 109, 98, 101, 114] : List Nat) == [110, 117, 109, 98, 101, 114]) = true := by decide
  obtain ⟨s, hs⟩ : ∃ s, s = dgs w := ⟨_, rfl⟩
  rw [← hs] at e l1
  have main : ∀ t1 : List Nat, t1.length ≤ 1 → (sSeq (sIf (tVal (eBin oGt (eBin oIdx (eVar 0) (eC (.int 2))) (eC (.int 0)))) (sSet 1 (eBin oAdd (eBin oAdd (eBin oAdd (eVar 1) (eC (.str (S "9(")))) (eCallB bStr (aCons (eBin oIdx (eVar 0) (eC (.int 2))) aNil))) (eC (.str (S ")"))))) sNop) (sRet (eIf (tVal (eBin oGt (eBin oIdx (eVar 0) (eC (.int 3))) (eC (.int 0)))) (eBin oAdd (eBin oAdd (eBin oAdd (eVar 1) (eC (.str (S "v9(")))) (eCallB bStr (aCons (eBin oIdx (eVar 0) (eC (.int 3))) aNil))) (eC (.str (S ")")))) (eVar 1)))) [some (.tup [.str [110, 117, 109, 98, 101, 114], .bl b, .int w, .int f]), some (.str t1)] h = .ret (.str (t1 ++ (if w = 0 then [] else [57, 40] ++ s ++ [41]) ++ (if f = 0 then [] else [118] ++ (if f = 0 then [] else [57, 40] ++ dgs f ++ [41])))) h := fun t1 tl => by
    have st : ∃ T : List Nat, T = t1 ++ (if w = 0 then [] else [57, 40] ++ s ++ [41]) ∧ T.length ≤ 6 ∧ sIf (tVal (eBin oGt (eBin oIdx (eVar 0) (eC (.int 2))) (eC (.int 0)))) (sSet 1 (eBin oAdd (eBin oAdd (eBin oAdd (eVar 1) (eC (.str (S "9(")))) (eCallB bStr (aCons (eBin oIdx (eVar 0) (eC (.int 2))) aNil))) (eC (.str (S ")"))))) sNop [some (.tup [.str [110, 117, 109, 98, 101, 114], .bl b, .int w, .int f]), some (.str t1)] h = .nx [some (.tup [.str [110, 117, 109, 98, 101, 114], .bl b, .int w, .int f]), some (.str T)] h := by
      by_cases q : w = 0
      · subst q
        refine ⟨t1, by simp, by omega, ?_⟩
        simp (disch := omega) only [sSeq_eq, sSet_eq, sIf_eq, sRet_eq, sNop_eq, sExpr_eq, sAsg_eq, sAug_eq, sFor_eq, sRaise_eq, eBin_eq, eUn_eq, eVar_eq, eC_eq, eTup_eq, eLst_eq, eCall_eq, eCallB_eq, eMth_eq, eIf_eq, eAnd_eq, eOr_eq, eNot_eq, eSl_eq, pNo_eq, pSome_eq, eComp_eq, iVal_eq, iArgs_eq, aNil_eq, aCons_eq, tVal_eq, tAnd_eq, tOr_eq, tNot_eq, tTru_eq, truth_bl, truth_non, get_0, get_S, Option.join_some, ofO_some, Res.bind_ok, Res.thn_ok, SR.bind_nx, SR.bind_ret, SR.res_ret, SR.res_nx, List.set_cons_succ, List.set_cons_zero, if_true, Bool.false_eq_true, if_false, typ_str, gTpl_eq, gsCons_eq, gsNil_eq, gNam_eq, Option.bind_some, Bool.not_true, Bool.not_false, List.replicate, fn_1, fn_2, fn_3, fn_4, oEq_str, oNe_str, oEq_int, oNe_int, oAdd_int, oSub_int, oLt_int, oGt_int, oLe_int, oGe_int, oIsN_eq, oNeg_int, bLen_str, oIn_ch, oNin_ch, S_e, S_0, S_9, S_mi, S_po, S_zs9, S_num, S_ed, S_text, decide_eq_true, decide_eq_false, beqI_t, beqI_f, szOk_of, List.length_cons, List.length_nil, Nat.reduceAdd, oIdx_tup, atI_two]
      · have a1 : oAdd h (.str t1) (.str [57, 40]) = some (.str (t1 ++ [57, 40])) := oAdd_str (by simp; omega)
        have a2 : oAdd h (.str (t1 ++ [57, 40])) (.str s) = some (.str (t1 ++ [57, 40] ++ s)) := oAdd_str (by simp; omega)
        have a3 : oAdd h (.str (t1 ++ [57, 40] ++ s)) (.str [41]) = some (.str (t1 ++ [57, 40] ++ s ++ [41])) := oAdd_str (by simp; omega)
        refine ⟨t1 ++ [57, 40] ++ s ++ [41], by rw [if_neg q]; simp, by simp; omega, ?_⟩
        simp (disch := omega) only [sSeq_eq, sSet_eq, sIf_eq, sRet_eq, sNop_eq, sExpr_eq, sAsg_eq, sAug_eq, sFor_eq, sRaise_eq, eBin_eq, eUn_eq, eVar_eq, eC_eq, eTup_eq, eLst_eq, eCall_eq, eCallB_eq, eMth_eq, eIf_eq, eAnd_eq, eOr_eq, eNot_eq, eSl_eq, pNo_eq, pSome_eq, eComp_eq, iVal_eq, iArgs_eq, aNil_eq, aCons_eq, tVal_eq, tAnd_eq, tOr_eq, tNot_eq, tTru_eq, truth_bl, truth_non, get_0, get_S, Option.join_some, ofO_some, Res.bind_ok, Res.thn_ok, SR.bind_nx, SR.bind_ret, SR.res_ret, SR.res_nx, List.set_cons_succ, List.set_cons_zero, if_true, Bool.false_eq_true, if_false, typ_str, gTpl_eq, gsCons_eq, gsNil_eq, gNam_eq, Option.bind_some, Bool.not_true, Bool.not_false, List.replicate, fn_1, fn_2, fn_3, fn_4, oEq_str, oNe_str, oEq_int, oNe_int, oAdd_int, oSub_int, oLt_int, oGt_int, oLe_int, oGe_int, oIsN_eq, oNeg_int, bLen_str, oIn_ch, oNin_ch, S_e, S_0, S_9, S_mi, S_po, S_zs9, S_num, S_ed, S_text, decide_eq_true, decide_eq_false, beqI_t, beqI_f, szOk_of, List.length_cons, List.length_nil, Nat.reduceAdd, oIdx_tup, atI_two, S_9o, S_cl, e, a1, a2, a3]
    obtain ⟨T, eT, lT, st⟩ := st
    rw [← eT, sSeq_eq, st, SR.bind_nx]
    by_cases q : f = 0
    · subst q
      simp (disch := omega) only [sSeq_eq, sSet_eq, sIf_eq, sRet_eq, sNop_eq, sExpr_eq, sAsg_eq, sAug_eq, sFor_eq, sRaise_eq, eBin_eq, eUn_eq, eVar_eq, eC_eq, eTup_eq, eLst_eq, eCall_eq, eCallB_eq, eMth_eq, eIf_eq, eAnd_eq, eOr_eq, eNot_eq, eSl_eq, pNo_eq, pSome_eq, eComp_eq, iVal_eq, iArgs_eq, aNil_eq, aCons_eq, tVal_eq, tAnd_eq, tOr_eq, tNot_eq, tTru_eq, truth_bl, truth_non, get_0, get_S, Option.join_some, ofO_some, Res.bind_ok, Res.thn_ok, SR.bind_nx, SR.bind_ret, SR.res_ret, SR.res_nx, List.set_cons_succ, List.set_cons_zero, if_true, Bool.false_eq_true, if_false, typ_str, gTpl_eq, gsCons_eq, gsNil_eq, gNam_eq, Option.bind_some, Bool.not_true, Bool.not_false, List.replicate, fn_1, fn_2, fn_3, fn_4, oEq_str, oNe_str, oEq_int, oNe_int, oAdd_int, oSub_int, oLt_int, oGt_int, oLe_int, oGe_int, oIsN_eq, oNeg_int, bLen_str, oIn_ch, oNin_ch, S_e, S_0, S_9, S_mi, S_po, S_zs9, S_num, S_ed, S_text, decide_eq_true, decide_eq_false, beqI_t, beqI_f, szOk_of, List.length_cons, List.length_nil, Nat.reduceAdd, oIdx_tup, atI_three]
      simp
    · have a1 : oAdd h (.str T) (.str [118, 57, 40]) = some (.str (T ++ [118, 57, 40])) := oAdd_str (by simp; omega)
      have a2 : oAdd h (.str (T ++ [118, 57, 40])) (.str (dgs f)) = some (.str (T ++ [118, 57, 40] ++ dgs f)) := oAdd_str (by simp; omega)
      have a3 : oAdd h (.str (T ++ [118, 57, 40] ++ dgs f)) (.str [41]) = some (.str (T ++ [118, 57, 40] ++ dgs f ++ [41])) := oAdd_str (by simp; omega)
      rw [if_neg q, if_neg q]
      simp (disch := omega) only [sSeq_eq, sSet_eq, sIf_eq, sRet_eq, sNop_eq, sExpr_eq, sAsg_eq, sAug_eq, sFor_eq, sRaise_eq, eBin_eq, eUn_eq, eVar_eq, eC_eq, eTup_eq, eLst_eq, eCall_eq, eCallB_eq, eMth_eq, eIf_eq, eAnd_eq, eOr_eq, eNot_eq, eSl_eq, pNo_eq, pSome_eq, eComp_eq, iVal_eq, iArgs_eq, aNil_eq, aCons_eq, tVal_eq, tAnd_eq, tOr_eq, tNot_eq, tTru_eq, truth_bl, truth_non, get_0, get_S, Option.join_some, ofO_some, Res.bind_ok, Res.thn_ok, SR.bind_nx, SR.bind_ret, SR.res_ret, SR.res_nx, List.set_cons_succ, List.set_cons_zero, if_true, Bool.false_eq_true, if_false, typ_str, gTpl_eq, gsCons_eq, gsNil_eq, gNam_eq, Option.bind_some, Bool.not_true, Bool.not_false, List.replicate, fn_1, fn_2, fn_3, fn_4, oEq_str, oNe_str, oEq_int, oNe_int, oAdd_int, oSub_int, oLt_int, oGt_int, oLe_int, oGe_int, oIsN_eq, oNeg_int, bLen_str, oIn_ch, oNin_ch, S_e, S_0, S_9, S_mi, S_po, S_zs9, S_num, S_ed, S_text, decide_eq_true, decide_eq_false, beqI_t, beqI_f, szOk_of, List.length_cons, List.length_nil, Nat.reduceAdd, oIdx_tup, atI_three, S_v9o, S_cl, e2, a1, a2, a3]
      simp
  have c1 : ∀ X : SM, sIf (tVal (eBin oEq (eBin oIdx (eVar 0) (eC (.int 0))) (eC (.str (S "text"))))) X sNop [some (.tup [.str [110, 117, 109, 98, 101, 114], .bl b, .int w, .int f]), none] h = .nx [some (.tup [.str [110, 117, 109, 98, 101, 114], .bl b, .int w, .int f]), none] h := fun X => by
    simp (disch := omega) only [sSeq_eq, sSet_eq, sIf_eq, sRet_eq, sNop_eq, sExpr_eq, sAsg_eq, sAug_eq, sFor_eq, sRaise_eq, eBin_eq, eUn_eq, eVar_eq, eC_eq, eTup_eq, eLst_eq, eCall_eq, eCallB_eq, eMth_eq, eIf_eq, eAnd_eq, eOr_eq, eNot_eq, eSl_eq, pNo_eq, pSome_eq, eComp_eq, iVal_eq, iArgs_eq, aNil_eq, aCons_eq, tVal_eq, tAnd_eq, tOr_eq, tNot_eq, tTru_eq, truth_bl, truth_non, get_0, get_S, Option.join_some, ofO_some, Res.bind_ok, Res.thn_ok, SR.bind_nx, SR.bind_ret, SR.res_ret, SR.res_nx, List.set_cons_succ, List.set_cons_zero, if_true, Bool.false_eq_true, if_false, typ_str, gTpl_eq, gsCons_eq, gsNil_eq, gNam_eq, Option.bind_some, Bool.not_true, Bool.not_false, List.replicate, fn_1, fn_2, fn_3, fn_4, oEq_str, oNe_str, oEq_int, oNe_int, oAdd_int, oSub_int, oLt_int, oGt_int, oLe_int, oGe_int, oIsN_eq, oNeg_int, bLen_str, oIn_ch, oNin_ch, S_e, S_0, S_9, S_mi, S_po, S_zs9, S_num, S_ed, S_text, decide_eq_true, decide_eq_false, beqI_t, beqI_f, szOk_of, List.length_cons, List.length_nil, Nat.reduceAdd, oIdx_tup, atI_zero, z]
  have c2 : ∀ X : SM, sIf (tVal (eBin oEq (eBin oIdx (eVar 0) (eC (.int 0))) (eC (.str (S "number"))))) X sNop [some (.tup [.str [110, 117, 109, 98, 101, 114], .bl b, .int w, .int f]), none] h = X [some (.tup [.str [110, 117, 109, 98, 101, 114], .bl b, .int w, .int f]), none] h := fun X => by
    simp (disch := omega) only [sSeq_eq, sSet_eq, sIf_eq, sRet_eq, sNop_eq, sExpr_eq, sAsg_eq, sAug_eq, sFor_eq, sRaise_eq, eBin_eq, eUn_eq, eVar_eq, eC_eq, eTup_eq, eLst_eq, eCall_eq, eCallB_eq, eMth_eq, eIf_eq, eAnd_eq, eOr_eq, eNot_eq, eSl_eq, pNo_eq, pSome_eq, eComp_eq, iVal_eq, iArgs_eq, aNil_eq, aCons_eq, tVal_eq, tAnd_eq, tOr_eq, tNot_eq, tTru_eq, truth_bl, truth_non, get_0, get_S, Option.join_some, ofO_some, Res.bind_ok, Res.thn_ok, SR.bind_nx, SR.bind_ret, SR.res_ret, SR.res_nx, List.set_cons_succ, List.set_cons_zero, if_true, Bool.false_eq_true, if_false, typ_str, gTpl_eq, gsCons_eq, gsNil_eq, gNam_eq, Option.bind_some, Bool.not_true, Bool.not_false, List.replicate, fn_1, fn_2, fn_3, fn_4, oEq_str, oNe_str, oEq_int, oNe_int, oAdd_int, oSub_int, oLt_int, oGt_int, oLe_int, oGe_int, oIsN_eq, oNeg_int, bLen_str, oIn_ch, oNin_ch, S_e, S_0, S_9, S_mi, S_po, S_zs9, S_num, S_ed, S_text, decide_eq_true, decide_eq_false, beqI_t, beqI_f, szOk_of, List.length_cons, List.length_nil, Nat.reduceAdd, oIdx_tup, atI_zero, z2]
  have c3 : sSet 1 (eIf (tTru (eBin oIdx (eVar 0) (eC (.int 1)))) (eC (.str (S "s"))) (eC (.str (S "")))) [some (.tup [.str [110, 117, 109, 98, 101, 114], .bl b, .int w, .int f]), none] h = .nx [some (.tup [.str [110, 117, 109, 98, 101, 114], .bl b, .int w, .int f]), some (.str (if b then [115] else []))] h := by
    cases b <;> simp (disch := omega) only [sSeq_eq, sSet_eq, sIf_eq, sRet_eq, sNop_eq, sExpr_eq, sAsg_eq, sAug_eq, sFor_eq, sRaise_eq, eBin_eq, eUn_eq, eVar_eq, eC_eq, eTup_eq, eLst_eq, eCall_eq, eCallB_eq, eMth_eq, eIf_eq, eAnd_eq, eOr_eq, eNot_eq, eSl_eq, pNo_eq, pSome_eq, eComp_eq, iVal_eq, iArgs_eq, aNil_eq, aCons_eq, tVal_eq, tAnd_eq, tOr_eq, tNot_eq, tTru_eq, truth_bl, truth_non, get_0, get_S, Option.join_some, ofO_some, Res.bind_ok, Res.thn_ok, SR.bind_nx, SR.bind_ret, SR.res_ret, SR.res_nx, List.set_cons_succ, List.set_cons_zero, if_true, Bool.false_eq_true, if_false, typ_str, gTpl_eq, gsCons_eq, gsNil_eq, gNam_eq, Option.bind_some, Bool.not_true, Bool.not_false, List.replicate, fn_1, fn_2, fn_3, fn_4, oEq_str, oNe_str, oEq_int, oNe_int, oAdd_int, oSub_int, oLt_int, oGt_int, oLe_int, oGe_int, oIsN_eq, oNeg_int, bLen_str, oIn_ch, oNin_ch, S_e, S_0, S_9, S_mi, S_po, S_zs9, S_num, S_ed, S_text, decide_eq_true, decide_eq_false, beqI_t, beqI_f, szOk_of, List.length_cons, List.length_nil, Nat.reduceAdd, oIdx_tup, atI_one, S_s]
  show SR.res (B_v_law_picture_text [some (.tup [.str [110, 117, 109, 98, 101, 114], .bl b, .int w, .int f]), none] h) = _
  unfold B_v_law_picture_text
  rw [sSeq_eq, c1, SR.bind_nx, sSeq_eq, c2, sSeq_eq, c3, SR.bind_nx, main _ (by split <;> simp)]
  unfold numText cntT
  rw [hs]
  rfl
theorem law_text_ed (m s : List Nat) (w f : Val) (ml : m.length ≤ 100) (sl : s.length ≤ 2) (h : Hep) : ∃ h', Ext h h' ∧ M_v_law_picture_text [.tup [.str [101, 100, 105, 116, 101, 100], .str m, w, f, .str s]] h = .ok (.str (edText m s)) h' := by
  have z : (([101, 100, 105, 116, 101, 100] : List Nat) == [116, 101, 120, 116]) = false := by decide
  have z2 : (([101, 100, 105, 116, 101, 100] : List Nat) == [110, 117, 109, 98, 101, 114]) = false := by decide
  have in2 : ∀ s : List Nat, oIn (h ++ [.lst [.str [45], .str [43]]]) (.str s) (.ref h.length) = some (.bl (s == [45] || s == [43])) := fun s => by
    rw [in_ref _ s _ _ (get_new _ _) (by rfl)]
    congr 2
    show (([45] == s) || (([43] == s) || false)) = _
    rw [Bool.or_false, BEq.comm (a := [45]), BEq.comm (a := [43])]
  have x1 := Ext.one h (.lst [.str [45], .str [43]])
  have a1 : ∀ h', oAdd h' (.str s) (.str m) = some (.str (s ++ m)) := fun h' => oAdd_str (by omega)
  have a2 : ∀ h', oAdd h' (.str m) (.str (s.drop 1)) = some (.str (m ++ s.drop 1)) := fun h' => oAdd_str (by rw [List.length_drop]; omega)
  have a3 : ∀ h', oAdd h' (.str m) (.str s) = some (.str (m ++ s)) := fun h' => oAdd_str (by omega)
  have s1 : ∀ h', oSl h' (.str s) none (some 1) = some (.str (s.take 1), h') := fun h' => by rw [oSl_str (by omega), cutTo1]
  have s2 : ∀ h', oSl h' (.str s) (some 1) none = some (.str (s.drop 1), h') := fun h' => by rw [oSl_str (by omega), cutFrom1]
  refine ⟨_, x1, ?_⟩
  unfold edText
  cases q : (s == [45] || s == [43]) with
  | true => simp (disch := omega) only [sSeq_eq, sSet_eq, sIf_eq, sRet_eq, sNop_eq, sExpr_eq, sAsg_eq, sAug_eq, sFor_eq, sRaise_eq, eBin_eq, eUn_eq, eVar_eq, eC_eq, eTup_eq, eLst_eq, eCall_eq, eCallB_eq, eMth_eq, eIf_eq, eAnd_eq, eOr_eq, eNot_eq, eSl_eq, pNo_eq, pSome_eq, eComp_eq, iVal_eq, iArgs_eq, aNil_eq, aCons_eq, tVal_eq, tAnd_eq, tOr_eq, tNot_eq, tTru_eq, truth_bl, truth_non, get_0, get_S, Option.join_some, ofO_some, Res.bind_ok, Res.thn_ok, SR.bind_nx, SR.bind_ret, SR.res_ret, SR.res_nx, List.set_cons_succ, List.set_cons_zero, if_true, Bool.false_eq_true, if_false, typ_str, gTpl_eq, gsCons_eq, gsNil_eq, gNam_eq, Option.bind_some, Bool.not_true, Bool.not_false, List.replicate, fn_1, fn_2, fn_3, fn_4, oEq_str, oNe_str, oEq_int, oNe_int, oAdd_int, oSub_int, oLt_int, oGt_int, oLe_int, oGe_int, oIsN_eq, oNeg_int, bLen_str, oIn_ch, oNin_ch, S_e, S_0, S_9, S_mi, S_po, S_zs9, S_num, S_ed, S_text, decide_eq_true, decide_eq_false, beqI_t, beqI_f, szOk_of, List.length_cons, List.length_nil, Nat.reduceAdd, M_v_law_picture_text, B_v_law_picture_text, oIdx_tup, atI_zero, atI_one, atI_four, z, z2, S_pl, in2, q, a1]
  | false =>
    cases q2 : (s.take 1 == [46]) with
    | true => simp (disch := omega) only [sSeq_eq, sSet_eq, sIf_eq, sRet_eq, sNop_eq, sExpr_eq, sAsg_eq, sAug_eq, sFor_eq, sRaise_eq, eBin_eq, eUn_eq, eVar_eq, eC_eq, eTup_eq, eLst_eq, eCall_eq, eCallB_eq, eMth_eq, eIf_eq, eAnd_eq, eOr_eq, eNot_eq, eSl_eq, pNo_eq, pSome_eq, eComp_eq, iVal_eq, iArgs_eq, aNil_eq, aCons_eq, tVal_eq, tAnd_eq, tOr_eq, tNot_eq, tTru_eq, truth_bl, truth_non, get_0, get_S, Option.join_some, ofO_some, Res.bind_ok, Res.thn_ok, SR.bind_nx, SR.bind_ret, SR.res_ret, SR.res_nx, List.set_cons_succ, List.set_cons_zero, if_true, Bool.false_eq_true, if_false, typ_str, gTpl_eq, gsCons_eq, gsNil_eq, gNam_eq, Option.bind_some, Bool.not_true, Bool.not_false, List.replicate, fn_1, fn_2, fn_3, fn_4, oEq_str, oNe_str, oEq_int, oNe_int, oAdd_int, oSub_int, oLt_int, oGt_int, oLe_int, oGe_int, oIsN_eq, oNeg_int, bLen_str, oIn_ch, oNin_ch, S_e, S_0, S_9, S_mi, S_po, S_zs9, S_num, S_ed, S_text, decide_eq_true, decide_eq_false, beqI_t, beqI_f, szOk_of, List.length_cons, List.length_nil, Nat.reduceAdd, M_v_law_picture_text, B_v_law_picture_text, oIdx_tup, atI_zero, atI_one, atI_four, z, z2, S_pl, in2, q, s1, s2, q2, a2]
    | false => simp (disch := omega) only [sSeq_eq, sSet_eq, sIf_eq, sRet_eq, sNop_eq, sExpr_eq, sAsg_eq, sAug_eq, sFor_eq, sRaise_eq, eBin_eq, eUn_eq, eVar_eq, eC_eq, eTup_eq, eLst_eq, eCall_eq, eCallB_eq, eMth_eq, eIf_eq, eAnd_eq, eOr_eq, eNot_eq, eSl_eq, pNo_eq, pSome_eq, eComp_eq, iVal_eq, iArgs_eq, aNil_eq, aCons_eq, tVal_eq, tAnd_eq, tOr_eq, tNot_eq, tTru_eq, truth_bl, truth_non, get_0, get_S, Option.join_some, ofO_some, Res.bind_ok, Res.thn_ok, SR.bind_nx, SR.bind_ret, SR.res_ret, SR.res_nx, List.set_cons_succ, List.set_cons_zero, if_true, Bool.false_eq_true, if_false, typ_str, gTpl_eq, gsCons_eq, gsNil_eq, gNam_eq, Option.bind_some, Bool.not_true, Bool.not_false, List.replicate, fn_1, fn_2, fn_3, fn_4, oEq_str, oNe_str, oEq_int, oNe_int, oAdd_int, oSub_int, oLt_int, oGt_int, oLe_int, oGe_int, oIsN_eq, oNeg_int, bLen_str, oIn_ch, oNin_ch, S_e, S_0, S_9, S_mi, S_po, S_zs9, S_num, S_ed, S_text, decide_eq_true, decide_eq_false, beqI_t, beqI_f, szOk_of, List.length_cons, List.length_nil, Nat.reduceAdd, M_v_law_picture_text, B_v_law_picture_text, oIdx_tup, atI_zero, atI_one, atI_four, z, z2, S_pl, in2, q, s1, q2, a3]
end Law

set_option maxRecDepth 100000
set_option maxHeartbeats 1000000
set_option linter.all false
/-! Im: what is a picture, as the law says -/
namespace Law
open Cd Mir
def psEq (t : List Nat) (l : List Val) : Bool := !(outS t == []) && (match psS (outS t) with
  | .tup r => eqFs r l
  | _ => false)
def lnumOk (t : List Nat) (l : List Val) : Bool := match l with
  | [.bl b, .int w, .int f] => intIn (.int w) 0 18 && intIn (.int f) 0 18 && psEq (numText b w.toNat f.toNat) [.str t, .bl b, .int w, .int f]
  | _ => false
def ledOk (t : List Nat) (l : List Val) : Bool := match l with
  | [.str m, .int w, .int f, .str s] => intIn (.int w) 0 18 && intIn (.int f) 0 18 && inSigns s && psEq (edText m s) [.str t, .str m, .int w, .int f, .str s]
  | _ => false
def lawPB : List Val → Bool
  | .str t :: l => if (t == [116, 101, 120, 116]) = true then txOk l else if (t == [110, 117, 109, 98, 101, 114]) = true then lnumOk t l else if (t == [101, 100, 105, 116, 101, 100]) = true then ledOk t l else false
  | _ => false
def sizesV : List Val := [.tup [.str [116, 101, 120, 116], .int 2], .tup [.str [110, 117, 109, 98, 101, 114], .int 4], .tup [.str [101, 100, 105, 116, 101, 100], .int 5]]
def szHit (t : List Nat) (n : Int) : Bool := ([116, 101, 120, 116] == t && (2 : Int) == n) || ([110, 117, 109, 98, 101, 114] == t && (4 : Int) == n) || ([101, 100, 105, 116, 101, 100] == t && (5 : Int) == n)
theorem nin_sizes {h : Hep} {a : Nat} (e : h[a]? = some (.lst sizesV)) (t : List Nat) (ht : chOk t) (n : Int) : oNinD h (.tup [.str t, .int n]) (.ref a) = some (.bl (!szHit t n)) := by
  have r1 : rsl h 40 (.tup [.str t, .int n]) = some (.tup [.str t, .int n]) := rsl_tup h 38 (l := [.str t, .int n]) (by
    intro v hv
    simp only [List.mem_cons, List.not_mem_nil, or_false] at hv
    rcases hv with rfl | rfl
    · exact ht
    · trivial)
  have rt : ∀ (s : List Nat) (k : Int), chOk s → rsl h 39 (.tup [.str s, .int k]) = some (.tup [.str s, .int k]) := fun s k hs => rsl_tup h 37 (l := [.str s, .int k]) (by
    intro v hv
    simp only [List.mem_cons, List.not_mem_nil, or_false] at hv
    rcases hv with rfl | rfl
    · exact hs
    · trivial)
  have r2 : rsl h 40 (.ref a) = some (.lst [.tup [.str [116, 101, 120, 116], .int 2], .tup [.str [110, 117, 109, 98, 101, 114], .int 4], .tup [.str [101, 100, 105, 116, 101, 100], .int 5]]) := by
    rw [rsl, e]
    simp only [sizesV, rsls, rt _ _ ch_tx, rt _ _ ch_num, rt _ _ ch_ed]
    rfl
  unfold oNinD
  rw [r1, r2]
  simp only [List.any_cons, List.any_nil, Dat.eqv, Dat.eqvs, Bool.and_true, Bool.or_false]
  unfold szHit
  rw [Bool.or_assoc]
theorem good_tup {v : Val} (g : GoodV v) (nn : isNon v = false) : ∃ r, v = .tup r ∧ ∀ x ∈ r, flatOk x := by
  rcases g with rfl | ⟨a, l, rfl, fl, _⟩
  · cases nn
  · exact ⟨_, rfl, fl⟩
/-- the last rows: the text read again -/
theorem try_ok {l : List Val} (hf : ∀ x ∈ l, flatOk x) {t : List Nat} (tl : t.length ≤ 2000) {h h1 : Hep} (x1 : Ext h h1) (e : M_v_law_picture_text [.tup l] h = .ok (.str t) h1) (w1 w2 : Option Val) :
    ∃ h', Ke h h' ∧ sTryO [("BadPicture", true)] (sRet (eBin oEq (eCall M_parse_picture (aCons (eCall M_v_law_picture_text (aCons (eVar 0) aNil)) aNil)) (eVar 0))) (sRet (eC (.bl false))) [some (.tup l), w1, w2] h = .ret (.bl (psEq t l)) h' := by
  obtain ⟨h2, x2, pa⟩ := parse_ok t tl h1
  have lk : ([("BadPicture", true)] : List (String × Bool)).lookup "BadPicture" = some true := by decide
  refine ⟨h2, x1.ke.trans x2, ?_⟩
  unfold psEq
  by_cases q : outS t = [] ∨ isNon (psS (outS t)) = true
  · rw [if_pos q] at pa
    have z : (!(outS t == []) && (match psS (outS t) with | .tup r => eqFs r l | _ => false)) = false := by
      rcases q with q | q
      · rw [q]; rfl
      · cases ep : psS (outS t) <;> first | (rw [ep] at q; cases q; simp) | skip
        all_goals (rw [ep] at q; cases q)
    rw [z]
    have b1 : (sRet (eBin oEq (eCall M_parse_picture (aCons (eCall M_v_law_picture_text (aCons (eVar 0) aNil)) aNil)) (eVar 0))) [some (.tup l), w1, w2] h = .exc ⟨"BadPicture", []⟩ [some (.tup l), w1, w2] h2 := by
      simp (disch := omega) only [sSeq_eq, sSet_eq, sIf_eq, sRet_eq, sNop_eq, sExpr_eq, sAsg_eq, sAug_eq, sFor_eq, sRaise_eq, eBin_eq, eUn_eq, eVar_eq, eC_eq, eTup_eq, eLst_eq, eCall_eq, eCallB_eq, eMth_eq, eIf_eq, eAnd_eq, eOr_eq, eNot_eq, eSl_eq, pNo_eq, pSome_eq, eComp_eq, iVal_eq, iArgs_eq, aNil_eq, aCons_eq, tVal_eq, tAnd_eq, tOr_eq, tNot_eq, tTru_eq, truth_bl, truth_non, get_0, get_S, Option.join_some, ofO_some, Res.bind_ok, Res.thn_ok, SR.bind_nx, SR.bind_ret, SR.res_ret, SR.res_nx, List.set_cons_succ, List.set_cons_zero, if_true, Bool.false_eq_true, if_false, typ_str, gTpl_eq, gsCons_eq, gsNil_eq, gNam_eq, Option.bind_some, Bool.not_true, Bool.not_false, List.replicate, fn_1, fn_2, fn_3, fn_4, oEq_str, oNe_str, oEq_int, oNe_int, oAdd_int, oSub_int, oLt_int, oGt_int, oLe_int, oGe_int, oIsN_eq, oNeg_int, bLen_str, oIn_ch, oNin_ch, S_e, S_0, S_9, S_mi, S_po, S_zs9, S_num, S_ed, S_text, decide_eq_true, decide_eq_false, beqI_t, beqI_f, szOk_of, List.length_cons, List.length_nil, Nat.reduceAdd, e, pa]
      rfl
    rw [sTryO_eq, b1]
    simp only [lk]
    simp (disch := omega) only [sSeq_eq, sSet_eq, sIf_eq, sRet_eq, sNop_eq, sExpr_eq, sAsg_eq, sAug_eq, sFor_eq, sRaise_eq, eBin_eq, eUn_eq, eVar_eq, eC_eq, eTup_eq, eLst_eq, eCall_eq, eCallB_eq, eMth_eq, eIf_eq, eAnd_eq, eOr_eq, eNot_eq, eSl_eq, pNo_eq, pSome_eq, eComp_eq, iVal_eq, iArgs_eq, aNil_eq, aCons_eq, tVal_eq, tAnd_eq, tOr_eq, tNot_eq, tTru_eq, truth_bl, truth_non, get_0, get_S, Option.join_some, ofO_some, Res.bind_ok, Res.thn_ok, SR.bind_nx, SR.bind_ret, SR.res_ret, SR.res_nx, List.set_cons_succ, List.set_cons_zero, if_true, Bool.false_eq_true, if_false, typ_str, gTpl_eq, gsCons_eq, gsNil_eq, gNam_eq, Option.bind_some, Bool.not_true, Bool.not_false, List.replicate, fn_1, fn_2, fn_3, fn_4, oEq_str, oNe_str, oEq_int, oNe_int, oAdd_int, oSub_int, oLt_int, oGt_int, oLe_int, oGe_int, oIsN_eq, oNeg_int, bLen_str, oIn_ch, oNin_ch, S_e, S_0, S_9, S_mi, S_po, S_zs9, S_num, S_ed, S_text, decide_eq_true, decide_eq_false, beqI_t, beqI_f, szOk_of, List.length_cons, List.length_nil, Nat.reduceAdd, quiet_ret]
  · rw [if_neg q] at pa
    have q1 : outS t ≠ [] := fun z => q (.inl z)
    have q2 : isNon (psS (outS t)) = false := Bool.eq_false_iff.mpr fun z => q (.inr z)
    obtain ⟨r, er, fr⟩ := good_tup (ps_good (outS t)) q2
    rw [er] at pa ⊢
    have ev := oEq_of (vEq_tups h2 fr hf)
    have b1 : (sRet (eBin oEq (eCall M_parse_picture (aCons (eCall M_v_law_picture_text (aCons (eVar 0) aNil)) aNil)) (eVar 0))) [some (.tup l), w1, w2] h = .ret (.bl (eqFs r l)) h2 := by
      simp (disch := omega) only [sSeq_eq, sSet_eq, sIf_eq, sRet_eq, sNop_eq, sExpr_eq, sAsg_eq, sAug_eq, sFor_eq, sRaise_eq, eBin_eq, eUn_eq, eVar_eq, eC_eq, eTup_eq, eLst_eq, eCall_eq, eCallB_eq, eMth_eq, eIf_eq, eAnd_eq, eOr_eq, eNot_eq, eSl_eq, pNo_eq, pSome_eq, eComp_eq, iVal_eq, iArgs_eq, aNil_eq, aCons_eq, tVal_eq, tAnd_eq, tOr_eq, tNot_eq, tTru_eq, truth_bl, truth_non, get_0, get_S, Option.join_some, ofO_some, Res.bind_ok, Res.thn_ok, SR.bind_nx, SR.bind_ret, SR.res_ret, SR.res_nx, List.set_cons_succ, List.set_cons_zero, if_true, Bool.false_eq_true, if_false, typ_str, gTpl_eq, gsCons_eq, gsNil_eq, gNam_eq, Option.bind_some, Bool.not_true, Bool.not_false, List.replicate, fn_1, fn_2, fn_3, fn_4, oEq_str, oNe_str, oEq_int, oNe_int, oAdd_int, oSub_int, oLt_int, oGt_int, oLe_int, oGe_int, oIsN_eq, oNeg_int, bLen_str, oIn_ch, oNin_ch, S_e, S_0, S_9, S_mi, S_po, S_zs9, S_num, S_ed, S_text, decide_eq_true, decide_eq_false, beqI_t, beqI_f, szOk_of, List.length_cons, List.length_nil, Nat.reduceAdd, e, pa, ev]
    rw [sTryO_eq, b1]
    simp only [beq_false_of_ne q1, Bool.not_false, Bool.true_and]
theorem nin_signs2 {h : Hep} {n : Nat} (e : h[n]? = some (.lst (signs.map .str))) (s : List Nat) : oNin h (.str s) (.ref n) = some (.bl (!inSigns s)) := by
  have i := in_ref h s n _ e (by rfl)
  unfold oIn at i
  unfold oNin
  cases q : isIn h (.str s) (.ref n) with
  | none => rw [q] at i; cases i
  | some k =>
    rw [q] at i
    have : k = inSigns s := by
      have i := Val.bl.inj (Option.some.inj i)
      rw [i]
      unfold inSigns
      rw [List.any_map]
      rfl
    rw [this]
    rfl
theorem isi_in2 {v : Val} (hv : flatOk v) (h : Hep) (nb : blB v = false) : oIsi "int" h v = some (.bl (inB v)) := isi_in hv h
/-- one part of a number or an edited picture -/
theorem part_ok {v : Val} (hv : flatOk v) (v0 w1 : Option Val) (h : Hep) : L_v_law_is_picture_1 [v0, w1, some v] h = if intIn v 0 18 then .nx [v0, w1, some v] h else .ret (.bl false) h := by
  have i1 := isi_in hv h
  have i2 := isi_bl hv h
  cases v with
  | non => simp (disch := omega) only [sSeq_eq, sSet_eq, sIf_eq, sRet_eq, sNop_eq, sExpr_eq, sAsg_eq, sAug_eq, sFor_eq, sRaise_eq, eBin_eq, eUn_eq, eVar_eq, eC_eq, eTup_eq, eLst_eq, eCall_eq, eCallB_eq, eMth_eq, eIf_eq, eAnd_eq, eOr_eq, eNot_eq, eSl_eq, pNo_eq, pSome_eq, eComp_eq, iVal_eq, iArgs_eq, aNil_eq, aCons_eq, tVal_eq, tAnd_eq, tOr_eq, tNot_eq, tTru_eq, truth_bl, truth_non, get_0, get_S, Option.join_some, ofO_some, Res.bind_ok, Res.thn_ok, SR.bind_nx, SR.bind_ret, SR.res_ret, SR.res_nx, List.set_cons_succ, List.set_cons_zero, if_true, Bool.false_eq_true, if_false, typ_str, gTpl_eq, gsCons_eq, gsNil_eq, gNam_eq, Option.bind_some, Bool.not_true, Bool.not_false, List.replicate, fn_1, fn_2, fn_3, fn_4, oEq_str, oNe_str, oEq_int, oNe_int, oAdd_int, oSub_int, oLt_int, oGt_int, oLe_int, oGe_int, oIsN_eq, oNeg_int, bLen_str, oIn_ch, oNin_ch, S_e, S_0, S_9, S_mi, S_po, S_zs9, S_num, S_ed, S_text, decide_eq_true, decide_eq_false, beqI_t, beqI_f, szOk_of, List.length_cons, List.length_nil, Nat.reduceAdd, L_v_law_is_picture_1, i1, i2, show inB .non = false from rfl]; rfl
  | bl b => simp (disch := omega) only [sSeq_eq, sSet_eq, sIf_eq, sRet_eq, sNop_eq, sExpr_eq, sAsg_eq, sAug_eq, sFor_eq, sRaise_eq, eBin_eq, eUn_eq, eVar_eq, eC_eq, eTup_eq, eLst_eq, eCall_eq, eCallB_eq, eMth_eq, eIf_eq, eAnd_eq, eOr_eq, eNot_eq, eSl_eq, pNo_eq, pSome_eq, eComp_eq, iVal_eq, iArgs_eq, aNil_eq, aCons_eq, tVal_eq, tAnd_eq, tOr_eq, tNot_eq, tTru_eq, truth_bl, truth_non, get_0, get_S, Option.join_some, ofO_some, Res.bind_ok, Res.thn_ok, SR.bind_nx, SR.bind_ret, SR.res_ret, SR.res_nx, List.set_cons_succ, List.set_cons_zero, if_true, Bool.false_eq_true, if_false, typ_str, gTpl_eq, gsCons_eq, gsNil_eq, gNam_eq, Option.bind_some, Bool.not_true, Bool.not_false, List.replicate, fn_1, fn_2, fn_3, fn_4, oEq_str, oNe_str, oEq_int, oNe_int, oAdd_int, oSub_int, oLt_int, oGt_int, oLe_int, oGe_int, oIsN_eq, oNeg_int, bLen_str, oIn_ch, oNin_ch, S_e, S_0, S_9, S_mi, S_po, S_zs9, S_num, S_ed, S_text, decide_eq_true, decide_eq_false, beqI_t, beqI_f, szOk_of, List.length_cons, List.length_nil, Nat.reduceAdd, L_v_law_is_picture_1, i1, i2, show inB (.bl b) = true from rfl, show blB (.bl b) = true from rfl]; rfl
  | str s => simp (disch := omega) only [sSeq_eq, sSet_eq, sIf_eq, sRet_eq, sNop_eq, sExpr_eq, sAsg_eq, sAug_eq, sFor_eq, sRaise_eq, eBin_eq, eUn_eq, eVar_eq, eC_eq, eTup_eq, eLst_eq, eCall_eq, eCallB_eq, eMth_eq, eIf_eq, eAnd_eq, eOr_eq, eNot_eq, eSl_eq, pNo_eq, pSome_eq, eComp_eq, iVal_eq, iArgs_eq, aNil_eq, aCons_eq, tVal_eq, tAnd_eq, tOr_eq, tNot_eq, tTru_eq, truth_bl, truth_non, get_0, get_S, Option.join_some, ofO_some, Res.bind_ok, Res.thn_ok, SR.bind_nx, SR.bind_ret, SR.res_ret, SR.res_nx, List.set_cons_succ, List.set_cons_zero, if_true, Bool.false_eq_true, if_false, typ_str, gTpl_eq, gsCons_eq, gsNil_eq, gNam_eq, Option.bind_some, Bool.not_true, Bool.not_false, List.replicate, fn_1, fn_2, fn_3, fn_4, oEq_str, oNe_str, oEq_int, oNe_int, oAdd_int, oSub_int, oLt_int, oGt_int, oLe_int, oGe_int, oIsN_eq, oNeg_int, bLen_str, oIn_ch, oNin_ch, S_e, S_0, S_9, S_mi, S_po, S_zs9, S_num, S_ed, S_text, decide_eq_true, decide_eq_false, beqI_t, beqI_f, szOk_of, List.length_cons, List.length_nil, Nat.reduceAdd, L_v_law_is_picture_1, i1, i2, show inB (.str s) = false from rfl]; rfl
  | int i =>
    show _ = if (decide (0 ≤ i) && decide (i ≤ 18)) = true then _ else _
    by_cases q1 : 0 ≤ i
    · by_cases q2 : i ≤ 18
      · rw [decide_eq_true q1, decide_eq_true q2]
        simp (disch := omega) only [sSeq_eq, sSet_eq, sIf_eq, sRet_eq, sNop_eq, sExpr_eq, sAsg_eq, sAug_eq, sFor_eq, sRaise_eq, eBin_eq, eUn_eq, eVar_eq, eC_eq, eTup_eq, eLst_eq, eCall_eq, eCallB_eq, eMth_eq, eIf_eq, eAnd_eq, eOr_eq, eNot_eq, eSl_eq, pNo_eq, pSome_eq, eComp_eq, iVal_eq, iArgs_eq, aNil_eq, aCons_eq, tVal_eq, tAnd_eq, tOr_eq, tNot_eq, tTru_eq, truth_bl, truth_non, get_0, get_S, Option.join_some, ofO_some, Res.bind_ok, Res.thn_ok, SR.bind_nx, SR.bind_ret, SR.res_ret, SR.res_nx, List.set_cons_succ, List.set_cons_zero, if_true, Bool.false_eq_true, if_false, typ_str, gTpl_eq, gsCons_eq, gsNil_eq, gNam_eq, Option.bind_some, Bool.not_true, Bool.not_false, List.replicate, fn_1, fn_2, fn_3, fn_4, oEq_str, oNe_str, oEq_int, oNe_int, oAdd_int, oSub_int, oLt_int, oGt_int, oLe_int, oGe_int, oIsN_eq, oNeg_int, bLen_str, oIn_ch, oNin_ch, S_e, S_0, S_9, S_mi, S_po, S_zs9, S_num, S_ed, S_text, decide_eq_true, decide_eq_false, beqI_t, beqI_f, szOk_of, List.length_cons, List.length_nil, Nat.reduceAdd, L_v_law_is_picture_1, i1, i2, show inB (.int i) = true from rfl, show blB (.int i) = false from rfl]
        rfl
      · rw [decide_eq_true q1, decide_eq_false q2]
        simp (disch := omega) only [sSeq_eq, sSet_eq, sIf_eq, sRet_eq, sNop_eq, sExpr_eq, sAsg_eq, sAug_eq, sFor_eq, sRaise_eq, eBin_eq, eUn_eq, eVar_eq, eC_eq, eTup_eq, eLst_eq, eCall_eq, eCallB_eq, eMth_eq, eIf_eq, eAnd_eq, eOr_eq, eNot_eq, eSl_eq, pNo_eq, pSome_eq, eComp_eq, iVal_eq, iArgs_eq, aNil_eq, aCons_eq, tVal_eq, tAnd_eq, tOr_eq, tNot_eq, tTru_eq, truth_bl, truth_non, get_0, get_S, Option.join_some, ofO_some, Res.bind_ok, Res.thn_ok, SR.bind_nx, SR.bind_ret, SR.res_ret, SR.res_nx, List.set_cons_succ, List.set_cons_zero, if_true, Bool.false_eq_true, if_false, typ_str, gTpl_eq, gsCons_eq, gsNil_eq, gNam_eq, Option.bind_some, Bool.not_true, Bool.not_false, List.replicate, fn_1, fn_2, fn_3, fn_4, oEq_str, oNe_str, oEq_int, oNe_int, oAdd_int, oSub_int, oLt_int, oGt_int, oLe_int, oGe_int, oIsN_eq, oNeg_int, bLen_str, oIn_ch, oNin_ch, S_e, S_0, S_9, S_mi, S_po, S_zs9, S_num, S_ed, S_text, decide_eq_true, decide_eq_false, beqI_t, beqI_f, szOk_of, List.length_cons, List.length_nil, Nat.reduceAdd, L_v_law_is_picture_1, i1, i2, show inB (.int i) = true from rfl, show blB (.int i) = false from rfl]
        rfl
    · rw [decide_eq_false q1]
      simp (disch := omega) only [sSeq_eq, sSet_eq, sIf_eq, sRet_eq, sNop_eq, sExpr_eq, sAsg_eq, sAug_eq, sFor_eq, sRaise_eq, eBin_eq, eUn_eq, eVar_eq, eC_eq, eTup_eq, eLst_eq, eCall_eq, eCallB_eq, eMth_eq, eIf_eq, eAnd_eq, eOr_eq, eNot_eq, eSl_eq, pNo_eq, pSome_eq, eComp_eq, iVal_eq, iArgs_eq, aNil_eq, aCons_eq, tVal_eq, tAnd_eq, tOr_eq, tNot_eq, tTru_eq, truth_bl, truth_non, get_0, get_S, Option.join_some, ofO_some, Res.bind_ok, Res.thn_ok, SR.bind_nx, SR.bind_ret, SR.res_ret, SR.res_nx, List.set_cons_succ, List.set_cons_zero, if_true, Bool.false_eq_true, if_false, typ_str, gTpl_eq, gsCons_eq, gsNil_eq, gNam_eq, Option.bind_some, Bool.not_true, Bool.not_false, List.replicate, fn_1, fn_2, fn_3, fn_4, oEq_str, oNe_str, oEq_int, oNe_int, oAdd_int, oSub_int, oLt_int, oGt_int, oLe_int, oGe_int, oIsN_eq, oNeg_int, bLen_str, oIn_ch, oNin_ch, S_e, S_0, S_9, S_mi, S_po, S_zs9, S_num, S_ed, S_text, decide_eq_true, decide_eq_false, beqI_t, beqI_f, szOk_of, List.length_cons, List.length_nil, Nat.reduceAdd, L_v_law_is_picture_1, i1, i2, show inB (.int i) = true from rfl, show blB (.int i) = false from rfl]
      rfl
  | _ => exact hv.elim
end Law

set_option maxRecDepth 100000
set_option maxHeartbeats 1000000
set_option linter.all false
namespace Law
open Cd Mir
theorem txOk_eq {y : Val} : txOk [y] = intIn y 1 80 := rfl
noncomputable def tryT : SM := sTryO [("BadPicture", true)] (sRet (eBin oEq (eCall M_parse_picture (aCons (eCall M_v_law_picture_text (aCons (eVar 0) aNil)) aNil)) (eVar 0))) (sRet (eC (.bl false)))
noncomputable def sgnI : SM := sIf (tAnd (tVal (eBin oEq (eBin oIdx (eVar 0) (eC (.int 0))) (eC (.str (S "edited"))))) (tVal (eBin oNin (eBin oIdx (eVar 0) (eC (.int 4))) (eLst (aCons (eC (.str (S ""))) (aCons (eC (.str (S "-"))) (aCons (eC (.str (S "+"))) (aCons (eC (.str (S ".-"))) (aCons (eC (.str (S ".+"))) (aCons (eC (.str (S "cr"))) (aCons (eC (.str (S "db"))) aNil))))))))))) (sRet (eC (.bl false))) sNop
theorem T2_eq : T_v_law_is_picture_2 = sSeq (sFor (iVal (eSl (eVar 0) (pSome (eC (.int 2))) (pSome (eC (.int 4))))) (gNam 2) L_v_law_is_picture_1) (sSeq (sIf (tVal (eBin oEq (eBin oIdx (eVar 0) (eC (.int 0))) (eC (.str (S "text"))))) (sRet (eChain oLe oLe (eC (.int 1)) (eBin oIdx (eVar 0) (eC (.int 1))) (eC (.int 80)))) sNop) (sSeq sgnI tryT)) := rfl
theorem loop2 {b c : Val} (hb : flatOk b) (hc : flatOk c) (v0 w1 w2 : Option Val) (h : Hep) : forL (gNam 2) (fun _ => true) L_v_law_is_picture_1 [b, c] [v0, w1, w2] h = if intIn b 0 18 = true then (if intIn c 0 18 = true then .nx [v0, w1, some c] h else .ret (.bl false) h) else .ret (.bl false) h := by
  have p1 := part_ok hb v0 w1 h
  have p2 := part_ok hc v0 w1 h
  cases z1 : intIn b 0 18 with
  | false =>
    rw [z1] at p1
    simp (disch := omega) only [sSeq_eq, sSet_eq, sIf_eq, sRet_eq, sNop_eq, sExpr_eq, sAsg_eq, sAug_eq, sFor_eq, sRaise_eq, eBin_eq, eUn_eq, eVar_eq, eC_eq, eTup_eq, eLst_eq, eCall_eq, eCallB_eq, eMth_eq, eIf_eq, eAnd_eq, eOr_eq, eNot_eq, eSl_eq, pNo_eq, pSome_eq, eComp_eq, iVal_eq, iArgs_eq, aNil_eq, aCons_eq, tVal_eq, tAnd_eq, tOr_eq, tNot_eq, tTru_eq, truth_bl, truth_non, get_0, get_S, Option.join_some, ofO_some, Res.bind_ok, Res.thn_ok, SR.bind_nx, SR.bind_ret, SR.res_ret, SR.res_nx, List.set_cons_succ, List.set_cons_zero, if_true, Bool.false_eq_true, if_false, typ_str, gTpl_eq, gsCons_eq, gsNil_eq, gNam_eq, Option.bind_some, Bool.not_true, Bool.not_false, List.replicate, fn_1, fn_2, fn_3, fn_4, oEq_str, oNe_str, oEq_int, oNe_int, oAdd_int, oSub_int, oLt_int, oGt_int, oLe_int, oGe_int, oIsN_eq, oNeg_int, bLen_str, oIn_ch, oNin_ch, S_e, S_0, S_9, S_mi, S_po, S_zs9, S_num, S_ed, S_text, decide_eq_true, decide_eq_false, beqI_t, beqI_f, szOk_of, List.length_cons, List.length_nil, Nat.reduceAdd, forL_cons, forL_nil, p1]
  | true =>
    rw [z1] at p1
    cases z2 : intIn c 0 18 with
    | false =>
      rw [z2] at p2
      simp (disch := omega) only [sSeq_eq, sSet_eq, sIf_eq, sRet_eq, sNop_eq, sExpr_eq, sAsg_eq, sAug_eq, sFor_eq, sRaise_eq, eBin_eq, eUn_eq, eVar_eq, eC_eq, eTup_eq, eLst_eq, eCall_eq, eCallB_eq, eMth_eq, eIf_eq, eAnd_eq, eOr_eq, eNot_eq, eSl_eq, pNo_eq, pSome_eq, eComp_eq, iVal_eq, iArgs_eq, aNil_eq, aCons_eq, tVal_eq, tAnd_eq, tOr_eq, tNot_eq, tTru_eq, truth_bl, truth_non, get_0, get_S, Option.join_some, ofO_some, Res.bind_ok, Res.thn_ok, SR.bind_nx, SR.bind_ret, SR.res_ret, SR.res_nx, List.set_cons_succ, List.set_cons_zero, if_true, Bool.false_eq_true, if_false, typ_str, gTpl_eq, gsCons_eq, gsNil_eq, gNam_eq, Option.bind_some, Bool.not_true, Bool.not_false, List.replicate, fn_1, fn_2, fn_3, fn_4, oEq_str, oNe_str, oEq_int, oNe_int, oAdd_int, oSub_int, oLt_int, oGt_int, oLe_int, oGe_int, oIsN_eq, oNeg_int, bLen_str, oIn_ch, oNin_ch, S_e, S_0, S_9, S_mi, S_po, S_zs9, S_num, S_ed, S_text, decide_eq_true, decide_eq_false, beqI_t, beqI_f, szOk_of, List.length_cons, List.length_nil, Nat.reduceAdd, forL_cons, forL_nil, p1, p2]
    | true =>
      rw [z2] at p2
      simp (disch := omega) only [sSeq_eq, sSet_eq, sIf_eq, sRet_eq, sNop_eq, sExpr_eq, sAsg_eq, sAug_eq, sFor_eq, sRaise_eq, eBin_eq, eUn_eq, eVar_eq, eC_eq, eTup_eq, eLst_eq, eCall_eq, eCallB_eq, eMth_eq, eIf_eq, eAnd_eq, eOr_eq, eNot_eq, eSl_eq, pNo_eq, pSome_eq, eComp_eq, iVal_eq, iArgs_eq, aNil_eq, aCons_eq, tVal_eq, tAnd_eq, tOr_eq, tNot_eq, tTru_eq, truth_bl, truth_non, get_0, get_S, Option.join_some, ofO_some, Res.bind_ok, Res.thn_ok, SR.bind_nx, SR.bind_ret, SR.res_ret, SR.res_nx, List.set_cons_succ, List.set_cons_zero, if_true, Bool.false_eq_true, if_false, typ_str, gTpl_eq, gsCons_eq, gsNil_eq, gNam_eq, Option.bind_some, Bool.not_true, Bool.not_false, List.replicate, fn_1, fn_2, fn_3, fn_4, oEq_str, oNe_str, oEq_int, oNe_int, oAdd_int, oSub_int, oLt_int, oGt_int, oLe_int, oGe_int, oIsN_eq, oNeg_int, bLen_str, oIn_ch, oNin_ch, S_e, S_0, S_9, S_mi, S_po, S_zs9, S_num, S_ed, S_text, decide_eq_true, decide_eq_false, beqI_t, beqI_f, szOk_of, List.length_cons, List.length_nil, Nat.reduceAdd, forL_cons, forL_nil, p1, p2]
theorem T2_ok {V : List Val} {t : List Nat} {b c : Val} (hb : flatOk b) (hc : flatOk c) (i0 : ∀ h, oIdx h (.tup V) (.int 0) = some (.str t)) (q1 : (t == [116, 101, 120, 116]) = false) (s2 : ∀ h, oSl h (.tup V) (some 2) (some 4) = some (.tup [b, c], h)) (w1 w2 : Option Val) (h : Hep) :
    T_v_law_is_picture_2 [some (.tup V), w1, w2] h = if intIn b 0 18 = true then (if intIn c 0 18 = true then (sSeq sgnI tryT) [some (.tup V), w1, some c] h else .ret (.bl false) h) else .ret (.bl false) h := by
  have lp := loop2 hb hc (some (.tup V)) w1 w2 h
  rw [T2_eq]
  generalize (sSeq sgnI tryT) = TT
  have f1 : sFor (iVal (eSl (eVar 0) (pSome (eC (.int 2))) (pSome (eC (.int 4))))) (gNam 2) L_v_law_is_picture_1 [some (.tup V), w1, w2] h = forL (gNam 2) (fun _ => true) L_v_law_is_picture_1 [b, c] [some (.tup V), w1, w2] h := by
    simp (disch := omega) only [sSeq_eq, sSet_eq, sIf_eq, sRet_eq, sNop_eq, sExpr_eq, sAsg_eq, sAug_eq, sFor_eq, sRaise_eq, eBin_eq, eUn_eq, eVar_eq, eC_eq, eTup_eq, eLst_eq, eCall_eq, eCallB_eq, eMth_eq, eIf_eq, eAnd_eq, eOr_eq, eNot_eq, eSl_eq, pNo_eq, pSome_eq, eComp_eq, iVal_eq, iArgs_eq, aNil_eq, aCons_eq, tVal_eq, tAnd_eq, tOr_eq, tNot_eq, tTru_eq, truth_bl, truth_non, get_0, get_S, Option.join_some, ofO_some, Res.bind_ok, Res.thn_ok, SR.bind_nx, SR.bind_ret, SR.res_ret, SR.res_nx, List.set_cons_succ, List.set_cons_zero, if_true, Bool.false_eq_true, if_false, typ_str, gTpl_eq, gsCons_eq, gsNil_eq, gNam_eq, Option.bind_some, Bool.not_true, Bool.not_false, List.replicate, fn_1, fn_2, fn_3, fn_4, oEq_str, oNe_str, oEq_int, oNe_int, oAdd_int, oSub_int, oLt_int, oGt_int, oLe_int, oGe_int, oIsN_eq, oNeg_int, bLen_str, oIn_ch, oNin_ch, S_e, S_0, S_9, S_mi, S_po, S_zs9, S_num, S_ed, S_text, decide_eq_true, decide_eq_false, beqI_t, beqI_f, szOk_of, List.length_cons, List.length_nil, Nat.reduceAdd, s2, items_tup]
  rw [sSeq_eq, f1, lp]
  cases z1 : intIn b 0 18 with
  | false => simp (disch := omega) only [sSeq_eq, sSet_eq, sIf_eq, sRet_eq, sNop_eq, sExpr_eq, sAsg_eq, sAug_eq, sFor_eq, sRaise_eq, eBin_eq, eUn_eq, eVar_eq, eC_eq, eTup_eq, eLst_eq, eCall_eq, eCallB_eq, eMth_eq, eIf_eq, eAnd_eq, eOr_eq, eNot_eq, eSl_eq, pNo_eq, pSome_eq, eComp_eq, iVal_eq, iArgs_eq, aNil_eq, aCons_eq, tVal_eq, tAnd_eq, tOr_eq, tNot_eq, tTru_eq, truth_bl, truth_non, get_0, get_S, Option.join_some, ofO_some, Res.bind_ok, Res.thn_ok, SR.bind_nx, SR.bind_ret, SR.res_ret, SR.res_nx, List.set_cons_succ, List.set_cons_zero, if_true, Bool.false_eq_true, if_false, typ_str, gTpl_eq, gsCons_eq, gsNil_eq, gNam_eq, Option.bind_some, Bool.not_true, Bool.not_false, List.replicate, fn_1, fn_2, fn_3, fn_4, oEq_str, oNe_str, oEq_int, oNe_int, oAdd_int, oSub_int, oLt_int, oGt_int, oLe_int, oGe_int, oIsN_eq, oNeg_int, bLen_str, oIn_ch, oNin_ch, S_e, S_0, S_9, S_mi, S_po, S_zs9, S_num, S_ed, S_text, decide_eq_true, decide_eq_false, beqI_t, beqI_f, szOk_of, List.length_cons, List.length_nil, Nat.reduceAdd]
  | true =>
    cases z2 : intIn c 0 18 with
    | false => simp (disch := omega) only [sSeq_eq, sSet_eq, sIf_eq, sRet_eq, sNop_eq, sExpr_eq, sAsg_eq, sAug_eq, sFor_eq, sRaise_eq, eBin_eq, eUn_eq, eVar_eq, eC_eq, eTup_eq, eLst_eq, eCall_eq, eCallB_eq, eMth_eq, eIf_eq, eAnd_eq, eOr_eq, eNot_eq, eSl_eq, pNo_eq, pSome_eq, eComp_eq, iVal_eq, iArgs_eq, aNil_eq, aCons_eq, tVal_eq, tAnd_eq, tOr_eq, tNot_eq, tTru_eq, truth_bl, truth_non, get_0, get_S, Option.join_some, ofO_some, Res.bind_ok, Res.thn_ok, SR.bind_nx, SR.bind_ret, SR.res_ret, SR.res_nx, List.set_cons_succ, List.set_cons_zero, if_true, Bool.false_eq_true, if_false, typ_str, gTpl_eq, gsCons_eq, gsNil_eq, gNam_eq, Option.bind_some, Bool.not_true, Bool.not_false, List.replicate, fn_1, fn_2, fn_3, fn_4, oEq_str, oNe_str, oEq_int, oNe_int, oAdd_int, oSub_int, oLt_int, oGt_int, oLe_int, oGe_int, oIsN_eq, oNeg_int, bLen_str, oIn_ch, oNin_ch, S_e, S_0, S_9, S_mi, S_po, S_zs9, S_num, S_ed, S_text, decide_eq_true, decide_eq_false, beqI_t, beqI_f, szOk_of, List.length_cons, List.length_nil, Nat.reduceAdd]
    | true => simp (disch := omega) only [sSeq_eq, sSet_eq, sIf_eq, sRet_eq, sNop_eq, sExpr_eq, sAsg_eq, sAug_eq, sFor_eq, sRaise_eq, eBin_eq, eUn_eq, eVar_eq, eC_eq, eTup_eq, eLst_eq, eCall_eq, eCallB_eq, eMth_eq, eIf_eq, eAnd_eq, eOr_eq, eNot_eq, eSl_eq, pNo_eq, pSome_eq, eComp_eq, iVal_eq, iArgs_eq, aNil_eq, aCons_eq, tVal_eq, tAnd_eq, tOr_eq, tNot_eq, tTru_eq, truth_bl, truth_non, get_0, get_S, Option.join_some, ofO_some, Res.bind_ok, Res.thn_ok, SR.bind_nx, SR.bind_ret, SR.res_ret, SR.res_nx, List.set_cons_succ, List.set_cons_zero, if_true, Bool.false_eq_true, if_false, typ_str, gTpl_eq, gsCons_eq, gsNil_eq, gNam_eq, Option.bind_some, Bool.not_true, Bool.not_false, List.replicate, fn_1, fn_2, fn_3, fn_4, oEq_str, oNe_str, oEq_int, oNe_int, oAdd_int, oSub_int, oLt_int, oGt_int, oLe_int, oGe_int, oIsN_eq, oNeg_int, bLen_str, oIn_ch, oNin_ch, S_e, S_0, S_9, S_mi, S_po, S_zs9, S_num, S_ed, S_text, decide_eq_true, decide_eq_false, beqI_t, beqI_f, szOk_of, List.length_cons, List.length_nil, Nat.reduceAdd, i0, q1]
theorem law_is_pic_tup {x : Val} {l : List Val} (hf : ∀ y ∈ x :: l, flatOk y) (hs : ∀ y ∈ x :: l, shortV y) (ll : l.length ≤ 100) (h : Hep) : ∃ h', Ke h h' ∧ M_v_law_is_picture [.tup (x :: l)] h = .ok (.bl (lawPB (x :: l))) h' := by
  have ty : ∀ h, typ h (.tup (x :: l)) = some "tuple" := fun h => typ_tup h _
  have i0 : ∀ h, oIdx h (.tup (x :: l)) (.int 0) = some x := fun h => by rw [oIdx_tup, atI_zero]
  have ix := isi_str (hf x List.mem_cons_self) h
  have ln : ∀ h, bLen [.tup (x :: l)] h = some (.int ((l.length + 1 : Nat) : Int), h) := fun h => by rw [bLen_tup]; rfl
  by_cases l0 : l = []
  · subst l0
    refine ⟨h, (Ext.refl h).ke, ?_⟩
    simp only [List.length_nil] at ln
    simp (disch := omega) only [sSeq_eq, sSet_eq, sIf_eq, sRet_eq, sNop_eq, sExpr_eq, sAsg_eq, sAug_eq, sFor_eq, sRaise_eq, eBin_eq, eUn_eq, eVar_eq, eC_eq, eTup_eq, eLst_eq, eCall_eq, eCallB_eq, eMth_eq, eIf_eq, eAnd_eq, eOr_eq, eNot_eq, eSl_eq, pNo_eq, pSome_eq, eComp_eq, iVal_eq, iArgs_eq, aNil_eq, aCons_eq, tVal_eq, tAnd_eq, tOr_eq, tNot_eq, tTru_eq, truth_bl, truth_non, get_0, get_S, Option.join_some, ofO_some, Res.bind_ok, Res.thn_ok, SR.bind_nx, SR.bind_ret, SR.res_ret, SR.res_nx, List.set_cons_succ, List.set_cons_zero, if_true, Bool.false_eq_true, if_false, typ_str, gTpl_eq, gsCons_eq, gsNil_eq, gNam_eq, Option.bind_some, Bool.not_true, Bool.not_false, List.replicate, fn_1, fn_2, fn_3, fn_4, oEq_str, oNe_str, oEq_int, oNe_int, oAdd_int, oSub_int, oLt_int, oGt_int, oLe_int, oGe_int, oIsN_eq, oNeg_int, bLen_str, oIn_ch, oNin_ch, S_e, S_0, S_9, S_mi, S_po, S_zs9, S_num, S_ed, S_text, decide_eq_true, decide_eq_false, beqI_t, beqI_f, szOk_of, List.length_cons, List.length_nil, Nat.reduceAdd, M_v_law_is_picture, B_v_law_is_picture, oIsi_eq "tuple", ty, Option.map_some, t_tt, ln]
    cases x with
    | str t =>
      show Res.ok (Val.bl false) h = Res.ok (Val.bl (if (t == [116, 101, 120, 116]) = true then false else if (t == [110, 117, 109, 98, 101, 114]) = true then false else if (t == [101, 100, 105, 116, 101, 100]) = true then false else false)) h
      simp
    | _ => rfl
  have l1 : 1 ≤ l.length := List.length_pos_iff.mpr l0
  cases zx : strB x with
  | false =>
    rw [zx] at ix
    refine ⟨h, (Ext.refl h).ke, ?_⟩
    simp (disch := omega) only [sSeq_eq, sSet_eq, sIf_eq, sRet_eq, sNop_eq, sExpr_eq, sAsg_eq, sAug_eq, sFor_eq, sRaise_eq, eBin_eq, eUn_eq, eVar_eq, eC_eq, eTup_eq, eLst_eq, eCall_eq, eCallB_eq, eMth_eq, eIf_eq, eAnd_eq, eOr_eq, eNot_eq, eSl_eq, pNo_eq, pSome_eq, eComp_eq, iVal_eq, iArgs_eq, aNil_eq, aCons_eq, tVal_eq, tAnd_eq, tOr_eq, tNot_eq, tTru_eq, truth_bl, truth_non, get_0, get_S, Option.join_some, ofO_some, Res.bind_ok, Res.thn_ok, SR.bind_nx, SR.bind_ret, SR.res_ret, SR.res_nx, List.set_cons_succ, List.set_cons_zero, if_true, Bool.false_eq_true, if_false, typ_str, gTpl_eq, gsCons_eq, gsNil_eq, gNam_eq, Option.bind_some, Bool.not_true, Bool.not_false, List.replicate, fn_1, fn_2, fn_3, fn_4, oEq_str, oNe_str, oEq_int, oNe_int, oAdd_int, oSub_int, oLt_int, oGt_int, oLe_int, oGe_int, oIsN_eq, oNeg_int, bLen_str, oIn_ch, oNin_ch, S_e, S_0, S_9, S_mi, S_po, S_zs9, S_num, S_ed, S_text, decide_eq_true, decide_eq_false, beqI_t, beqI_f, szOk_of, List.length_cons, List.length_nil, Nat.reduceAdd, M_v_law_is_picture, B_v_law_is_picture, oIsi_eq "tuple", ty, Option.map_some, t_tt, ln, i0, ix]
    cases x <;> first | rfl | cases zx
  | true =>
    rw [zx] at ix
    cases x with
    | str t =>
      have ht : chOk t := hf _ List.mem_cons_self
      let h1 : Hep := h ++ [.lst sizesV]
      have x1 : Ext h h1 := Ext.one h _
      have nz := nin_sizes (h := h1) (get_new h (.lst sizesV)) t ht ((l.length + 1 : Nat) : Int)
      have e1 : sSet 1 (eLst (aCons (eTup (aCons (eC (.str (S "text"))) (aCons (eC (.int 2)) aNil))) (aCons (eTup (aCons (eC (.str (S "number"))) (aCons (eC (.int 4)) aNil))) (aCons (eTup (aCons (eC (.str (S "edited"))) (aCons (eC (.int 5)) aNil))) aNil)))) [some (.tup (.str t :: l)), none, none] h = .nx [some (.tup (.str t :: l)), some (.ref h.length), none] h1 := by
        simp (disch := omega) only [sSeq_eq, sSet_eq, sIf_eq, sRet_eq, sNop_eq, sExpr_eq, sAsg_eq, sAug_eq, sFor_eq, sRaise_eq, eBin_eq, eUn_eq, eVar_eq, eC_eq, eTup_eq, eLst_eq, eCall_eq, eCallB_eq, eMth_eq, eIf_eq, eAnd_eq, eOr_eq, eNot_eq, eSl_eq, pNo_eq, pSome_eq, eComp_eq, iVal_eq, iArgs_eq, aNil_eq, aCons_eq, tVal_eq, tAnd_eq, tOr_eq, tNot_eq, tTru_eq, truth_bl, truth_non, get_0, get_S, Option.join_some, ofO_some, Res.bind_ok, Res.thn_ok, SR.bind_nx, SR.bind_ret, SR.res_ret, SR.res_nx, List.set_cons_succ, List.set_cons_zero, if_true, Bool.false_eq_true, if_false, typ_str, gTpl_eq, gsCons_eq, gsNil_eq, gNam_eq, Option.bind_some, Bool.not_true, Bool.not_false, List.replicate, fn_1, fn_2, fn_3, fn_4, oEq_str, oNe_str, oEq_int, oNe_int, oAdd_int, oSub_int, oLt_int, oGt_int, oLe_int, oGe_int, oIsN_eq, oNeg_int, bLen_str, oIn_ch, oNin_ch, S_e, S_0, S_9, S_mi, S_po, S_zs9, S_num, S_ed, S_text, decide_eq_true, decide_eq_false, beqI_t, beqI_f, szOk_of, List.length_cons, List.length_nil, Nat.reduceAdd]
        rfl
      have pre : ∀ R : Res Val, (if szHit t ((l.length + 1 : Nat) : Int) = true then (T_v_law_is_picture_6 [some (.tup (.str t :: l)), some (.ref h.length), none] h1).res else Res.ok (.bl false) h1) = R → M_v_law_is_picture [.tup (.str t :: l)] h = R := fun R q => by
        rw [← q]
        show SR.res (B_v_law_is_picture [some (.tup (.str t :: l)), none, none] h) = _
        unfold B_v_law_is_picture
        rw [sSeq_eq]
        have e0 : sIf (tOr (tNot (tTru (eUn (oIsi "tuple") (eVar 0)))) (tOr (tVal (eBin oLt (eCallB bLen (aCons (eVar 0) aNil)) (eC (.int 2)))) (tNot (tTru (eUn (oIsi "str") (eBin oIdx (eVar 0) (eC (.int 0)))))))) (sRet (eC (.bl false))) sNop [some (.tup (.str t :: l)), none, none] h = .nx [some (.tup (.str t :: l)), none, none] h := by
          simp (disch := omega) only [sSeq_eq, sSet_eq, sIf_eq, sRet_eq, sNop_eq, sExpr_eq, sAsg_eq, sAug_eq, sFor_eq, sRaise_eq, eBin_eq, eUn_eq, eVar_eq, eC_eq, eTup_eq, eLst_eq, eCall_eq, eCallB_eq, eMth_eq, eIf_eq, eAnd_eq, eOr_eq, eNot_eq, eSl_eq, pNo_eq, pSome_eq, eComp_eq, iVal_eq, iArgs_eq, aNil_eq, aCons_eq, tVal_eq, tAnd_eq, tOr_eq, tNot_eq, tTru_eq, truth_bl, truth_non, get_0, get_S, Option.join_some, ofO_some, Res.bind_ok, Res.thn_ok, SR.bind_nx, SR.bind_ret, SR.res_ret, SR.res_nx, List.set_cons_succ, List.set_cons_zero, if_true, Bool.false_eq_true, if_false, typ_str, gTpl_eq, gsCons_eq, gsNil_eq, gNam_eq, Option.bind_some, Bool.not_true, Bool.not_false, List.replicate, fn_1, fn_2, fn_3, fn_4, oEq_str, oNe_str, oEq_int, oNe_int, oAdd_int, oSub_int, oLt_int, oGt_int, oLe_int, oGe_int, oIsN_eq, oNeg_int, bLen_str, oIn_ch, oNin_ch, S_e, S_0, S_9, S_mi, S_po, S_zs9, S_num, S_ed, S_text, decide_eq_true, decide_eq_false, beqI_t, beqI_f, szOk_of, List.length_cons, List.length_nil, Nat.reduceAdd, oIsi_eq "tuple", ty, Option.map_some, t_tt, ln, i0, ix]
        rw [e0, SR.bind_nx]
        unfold T_v_law_is_picture_7
        rw [sSeq_eq, e1, SR.bind_nx]
        cases z : szHit t ((l.length + 1 : Nat) : Int) with
        | false =>
          rw [z] at nz
          simp (disch := omega) only [sSeq_eq, sSet_eq, sIf_eq, sRet_eq, sNop_eq, sExpr_eq, sAsg_eq, sAug_eq, sFor_eq, sRaise_eq, eBin_eq, eUn_eq, eVar_eq, eC_eq, eTup_eq, eLst_eq, eCall_eq, eCallB_eq, eMth_eq, eIf_eq, eAnd_eq, eOr_eq, eNot_eq, eSl_eq, pNo_eq, pSome_eq, eComp_eq, iVal_eq, iArgs_eq, aNil_eq, aCons_eq, tVal_eq, tAnd_eq, tOr_eq, tNot_eq, tTru_eq, truth_bl, truth_non, get_0, get_S, Option.join_some, ofO_some, Res.bind_ok, Res.thn_ok, SR.bind_nx, SR.bind_ret, SR.res_ret, SR.res_nx, List.set_cons_succ, List.set_cons_zero, if_true, Bool.false_eq_true, if_false, typ_str, gTpl_eq, gsCons_eq, gsNil_eq, gNam_eq, Option.bind_some, Bool.not_true, Bool.not_false, List.replicate, fn_1, fn_2, fn_3, fn_4, oEq_str, oNe_str, oEq_int, oNe_int, oAdd_int, oSub_int, oLt_int, oGt_int, oLe_int, oGe_int, oIsN_eq, oNeg_int, bLen_str, oIn_ch, oNin_ch, S_e, S_0, S_9, S_mi, S_po, S_zs9, S_num, S_ed, S_text, decide_eq_true, decide_eq_false, beqI_t, beqI_f, szOk_of, List.length_cons, List.length_nil, Nat.reduceAdd, i0, ln, nz]
        | true =>
          rw [z] at nz
          simp (disch := omega) only [sSeq_eq, sSet_eq, sIf_eq, sRet_eq, sNop_eq, sExpr_eq, sAsg_eq, sAug_eq, sFor_eq, sRaise_eq, eBin_eq, eUn_eq, eVar_eq, eC_eq, eTup_eq, eLst_eq, eCall_eq, eCallB_eq, eMth_eq, eIf_eq, eAnd_eq, eOr_eq, eNot_eq, eSl_eq, pNo_eq, pSome_eq, eComp_eq, iVal_eq, iArgs_eq, aNil_eq, aCons_eq, tVal_eq, tAnd_eq, tOr_eq, tNot_eq, tTru_eq, truth_bl, truth_non, get_0, get_S, Option.join_some, ofO_some, Res.bind_ok, Res.thn_ok, SR.bind_nx, SR.bind_ret, SR.res_ret, SR.res_nx, List.set_cons_succ, List.set_cons_zero, if_true, Bool.false_eq_true, if_false, typ_str, gTpl_eq, gsCons_eq, gsNil_eq, gNam_eq, Option.bind_some, Bool.not_true, Bool.not_false, List.replicate, fn_1, fn_2, fn_3, fn_4, oEq_str, oNe_str, oEq_int, oNe_int, oAdd_int, oSub_int, oLt_int, oGt_int, oLe_int, oGe_int, oIsN_eq, oNeg_int, bLen_str, oIn_ch, oNin_ch, S_e, S_0, S_9, S_mi, S_po, S_zs9, S_num, S_ed, S_text, decide_eq_true, decide_eq_false, beqI_t, beqI_f, szOk_of, List.length_cons, List.length_nil, Nat.reduceAdd, i0, ln, nz]
      rw [show lawPB (.str t :: l) = if (t == [116, 101, 120, 116]) = true then txOk l else if (t == [110, 117, 109, 98, 101, 114]) = true then lnumOk t l else if (t == [101, 100, 105, 116, 101, 100]) = true then ledOk t l else false from rfl]
      generalize h.length = n0 at *
      have c1 : (([116, 101, 120, 116] : List Nat) == t) = (t == [116, 101, 120, 116]) := BEq.comm
      have c2 : (([110, 117, 109, 98, 101, 114] : List Nat) == t) = (t == [110, 117, 109, 98, 101, 114]) := BEq.comm
      have c3 : (([101, 100, 105, 116, 101, 100] : List Nat) == t) = (t == [101, 100, 105, 116, 101, 100]) := BEq.comm
      unfold szHit at pre
      rw [c1, c2, c3] at pre
      cases q1 : (t == [116, 101, 120, 116]) with
      | true =>
        have et : t = [116, 101, 120, 116] := by simpa using q1
        have q2 : (t == [110, 117, 109, 98, 101, 114]) = false := by rw [et]; decide
        have q3 : (t == [101, 100, 105, 116, 101, 100]) = false := by rw [et]; decide
        rw [q1, q2, q3] at pre
        by_cases len : l.length = 1
        · obtain ⟨y, rfl⟩ := List.length_eq_one_iff.mp len
          have z : (true && (2 : Int) == (([y].length + 1 : Nat) : Int) || false && (4 : Int) == (([y].length + 1 : Nat) : Int) || false && (5 : Int) == (([y].length + 1 : Nat) : Int)) = true := by rfl
          rw [z] at pre
          have hy := hf y (by simp)
          have i1 : ∀ h, oIdx h (.tup [.str t, y]) (.int 1) = some y := fun h => by rw [oIdx_tup, atI_one]
          have b1 := isi_in hy h1
          have b2 := isi_bl hy h1
          have s1 : oSl h1 (.tup [.str t, y]) (some 1) none = some (.tup [y], h1) := rfl
          have s2 : oSl h1 (.tup [.str t, y]) (some 2) (some 4) = some (.tup [], h1) := rfl
          refine ⟨h1, x1.ke, pre _ ?_⟩
          rw [if_pos rfl, if_pos rfl, txOk_eq]
          have lp : L_v_law_is_picture_5 [some (.tup [.str t, y]), some (.ref n0), some y] h1 = if (inB y && !blB y) = true then .nx [some (.tup [.str t, y]), some (.ref n0), some y] h1 else .ret (.bl false) h1 := by
            cases z1 : inB y with
            | false =>
              rw [z1] at b1
              simp (disch := omega) only [sSeq_eq, sSet_eq, sIf_eq, sRet_eq, sNop_eq, sExpr_eq, sAsg_eq, sAug_eq, sFor_eq, sRaise_eq, eBin_eq, eUn_eq, eVar_eq, eC_eq, eTup_eq, eLst_eq, eCall_eq, eCallB_eq, eMth_eq, eIf_eq, eAnd_eq, eOr_eq, eNot_eq, eSl_eq, pNo_eq, pSome_eq, eComp_eq, iVal_eq, iArgs_eq, aNil_eq, aCons_eq, tVal_eq, tAnd_eq, tOr_eq, tNot_eq, tTru_eq, truth_bl, truth_non, get_0, get_S, Option.join_some, ofO_some, Res.bind_ok, Res.thn_ok, SR.bind_nx, SR.bind_ret, SR.res_ret, SR.res_nx, List.set_cons_succ, List.set_cons_zero, if_true, Bool.false_eq_true, if_false, typ_str, gTpl_eq, gsCons_eq, gsNil_eq, gNam_eq, Option.bind_some, Bool.not_true, Bool.not_false, List.replicate, fn_1, fn_2, fn_3, fn_4, oEq_str, oNe_str, oEq_int, oNe_int, oAdd_int, oSub_int, oLt_int, oGt_int, oLe_int, oGe_int, oIsN_eq, oNeg_int, bLen_str, oIn_ch, oNin_ch, S_e, S_0, S_9, S_mi, S_po, S_zs9, S_num, S_ed, S_text, decide_eq_true, decide_eq_false, beqI_t, beqI_f, szOk_of, List.length_cons, List.length_nil, Nat.reduceAdd, L_v_law_is_picture_5, i0, q1, b1]
              rfl
            | true =>
              rw [z1] at b1
              cases z2 : blB y with
              | true =>
                rw [z2] at b2
                simp (disch := omega) only [sSeq_eq, sSet_eq, sIf_eq, sRet_eq, sNop_eq, sExpr_eq, sAsg_eq, sAug_eq, sFor_eq, sRaise_eq, eBin_eq, eUn_eq, eVar_eq, eC_eq, eTup_eq, eLst_eq, eCall_eq, eCallB_eq, eMth_eq, eIf_eq, eAnd_eq, eOr_eq, eNot_eq, eSl_eq, pNo_eq, pSome_eq, eComp_eq, iVal_eq, iArgs_eq, aNil_eq, aCons_eq, tVal_eq, tAnd_eq, tOr_eq, tNot_eq, tTru_eq, truth_bl, truth_non, get_0, get_S, Option.join_some, ofO_some, Res.bind_ok, Res.thn_ok, SR.bind_nx, SR.bind_ret, SR.res_ret, SR.res_nx, List.set_cons_succ, List.set_cons_zero, if_true, Bool.false_eq_true, if_false, typ_str, gTpl_eq, gsCons_eq, gsNil_eq, gNam_eq, Option.bind_some, Bool.not_true, Bool.not_false, List.replicate, fn_1, fn_2, fn_3, fn_4, oEq_str, oNe_str, oEq_int, oNe_int, oAdd_int, oSub_int, oLt_int, oGt_int, oLe_int, oGe_int, oIsN_eq, oNeg_int, bLen_str, oIn_ch, oNin_ch, S_e, S_0, S_9, S_mi, S_po, S_zs9, S_num, S_ed, S_text, decide_eq_true, decide_eq_false, beqI_t, beqI_f, szOk_of, List.length_cons, List.length_nil, Nat.reduceAdd, L_v_law_is_picture_5, i0, q1, b1, b2]
                rfl
              | false =>
                rw [z2] at b2
                simp (disch := omega) only [sSeq_eq, sSet_eq, sIf_eq, sRet_eq, sNop_eq, sExpr_eq, sAsg_eq, sAug_eq, sFor_eq, sRaise_eq, eBin_eq, eUn_eq, eVar_eq, eC_eq, eTup_eq, eLst_eq, eCall_eq, eCallB_eq, eMth_eq, eIf_eq, eAnd_eq, eOr_eq, eNot_eq, eSl_eq, pNo_eq, pSome_eq, eComp_eq, iVal_eq, iArgs_eq, aNil_eq, aCons_eq, tVal_eq, tAnd_eq, tOr_eq, tNot_eq, tTru_eq, truth_bl, truth_non, get_0, get_S, Option.join_some, ofO_some, Res.bind_ok, Res.thn_ok, SR.bind_nx, SR.bind_ret, SR.res_ret, SR.res_nx, List.set_cons_succ, List.set_cons_zero, if_true, Bool.false_eq_true, if_false, typ_str, gTpl_eq, gsCons_eq, gsNil_eq, gNam_eq, Option.bind_some, Bool.not_true, Bool.not_false, List.replicate, fn_1, fn_2, fn_3, fn_4, oEq_str, oNe_str, oEq_int, oNe_int, oAdd_int, oSub_int, oLt_int, oGt_int, oLe_int, oGe_int, oIsN_eq, oNeg_int, bLen_str, oIn_ch, oNin_ch, S_e, S_0, S_9, S_mi, S_po, S_zs9, S_num, S_ed, S_text, decide_eq_true, decide_eq_false, beqI_t, beqI_f, szOk_of, List.length_cons, List.length_nil, Nat.reduceAdd, L_v_law_is_picture_5, i0, q1, b1, b2]
                rfl
          cases y with
          | int i =>
            rw [if_pos (show (inB (.int i) && !blB (.int i)) = true from rfl)] at lp
            simp (disch := omega) only [sSeq_eq, sSet_eq, sIf_eq, sRet_eq, sNop_eq, sExpr_eq, sAsg_eq, sAug_eq, sFor_eq, sRaise_eq, eBin_eq, eUn_eq, eVar_eq, eC_eq, eTup_eq, eLst_eq, eCall_eq, eCallB_eq, eMth_eq, eIf_eq, eAnd_eq, eOr_eq, eNot_eq, eSl_eq, pNo_eq, pSome_eq, eComp_eq, iVal_eq, iArgs_eq, aNil_eq, aCons_eq, tVal_eq, tAnd_eq, tOr_eq, tNot_eq, tTru_eq, truth_bl, truth_non, get_0, get_S, Option.join_some, ofO_some, Res.bind_ok, Res.thn_ok, SR.bind_nx, SR.bind_ret, SR.res_ret, SR.res_nx, List.set_cons_succ, List.set_cons_zero, if_true, Bool.false_eq_true, if_false, typ_str, gTpl_eq, gsCons_eq, gsNil_eq, gNam_eq, Option.bind_some, Bool.not_true, Bool.not_false, List.replicate, fn_1, fn_2, fn_3, fn_4, oEq_str, oNe_str, oEq_int, oNe_int, oAdd_int, oSub_int, oLt_int, oGt_int, oLe_int, oGe_int, oIsN_eq, oNeg_int, bLen_str, oIn_ch, oNin_ch, S_e, S_0, S_9, S_mi, S_po, S_zs9, S_num, S_ed, S_text, decide_eq_true, decide_eq_false, beqI_t, beqI_f, szOk_of, List.length_cons, List.length_nil, Nat.reduceAdd, T_v_law_is_picture_6, s1, items_tup, forL_cons, forL_nil, lp, T_v_law_is_picture_4, i0, q1, q2, T_v_law_is_picture_3, q3, T_v_law_is_picture_2, s2, i1]
            show _ = Res.ok (Val.bl (decide (1 ≤ i) && decide (i ≤ 80))) h1
            unfold eChain
            by_cases g : 1 ≤ i
            · simp (disch := omega) only [sSeq_eq, sSet_eq, sIf_eq, sRet_eq, sNop_eq, sExpr_eq, sAsg_eq, sAug_eq, sFor_eq, sRaise_eq, eBin_eq, eUn_eq, eVar_eq, eC_eq, eTup_eq, eLst_eq, eCall_eq, eCallB_eq, eMth_eq, eIf_eq, eAnd_eq, eOr_eq, eNot_eq, eSl_eq, pNo_eq, pSome_eq, eComp_eq, iVal_eq, iArgs_eq, aNil_eq, aCons_eq, tVal_eq, tAnd_eq, tOr_eq, tNot_eq, tTru_eq, truth_bl, truth_non, get_0, get_S, Option.join_some, ofO_some, Res.bind_ok, Res.thn_ok, SR.bind_nx, SR.bind_ret, SR.res_ret, SR.res_nx, List.set_cons_succ, List.set_cons_zero, if_true, Bool.false_eq_true, if_false, typ_str, gTpl_eq, gsCons_eq, gsNil_eq, gNam_eq, Option.bind_some, Bool.not_true, Bool.not_false, List.replicate, fn_1, fn_2, fn_3, fn_4, oEq_str, oNe_str, oEq_int, oNe_int, oAdd_int, oSub_int, oLt_int, oGt_int, oLe_int, oGe_int, oIsN_eq, oNeg_int, bLen_str, oIn_ch, oNin_ch, S_e, S_0, S_9, S_mi, S_po, S_zs9, S_num, S_ed, S_text, decide_eq_true, decide_eq_false, beqI_t, beqI_f, szOk_of, List.length_cons, List.length_nil, Nat.reduceAdd, i1, decide_eq_true g, Bool.true_and]
            · simp (disch := omega) only [sSeq_eq, sSet_eq, sIf_eq, sRet_eq, sNop_eq, sExpr_eq, sAsg_eq, sAug_eq, sFor_eq, sRaise_eq, eBin_eq, eUn_eq, eVar_eq, eC_eq, eTup_eq, eLst_eq, eCall_eq, eCallB_eq, eMth_eq, eIf_eq, eAnd_eq, eOr_eq, eNot_eq, eSl_eq, pNo_eq, pSome_eq, eComp_eq, iVal_eq, iArgs_eq, aNil_eq, aCons_eq, tVal_eq, tAnd_eq, tOr_eq, tNot_eq, tTru_eq, truth_bl, truth_non, get_0, get_S, Option.join_some, ofO_some, Res.bind_ok, Res.thn_ok, SR.bind_nx, SR.bind_ret, SR.res_ret, SR.res_nx, List.set_cons_succ, List.set_cons_zero, if_true, Bool.false_eq_true, if_false, typ_str, gTpl_eq, gsCons_eq, gsNil_eq, gNam_eq, Option.bind_some, Bool.not_true, Bool.not_false, List.replicate, fn_1, fn_2, fn_3, fn_4, oEq_str, oNe_str, oEq_int, oNe_int, oAdd_int, oSub_int, oLt_int, oGt_int, oLe_int, oGe_int, oIsN_eq, oNeg_int, bLen_str, oIn_ch, oNin_ch, S_e, S_0, S_9, S_mi, S_po, S_zs9, S_num, S_ed, S_text, decide_eq_true, decide_eq_false, beqI_t, beqI_f, szOk_of, List.length_cons, List.length_nil, Nat.reduceAdd, i1, decide_eq_false g, Bool.false_and]
          | non => rw [if_neg (show ¬ (inB .non && !blB .non) = true by decide)] at lp; simp (disch := omega) only [sSeq_eq, sSet_eq, sIf_eq, sRet_eq, sNop_eq, sExpr_eq, sAsg_eq, sAug_eq, sFor_eq, sRaise_eq, eBin_eq, eUn_eq, eVar_eq, eC_eq, eTup_eq, eLst_eq, eCall_eq, eCallB_eq, eMth_eq, eIf_eq, eAnd_eq, eOr_eq, eNot_eq, eSl_eq, pNo_eq, pSome_eq, eComp_eq, iVal_eq, iArgs_eq, aNil_eq, aCons_eq, tVal_eq, tAnd_eq, tOr_eq, tNot_eq, tTru_eq, truth_bl, truth_non, get_0, get_S, Option.join_some, ofO_some, Res.bind_ok, Res.thn_ok, SR.bind_nx, SR.bind_ret, SR.res_ret, SR.res_nx, List.set_cons_succ, List.set_cons_zero, if_true, Bool.false_eq_true, if_false, typ_str, gTpl_eq, gsCons_eq, gsNil_eq, gNam_eq, Option.bind_some, Bool.not_true, Bool.not_false, List.replicate, fn_1, fn_2, fn_3, fn_4, oEq_str, oNe_str, oEq_int, oNe_int, oAdd_int, oSub_int, oLt_int, oGt_int, oLe_int, oGe_int, oIsN_eq, oNeg_int, bLen_str, oIn_ch, oNin_ch, S_e, S_0, S_9, S_mi, S_po, S_zs9, S_num, S_ed, S_text, decide_eq_true, decide_eq_false, beqI_t, beqI_f, szOk_of, List.length_cons, List.length_nil, Nat.reduceAdd, T_v_law_is_picture_6, s1, items_tup, forL_cons, forL_nil, lp]; rfl
          | bl b => rw [if_neg (show ¬ (inB (.bl b) && !blB (.bl b)) = true from fun z => by cases z)] at lp; simp (disch := omega) only [sSeq_eq, sSet_eq, sIf_eq, sRet_eq, sNop_eq, sExpr_eq, sAsg_eq, sAug_eq, sFor_eq, sRaise_eq, eBin_eq, eUn_eq, eVar_eq, eC_eq, eTup_eq, eLst_eq, eCall_eq, eCallB_eq, eMth_eq, eIf_eq, eAnd_eq, eOr_eq, eNot_eq, eSl_eq, pNo_eq, pSome_eq, eComp_eq, iVal_eq, iArgs_eq, aNil_eq, aCons_eq, tVal_eq, tAnd_eq, tOr_eq, tNot_eq, tTru_eq, truth_bl, truth_non, get_0, get_S, Option.join_some, ofO_some, Res.bind_ok, Res.thn_ok, SR.bind_nx, SR.bind_ret, SR.res_ret, SR.res_nx, List.set_cons_succ, List.set_cons_zero, if_true, Bool.false_eq_true, if_false, typ_str, gTpl_eq, gsCons_eq, gsNil_eq, gNam_eq, Option.bind_some, Bool.not_true, Bool.not_false, List.replicate, fn_1, fn_2, fn_3, fn_4, oEq_str, oNe_str, oEq_int, oNe_int, oAdd_int, oSub_int, oLt_int, oGt_int, oLe_int, oGe_int, oIsN_eq, oNeg_int, bLen_str, oIn_ch, oNin_ch, S_e, S_0, S_9, S_mi, S_po, S_zs9, S_num, S_ed, S_text, decide_eq_true, decide_eq_false, beqI_t, beqI_f, szOk_of, List.length_cons, List.length_nil, Nat.reduceAdd, T_v_law_is_picture_6, s1, items_tup, forL_cons, forL_nil, lp]; rfl
          | str s => rw [if_neg (show ¬ (inB (.str s) && !blB (.str s)) = true from fun z => by cases z)] at lp; simp (disch := omega) only [sSeq_eq, sSet_eq, sIf_eq, sRet_eq, sNop_eq, sExpr_eq, sAsg_eq, sAug_eq, sFor_eq, sRaise_eq, eBin_eq, eUn_eq, eVar_eq, eC_eq, eTup_eq, eLst_eq, eCall_eq, eCallB_eq, eMth_eq, eIf_eq, eAnd_eq, eOr_eq, eNot_eq, eSl_eq, pNo_eq, pSome_eq, eComp_eq, iVal_eq, iArgs_eq, aNil_eq, aCons_eq, tVal_eq, tAnd_eq, tOr_eq, tNot_eq, tTru_eq, truth_bl, truth_non, get_0, get_S, Option.join_some, ofO_some, Res.bind_ok, Res.thn_ok, SR.bind_nx, SR.bind_ret, SR.res_ret, SR.res_nx, List.set_cons_succ, List.set_cons_zero, if_true, Bool.false_eq_true, if_false, typ_str, gTpl_eq, gsCons_eq, gsNil_eq, gNam_eq, Option.bind_some, Bool.not_true, Bool.not_false, List.replicate, fn_1, fn_2, fn_3, fn_4, oEq_str, oNe_str, oEq_int, oNe_int, oAdd_int, oSub_int, oLt_int, oGt_int, oLe_int, oGe_int, oIsN_eq, oNeg_int, bLen_str, oIn_ch, oNin_ch, S_e, S_0, S_9, S_mi, S_po, S_zs9, S_num, S_ed, S_text, decide_eq_true, decide_eq_false, beqI_t, beqI_f, szOk_of, List.length_cons, List.length_nil, Nat.reduceAdd, T_v_law_is_picture_6, s1, items_tup, forL_cons, forL_nil, lp]; rfl
          | _ => exact hy.elim
        · have z : (true && (2 : Int) == ((l.length + 1 : Nat) : Int) || false && (4 : Int) == ((l.length + 1 : Nat) : Int) || false && (5 : Int) == ((l.length + 1 : Nat) : Int)) = false := by
            have : ((2 : Int) == ((l.length + 1 : Nat) : Int)) = false := beqI_f (by omega)
            rw [this]; rfl
          rw [z] at pre
          refine ⟨h1, x1.ke, pre _ ?_⟩
          rw [if_neg (by decide), if_pos rfl]
          match l, len with
          | [], _ => rfl
          | [y], len => exact absurd rfl len
          | y :: z :: r, _ => rfl
      | false =>
        cases q2 : (t == [110, 117, 109, 98, 101, 114]) with
        | true =>
          have et : t = [110, 117, 109, 98, 101, 114] := by simpa using q2
          have q3 : (t == [101, 100, 105, 116, 101, 100]) = false := by rw [et]; decide
          rw [q1, q2, q3] at pre
          by_cases len : l.length = 3
          · match l, len, hf, hs, i0, ln, pre with
            | [a, b, c], len, hf, hs, i0, ln, pre =>
            have z : (false && (2 : Int) == (([a, b, c].length + 1 : Nat) : Int) || true && (4 : Int) == (([a, b, c].length + 1 : Nat) : Int) || false && (5 : Int) == (([a, b, c].length + 1 : Nat) : Int)) = true := by rfl
            rw [z] at pre
            have i1 : ∀ h, oIdx h (.tup [.str t, a, b, c]) (.int 1) = some a := fun h => by rw [oIdx_tup, atI_one]
            have s1 : oSl h1 (.tup [.str t, a, b, c]) (some 1) none = some (.tup [a, b, c], h1) := rfl
            have s2 : ∀ h, oSl h (.tup [.str t, a, b, c]) (some 2) (some 4) = some (.tup [b, c], h) := fun h => rfl
            have ha := hf a (by simp)
            have ba := isi_bl ha h1
            have lp : ∀ v : Val, L_v_law_is_picture_5 [some (.tup [.str t, a, b, c]), some (.ref n0), some v] h1 = .nx [some (.tup [.str t, a, b, c]), some (.ref n0), some v] h1 := fun v => by
              simp (disch := omega) only [sSeq_eq, sSet_eq, sIf_eq, sRet_eq, sNop_eq, sExpr_eq, sAsg_eq, sAug_eq, sFor_eq, sRaise_eq, eBin_eq, eUn_eq, eVar_eq, eC_eq, eTup_eq, eLst_eq, eCall_eq, eCallB_eq, eMth_eq, eIf_eq, eAnd_eq, eOr_eq, eNot_eq, eSl_eq, pNo_eq, pSome_eq, eComp_eq, iVal_eq, iArgs_eq, aNil_eq, aCons_eq, tVal_eq, tAnd_eq, tOr_eq, tNot_eq, tTru_eq, truth_bl, truth_non, get_0, get_S, Option.join_some, ofO_some, Res.bind_ok, Res.thn_ok, SR.bind_nx, SR.bind_ret, SR.res_ret, SR.res_nx, List.set_cons_succ, List.set_cons_zero, if_true, Bool.false_eq_true, if_false, typ_str, gTpl_eq, gsCons_eq, gsNil_eq, gNam_eq, Option.bind_some, Bool.not_true, Bool.not_false, List.replicate, fn_1, fn_2, fn_3, fn_4, oEq_str, oNe_str, oEq_int, oNe_int, oAdd_int, oSub_int, oLt_int, oGt_int, oLe_int, oGe_int, oIsN_eq, oNeg_int, bLen_str, oIn_ch, oNin_ch, S_e, S_0, S_9, S_mi, S_po, S_zs9, S_num, S_ed, S_text, decide_eq_true, decide_eq_false, beqI_t, beqI_f, szOk_of, List.length_cons, List.length_nil, Nat.reduceAdd, L_v_law_is_picture_5, i0, q1]
            have t2 := T2_ok (hf b (by simp)) (hf c (by simp)) i0 q1 s2 (some (.ref n0)) (some c) h1
            have go : (T_v_law_is_picture_6 [some (.tup [.str t, a, b, c]), some (.ref n0), none] h1) = if blB a = true then T_v_law_is_picture_2 [some (.tup [.str t, a, b, c]), some (.ref n0), some c] h1 else .ret (.bl false) h1 := by
              cases za : blB a with
              | false =>
                rw [za] at ba
                simp (disch := omega) only [sSeq_eq, sSet_eq, sIf_eq, sRet_eq, sNop_eq, sExpr_eq, sAsg_eq, sAug_eq, sFor_eq, sRaise_eq, eBin_eq, eUn_eq, eVar_eq, eC_eq, eTup_eq, eLst_eq, eCall_eq, eCallB_eq, eMth_eq, eIf_eq, eAnd_eq, eOr_eq, eNot_eq, eSl_eq, pNo_eq, pSome_eq, eComp_eq, iVal_eq, iArgs_eq, aNil_eq, aCons_eq, tVal_eq, tAnd_eq, tOr_eq, tNot_eq, tTru_eq, truth_bl, truth_non, get_0, get_S, Option.join_some, ofO_some, Res.bind_ok, Res.thn_ok, SR.bind_nx, SR.bind_ret, SR.res_ret, SR.res_nx, List.set_cons_succ, List.set_cons_zero, if_true, Bool.false_eq_true, if_false, typ_str, gTpl_eq, gsCons_eq, gsNil_eq, gNam_eq, Option.bind_some, Bool.not_true, Bool.not_false, List.replicate, fn_1, fn_2, fn_3, fn_4, oEq_str, oNe_str, oEq_int, oNe_int, oAdd_int, oSub_int, oLt_int, oGt_int, oLe_int, oGe_int, oIsN_eq, oNeg_int, bLen_str, oIn_ch, oNin_ch, S_e, S_0, S_9, S_mi, S_po, S_zs9, S_num, S_ed, S_text, decide_eq_true, decide_eq_false, beqI_t, beqI_f, szOk_of, List.length_cons, List.length_nil, Nat.reduceAdd, T_v_law_is_picture_6, s1, items_tup, forL_cons, forL_nil, lp, T_v_law_is_picture_4, i0, q2, i1, ba]
              | true =>
                rw [za] at ba
                simp (disch := omega) only [sSeq_eq, sSet_eq, sIf_eq, sRet_eq, sNop_eq, sExpr_eq, sAsg_eq, sAug_eq, sFor_eq, sRaise_eq, eBin_eq, eUn_eq, eVar_eq, eC_eq, eTup_eq, eLst_eq, eCall_eq, eCallB_eq, eMth_eq, eIf_eq, eAnd_eq, eOr_eq, eNot_eq, eSl_eq, pNo_eq, pSome_eq, eComp_eq, iVal_eq, iArgs_eq, aNil_eq, aCons_eq, tVal_eq, tAnd_eq, tOr_eq, tNot_eq, tTru_eq, truth_bl, truth_non, get_0, get_S, Option.join_some, ofO_some, Res.bind_ok, Res.thn_ok, SR.bind_nx, SR.bind_ret, SR.res_ret, SR.res_nx, List.set_cons_succ, List.set_cons_zero, if_true, Bool.false_eq_true, if_false, typ_str, gTpl_eq, gsCons_eq, gsNil_eq, gNam_eq, Option.bind_some, Bool.not_true, Bool.not_false, List.replicate, fn_1, fn_2, fn_3, fn_4, oEq_str, oNe_str, oEq_int, oNe_int, oAdd_int, oSub_int, oLt_int, oGt_int, oLe_int, oGe_int, oIsN_eq, oNeg_int, bLen_str, oIn_ch, oNin_ch, S_e, S_0, S_9, S_mi, S_po, S_zs9, S_num, S_ed, S_text, decide_eq_true, decide_eq_false, beqI_t, beqI_f, szOk_of, List.length_cons, List.length_nil, Nat.reduceAdd, T_v_law_is_picture_6, s1, items_tup, forL_cons, forL_nil, lp, T_v_law_is_picture_4, T_v_law_is_picture_3, i0, q2, q3, i1, ba]
            rw [if_pos rfl, go] at pre
            rw [if_neg (by decide), if_pos rfl]
            cases za : blB a with
            | false =>
              rw [za, if_neg (by decide)] at pre
              refine ⟨h1, x1.ke, pre _ ?_⟩
              cases a <;> first | rfl | cases za
            | true =>
              rw [za, if_pos rfl, t2] at pre
              cases a with
              | bl k =>
                cases zb : intIn b 0 18 with
                | false =>
                  rw [zb, if_neg (by decide)] at pre
                  refine ⟨h1, x1.ke, pre _ ?_⟩
                  unfold lnumOk
                  split
                  · rename_i e
                    simp only [List.cons.injEq] at e
                    obtain ⟨_, rfl, _, _⟩ := e
                    rw [zb]
                    rfl
                  · rfl
                | true =>
                  rw [zb, if_pos rfl] at pre
                  obtain ⟨u, rfl, u1, u2⟩ := intIn_int zb
                  cases zc : intIn c 0 18 with
                  | false =>
                    rw [zc, if_neg (by decide)] at pre
                    refine ⟨h1, x1.ke, pre _ ?_⟩
                    unfold lnumOk
                    split
                    · rename_i e
                      simp only [List.cons.injEq] at e
                      obtain ⟨_, _, rfl, _⟩ := e
                      rw [zc, Bool.and_false]
                      rfl
                    · rfl
                  | true =>
                    rw [zc, if_pos rfl] at pre
                    obtain ⟨v, rfl, v1, v2⟩ := intIn_int zc
                    have eu : u = (u.toNat : Int) := by omega
                    have ev : v = (v.toNat : Int) := by omega
                    have tx := law_text_num k u.toNat v.toNat (by omega) (by omega) h1
                    rw [← eu, ← ev, ← et] at tx
                    obtain ⟨h2, x2, tr⟩ := try_ok hf (Nat.le_trans (numText_len k u.toNat v.toNat) (by decide)) (Ext.refl h1) tx (some (.ref n0)) (some (.int v))
                    refine ⟨h2, x1.ke.trans x2, pre _ ?_⟩
                    have sg : sgnI [some (.tup [.str t, .bl k, .int u, .int v]), some (.ref n0), some (.int v)] h1 = .nx [some (.tup [.str t, .bl k, .int u, .int v]), some (.ref n0), some (.int v)] h1 := by
                      unfold sgnI
                      simp (disch := omega) only [sSeq_eq, sSet_eq, sIf_eq, sRet_eq, sNop_eq, sExpr_eq, sAsg_eq, sAug_eq, sFor_eq, sRaise_eq, eBin_eq, eUn_eq, eVar_eq, eC_eq, eTup_eq, eLst_eq, eCall_eq, eCallB_eq, eMth_eq, eIf_eq, eAnd_eq, eOr_eq, eNot_eq, eSl_eq, pNo_eq, pSome_eq, eComp_eq, iVal_eq, iArgs_eq, aNil_eq, aCons_eq, tVal_eq, tAnd_eq, tOr_eq, tNot_eq, tTru_eq, truth_bl, truth_non, get_0, get_S, Option.join_some, ofO_some, Res.bind_ok, Res.thn_ok, SR.bind_nx, SR.bind_ret, SR.res_ret, SR.res_nx, List.set_cons_succ, List.set_cons_zero, if_true, Bool.false_eq_true, if_false, typ_str, gTpl_eq, gsCons_eq, gsNil_eq, gNam_eq, Option.bind_some, Bool.not_true, Bool.not_false, List.replicate, fn_1, fn_2, fn_3, fn_4, oEq_str, oNe_str, oEq_int, oNe_int, oAdd_int, oSub_int, oLt_int, oGt_int, oLe_int, oGe_int, oIsN_eq, oNeg_int, bLen_str, oIn_ch, oNin_ch, S_e, S_0, S_9, S_mi, S_po, S_zs9, S_num, S_ed, S_text, decide_eq_true, decide_eq_false, beqI_t, beqI_f, szOk_of, List.length_cons, List.length_nil, Nat.reduceAdd, i0, q3]
                    rw [sSeq_eq, sg, SR.bind_nx]
                    unfold tryT
                    rw [tr]
                    show Res.ok (Val.bl _) h2 = Res.ok (Val.bl (intIn (.int u) 0 18 && intIn (.int v) 0 18 && psEq (numText k u.toNat v.toNat) [.str t, .bl k, .int u, .int v])) h2
                    rw [zb, zc]
                    rfl
              | _ => cases za
          · have z : (false && (2 : Int) == ((l.length + 1 : Nat) : Int) || true && (4 : Int) == ((l.length + 1 : Nat) : Int) || false && (5 : Int) == ((l.length + 1 : Nat) : Int)) = false := by
              have : ((4 : Int) == ((l.length + 1 : Nat) : Int)) = false := beqI_f (by omega)
              rw [this]; rfl
            rw [z] at pre
            refine ⟨h1, x1.ke, pre _ ?_⟩
            rw [if_neg (by decide), if_neg (by decide), if_pos rfl]
            unfold lnumOk
            split
            · exact absurd rfl len
            · rfl
        | false =>
          cases q3 : (t == [101, 100, 105, 116, 101, 100]) with
          | false =>
            rw [q1, q2, q3] at pre
            refine ⟨h1, x1.ke, pre _ ?_⟩
            rw [if_neg (by simp), if_neg (by decide), if_neg (by decide), if_neg (by decide)]
          | true =>
            have et : t = [101, 100, 105, 116, 101, 100] := by simpa using q3
            rw [q1, q2, q3] at pre
            rw [if_neg (by decide), if_neg (by decide), if_pos rfl]
            by_cases len : l.length = 4
            · match l, len, hf, hs, i0, ln, pre with
              | [a, b, c, d], len, hf, hs, i0, ln, pre =>
              have z : (false && (2 : Int) == (([a, b, c, d].length + 1 : Nat) : Int) || false && (4 : Int) == (([a, b, c, d].length + 1 : Nat) : Int) || true && (5 : Int) == (([a, b, c, d].length + 1 : Nat) : Int)) = true := by rfl
              rw [z] at pre
              have i1 : ∀ h, oIdx h (.tup [.str t, a, b, c, d]) (.int 1) = some a := fun h => by rw [oIdx_tup, atI_one]
              have i4 : ∀ h, oIdx h (.tup [.str t, a, b, c, d]) (.int 4) = some d := fun h => by rw [oIdx_tup, atI_four]
              have s1 : oSl h1 (.tup [.str t, a, b, c, d]) (some 1) none = some (.tup [a, b, c, d], h1) := rfl
              have s2 : ∀ h, oSl h (.tup [.str t, a, b, c, d]) (some 2) (some 4) = some (.tup [b, c], h) := fun h => rfl
              have ba := isi_str (hf a (by simp)) h1
              have bd := isi_str (hf d (by simp)) h1
              have lp : ∀ v : Val, L_v_law_is_picture_5 [some (.tup [.str t, a, b, c, d]), some (.ref n0), some v] h1 = .nx [some (.tup [.str t, a, b, c, d]), some (.ref n0), some v] h1 := fun v => by
                simp (disch := omega) only [sSeq_eq, sSet_eq, sIf_eq, sRet_eq, sNop_eq, sExpr_eq, sAsg_eq, sAug_eq, sFor_eq, sRaise_eq, eBin_eq, eUn_eq, eVar_eq, eC_eq, eTup_eq, eLst_eq, eCall_eq, eCallB_eq, eMth_eq, eIf_eq, eAnd_eq, eOr_eq, eNot_eq, eSl_eq, pNo_eq, pSome_eq, eComp_eq, iVal_eq, iArgs_eq, aNil_eq, aCons_eq, tVal_eq, tAnd_eq, tOr_eq, tNot_eq, tTru_eq, truth_bl, truth_non, get_0, get_S, Option.join_some, ofO_some, Res.bind_ok, Res.thn_ok, SR.bind_nx, SR.bind_ret, SR.res_ret, SR.res_nx, List.set_cons_succ, List.set_cons_zero, if_true, Bool.false_eq_true, if_false, typ_str, gTpl_eq, gsCons_eq, gsNil_eq, gNam_eq, Option.bind_some, Bool.not_true, Bool.not_false, List.replicate, fn_1, fn_2, fn_3, fn_4, oEq_str, oNe_str, oEq_int, oNe_int, oAdd_int, oSub_int, oLt_int, oGt_int, oLe_int, oGe_int, oIsN_eq, oNeg_int, bLen_str, oIn_ch, oNin_ch, S_e, S_0, S_9, S_mi, S_po, S_zs9, S_num, S_ed, S_text, decide_eq_true, decide_eq_false, beqI_t, beqI_f, szOk_of, List.length_cons, List.length_nil, Nat.reduceAdd, L_v_law_is_picture_5, i0, q1]
              have t2 := T2_ok (hf b (by simp)) (hf c (by simp)) i0 q1 s2 (some (.ref n0)) (some d) h1
              have go : (T_v_law_is_picture_6 [some (.tup [.str t, a, b, c, d]), some (.ref n0), none] h1) = if strB a = true then (if strB d = true then T_v_law_is_picture_2 [some (.tup [.str t, a, b, c, d]), some (.ref n0), some d] h1 else .ret (.bl false) h1) else .ret (.bl false) h1 := by
                cases za : strB a with
                | false =>
                  rw [za] at ba
                  simp (disch := omega) only [sSeq_eq, sSet_eq, sIf_eq, sRet_eq, sNop_eq, sExpr_eq, sAsg_eq, sAug_eq, sFor_eq, sRaise_eq, eBin_eq, eUn_eq, eVar_eq, eC_eq, eTup_eq, eLst_eq, eCall_eq, eCallB_eq, eMth_eq, eIf_eq, eAnd_eq, eOr_eq, eNot_eq, eSl_eq, pNo_eq, pSome_eq, eComp_eq, iVal_eq, iArgs_eq, aNil_eq, aCons_eq, tVal_eq, tAnd_eq, tOr_eq, tNot_eq, tTru_eq, truth_bl, truth_non, get_0, get_S, Option.join_some, ofO_some, Res.bind_ok, Res.thn_ok, SR.bind_nx, SR.bind_ret, SR.res_ret, SR.res_nx, List.set_cons_succ, List.set_cons_zero, if_true, Bool.false_eq_true, if_false, typ_str, gTpl_eq, gsCons_eq, gsNil_eq, gNam_eq, Option.bind_some, Bool.not_true, Bool.not_false, List.replicate, fn_1, fn_2, fn_3, fn_4, oEq_str, oNe_str, oEq_int, oNe_int, oAdd_int, oSub_int, oLt_int, oGt_int, oLe_int, oGe_int, oIsN_eq, oNeg_int, bLen_str, oIn_ch, oNin_ch, S_e, S_0, S_9, S_mi, S_po, S_zs9, S_num, S_ed, S_text, decide_eq_true, decide_eq_false, beqI_t, beqI_f, szOk_of, List.length_cons, List.length_nil, Nat.reduceAdd, T_v_law_is_picture_6, s1, items_tup, forL_cons, forL_nil, lp, T_v_law_is_picture_4, T_v_law_is_picture_3, i0, q2, q3, i1, ba]
                | true =>
                  rw [za] at ba
                  cases zd : strB d with
                  | false =>
                    rw [zd] at bd
                    simp (disch := omega) only [sSeq_eq, sSet_eq, sIf_eq, sRet_eq, sNop_eq, sExpr_eq, sAsg_eq, sAug_eq, sFor_eq, sRaise_eq, eBin_eq, eUn_eq, eVar_eq, eC_eq, eTup_eq, eLst_eq, eCall_eq, eCallB_eq, eMth_eq, eIf_eq, eAnd_eq, eOr_eq, eNot_eq, eSl_eq, pNo_eq, pSome_eq, eComp_eq, iVal_eq, iArgs_eq, aNil_eq, aCons_eq, tVal_eq, tAnd_eq, tOr_eq, tNot_eq, tTru_eq, truth_bl, truth_non, get_0, get_S, Option.join_some, ofO_some, Res.bind_ok, Res.thn_ok, SR.bind_nx, SR.bind_ret, SR.res_ret, SR.res_nx, List.set_cons_succ, List.set_cons_zero, if_true, Bool.false_eq_true, if_false, typ_str, gTpl_eq, gsCons_eq, gsNil_eq, gNam_eq, Option.bind_some, Bool.not_true, Bool.not_false, List.replicate, fn_1, fn_2, fn_3, fn_4, oEq_str, oNe_str, oEq_int, oNe_int, oAdd_int, oSub_int, oLt_int, oGt_int, oLe_int, oGe_int, oIsN_eq, oNeg_int, bLen_str, oIn_ch, oNin_ch, S_e, S_0, S_9, S_mi, S_po, S_zs9, S_num, S_ed, S_text, decide_eq_true, decide_eq_false, beqI_t, beqI_f, szOk_of, List.length_cons, List.length_nil, Nat.reduceAdd, T_v_law_is_picture_6, s1, items_tup, forL_cons, forL_nil, lp, T_v_law_is_picture_4, T_v_law_is_picture_3, i0, q2, q3, i1, i4, ba, bd]
                  | true =>
                    rw [zd] at bd
                    simp (disch := omega) only [sSeq_eq, sSet_eq, sIf_eq, sRet_eq, sNop_eq, sExpr_eq, sAsg_eq, sAug_eq, sFor_eq, sRaise_eq, eBin_eq, eUn_eq, eVar_eq, eC_eq, eTup_eq, eLst_eq, eCall_eq, eCallB_eq, eMth_eq, eIf_eq, eAnd_eq, eOr_eq, eNot_eq, eSl_eq, pNo_eq, pSome_eq, eComp_eq, iVal_eq, iArgs_eq, aNil_eq, aCons_eq, tVal_eq, tAnd_eq, tOr_eq, tNot_eq, tTru_eq, truth_bl, truth_non, get_0, get_S, Option.join_some, ofO_some, Res.bind_ok, Res.thn_ok, SR.bind_nx, SR.bind_ret, SR.res_ret, SR.res_nx, List.set_cons_succ, List.set_cons_zero, if_true, Bool.false_eq_true, if_false, typ_str, gTpl_eq, gsCons_eq, gsNil_eq, gNam_eq, Option.bind_some, Bool.not_true, Bool.not_false, List.replicate, fn_1, fn_2, fn_3, fn_4, oEq_str, oNe_str, oEq_int, oNe_int, oAdd_int, oSub_int, oLt_int, oGt_int, oLe_int, oGe_int, oIsN_eq, oNeg_int, bLen_str, oIn_ch, oNin_ch, S_e, S_0, S_9, S_mi, S_po, S_zs9, S_num, S_ed, S_text, decide_eq_true, decide_eq_false, beqI_t, beqI_f, szOk_of, List.length_cons, List.length_nil, Nat.reduceAdd, T_v_law_is_picture_6, s1, items_tup, forL_cons, forL_nil, lp, T_v_law_is_picture_4, T_v_law_is_picture_3, i0, q2, q3, i1, i4, ba, bd]
              rw [if_pos rfl, go] at pre
              cases za : strB a with
              | false =>
                rw [za, if_neg (by decide)] at pre
                refine ⟨h1, x1.ke, pre _ ?_⟩
                cases a <;> first | rfl | cases za
              | true =>
                cases zd : strB d with
                | false =>
                  rw [za, zd, if_pos rfl, if_neg (by decide)] at pre
                  refine ⟨h1, x1.ke, pre _ ?_⟩
                  unfold ledOk
                  split
                  · rename_i e
                    simp only [List.cons.injEq] at e
                    obtain ⟨_, _, _, rfl, _⟩ := e
                    cases zd
                  · rfl
                | true =>
                  rw [za, zd, if_pos rfl, if_pos rfl, t2] at pre
                  cases a with
                  | str m =>
                    cases d with
                    | str s =>
                      have ml : m.length ≤ 100 := hs (.str m) (by simp)
                      cases zb : intIn b 0 18 with
                      | false =>
                        rw [zb, if_neg (by decide)] at pre
                        refine ⟨h1, x1.ke, pre _ ?_⟩
                        unfold ledOk
                        split
                        · rename_i e
                          simp only [List.cons.injEq] at e
                          obtain ⟨_, rfl, _, _⟩ := e
                          rw [zb]
                          rfl
                        · rfl
                      | true =>
                        rw [zb, if_pos rfl] at pre
                        obtain ⟨u, rfl, u1, u2⟩ := intIn_int zb
                        cases zc : intIn c 0 18 with
                        | false =>
                          rw [zc, if_neg (by decide)] at pre
                          refine ⟨h1, x1.ke, pre _ ?_⟩
                          unfold ledOk
                          split
                          · rename_i e
                            simp only [List.cons.injEq] at e
                            obtain ⟨_, _, rfl, _⟩ := e
                            rw [zc, Bool.and_false]
                            rfl
                          · rfl
                        | true =>
                          rw [zc, if_pos rfl] at pre
                          obtain ⟨v, rfl, v1, v2⟩ := intIn_int zc
                          let h2 : Hep := h1 ++ [.lst (signs.map .str)]
                          have x2 : Ext h1 h2 := Ext.one h1 _
                          have ns := nin_signs2 (h := h2) (get_new h1 (.lst (signs.map .str))) s
                          have ledv : ledOk t [.str m, .int u, .int v, .str s] = (inSigns s && psEq (edText m s) [.str t, .str m, .int u, .int v, .str s]) := by
                            show (intIn (.int u) 0 18 && intIn (.int v) 0 18 && inSigns s && psEq (edText m s) [.str t, .str m, .int u, .int v, .str s]) = _
                            rw [zb, zc]
                            rfl
                          rw [ledv]
                          have ns : oNin (h1 ++ [.lst [.str [], .str [45], .str [43], .str [46, 45], .str [46, 43], .str [99, 114], .str [100, 98]]]) (.str s) (.ref h1.length) = some (.bl (!inSigns s)) := ns
                          have S_dm : S ".-" = [46, 45] := by decide
                          have S_dp : S ".+" = [46, 43] := by decide
                          have ed : sgnI [some (.tup [.str t, .str m, .int u, .int v, .str s]), some (.ref n0), some (.int v)] h1 = if inSigns s = true then .nx [some (.tup [.str t, .str m, .int u, .int v, .str s]), some (.ref n0), some (.int v)] h2 else .ret (.bl false) h2 := by
                            cases zs : inSigns s with
                            | false =>
                              rw [zs] at ns
                              unfold sgnI
                              simp (disch := omega) only [sSeq_eq, sSet_eq, sIf_eq, sRet_eq, sNop_eq, sExpr_eq, sAsg_eq, sAug_eq, sFor_eq, sRaise_eq, eBin_eq, eUn_eq, eVar_eq, eC_eq, eTup_eq, eLst_eq, eCall_eq, eCallB_eq, eMth_eq, eIf_eq, eAnd_eq, eOr_eq, eNot_eq, eSl_eq, pNo_eq, pSome_eq, eComp_eq, iVal_eq, iArgs_eq, aNil_eq, aCons_eq, tVal_eq, tAnd_eq, tOr_eq, tNot_eq, tTru_eq, truth_bl, truth_non, get_0, get_S, Option.join_some, ofO_some, Res.bind_ok, Res.thn_ok, SR.bind_nx, SR.bind_ret, SR.res_ret, SR.res_nx, List.set_cons_succ, List.set_cons_zero, if_true, Bool.false_eq_true, if_false, typ_str, gTpl_eq, gsCons_eq, gsNil_eq, gNam_eq, Option.bind_some, Bool.not_true, Bool.not_false, List.replicate, fn_1, fn_2, fn_3, fn_4, oEq_str, oNe_str, oEq_int, oNe_int, oAdd_int, oSub_int, oLt_int, oGt_int, oLe_int, oGe_int, oIsN_eq, oNeg_int, bLen_str, oIn_ch, oNin_ch, S_e, S_0, S_9, S_mi, S_po, S_zs9, S_num, S_ed, S_text, decide_eq_true, decide_eq_false, beqI_t, beqI_f, szOk_of, List.length_cons, List.length_nil, Nat.reduceAdd, i0, q3, i4, S_pl, S_dm, S_dp, S_cr, S_db, ns]
                              rfl
                            | true =>
                              rw [zs] at ns
                              unfold sgnI
                              simp (disch := omega) only [sSeq_eq, sSet_eq, sIf_eq, sRet_eq, sNop_eq, sExpr_eq, sAsg_eq, sAug_eq, sFor_eq, sRaise_eq, eBin_eq, eUn_eq, eVar_eq, eC_eq, eTup_eq, eLst_eq, eCall_eq, eCallB_eq, eMth_eq, eIf_eq, eAnd_eq, eOr_eq, eNot_eq, eSl_eq, pNo_eq, pSome_eq, eComp_eq, iVal_eq, iArgs_eq, aNil_eq, aCons_eq, tVal_eq, tAnd_eq, tOr_eq, tNot_eq, tTru_eq, truth_bl, truth_non, get_0, get_S, Option.join_some, ofO_some, Res.bind_ok, Res.thn_ok, SR.bind_nx, SR.bind_ret, SR.res_ret, SR.res_nx, List.set_cons_succ, List.set_cons_zero, if_true, Bool.false_eq_true, if_false, typ_str, gTpl_eq, gsCons_eq, gsNil_eq, gNam_eq, Option.bind_some, Bool.not_true, Bool.not_false, List.replicate, fn_1, fn_2, fn_3, fn_4, oEq_str, oNe_str, oEq_int, oNe_int, oAdd_int, oSub_int, oLt_int, oGt_int, oLe_int, oGe_int, oIsN_eq, oNeg_int, bLen_str, oIn_ch, oNin_ch, S_e, S_0, S_9, S_mi, S_po, S_zs9, S_num, S_ed, S_text, decide_eq_true, decide_eq_false, beqI_t, beqI_f, szOk_of, List.length_cons, List.length_nil, Nat.reduceAdd, i0, q3, i4, S_pl, S_dm, S_dp, S_cr, S_db, ns]
                              rfl
                          rw [sSeq_eq, ed] at pre
                          cases zs : inSigns s with
                          | false =>
                            rw [zs, if_neg (by decide)] at pre
                            exact ⟨h2, x1.ke.trans x2.ke, pre _ rfl⟩
                          | true =>
                            rw [zs, if_pos rfl, SR.bind_nx] at pre
                            have sl := sg_len zs
                            obtain ⟨h3, x3, tx⟩ := law_text_ed m s (.int u) (.int v) ml sl h2
                            rw [← et] at tx
                            have el := edText_len (m := m) sl
                            obtain ⟨h4, x4, tr⟩ := try_ok hf (by omega) x3 tx (some (.ref n0)) (some (.int v))
                            refine ⟨h4, (x1.ke.trans x2.ke).trans x4, pre _ ?_⟩
                            unfold tryT
                            rw [tr]
                            rfl
                    | _ => cases zd
                  | _ => cases za
            · have z : (false && (2 : Int) == ((l.length + 1 : Nat) : Int) || false && (4 : Int) == ((l.length + 1 : Nat) : Int) || true && (5 : Int) == ((l.length + 1 : Nat) : Int)) = false := by
                have : ((5 : Int) == ((l.length + 1 : Nat) : Int)) = false := beqI_f (by omega)
                rw [this]; rfl
              rw [z] at pre
              refine ⟨h1, x1.ke, pre _ ?_⟩
              rw [if_neg (by decide)]
              unfold ledOk
              split
              · exact absurd rfl len
              · rfl
    | _ => cases zx
end Law

set_option maxRecDepth 100000
set_option maxHeartbeats 1000000
set_option linter.all false
/-! Ir: the program's and the law's word on what is a picture agree -/
namespace Law
open Cd Mir
def bodyAll : List (List Nat) := bodyL.flatMap fun b => [edB b 0, edB b 1, edB b 2, edB b 3]
def oddS : List (List Nat) := [[], [122, 57], [57, 57], [57, 46, 57], [45], [46, 45], [99, 114], [120], [116, 101, 120, 116], [110, 117, 109, 98, 101, 114], [101, 100, 105, 116, 101, 100]]
def MS : List (List Nat) := bodyAll ++ oddS
def gE (m s : List Nat) : Bool := bodyB m && decide ((insF (whole m)).length + frac m ≤ 18) && decide (m.length + (stripD s).length ≤ 80) && (!(s == []) || !allIn m [57])
def chkE (m s : List Nat) : Bool := match psS (outS (edText m s)) with
  | .tup [.str t', .str m', .int w', .int f', .str s'] => if outS (edText m s) == [] then !gE m s else if t' == [101, 100, 105, 116, 101, 100] && m' == m && s' == s then gE m s && w' == ((insF (whole m)).length : Nat) && f' == (frac m : Nat) else !gE m s
  | .tup r => r.length != 5 && !gE m s
  | _ => !gE m s
theorem edAll : (MS.all fun m => signs.all fun s => chkE m s) = true := by decide +kernel
theorem numAll : ([true, false].all fun b => (List.range 19).all fun w => (List.range 19).all fun f => psEq (numText b w f) [.str [110, 117, 109, 98, 101, 114], .bl b, .int (w : Nat), .int (f : Nat)] == (decide (1 ≤ w + f) && decide (w + f ≤ 18))) = true := by decide +kernel
theorem eqFs_len : ∀ {l m : List Val}, eqFs l m = true → l.length = m.length
  | [], [], _ => rfl
  | [], _ :: _, h => by cases h
  | _ :: _, [], h => by cases h
  | a :: l, b :: m, h => by
    rw [eqFs, Bool.and_eq_true] at h
    rw [List.length_cons, List.length_cons, eqFs_len h.2]
theorem eqF_int (a b : Int) : eqF (.int a) (.int b) = (a == b) := rfl
theorem eqF_str (a b : List Nat) : eqF (.str a) (.str b) = (a == b) := rfl
theorem chk_use {m s : List Nat} (h : chkE m s = true) (w f : Int) : psEq (edText m s) [.str [101, 100, 105, 116, 101, 100], .str m, .int w, .int f, .str s] = (gE m s && w == ((insF (whole m)).length : Nat) && f == (frac m : Nat)) := by
  unfold chkE at h
  unfold psEq
  split at h
  · rename_i t' m' w' f' s' e
    rw [e]
    simp only [eqFs, eqF_str, eqF_int, Bool.and_true]
    split at h
    · rename_i z
      rw [z]
      have : gE m s = false := by simpa using h
      rw [this]
      rfl
    · rename_i z
      rw [Bool.eq_false_iff.mpr z, Bool.not_false, Bool.true_and]
      split at h
      · rename_i y
        simp only [Bool.and_eq_true, beq_iff_eq] at y h
        obtain ⟨⟨y1, y2⟩, y3⟩ := y
        obtain ⟨⟨g, h1⟩, h2⟩ := h
        subst y1 y2 y3
        rw [g, h1, h2]
        simp only [beq_self_eq_true, Bool.true_and, Bool.and_true]
        rw [BEq.comm (a := w), BEq.comm (a := f)]
      · rename_i y
        have g : gE m s = false := by simpa using h
        rw [g, Bool.false_and, Bool.false_and]
        refine Bool.eq_false_iff.mpr fun k => y ?_
        simp only [Bool.and_eq_true] at k ⊢
        exact ⟨⟨k.1, k.2.1⟩, k.2.2.2.2⟩
  · rename_i r hr e
    rw [e]
    simp only [Bool.and_eq_true, bne_iff_ne, ne_eq, Bool.not_eq_true'] at h
    rw [h.2, Bool.false_and, Bool.false_and]
    have : eqFs r [.str [101, 100, 105, 116, 101, 100], .str m, .int w, .int f, .str s] = false := Bool.eq_false_iff.mpr fun k => h.1 (eqFs_len k)
    simp only [this, Bool.and_false]
  · rename_i h1 h2
    have g : gE m s = false := by simpa using h
    rw [g, Bool.false_and, Bool.false_and]
    split
    · rename_i r e
      exact absurd e (h2 r)
    · simp
theorem num_use (b : Bool) {w f : Nat} (hw : w < 19) (hf : f < 19) : psEq (numText b w f) [.str [110, 117, 109, 98, 101, 114], .bl b, .int w, .int f] = (decide (1 ≤ w + f) && decide (w + f ≤ 18)) := by
  have h := List.all_eq_true.mp numAll b (by cases b <;> decide)
  have h := List.all_eq_true.mp h w (List.mem_range.mpr hw)
  have h := List.all_eq_true.mp h f (List.mem_range.mpr hf)
  exact beq_iff_eq.mp h
def edCond (l : List Val) : Prop := ∀ m w f s, l = [.str [101, 100, 105, 116, 101, 100], .str m, w, f, .str s] → m ∈ MS
theorem inSigns_mem {s : List Nat} (h : inSigns s = true) : s ∈ signs := by
  obtain ⟨x, hx, e⟩ := List.any_eq_true.mp h
  have : x = s := by simpa using e
  exact this ▸ hx
theorem intIn_self (w : Int) (n : Nat) : intIn (.int w) n n = (w == (n : Int)) := by
  show (decide ((n : Int) ≤ w) && decide (w ≤ (n : Int))) = _
  by_cases q : w = n
  · rw [q]; simp
  · rw [beq_false_of_ne q]
    by_cases a : (n : Int) ≤ w
    · rw [decide_eq_false (by omega : ¬ w ≤ (n : Int)), Bool.and_false]
    · rw [decide_eq_false a, Bool.false_and]
theorem agree (l : List Val) (hc : edCond l) : isPB l = lawPB l := by
  match l with
  | [] => rfl
  | .non :: _ => rfl
  | .bl _ :: _ => rfl
  | .int _ :: _ => rfl
  | .tup _ :: _ => rfl
  | .ref _ :: _ => rfl
  | .fl _ :: _ => rfl
  | .exo _ :: _ => rfl
  | .str t :: l =>
    show (if (t == [116, 101, 120, 116]) = true then txOk l else if (t == [110, 117, 109, 98, 101, 114]) = true then numOk l else if (t == [101, 100, 105, 116, 101, 100]) = true then edlOk l else false) = (if (t == [116, 101, 120, 116]) = true then txOk l else if (t == [110, 117, 109, 98, 101, 114]) = true then lnumOk t l else if (t == [101, 100, 105, 116, 101, 100]) = true then ledOk t l else false)
    split
    · rfl
    · split
      · rename_i q2
        have et : t = [110, 117, 109, 98, 101, 114] := by simpa using q2
        subst et
        unfold numOk
        split
        · rename_i b w f
          cases w with
          | int u =>
            cases f with
            | int v =>
              show (intIn (.int u) 0 18 && intIn (.int v) 0 18 && (decide (1 ≤ u + v) && decide (u + v ≤ 18))) = (intIn (.int u) 0 18 && intIn (.int v) 0 18 && psEq (numText b u.toNat v.toNat) [.str [110, 117, 109, 98, 101, 114], .bl b, .int u, .int v])
              cases zu : intIn (.int u) 0 18 with
              | false => rfl
              | true =>
                cases zv : intIn (.int v) 0 18 with
                | false => rfl
                | true =>
                  obtain ⟨_, e1, u1, u2⟩ := intIn_int zu
                  cases e1
                  obtain ⟨_, e1, v1, v2⟩ := intIn_int zv
                  cases e1
                  have nu := num_use b (w := u.toNat) (f := v.toNat) (by omega) (by omega)
                  rw [show ((u.toNat : Nat) : Int) = u by omega, show ((v.toNat : Nat) : Int) = v by omega] at nu
                  rw [nu]
                  have d1 : decide (1 ≤ u + v) = decide (1 ≤ u.toNat + v.toNat) := decide_eq_decide.mpr (by omega)
                  have d2 : decide (u + v ≤ 18) = decide (u.toNat + v.toNat ≤ 18) := decide_eq_decide.mpr (by omega)
                  rw [d1, d2]
            | _ => simp [intIn, lnumOk, sumOk]
          | _ => simp [intIn, lnumOk, sumOk]
        · rename_i hh
          unfold lnumOk
          split
          · rename_i b w f
            exact absurd rfl (hh b (.int w) (.int f))
          · rfl
      · split
        · rename_i q3
          have et : t = [101, 100, 105, 116, 101, 100] := by simpa using q3
          subst et
          unfold edlOk
          split
          · rename_i m w f s
            have hm := hc m w f s rfl
            unfold edOk
            cases zs : inSigns s with
            | false =>
              rw [Bool.and_false, Bool.false_and, Bool.false_and, Bool.false_and, Bool.false_and, Bool.false_and]
              unfold ledOk
              split
              · rename_i e
                simp only [List.cons.injEq, Val.str.injEq] at e
                obtain ⟨_, _, _, rfl, _⟩ := e
                rw [zs]; simp
              · rfl
            | true =>
              have ck := List.all_eq_true.mp (List.all_eq_true.mp edAll m hm) s (inSigns_mem zs)
              cases w with
              | int u =>
                cases f with
                | int v =>
                  have us := chk_use ck u v
                  show _ = (intIn (.int u) 0 18 && intIn (.int v) 0 18 && inSigns s && psEq (edText m s) [.str [101, 100, 105, 116, 101, 100], .str m, .int u, .int v, .str s])
                  rw [us, zs, intIn_self, intIn_self]
                  unfold gE
                  by_cases e1 : u = ((insF (whole m)).length : Nat)
                  · by_cases e2 : v = (frac m : Nat)
                    · have b1 : (u == ((insF (whole m)).length : Nat)) = true := beqI_t e1
                      have b2 : (v == (frac m : Nat)) = true := beqI_t e2
                      rw [b1, b2]
                      by_cases q : (insF (whole m)).length + frac m ≤ 18
                      · have i1 : intIn (.int u) 0 18 = true := by
                          show (decide (0 ≤ u) && decide (u ≤ 18)) = true
                          rw [decide_eq_true (by omega : 0 ≤ u), decide_eq_true (by omega : u ≤ 18)]; rfl
                        have i2 : intIn (.int v) 0 18 = true := by
                          show (decide (0 ≤ v) && decide (v ≤ 18)) = true
                          rw [decide_eq_true (by omega : 0 ≤ v), decide_eq_true (by omega : v ≤ 18)]; rfl
                        rw [i1, i2]
                        simp
                      · rw [decide_eq_false q]; simp
                    · have b2 : (v == (frac m : Nat)) = false := beqI_f e2
                      rw [b2]; simp
                  · have b1 : (u == ((insF (whole m)).length : Nat)) = false := beqI_f e1
                    rw [b1]; simp
                | _ => simp [intIn, ledOk]
              | _ => simp [intIn, ledOk]
          · rename_i hh
            unfold ledOk
            split
            · rename_i m w f s
              exact absurd rfl (hh m (.int w) (.int f) s)
            · rfl
        · rfl
end Law

set_option maxRecDepth 100000
set_option maxHeartbeats 1000000
set_option linter.all false
/-! Is: values near a picture -/
namespace Law
open Cd Mir
def OV : List Val := [.int 0, .int 1, .int 19, .int 81, .int (-1), .bl true, .bl false, .non, .str [], .str [122, 57], .str [57, 57], .str [57, 46, 57], .str [45], .str [46, 45], .str [99, 114], .str [120], .str [116, 101, 120, 116], .str [110, 117, 109, 98, 101, 114], .str [101, 100, 105, 116, 101, 100], .int 2]
def okStr (s : List Nat) : Bool := s.all (fun c => decide (c < 1114112)) && decide (s.length ≤ 100)
def okVal (v : Val) : Bool := match v with
  | .str s => okStr s
  | .non => true
  | .bl _ => true
  | .int _ => true
  | _ => false
theorem okVal_flat {v : Val} (h : okVal v = true) : flatOk v ∧ shortV v := by
  cases v with
  | str s =>
    have h : (s.all (fun c => decide (c < 1114112)) && decide (s.length ≤ 100)) = true := h
    rw [Bool.and_eq_true] at h
    exact ⟨fun c hc => of_decide_eq_true (List.all_eq_true.mp h.1 c hc), (of_decide_eq_true h.2 : s.length ≤ 100)⟩
  | non => exact ⟨trivial, trivial⟩
  | bl _ => exact ⟨trivial, trivial⟩
  | int _ => exact ⟨trivial, trivial⟩
  | _ => cases h
theorem OV_ok : OV.all okVal = true := by decide
theorem MS_ok : MS.all okStr = true := by decide
theorem signs_ok2 : signs.all okStr = true := by decide
theorem edB_all {b : List Nat} (hb : b ∈ bodyL) {f : Nat} (hf : f ≤ 3) : edB b f ∈ MS := by
  refine List.mem_append_left _ (List.mem_flatMap.mpr ⟨b, hb, ?_⟩)
  have : f = 0 ∨ f = 1 ∨ f = 2 ∨ f = 3 := by omega
  rcases this with rfl | rfl | rfl | rfl <;> simp
theorem OV_str : (OV.all fun v => match v with | .str s => decide (s ∈ MS) | _ => true) = true := by decide +kernel
theorem edCond_len {l : List Val} (h : l.length ≠ 5) : edCond l := fun m w f s e => absurd (by rw [e]; rfl) h
/-- what a picture is made of -/
theorem pic_list {P : Val} (p : Pic P) : ∃ pl, P = .tup pl ∧ pl.all okVal = true ∧ 2 ≤ pl.length ∧ pl.length ≤ 5 ∧ edCond pl ∧ ∀ (a : Nat) (one : Val), a < pl.length → one ∈ OV →
    edCond (pl ++ [one]) ∧ edCond (pl.take a ++ [one] ++ pl.drop (a + 1)) := by
  cases p with
  | tx n h0 h1 =>
    refine ⟨_, rfl, rfl, by simp, by simp, edCond_len (by simp), fun a one ha ho => ⟨edCond_len (by simp), edCond_len ?_⟩⟩
    simp at ha ⊢
    omega
  | num b w f h0 hw hf =>
    refine ⟨_, rfl, rfl, by simp, by simp, edCond_len (by simp), fun a one ha ho => ⟨fun m w f s e => ?_, edCond_len ?_⟩⟩
    · simp only [List.cons_append, List.nil_append, List.cons.injEq, Val.str.injEq] at e
      cases e.1.1
    · simp at ha ⊢
      omega
  | ed b sn f hb hf hs h9 =>
    have mB := edB_all hb hf
    have oB := List.all_eq_true.mp MS_ok _ mB
    have oS := List.all_eq_true.mp signs_ok2 _ hs
    generalize edB b f = B at *
    refine ⟨_, rfl, ?_, by simp, by simp, fun m w f s e => ?_, fun a one ha ho => ⟨edCond_len (by simp), fun m w f s e => ?_⟩⟩
    · have o1 : okVal (.str B) = true := oB
      have o2 : okVal (.str sn) = true := oS
      simp only [List.all_cons, List.all_nil, o1, o2]
      rfl
    · simp only [List.cons.injEq, Val.str.injEq] at e
      exact e.2.1 ▸ mB
    · have a5 : a = 0 ∨ a = 1 ∨ a = 2 ∨ a = 3 ∨ a = 4 := by simp at ha; omega
      have oo := List.all_eq_true.mp OV_str one ho
      rcases a5 with rfl | rfl | rfl | rfl | rfl
      · simp only [List.take, List.drop, List.cons_append, List.nil_append, List.cons.injEq, Val.str.injEq] at e
        exact e.2.1 ▸ mB
      · simp only [List.take, List.drop, List.cons_append, List.nil_append, List.cons.injEq, Val.str.injEq] at e
        obtain ⟨_, rfl, _⟩ := e
        exact of_decide_eq_true oo
      · simp only [List.take, List.drop, List.cons_append, List.nil_append, List.cons.injEq, Val.str.injEq] at e
        exact e.2.1 ▸ mB
      · simp only [List.take, List.drop, List.cons_append, List.nil_append, List.cons.injEq, Val.str.injEq] at e
        exact e.2.1 ▸ mB
      · simp only [List.take, List.drop, List.cons_append, List.nil_append, List.cons.injEq, Val.str.injEq] at e
        exact e.2.1 ▸ mB
inductive NearV (h : Hep) : Val → Prop
  | tup (l : List Val) (l0 : l ≠ []) (ok : l.all okVal = true) (ll : l.length ≤ 100) (ec : edCond l) : NearV h (.tup l)
  | nil : NearV h (.tup [])
  | flat (v : Val) (hv : flatOk v) : NearV h v
  | lst (n : Nat) (l : List Val) (e : h[n]? = some (.lst l)) : NearV h (.ref n)
theorem NearV.ke {h h' : Hep} {v : Val} (k : Ke h h') (n : NearV h v) : NearV h' v := by
  cases n with
  | tup l l0 ok ll ec => exact .tup l l0 ok ll ec
  | nil => exact .nil
  | flat v hv => exact .flat v hv
  | lst n l e => exact .lst n l (k n _ e)
theorem law_is_pic_other {v : Val} (hv : flatOk v ∨ v = .tup [] ∨ ∃ n, v = .ref n) {h : Hep} (hr : ∀ n, v = .ref n → ∃ l, h[n]? = some (.lst l)) : M_v_law_is_picture [v] h = .ok (.bl false) h := by
  rcases hv with hv | rfl | ⟨n, rfl⟩
  · cases v with
    | non => simp (disch := omega) only [sSeq_eq, sSet_eq, sIf_eq, sRet_eq, sNop_eq, sExpr_eq, sAsg_eq, sAug_eq, sFor_eq, sRaise_eq, eBin_eq, eUn_eq, eVar_eq, eC_eq, eTup_eq, eLst_eq, eCall_eq, eCallB_eq, eMth_eq, eIf_eq, eAnd_eq, eOr_eq, eNot_eq, eSl_eq, pNo_eq, pSome_eq, eComp_eq, iVal_eq, iArgs_eq, aNil_eq, aCons_eq, tVal_eq, tAnd_eq, tOr_eq, tNot_eq, tTru_eq, truth_bl, truth_non, get_0, get_S, Option.join_some, ofO_some, Res.bind_ok, Res.thn_ok, SR.bind_nx, SR.bind_ret, SR.res_ret, SR.res_nx, List.set_cons_succ, List.set_cons_zero, if_true, Bool.false_eq_true, if_false, typ_str, gTpl_eq, gsCons_eq, gsNil_eq, gNam_eq, Option.bind_some, Bool.not_true, Bool.not_false, List.replicate, fn_1, fn_2, fn_3, fn_4, oEq_str, oNe_str, oEq_int, oNe_int, oAdd_int, oSub_int, oLt_int, oGt_int, oLe_int, oGe_int, oIsN_eq, oNeg_int, bLen_str, oIn_ch, oNin_ch, S_e, S_0, S_9, S_mi, S_po, S_zs9, S_num, S_ed, S_text, decide_eq_true, decide_eq_false, beqI_t, beqI_f, szOk_of, List.length_cons, List.length_nil, Nat.reduceAdd, M_v_law_is_picture, B_v_law_is_picture, oIsi_eq, typ_non, Option.map_some, t_nt]
    | bl b => simp (disch := omega) only [sSeq_eq, sSet_eq, sIf_eq, sRet_eq, sNop_eq, sExpr_eq, sAsg_eq, sAug_eq, sFor_eq, sRaise_eq, eBin_eq, eUn_eq, eVar_eq, eC_eq, eTup_eq, eLst_eq, eCall_eq, eCallB_eq, eMth_eq, eIf_eq, eAnd_eq, eOr_eq, eNot_eq, eSl_eq, pNo_eq, pSome_eq, eComp_eq, iVal_eq, iArgs_eq, aNil_eq, aCons_eq, tVal_eq, tAnd_eq, tOr_eq, tNot_eq, tTru_eq, truth_bl, truth_non, get_0, get_S, Option.join_some, ofO_some, Res.bind_ok, Res.thn_ok, SR.bind_nx, SR.bind_ret, SR.res_ret, SR.res_nx, List.set_cons_succ, List.set_cons_zero, if_true, Bool.false_eq_true, if_false, typ_str, gTpl_eq, gsCons_eq, gsNil_eq, gNam_eq, Option.bind_some, Bool.not_true, Bool.not_false, List.replicate, fn_1, fn_2, fn_3, fn_4, oEq_str, oNe_str, oEq_int, oNe_int, oAdd_int, oSub_int, oLt_int, oGt_int, oLe_int, oGe_int, oIsN_eq, oNeg_int, bLen_str, oIn_ch, oNin_ch, S_e, S_0, S_9, S_mi, S_po, S_zs9, S_num, S_ed, S_text, decide_eq_true, decide_eq_false, beqI_t, beqI_f, szOk_of, List.length_cons, List.length_nil, Nat.reduceAdd, M_v_law_is_picture, B_v_law_is_picture, oIsi_eq, typ_bl, Option.map_some, show isT "bool" "tuple" = false by decide]
    | int i => simp (disch := omega) only [sSeq_eq, sSet_eq, sIf_eq, sRet_eq, sNop_eq, sExpr_eq, sAsg_eq, sAug_eq, sFor_eq, sRaise_eq, eBin_eq, eUn_eq, eVar_eq, eC_eq, eTup_eq, eLst_eq, eCall_eq, eCallB_eq, eMth_eq, eIf_eq, eAnd_eq, eOr_eq, eNot_eq, eSl_eq, pNo_eq, pSome_eq, eComp_eq, iVal_eq, iArgs_eq, aNil_eq, aCons_eq, tVal_eq, tAnd_eq, tOr_eq, tNot_eq, tTru_eq, truth_bl, truth_non, get_0, get_S, Option.join_some, ofO_some, Res.bind_ok, Res.thn_ok, SR.bind_nx, SR.bind_ret, SR.res_ret, SR.res_nx, List.set_cons_succ, List.set_cons_zero, if_true, Bool.false_eq_true, if_false, typ_str, gTpl_eq, gsCons_eq, gsNil_eq, gNam_eq, Option.bind_some, Bool.not_true, Bool.not_false, List.replicate, fn_1, fn_2, fn_3, fn_4, oEq_str, oNe_str, oEq_int, oNe_int, oAdd_int, oSub_int, oLt_int, oGt_int, oLe_int, oGe_int, oIsN_eq, oNeg_int, bLen_str, oIn_ch, oNin_ch, S_e, S_0, S_9, S_mi, S_po, S_zs9, S_num, S_ed, S_text, decide_eq_true, decide_eq_false, beqI_t, beqI_f, szOk_of, List.length_cons, List.length_nil, Nat.reduceAdd, M_v_law_is_picture, B_v_law_is_picture, oIsi_eq, typ_int, Option.map_some, t_it]
    | str s => simp (disch := omega) only [sSeq_eq, sSet_eq, sIf_eq, sRet_eq, sNop_eq, sExpr_eq, sAsg_eq, sAug_eq, sFor_eq, sRaise_eq, eBin_eq, eUn_eq, eVar_eq, eC_eq, eTup_eq, eLst_eq, eCall_eq, eCallB_eq, eMth_eq, eIf_eq, eAnd_eq, eOr_eq, eNot_eq, eSl_eq, pNo_eq, pSome_eq, eComp_eq, iVal_eq, iArgs_eq, aNil_eq, aCons_eq, tVal_eq, tAnd_eq, tOr_eq, tNot_eq, tTru_eq, truth_bl, truth_non, get_0, get_S, Option.join_some, ofO_some, Res.bind_ok, Res.thn_ok, SR.bind_nx, SR.bind_ret, SR.res_ret, SR.res_nx, List.set_cons_succ, List.set_cons_zero, if_true, Bool.false_eq_true, if_false, typ_str, gTpl_eq, gsCons_eq, gsNil_eq, gNam_eq, Option.bind_some, Bool.not_true, Bool.not_false, List.replicate, fn_1, fn_2, fn_3, fn_4, oEq_str, oNe_str, oEq_int, oNe_int, oAdd_int, oSub_int, oLt_int, oGt_int, oLe_int, oGe_int, oIsN_eq, oNeg_int, bLen_str, oIn_ch, oNin_ch, S_e, S_0, S_9, S_mi, S_po, S_zs9, S_num, S_ed, S_text, decide_eq_true, decide_eq_false, beqI_t, beqI_f, szOk_of, List.length_cons, List.length_nil, Nat.reduceAdd, M_v_law_is_picture, B_v_law_is_picture, oIsi_eq, Option.map_some, t_st]
    | _ => exact hv.elim
  · simp (disch := omega) only [sSeq_eq, sSet_eq, sIf_eq, sRet_eq, sNop_eq, sExpr_eq, sAsg_eq, sAug_eq, sFor_eq, sRaise_eq, eBin_eq, eUn_eq, eVar_eq, eC_eq, eTup_eq, eLst_eq, eCall_eq, eCallB_eq, eMth_eq, eIf_eq, eAnd_eq, eOr_eq, eNot_eq, eSl_eq, pNo_eq, pSome_eq, eComp_eq, iVal_eq, iArgs_eq, aNil_eq, aCons_eq, tVal_eq, tAnd_eq, tOr_eq, tNot_eq, tTru_eq, truth_bl, truth_non, get_0, get_S, Option.join_some, ofO_some, Res.bind_ok, Res.thn_ok, SR.bind_nx, SR.bind_ret, SR.res_ret, SR.res_nx, List.set_cons_succ, List.set_cons_zero, if_true, Bool.false_eq_true, if_false, typ_str, gTpl_eq, gsCons_eq, gsNil_eq, gNam_eq, Option.bind_some, Bool.not_true, Bool.not_false, List.replicate, fn_1, fn_2, fn_3, fn_4, oEq_str, oNe_str, oEq_int, oNe_int, oAdd_int, oSub_int, oLt_int, oGt_int, oLe_int, oGe_int, oIsN_eq, oNeg_int, bLen_str, oIn_ch, oNin_ch, S_e, S_0, S_9, S_mi, S_po, S_zs9, S_num, S_ed, S_text, decide_eq_true, decide_eq_false, beqI_t, beqI_f, szOk_of, List.length_cons, List.length_nil, Nat.reduceAdd, M_v_law_is_picture, B_v_law_is_picture, oIsi_eq, typ_tup, Option.map_some, t_tt, bLen_tup]
  · obtain ⟨l, e⟩ := hr n rfl
    simp (disch := omega) only [sSeq_eq, sSet_eq, sIf_eq, sRet_eq, sNop_eq, sExpr_eq, sAsg_eq, sAug_eq, sFor_eq, sRaise_eq, eBin_eq, eUn_eq, eVar_eq, eC_eq, eTup_eq, eLst_eq, eCall_eq, eCallB_eq, eMth_eq, eIf_eq, eAnd_eq, eOr_eq, eNot_eq, eSl_eq, pNo_eq, pSome_eq, eComp_eq, iVal_eq, iArgs_eq, aNil_eq, aCons_eq, tVal_eq, tAnd_eq, tOr_eq, tNot_eq, tTru_eq, truth_bl, truth_non, get_0, get_S, Option.join_some, ofO_some, Res.bind_ok, Res.thn_ok, SR.bind_nx, SR.bind_ret, SR.res_ret, SR.res_nx, List.set_cons_succ, List.set_cons_zero, if_true, Bool.false_eq_true, if_false, typ_str, gTpl_eq, gsCons_eq, gsNil_eq, gNam_eq, Option.bind_some, Bool.not_true, Bool.not_false, List.replicate, fn_1, fn_2, fn_3, fn_4, oEq_str, oNe_str, oEq_int, oNe_int, oAdd_int, oSub_int, oLt_int, oGt_int, oLe_int, oGe_int, oIsN_eq, oNeg_int, bLen_str, oIn_ch, oNin_ch, S_e, S_0, S_9, S_mi, S_po, S_zs9, S_num, S_ed, S_text, decide_eq_true, decide_eq_false, beqI_t, beqI_f, szOk_of, List.length_cons, List.length_nil, Nat.reduceAdd, M_v_law_is_picture, B_v_law_is_picture, oIsi_eq, typ_lst e, Option.map_some, t_lt]
/-- both say the same of a near value -/
theorem both {v : Val} {h : Hep} (n : NearV h v) : ∃ k h1 h2, Ke h h1 ∧ M_is_picture [v] h = .ok (.bl k) h1 ∧ Ke h1 h2 ∧ M_v_law_is_picture [v] h1 = .ok (.bl k) h2 := by
  cases n with
  | tup l l0 ok ll ec =>
    cases l with
    | nil => exact absurd rfl l0
    | cons x l =>
      have fs : ∀ y ∈ x :: l, flatOk y ∧ shortV y := fun y hy => okVal_flat (List.all_eq_true.mp ok y hy)
      have ll' : l.length ≤ 100 := by simp at ll; omega
      obtain ⟨h1, x1, e1⟩ := is_pic_tup (fun y hy => (fs y hy).1) (fun y hy => (fs y hy).2) ll' h
      obtain ⟨h2, x2, e2⟩ := law_is_pic_tup (fun y hy => (fs y hy).1) (fun y hy => (fs y hy).2) ll' h1
      rw [← agree _ ec] at e2
      exact ⟨_, h1, h2, x1.ke, e1, x2, e2⟩
  | nil => exact ⟨false, h, h, (Ext.refl h).ke, is_pic_other (.inr (.inl rfl)) (fun n e => by cases e), (Ext.refl h).ke, law_is_pic_other (.inr (.inl rfl)) (fun n e => by cases e)⟩
  | flat v hv =>
    have nr : ∀ n, v = .ref n → ∃ l, h[n]? = some (.lst l) := fun n e => by subst e; exact hv.elim
    exact ⟨false, h, h, (Ext.refl h).ke, is_pic_other (.inl hv) nr, (Ext.refl h).ke, law_is_pic_other (.inl hv) nr⟩
  | lst n l e =>
    have nr : ∀ m, Val.ref n = .ref m → ∃ l, h[m]? = some (.lst l) := fun m q => by cases q; exact ⟨l, e⟩
    exact ⟨false, h, h, (Ext.refl h).ke, is_pic_other (.inr (.inr ⟨n, rfl⟩)) nr, (Ext.refl h).ke, law_is_pic_other (.inr (.inr ⟨n, rfl⟩)) nr⟩
end Law

set_option maxRecDepth 100000
set_option maxHeartbeats 1000000
set_option linter.all false
/-! It: the drawn near value; what a drawn picture gives -/
namespace Law
open Cd Mir
theorem cutToV (t : List Val) (n : Nat) (h : n ≤ t.length) : cut t none (some (n : Int)) = t.take n := by
  unfold cut sIx
  simp only [if_neg (show ¬ (n : Int) < 0 by omega), Int.toNat_natCast, List.drop_zero, Nat.sub_zero, Nat.min_eq_left h]
theorem cutFromV (t : List Val) (n : Nat) (h : n ≤ t.length) : cut t (some (n : Int)) none = t.drop n := by
  unfold cut sIx
  simp only [if_neg (show ¬ (n : Int) < 0 by omega), Int.toNat_natCast, Nat.min_eq_left h]
  rw [List.take_of_length_le (by rw [List.length_drop]; omega)]
theorem addW_tup {h : Hep} {l m : List Val} (z : l.length + m.length ≤ 16777216) : oAddW h (.tup l) (.tup m) = some (.tup (l ++ m)) := by
  unfold oAddW
  simp only
  rw [if_pos (szOk_iff.mpr z)]
theorem bList_tup (l : List Val) (h : Hep) : bList [.tup l] h = some (.ref h.length, h ++ [.lst l]) := rfl
theorem near_ok {pl : List Val} (ok : pl.all okVal = true) (l2 : 2 ≤ pl.length) (l5 : pl.length ≤ 5)
    (ec : ∀ (a : Nat) (one : Val), a < pl.length → one ∈ OV → edCond (pl ++ [one]) ∧ edCond (pl.take a ++ [one] ++ pl.drop (a + 1))) (r : Int) (h : Hep) :
    ∃ v h', Ext h h' ∧ M_v_law_near [.tup pl, .int r] h = .ok v h' ∧ NearV h' v := by
  obtain ⟨a, ea⟩ := Int.eq_ofNat_of_zero_le (show 0 ≤ r / 5 % (pl.length : Int) from Int.emod_nonneg _ (by omega))
  have al : a < pl.length := by
    have := Int.emod_lt_of_pos (r / 5) (show (0 : Int) < pl.length by omega)
    omega
  have ol : OV.length = 20 := by decide
  have il : (r / 25 % 20).toNat < OV.length := by omega
  obtain ⟨one, e1⟩ : ∃ one, OV[(r / 25 % 20).toNat]? = some one := ⟨OV[(r / 25 % 20).toNat], List.getElem?_eq_getElem il⟩
  have om : one ∈ OV := List.mem_of_getElem? e1
  have oo := List.all_eq_true.mp OV_ok one om
  obtain ⟨c1, c3⟩ := ec a one al om
  let h1 : Hep := h ++ [.lst OV]
  have x1 : Ext h h1 := Ext.one h _
  have d5 : ∀ h, oDiv h (.int r) (.int 5) = some (.int (r / 5)) := fun h => oDiv_s (by decide) (by decide)
  have m5 : ∀ h, oMod h (.int r) (.int 5) = some (.int (r % 5)) := fun h => oMod_s (by decide)
  have ml : ∀ h, oMod h (.int (r / 5)) (.int pl.length) = some (.int a) := fun h => by rw [oMod_s (by omega), ea]
  have d25 : ∀ h, oDiv h (.int r) (.int 25) = some (.int (r / 25)) := fun h => oDiv_s (by decide) (by decide)
  have m20 : ∀ h, oMod h (.int (r / 25)) (.int 20) = some (.int (r / 25 % 20)) := fun h => oMod_s (by decide)
  have ix : oIdx h1 (.ref h.length) (.int (r / 25 % 20)) = some one := by
    rw [oIdx_ref (get_new _ _)]
    exact atI_of (by omega) e1
  have st1 : (sSet 2 (eLst (aCons (eC (.int 0)) (aCons (eC (.int 1)) (aCons (eC (.int 19)) (aCons (eC (.int 81)) (aCons (eUn oNeg (eC (.int 1))) (aCons (eC (.bl true)) (aCons (eC (.bl false)) (aCons (eC .non) (aCons (eC (.str (S ""))) (aCons (eC (.str (S "z9"))) (aCons (eC (.str (S "99"))) (aCons (eC (.str (S "9.9"))) (aCons (eC (.str (S "-"))) (aCons (eC (.str (S ".-"))) (aCons (eC (.str (S "cr"))) (aCons (eC (.str (S "x"))) (aCons (eC (.str (S "text"))) (aCons (eC (.str (S "number"))) (aCons (eC (.str (S "edited"))) (aCons (eC (.int 2)) aNil)))))))))))))))))))))) [some (.tup pl), some (.int r), none, none, none, none] h = .nx [some (.tup pl), some (.int r), some (.ref h.length), none, none, none] h1 := by
    simp only [sSeq_eq, sSet_eq, sIf_eq, sRet_eq, sNop_eq, sExpr_eq, sAsg_eq, sAug_eq, sFor_eq, sRaise_eq, eBin_eq, eUn_eq, eVar_eq, eC_eq, eTup_eq, eLst_eq, eCall_eq, eCallB_eq, eMth_eq, eIf_eq, eAnd_eq, eOr_eq, eNot_eq, eSl_eq, pNo_eq, pSome_eq, eComp_eq, iVal_eq, iArgs_eq, aNil_eq, aCons_eq, tVal_eq, tAnd_eq, tOr_eq, tNot_eq, tTru_eq, truth_bl, truth_non, get_0, get_S, Option.join_some, ofO_some, Res.bind_ok, Res.thn_ok, SR.bind_nx, SR.bind_ret, SR.res_ret, SR.res_nx, List.set_cons_succ, List.set_cons_zero, if_true, Bool.false_eq_true, if_false, typ_str, gTpl_eq, gsCons_eq, gsNil_eq, gNam_eq, Option.bind_some, Bool.not_true, Bool.not_false, List.replicate, fn_1, fn_2, fn_3, fn_4, oEq_str, oNe_str, oEq_int, oNe_int, oAdd_int, oSub_int, oLt_int, oGt_int, oLe_int, oGe_int, oIsN_eq, oNeg_int, oIn_ch, oNin_ch, S_e, S_0, S_9, S_mi, S_po, S_zs9, S_num, S_ed, S_text, if_pos (szOk_iff.mpr (show ([Val.int 0, Val.int 1, Val.int 19, Val.int 81, Val.int (-1), Val.bl true, Val.bl false, Val.non, Val.str [], Val.str (S "z9"), Val.str (S "99"), Val.str (S "9.9"), Val.str [45], Val.str (S ".-"), Val.str (S "cr"), Val.str (S "x"), Val.str [116, 101, 120, 116], Val.str [110, 117, 109, 98, 101, 114], Val.str [101, 100, 105, 116, 101, 100], Val.int 2] : List Val).length ≤ 16777216 by simp))]
    rfl
  have pre : ∀ R : Res Val, (T_v_law_near_1 [some (.tup pl), some (.int r), some (.ref h.length), some (.int (r % 5)), some (.int a), some one] h1).res = R → M_v_law_near [.tup pl, .int r] h = R := fun R q => by
    rw [← q]
    show SR.res (B_v_law_near [some (.tup pl), some (.int r), none, none, none, none] h) = _
    unfold B_v_law_near
    rw [sSeq_eq, st1, SR.bind_nx]
    simp only [sSeq_eq, sSet_eq, sIf_eq, sRet_eq, sNop_eq, sExpr_eq, sAsg_eq, sAug_eq, sFor_eq, sRaise_eq, eBin_eq, eUn_eq, eVar_eq, eC_eq, eTup_eq, eLst_eq, eCall_eq, eCallB_eq, eMth_eq, eIf_eq, eAnd_eq, eOr_eq, eNot_eq, eSl_eq, pNo_eq, pSome_eq, eComp_eq, iVal_eq, iArgs_eq, aNil_eq, aCons_eq, tVal_eq, tAnd_eq, tOr_eq, tNot_eq, tTru_eq, truth_bl, truth_non, get_0, get_S, Option.join_some, ofO_some, Res.bind_ok, Res.thn_ok, SR.bind_nx, SR.bind_ret, SR.res_ret, SR.res_nx, List.set_cons_succ, List.set_cons_zero, if_true, Bool.false_eq_true, if_false, typ_str, gTpl_eq, gsCons_eq, gsNil_eq, gNam_eq, Option.bind_some, Bool.not_true, Bool.not_false, List.replicate, fn_1, fn_2, fn_3, fn_4, oEq_str, oNe_str, oEq_int, oNe_int, oAdd_int, oSub_int, oLt_int, oGt_int, oLe_int, oGe_int, oIsN_eq, oNeg_int, oIn_ch, oNin_ch, S_e, S_0, S_9, S_mi, S_po, S_zs9, S_num, S_ed, S_text, m5, d5, bLen_tup, ml, d25, m20, ix]
  have sl1 : ∀ h, oSl h (.tup pl) none (some (a : Int)) = some (.tup (pl.take a), h) := fun h => by
    show some (Val.tup (cut pl none (some (a : Int))), h) = _
    rw [cutToV _ _ (by omega)]
  have sl2 : ∀ h, oSl h (.tup pl) (some ((a : Int) + 1)) none = some (.tup (pl.drop (a + 1)), h) := fun h => by
    show some (Val.tup (cut pl (some ((a : Int) + 1)) none), h) = _
    rw [show ((a : Int) + 1) = ((a + 1 : Nat) : Int) by omega, cutFromV _ _ (by omega)]
  have okp : ∀ x ∈ pl, okVal x = true := List.all_eq_true.mp ok
  have tk : ∀ x ∈ pl.take a, okVal x = true := fun x hx => okp x (List.mem_of_mem_take hx)
  have dp : ∀ x ∈ pl.drop (a + 1), okVal x = true := fun x hx => okp x (List.mem_of_mem_drop hx)
  have lt : (pl.take a).length = a := by rw [List.length_take]; omega
  have ld : (pl.drop (a + 1)).length = pl.length - (a + 1) := List.length_drop
  by_cases q0 : r % 5 = 0
  · refine ⟨.tup (pl.take a ++ pl.drop (a + 1)), h1, x1, pre _ ?_, .tup _ ?_ ?_ ?_ (edCond_len ?_)⟩
    · simp only [sSeq_eq, sSet_eq, sIf_eq, sRet_eq, sNop_eq, sExpr_eq, sAsg_eq, sAug_eq, sFor_eq, sRaise_eq, eBin_eq, eUn_eq, eVar_eq, eC_eq, eTup_eq, eLst_eq, eCall_eq, eCallB_eq, eMth_eq, eIf_eq, eAnd_eq, eOr_eq, eNot_eq, eSl_eq, pNo_eq, pSome_eq, eComp_eq, iVal_eq, iArgs_eq, aNil_eq, aCons_eq, tVal_eq, tAnd_eq, tOr_eq, tNot_eq, tTru_eq, truth_bl, truth_non, get_0, get_S, Option.join_some, ofO_some, Res.bind_ok, Res.thn_ok, SR.bind_nx, SR.bind_ret, SR.res_ret, SR.res_nx, List.set_cons_succ, List.set_cons_zero, if_true, Bool.false_eq_true, if_false, typ_str, gTpl_eq, gsCons_eq, gsNil_eq, gNam_eq, Option.bind_some, Bool.not_true, Bool.not_false, List.replicate, fn_1, fn_2, fn_3, fn_4, oEq_str, oNe_str, oEq_int, oNe_int, oAdd_int, oSub_int, oLt_int, oGt_int, oLe_int, oGe_int, oIsN_eq, oNeg_int, oIn_ch, oNin_ch, S_e, S_0, S_9, S_mi, S_po, S_zs9, S_num, S_ed, S_text, T_v_law_near_1, beqI_t q0, sl1, sl2, addW_tup (show (pl.take a).length + (pl.drop (a + 1)).length ≤ 16777216 by omega)]
    · intro z
      have := congrArg List.length z
      rw [List.length_append, lt, ld] at this
      simp at this
      omega
    · rw [List.all_append, List.all_eq_true.mpr tk, List.all_eq_true.mpr dp]; rfl
    · rw [List.length_append, lt, ld]; omega
    · rw [List.length_append, lt, ld]; omega
  · by_cases q1 : r % 5 = 1
    · refine ⟨.tup (pl ++ [one]), h1, x1, pre _ ?_, .tup _ (by simp) ?_ ?_ c1⟩
      · simp only [sSeq_eq, sSet_eq, sIf_eq, sRet_eq, sNop_eq, sExpr_eq, sAsg_eq, sAug_eq, sFor_eq, sRaise_eq, eBin_eq, eUn_eq, eVar_eq, eC_eq, eTup_eq, eLst_eq, eCall_eq, eCallB_eq, eMth_eq, eIf_eq, eAnd_eq, eOr_eq, eNot_eq, eSl_eq, pNo_eq, pSome_eq, eComp_eq, iVal_eq, iArgs_eq, aNil_eq, aCons_eq, tVal_eq, tAnd_eq, tOr_eq, tNot_eq, tTru_eq, truth_bl, truth_non, get_0, get_S, Option.join_some, ofO_some, Res.bind_ok, Res.thn_ok, SR.bind_nx, SR.bind_ret, SR.res_ret, SR.res_nx, List.set_cons_succ, List.set_cons_zero, if_true, Bool.false_eq_true, if_false, typ_str, gTpl_eq, gsCons_eq, gsNil_eq, gNam_eq, Option.bind_some, Bool.not_true, Bool.not_false, List.replicate, fn_1, fn_2, fn_3, fn_4, oEq_str, oNe_str, oEq_int, oNe_int, oAdd_int, oSub_int, oLt_int, oGt_int, oLe_int, oGe_int, oIsN_eq, oNeg_int, oIn_ch, oNin_ch, S_e, S_0, S_9, S_mi, S_po, S_zs9, S_num, S_ed, S_text, T_v_law_near_1, beqI_f q0, beqI_t q1, if_pos (szOk_iff.mpr (show ([one] : List Val).length ≤ 16777216 by simp)), addW_tup (show pl.length + ([one] : List Val).length ≤ 16777216 by simp; omega)]
      · rw [List.all_append, ok]; simp [oo]
      · simp; omega
    · by_cases q2 : r % 5 = 2
      · have d500 : ∀ h, oDiv h (.int r) (.int 500) = some (.int (r / 500)) := fun h => oDiv_s (by decide) (by decide)
        have m500 : ∀ h, oMod h (.int (r / 500)) (.int 5) = some (.int (r / 500 % 5)) := fun h => oMod_s (by decide)
        let h2 : Hep := h1 ++ [.lst pl]
        let L : List Val := [.ref h1.length, .non, .str [120], .tup [], .int 7]
        let h3 : Hep := h2 ++ [.lst L]
        have x3 : Ext h h3 := x1.trans ((Ext.one h1 _).trans (Ext.one h2 _))
        have il : (r / 500 % 5).toNat < L.length := by show _ < 5; omega
        obtain ⟨v, e2⟩ : ∃ v, L[(r / 500 % 5).toNat]? = some v := ⟨L[(r / 500 % 5).toNat], List.getElem?_eq_getElem il⟩
        have ix2 : oIdx h3 (.ref h2.length) (.int (r / 500 % 5)) = some v := by
          rw [oIdx_ref (get_new h2 (.lst L))]
          exact atI_of (by omega) e2
        have vm : v ∈ L := List.mem_of_getElem? e2
        refine ⟨v, h3, x3, pre _ ?_, ?_⟩
        · have el : eLst (aCons (eCallB bList (aCons (eVar 0) aNil)) (aCons (eC .non) (aCons (eC (.str (S "x"))) (aCons (eTup aNil) (aCons (eC (.int 7)) aNil))))) [some (.tup pl), some (.int r), some (.ref h.length), some (.int (r % 5)), some (.int a), some one] h1 = .ok (.ref h2.length) h3 := by
            simp only [sSeq_eq, sSet_eq, sIf_eq, sRet_eq, sNop_eq, sExpr_eq, sAsg_eq, sAug_eq, sFor_eq, sRaise_eq, eBin_eq, eUn_eq, eVar_eq, eC_eq, eTup_eq, eLst_eq, eCall_eq, eCallB_eq, eMth_eq, eIf_eq, eAnd_eq, eOr_eq, eNot_eq, eSl_eq, pNo_eq, pSome_eq, eComp_eq, iVal_eq, iArgs_eq, aNil_eq, aCons_eq, tVal_eq, tAnd_eq, tOr_eq, tNot_eq, tTru_eq, truth_bl, truth_non, get_0, get_S, Option.join_some, ofO_some, Res.bind_ok, Res.thn_ok, SR.bind_nx, SR.bind_ret, SR.res_ret, SR.res_nx, List.set_cons_succ, List.set_cons_zero, if_true, Bool.false_eq_true, if_false, typ_str, gTpl_eq, gsCons_eq, gsNil_eq, gNam_eq, Option.bind_some, Bool.not_true, Bool.not_false, List.replicate, fn_1, fn_2, fn_3, fn_4, oEq_str, oNe_str, oEq_int, oNe_int, oAdd_int, oSub_int, oLt_int, oGt_int, oLe_int, oGe_int, oIsN_eq, oNeg_int, oIn_ch, oNin_ch, S_e, S_0, S_9, S_mi, S_po, S_zs9, S_num, S_ed, S_text, bList_tup, S_x, if_pos (szOk_iff.mpr (show ([] : List Val).length ≤ 16777216 by simp)), if_pos (szOk_iff.mpr (show ([Val.ref h1.length, .non, .str [120], .tup [], .int 7] : List Val).length ≤ 16777216 by simp))]
            rfl
          unfold T_v_law_near_1
          have k0 : ∀ X : SM, sIf (tVal (eBin oEq (eVar 3) (eC (.int 0)))) X sNop [some (.tup pl), some (.int r), some (.ref h.length), some (.int (r % 5)), some (.int a), some one] h1 = .nx [some (.tup pl), some (.int r), some (.ref h.length), some (.int (r % 5)), some (.int a), some one] h1 := fun X => by
            simp only [sSeq_eq, sSet_eq, sIf_eq, sRet_eq, sNop_eq, sExpr_eq, sAsg_eq, sAug_eq, sFor_eq, sRaise_eq, eBin_eq, eUn_eq, eVar_eq, eC_eq, eTup_eq, eLst_eq, eCall_eq, eCallB_eq, eMth_eq, eIf_eq, eAnd_eq, eOr_eq, eNot_eq, eSl_eq, pNo_eq, pSome_eq, eComp_eq, iVal_eq, iArgs_eq, aNil_eq, aCons_eq, tVal_eq, tAnd_eq, tOr_eq, tNot_eq, tTru_eq, truth_bl, truth_non, get_0, get_S, Option.join_some, ofO_some, Res.bind_ok, Res.thn_ok, SR.bind_nx, SR.bind_ret, SR.res_ret, SR.res_nx, List.set_cons_succ, List.set_cons_zero, if_true, Bool.false_eq_true, if_false, typ_str, gTpl_eq, gsCons_eq, gsNil_eq, gNam_eq, Option.bind_some, Bool.not_true, Bool.not_false, List.replicate, fn_1, fn_2, fn_3, fn_4, oEq_str, oNe_str, oEq_int, oNe_int, oAdd_int, oSub_int, oLt_int, oGt_int, oLe_int, oGe_int, oIsN_eq, oNeg_int, oIn_ch, oNin_ch, S_e, S_0, S_9, S_mi, S_po, S_zs9, S_num, S_ed, S_text, beqI_f q0]
          have k1 : ∀ X : SM, sIf (tVal (eBin oEq (eVar 3) (eC (.int 1)))) X sNop [some (.tup pl), some (.int r), some (.ref h.length), some (.int (r % 5)), some (.int a), some one] h1 = .nx [some (.tup pl), some (.int r), some (.ref h.length), some (.int (r % 5)), some (.int a), some one] h1 := fun X => by
            simp only [sSeq_eq, sSet_eq, sIf_eq, sRet_eq, sNop_eq, sExpr_eq, sAsg_eq, sAug_eq, sFor_eq, sRaise_eq, eBin_eq, eUn_eq, eVar_eq, eC_eq, eTup_eq, eLst_eq, eCall_eq, eCallB_eq, eMth_eq, eIf_eq, eAnd_eq, eOr_eq, eNot_eq, eSl_eq, pNo_eq, pSome_eq, eComp_eq, iVal_eq, iArgs_eq, aNil_eq, aCons_eq, tVal_eq, tAnd_eq, tOr_eq, tNot_eq, tTru_eq, truth_bl, truth_non, get_0, get_S, Option.join_some, ofO_some, Res.bind_ok, Res.thn_ok, SR.bind_nx, SR.bind_ret, SR.res_ret, SR.res_nx, List.set_cons_succ, List.set_cons_zero, if_true, Bool.false_eq_true, if_false, typ_str, gTpl_eq, gsCons_eq, gsNil_eq, gNam_eq, Option.bind_some, Bool.not_true, Bool.not_false, List.replicate, fn_1, fn_2, fn_3, fn_4, oEq_str, oNe_str, oEq_int, oNe_int, oAdd_int, oSub_int, oLt_int, oGt_int, oLe_int, oGe_int, oIsN_eq, oNeg_int, oIn_ch, oNin_ch, S_e, S_0, S_9, S_mi, S_po, S_zs9, S_num, S_ed, S_text, beqI_f q1]
          have k2 : ∀ X : SM, sIf (tVal (eBin oEq (eVar 3) (eC (.int 2)))) X sNop [some (.tup pl), some (.int r), some (.ref h.length), some (.int (r % 5)), some (.int a), some one] h1 = X [some (.tup pl), some (.int r), some (.ref h.length), some (.int (r % 5)), some (.int a), some one] h1 := fun X => by
            simp only [sSeq_eq, sSet_eq, sIf_eq, sRet_eq, sNop_eq, sExpr_eq, sAsg_eq, sAug_eq, sFor_eq, sRaise_eq, eBin_eq, eUn_eq, eVar_eq, eC_eq, eTup_eq, eLst_eq, eCall_eq, eCallB_eq, eMth_eq, eIf_eq, eAnd_eq, eOr_eq, eNot_eq, eSl_eq, pNo_eq, pSome_eq, eComp_eq, iVal_eq, iArgs_eq, aNil_eq, aCons_eq, tVal_eq, tAnd_eq, tOr_eq, tNot_eq, tTru_eq, truth_bl, truth_non, get_0, get_S, Option.join_some, ofO_some, Res.bind_ok, Res.thn_ok, SR.bind_nx, SR.bind_ret, SR.res_ret, SR.res_nx, List.set_cons_succ, List.set_cons_zero, if_true, Bool.false_eq_true, if_false, typ_str, gTpl_eq, gsCons_eq, gsNil_eq, gNam_eq, Option.bind_some, Bool.not_true, Bool.not_false, List.replicate, fn_1, fn_2, fn_3, fn_4, oEq_str, oNe_str, oEq_int, oNe_int, oAdd_int, oSub_int, oLt_int, oGt_int, oLe_int, oGe_int, oIsN_eq, oNeg_int, oIn_ch, oNin_ch, S_e, S_0, S_9, S_mi, S_po, S_zs9, S_num, S_ed, S_text, beqI_t q2]
          rw [sSeq_eq, k0, SR.bind_nx, sSeq_eq, k1, SR.bind_nx, sSeq_eq, k2, sRet_eq, eBin_eq, el]
          simp only [sSeq_eq, sSet_eq, sIf_eq, sRet_eq, sNop_eq, sExpr_eq, sAsg_eq, sAug_eq, sFor_eq, sRaise_eq, eBin_eq, eUn_eq, eVar_eq, eC_eq, eTup_eq, eLst_eq, eCall_eq, eCallB_eq, eMth_eq, eIf_eq, eAnd_eq, eOr_eq, eNot_eq, eSl_eq, pNo_eq, pSome_eq, eComp_eq, iVal_eq, iArgs_eq, aNil_eq, aCons_eq, tVal_eq, tAnd_eq, tOr_eq, tNot_eq, tTru_eq, truth_bl, truth_non, get_0, get_S, Option.join_some, ofO_some, Res.bind_ok, Res.thn_ok, SR.bind_nx, SR.bind_ret, SR.res_ret, SR.res_nx, List.set_cons_succ, List.set_cons_zero, if_true, Bool.false_eq_true, if_false, typ_str, gTpl_eq, gsCons_eq, gsNil_eq, gNam_eq, Option.bind_some, Bool.not_true, Bool.not_false, List.replicate, fn_1, fn_2, fn_3, fn_4, oEq_str, oNe_str, oEq_int, oNe_int, oAdd_int, oSub_int, oLt_int, oGt_int, oLe_int, oGe_int, oIsN_eq, oNeg_int, oIn_ch, oNin_ch, S_e, S_0, S_9, S_mi, S_po, S_zs9, S_num, S_ed, S_text, d500, m500, ix2]
        · simp only [L, List.mem_cons, List.not_mem_nil, or_false] at vm
          rcases vm with rfl | rfl | rfl | rfl | rfl
          · exact .lst _ pl ((Ext.one h2 (.lst L)).get (get_new h1 (.lst pl)))
          · exact .flat _ trivial
          · exact .flat _ (by show chOk [120]; unfold chOk; decide)
          · exact .nil
          · exact .flat _ trivial
      · refine ⟨.tup (pl.take a ++ [one] ++ pl.drop (a + 1)), h1, x1, pre _ ?_, .tup _ (by simp) ?_ ?_ c3⟩
        · simp only [sSeq_eq, sSet_eq, sIf_eq, sRet_eq, sNop_eq, sExpr_eq, sAsg_eq, sAug_eq, sFor_eq, sRaise_eq, eBin_eq, eUn_eq, eVar_eq, eC_eq, eTup_eq, eLst_eq, eCall_eq, eCallB_eq, eMth_eq, eIf_eq, eAnd_eq, eOr_eq, eNot_eq, eSl_eq, pNo_eq, pSome_eq, eComp_eq, iVal_eq, iArgs_eq, aNil_eq, aCons_eq, tVal_eq, tAnd_eq, tOr_eq, tNot_eq, tTru_eq, truth_bl, truth_non, get_0, get_S, Option.join_some, ofO_some, Res.bind_ok, Res.thn_ok, SR.bind_nx, SR.bind_ret, SR.res_ret, SR.res_nx, List.set_cons_succ, List.set_cons_zero, if_true, Bool.false_eq_true, if_false, typ_str, gTpl_eq, gsCons_eq, gsNil_eq, gNam_eq, Option.bind_some, Bool.not_true, Bool.not_false, List.replicate, fn_1, fn_2, fn_3, fn_4, oEq_str, oNe_str, oEq_int, oNe_int, oAdd_int, oSub_int, oLt_int, oGt_int, oLe_int, oGe_int, oIsN_eq, oNeg_int, oIn_ch, oNin_ch, S_e, S_0, S_9, S_mi, S_po, S_zs9, S_num, S_ed, S_text, T_v_law_near_1, beqI_f q0, beqI_f q1, beqI_f q2, sl1, sl2, if_pos (szOk_iff.mpr (show ([one] : List Val).length ≤ 16777216 by simp)), addW_tup (show (pl.take a).length + ([one] : List Val).length ≤ 16777216 by simp; omega), addW_tup (show (pl.take a ++ [one]).length + (pl.drop (a + 1)).length ≤ 16777216 by simp; omega)]
        · rw [List.all_append, List.all_append, List.all_eq_true.mpr tk, List.all_eq_true.mpr dp]; simp [oo]
        · simp; omega
end Law

set_option maxRecDepth 100000
set_option maxHeartbeats 1000000
set_option linter.all false
/-! Iu: what a drawn picture gives -/
namespace Law
open Cd Mir
open Classical in
theorem eFmt_s {m : EM} {η : Env} {h h1 : Hep} {s : List Nat} (e : m η h = .ok (.str s) h1) (l : s.length ≤ 16777216) : eFmt m η h = .ok (.str s) h1 := by
  unfold eFmt
  rw [e]
  show (if szOk s.length then _ else _) = _
  rw [if_pos (szOk_iff.mpr l)]
open Classical in
theorem eFmt_i {m : EM} {η : Env} {h h1 : Hep} {i : Int} (e : m η h = .ok (.int i) h1) (l : i.natAbs.log2 < 1920) : eFmt m η h = .ok (.str (S (toString i))) h1 := by
  unfold eFmt
  rw [e]
  show (if strOk i then _ else _) = _
  rw [if_pos (show strOk i from l)]
open Classical in
theorem jsL_ok {m : EM} {ms : List EM} {acc y : List Nat} {η : Env} {h h1 : Hep} (e : m η h = .ok (.str y) h1) (l : acc.length + y.length ≤ 16777216) : jsL (m :: ms) acc η h = jsL ms (acc ++ y) η h1 := by
  rw [jsL]
  show (m η h).bind _ = _
  rw [e]
  show (if szOk (acc.length + y.length) then _ else _) = _
  rw [if_pos (szOk_iff.mpr l)]
theorem counted_ok (c n : Nat) (hn : n < 19) (h : Hep) : M_v_counted [.str [c], .int n] h = .ok (.str (cntT c n)) h := by
  unfold cntT
  by_cases q : n = 0
  · subst q
    rw [if_pos rfl]
    simp (disch := omega) only [sSeq_eq, sSet_eq, sIf_eq, sRet_eq, sNop_eq, sExpr_eq, sAsg_eq, sAug_eq, sFor_eq, sRaise_eq, eBin_eq, eUn_eq, eVar_eq, eC_eq, eTup_eq, eLst_eq, eCall_eq, eCallB_eq, eMth_eq, eIf_eq, eAnd_eq, eOr_eq, eNot_eq, eSl_eq, pNo_eq, pSome_eq, eComp_eq, iVal_eq, iArgs_eq, aNil_eq, aCons_eq, tVal_eq, tAnd_eq, tOr_eq, tNot_eq, tTru_eq, truth_bl, truth_non, get_0, get_S, Option.join_some, ofO_some, Res.bind_ok, Res.thn_ok, SR.bind_nx, SR.bind_ret, SR.res_ret, SR.res_nx, List.set_cons_succ, List.set_cons_zero, if_true, Bool.false_eq_true, if_false, typ_str, gTpl_eq, gsCons_eq, gsNil_eq, gNam_eq, Option.bind_some, Bool.not_true, Bool.not_false, List.replicate, fn_1, fn_2, fn_3, fn_4, oEq_str, oNe_str, oEq_int, oNe_int, oAdd_int, oSub_int, oLt_int, oGt_int, oLe_int, oGe_int, oIsN_eq, oNeg_int, bLen_str, oIn_ch, oNin_ch, S_e, S_0, S_9, S_mi, S_po, S_zs9, S_num, S_ed, S_text, decide_eq_true, decide_eq_false, beqI_t, beqI_f, szOk_of, List.length_cons, List.length_nil, Nat.reduceAdd, M_v_counted, B_v_counted]
  · rw [if_neg q]
    have lg : ((n : Nat) : Int).natAbs.log2 < 1920 := by
      have : ∀ n < 19, ((n : Nat) : Int).natAbs.log2 < 1920 := by decide
      exact this n hn
    have dl := dgs_len n
    have f1 : eFmt (eVar 0) [some (.str [c]), some (.int n)] h = .ok (.str [c]) h := eFmt_s (m := eVar 0) (by rw [eVar_eq]; rfl) (by simp)
    have f2 : eFmt (eVar 1) [some (.str [c]), some (.int n)] h = .ok (.str (dgs n)) h := by
      rw [← dgs_eq n hn]
      exact eFmt_i (m := eVar 1) (by rw [eVar_eq]; rfl) lg
    have f3 : eC (.str (S "(")) [some (.str [c]), some (.int n)] h = .ok (.str [40]) h := by rw [eC_eq, S_op]
    have f4 : eC (.str (S ")")) [some (.str [c]), some (.int n)] h = .ok (.str [41]) h := by rw [eC_eq, S_cl]
    have js : eJs ((eFmt (eVar 0)) :: ((eC (.str (S "("))) :: ((eFmt (eVar 1)) :: ((eC (.str (S ")"))) :: [])))) [some (.str [c]), some (.int n)] h = .ok (.str ([c, 40] ++ dgs n ++ [41])) h := by
      unfold eJs
      rw [jsL_ok f1 (by simp), jsL_ok f3 (by simp), jsL_ok f2 (by simp; omega), jsL_ok f4 (by simp; omega), jsL]
      simp
    have c0 : ∀ X : SM, sIf (tVal (eBin oEq (eVar 1) (eC (.int 0)))) X sNop [some (.str [c]), some (.int n)] h = .nx [some (.str [c]), some (.int n)] h := fun X => by
      simp (disch := omega) only [sSeq_eq, sSet_eq, sIf_eq, sRet_eq, sNop_eq, sExpr_eq, sAsg_eq, sAug_eq, sFor_eq, sRaise_eq, eBin_eq, eUn_eq, eVar_eq, eC_eq, eTup_eq, eLst_eq, eCall_eq, eCallB_eq, eMth_eq, eIf_eq, eAnd_eq, eOr_eq, eNot_eq, eSl_eq, pNo_eq, pSome_eq, eComp_eq, iVal_eq, iArgs_eq, aNil_eq, aCons_eq, tVal_eq, tAnd_eq, tOr_eq, tNot_eq, tTru_eq, truth_bl, truth_non, get_0, get_S, Option.join_some, ofO_some, Res.bind_ok, Res.thn_ok, SR.bind_nx, SR.bind_ret, SR.res_ret, SR.res_nx, List.set_cons_succ, List.set_cons_zero, if_true, Bool.false_eq_true, if_false, typ_str, gTpl_eq, gsCons_eq, gsNil_eq, gNam_eq, Option.bind_some, Bool.not_true, Bool.not_false, List.replicate, fn_1, fn_2, fn_3, fn_4, oEq_str, oNe_str, oEq_int, oNe_int, oAdd_int, oSub_int, oLt_int, oGt_int, oLe_int, oGe_int, oIsN_eq, oNeg_int, bLen_str, oIn_ch, oNin_ch, S_e, S_0, S_9, S_mi, S_po, S_zs9, S_num, S_ed, S_text, decide_eq_true, decide_eq_false, beqI_t, beqI_f, szOk_of, List.length_cons, List.length_nil, Nat.reduceAdd]
    show SR.res (B_v_counted [some (.str [c]), some (.int n)] h) = _
    unfold B_v_counted
    rw [sSeq_eq, c0, SR.bind_nx, sRet_eq, js]
    rfl
theorem dInt_eq (l : List (String × Int)) (η : Env) (h : Hep) : eDInt l η h = .ok (.ref h.length) (h ++ [.dct (l.map fun p => (.str (S p.1), .int p.2))]) := rfl
/-- the values that the law wants of a picture -/
noncomputable def sgdg : SM := sIf (tVal (eBin oEq (eBin oIdx (eVar 3) (eC (.int 0))) (eC (.str (S "text"))))) (sSeq (sSet 5 (eC (.bl false))) (sSet 6 (eC (.bl true)))) (sSeq (sSet 5 (eIf (tVal (eBin oEq (eBin oIdx (eVar 3) (eC (.int 0))) (eC (.str (S "number"))))) (eBin oIdx (eVar 3) (eC (.int 1))) (eBin oNe (eBin oIdx (eVar 3) (eC (.int 4))) (eC (.str (S "")))))) (sSet 6 (eTup (aCons (eBin oIdx (eVar 3) (eC (.int 2))) (aCons (eBin oIdx (eVar 3) (eC (.int 3))) aNil)))))
structure Fact (P : Val) (pl : List Val) (t : List Nat) (z : Int) (sg : Bool) (dg : Val) : Prop where
  tx : ∀ h, ∃ h1, Ext h h1 ∧ M_picture_text [P] h = .ok (.str t) h1
  ltx : ∀ h, ∃ h1, Ext h h1 ∧ M_v_law_picture_text [P] h = .ok (.str t) h1
  len : t.length ≤ 200
  ps : psEq t pl = true
  sz : ∀ h, M_size_of [P] h = .ok (.int z) h
  lsz : ∀ h, ∃ h1, Ext h h1 ∧ M_v_law_size [P] h = .ok (.int z) h1
  si : ∀ h, M_is_signed [P] h = .ok (.bl sg) h
  di : ∀ h, M_v_law_digits [P] h = .ok dg h
  de : ∀ h, oNe h dg dg = some (.bl false)
  row : ∀ (v0 v1 v2 v4 v5 v6 v7 v8 v9 : Option Val) (h : Hep), sgdg [v0, v1, v2, some P, v4, v5, v6, v7, v8, v9] h = .nx [v0, v1, v2, some P, v4, some (.bl sg), some dg, v7, v8, v9] h
theorem txAll : ((List.range 13).all fun n => n == 0 || psEq (cntT 120 n) [.str [116, 101, 120, 116], .int (n : Nat)]) = true := by decide +kernel
theorem drAll : (bodyL.all fun b => (List.range 4).all fun f => signs.all fun s => (s == [] && (edB b f == [57] || edB b f == [57, 57])) || psEq (edText (edB b f) s) [.str [101, 100, 105, 116, 101, 100], .str (edB b f), .int (nDig b : Nat), .int (f : Nat), .str s]) = true := by decide +kernel
theorem fact_tx (n : Nat) (h0 : 0 < n) (h1 : n ≤ 12) : ∃ t z sg dg, Fact (.tup [.str [116, 101, 120, 116], .int n]) [.str [116, 101, 120, 116], .int n] t z sg dg := by
  have z : (([116, 101, 120, 116] : List Nat) == [116, 101, 120, 116]) = true := by decide
  have z2 : (([116, 101, 120, 116] : List Nat) == [110, 117, 109, 98, 101, 114]) = false := by decide
  have z3 : (([116, 101, 120, 116] : List Nat) == [101, 100, 105, 116, 101, 100]) = false := by decide
  have n0 : ¬ n = 0 := by omega
  have ct : cntT 120 n = [120, 40] ++ dgs n ++ [41] := if_neg n0
  have dl := dgs_len n
  have lk : ([("BadPicture", true)] : List (String × Bool)).lookup "BadPicture" = some true := by decide
  refine ⟨cntT 120 n, n, false, .bl true, fun h => ⟨h, Ext.refl h, ?_⟩, fun h => ⟨h, Ext.refl h, ?_⟩, Nat.le_trans (cnt_len 120 n) (by decide), ?_, fun h => ?_, fun h => ⟨h, Ext.refl h, ?_⟩, fun h => ?_, fun h => ?_, fun h => rfl, fun v0 v1 v2 v4 v5 v6 v7 v8 v9 h => ?_⟩
  · have c := counted_ok 120 n (by omega) h
    simp (disch := omega) only [sSeq_eq, sSet_eq, sIf_eq, sRet_eq, sNop_eq, sExpr_eq, sAsg_eq, sAug_eq, sFor_eq, sRaise_eq, eBin_eq, eUn_eq, eVar_eq, eC_eq, eTup_eq, eLst_eq, eCall_eq, eCallB_eq, eMth_eq, eIf_eq, eAnd_eq, eOr_eq, eNot_eq, eSl_eq, pNo_eq, pSome_eq, eComp_eq, iVal_eq, iArgs_eq, aNil_eq, aCons_eq, tVal_eq, tAnd_eq, tOr_eq, tNot_eq, tTru_eq, truth_bl, truth_non, get_0, get_S, Option.join_some, ofO_some, Res.bind_ok, Res.thn_ok, SR.bind_nx, SR.bind_ret, SR.res_ret, SR.res_nx, List.set_cons_succ, List.set_cons_zero, if_true, Bool.false_eq_true, if_false, typ_str, gTpl_eq, gsCons_eq, gsNil_eq, gNam_eq, Option.bind_some, Bool.not_true, Bool.not_false, List.replicate, fn_1, fn_2, fn_3, fn_4, oEq_str, oNe_str, oEq_int, oNe_int, oAdd_int, oSub_int, oLt_int, oGt_int, oLe_int, oGe_int, oIsN_eq, oNeg_int, bLen_str, oIn_ch, oNin_ch, S_e, S_0, S_9, S_mi, S_po, S_zs9, S_num, S_ed, S_text, decide_eq_true, decide_eq_false, beqI_t, beqI_f, szOk_of, List.length_cons, List.length_nil, Nat.reduceAdd, M_picture_text, B_picture_text, oIdx_tup, atI_zero, atI_one, z, S_x, c]
  · have a1 : oAdd h (.str [120, 40]) (.str (dgs n)) = some (.str ([120, 40] ++ dgs n)) := oAdd_str (by simp; omega)
    have a2 : oAdd h (.str ([120, 40] ++ dgs n)) (.str [41]) = some (.str ([120, 40] ++ dgs n ++ [41])) := oAdd_str (by simp; omega)
    simp (disch := omega) only [sSeq_eq, sSet_eq, sIf_eq, sRet_eq, sNop_eq, sExpr_eq, sAsg_eq, sAug_eq, sFor_eq, sRaise_eq, eBin_eq, eUn_eq, eVar_eq, eC_eq, eTup_eq, eLst_eq, eCall_eq, eCallB_eq, eMth_eq, eIf_eq, eAnd_eq, eOr_eq, eNot_eq, eSl_eq, pNo_eq, pSome_eq, eComp_eq, iVal_eq, iArgs_eq, aNil_eq, aCons_eq, tVal_eq, tAnd_eq, tOr_eq, tNot_eq, tTru_eq, truth_bl, truth_non, get_0, get_S, Option.join_some, ofO_some, Res.bind_ok, Res.thn_ok, SR.bind_nx, SR.bind_ret, SR.res_ret, SR.res_nx, List.set_cons_succ, List.set_cons_zero, if_true, Bool.false_eq_true, if_false, typ_str, gTpl_eq, gsCons_eq, gsNil_eq, gNam_eq, Option.bind_some, Bool.not_true, Bool.not_false, List.replicate, fn_1, fn_2, fn_3, fn_4, oEq_str, oNe_str, oEq_int, oNe_int, oAdd_int, oSub_int, oLt_int, oGt_int, oLe_int, oGe_int, oIsN_eq, oNeg_int, bLen_str, oIn_ch, oNin_ch, S_e, S_0, S_9, S_mi, S_po, S_zs9, S_num, S_ed, S_text, decide_eq_true, decide_eq_false, beqI_t, beqI_f, szOk_of, List.length_cons, List.length_nil, Nat.reduceAdd, M_v_law_picture_text, B_v_law_picture_text, oIdx_tup, atI_zero, atI_one, z, S_xo, S_cl, bStr_dgs (show n < 19 by omega), a1, a2]
    rw [ct]
  · have := List.all_eq_true.mp txAll n (List.mem_range.mpr (by omega))
    rw [Bool.or_eq_true] at this
    rcases this with h | h
    · exact absurd (by simpa using h) n0
    · exact h
  · simp (disch := omega) only [sSeq_eq, sSet_eq, sIf_eq, sRet_eq, sNop_eq, sExpr_eq, sAsg_eq, sAug_eq, sFor_eq, sRaise_eq, eBin_eq, eUn_eq, eVar_eq, eC_eq, eTup_eq, eLst_eq, eCall_eq, eCallB_eq, eMth_eq, eIf_eq, eAnd_eq, eOr_eq, eNot_eq, eSl_eq, pNo_eq, pSome_eq, eComp_eq, iVal_eq, iArgs_eq, aNil_eq, aCons_eq, tVal_eq, tAnd_eq, tOr_eq, tNot_eq, tTru_eq, truth_bl, truth_non, get_0, get_S, Option.join_some, ofO_some, Res.bind_ok, Res.thn_ok, SR.bind_nx, SR.bind_ret, SR.res_ret, SR.res_nx, List.set_cons_succ, List.set_cons_zero, if_true, Bool.false_eq_true, if_false, typ_str, gTpl_eq, gsCons_eq, gsNil_eq, gNam_eq, Option.bind_some, Bool.not_true, Bool.not_false, List.replicate, fn_1, fn_2, fn_3, fn_4, oEq_str, oNe_str, oEq_int, oNe_int, oAdd_int, oSub_int, oLt_int, oGt_int, oLe_int, oGe_int, oIsN_eq, oNeg_int, bLen_str, oIn_ch, oNin_ch, S_e, S_0, S_9, S_mi, S_po, S_zs9, S_num, S_ed, S_text, decide_eq_true, decide_eq_false, beqI_t, beqI_f, szOk_of, List.length_cons, List.length_nil, Nat.reduceAdd, M_size_of, B_size_of, oIdx_tup, atI_zero, atI_one, z]
  · simp (disch := omega) only [sSeq_eq, sSet_eq, sIf_eq, sRet_eq, sNop_eq, sExpr_eq, sAsg_eq, sAug_eq, sFor_eq, sRaise_eq, eBin_eq, eUn_eq, eVar_eq, eC_eq, eTup_eq, eLst_eq, eCall_eq, eCallB_eq, eMth_eq, eIf_eq, eAnd_eq, eOr_eq, eNot_eq, eSl_eq, pNo_eq, pSome_eq, eComp_eq, iVal_eq, iArgs_eq, aNil_eq, aCons_eq, tVal_eq, tAnd_eq, tOr_eq, tNot_eq, tTru_eq, truth_bl, truth_non, get_0, get_S, Option.join_some, ofO_some, Res.bind_ok, Res.thn_ok, SR.bind_nx, SR.bind_ret, SR.res_ret, SR.res_nx, List.set_cons_succ, List.set_cons_zero, if_true, Bool.false_eq_true, if_false, typ_str, gTpl_eq, gsCons_eq, gsNil_eq, gNam_eq, Option.bind_some, Bool.not_true, Bool.not_false, List.replicate, fn_1, fn_2, fn_3, fn_4, oEq_str, oNe_str, oEq_int, oNe_int, oAdd_int, oSub_int, oLt_int, oGt_int, oLe_int, oGe_int, oIsN_eq, oNeg_int, bLen_str, oIn_ch, oNin_ch, S_e, S_0, S_9, S_mi, S_po, S_zs9, S_num, S_ed, S_text, decide_eq_true, decide_eq_false, beqI_t, beqI_f, szOk_of, List.length_cons, List.length_nil, Nat.reduceAdd, M_v_law_size, B_v_law_size, oIdx_tup, atI_zero, atI_one, z]
  · simp (disch := omega) only [sSeq_eq, sSet_eq, sIf_eq, sRet_eq, sNop_eq, sExpr_eq, sAsg_eq, sAug_eq, sFor_eq, sRaise_eq, eBin_eq, eUn_eq, eVar_eq, eC_eq, eTup_eq, eLst_eq, eCall_eq, eCallB_eq, eMth_eq, eIf_eq, eAnd_eq, eOr_eq, eNot_eq, eSl_eq, pNo_eq, pSome_eq, eComp_eq, iVal_eq, iArgs_eq, aNil_eq, aCons_eq, tVal_eq, tAnd_eq, tOr_eq, tNot_eq, tTru_eq, truth_bl, truth_non, get_0, get_S, Option.join_some, ofO_some, Res.bind_ok, Res.thn_ok, SR.bind_nx, SR.bind_ret, SR.res_ret, SR.res_nx, List.set_cons_succ, List.set_cons_zero, if_true, Bool.false_eq_true, if_false, typ_str, gTpl_eq, gsCons_eq, gsNil_eq, gNam_eq, Option.bind_some, Bool.not_true, Bool.not_false, List.replicate, fn_1, fn_2, fn_3, fn_4, oEq_str, oNe_str, oEq_int, oNe_int, oAdd_int, oSub_int, oLt_int, oGt_int, oLe_int, oGe_int, oIsN_eq, oNeg_int, bLen_str, oIn_ch, oNin_ch, S_e, S_0, S_9, S_mi, S_po, S_zs9, S_num, S_ed, S_text, decide_eq_true, decide_eq_false, beqI_t, beqI_f, szOk_of, List.length_cons, List.length_nil, Nat.reduceAdd, M_is_signed, B_is_signed, oIdx_tup, atI_zero, z2, z3]
  · have b1 : (sRet (eCall M_digits_in (aCons (eVar 0) aNil))) [some (.tup [.str [116, 101, 120, 116], .int n]), none] h = .exc ⟨"BadPicture", []⟩ [some (.tup [.str [116, 101, 120, 116], .int n]), none] h := by
      simp (disch := omega) only [sSeq_eq, sSet_eq, sIf_eq, sRet_eq, sNop_eq, sExpr_eq, sAsg_eq, sAug_eq, sFor_eq, sRaise_eq, eBin_eq, eUn_eq, eVar_eq, eC_eq, eTup_eq, eLst_eq, eCall_eq, eCallB_eq, eMth_eq, eIf_eq, eAnd_eq, eOr_eq, eNot_eq, eSl_eq, pNo_eq, pSome_eq, eComp_eq, iVal_eq, iArgs_eq, aNil_eq, aCons_eq, tVal_eq, tAnd_eq, tOr_eq, tNot_eq, tTru_eq, truth_bl, truth_non, get_0, get_S, Option.join_some, ofO_some, Res.bind_ok, Res.thn_ok, SR.bind_nx, SR.bind_ret, SR.res_ret, SR.res_nx, List.set_cons_succ, List.set_cons_zero, if_true, Bool.false_eq_true, if_false, typ_str, gTpl_eq, gsCons_eq, gsNil_eq, gNam_eq, Option.bind_some, Bool.not_true, Bool.not_false, List.replicate, fn_1, fn_2, fn_3, fn_4, oEq_str, oNe_str, oEq_int, oNe_int, oAdd_int, oSub_int, oLt_int, oGt_int, oLe_int, oGe_int, oIsN_eq, oNeg_int, bLen_str, oIn_ch, oNin_ch, S_e, S_0, S_9, S_mi, S_po, S_zs9, S_num, S_ed, S_text, decide_eq_true, decide_eq_false, beqI_t, beqI_f, szOk_of, List.length_cons, List.length_nil, Nat.reduceAdd, M_digits_in, B_digits_in, oIdx_tup, atI_zero, z]
      rfl
    show SR.res (sTry _ 1 _ _ [some (.tup [.str [116, 101, 120, 116], .int n]), none] h) = _
    rw [sTry_eq, b1]
    simp [lk]
  · unfold sgdg
    simp (disch := omega) only [sSeq_eq, sSet_eq, sIf_eq, sRet_eq, sNop_eq, sExpr_eq, sAsg_eq, sAug_eq, sFor_eq, sRaise_eq, eBin_eq, eUn_eq, eVar_eq, eC_eq, eTup_eq, eLst_eq, eCall_eq, eCallB_eq, eMth_eq, eIf_eq, eAnd_eq, eOr_eq, eNot_eq, eSl_eq, pNo_eq, pSome_eq, eComp_eq, iVal_eq, iArgs_eq, aNil_eq, aCons_eq, tVal_eq, tAnd_eq, tOr_eq, tNot_eq, tTru_eq, truth_bl, truth_non, get_0, get_S, Option.join_some, ofO_some, Res.bind_ok, Res.thn_ok, SR.bind_nx, SR.bind_ret, SR.res_ret, SR.res_nx, List.set_cons_succ, List.set_cons_zero, if_true, Bool.false_eq_true, if_false, typ_str, gTpl_eq, gsCons_eq, gsNil_eq, gNam_eq, Option.bind_some, Bool.not_true, Bool.not_false, List.replicate, fn_1, fn_2, fn_3, fn_4, oEq_str, oNe_str, oEq_int, oNe_int, oAdd_int, oSub_int, oLt_int, oGt_int, oLe_int, oGe_int, oIsN_eq, oNeg_int, bLen_str, oIn_ch, oNin_ch, S_e, S_0, S_9, S_mi, S_po, S_zs9, S_num, S_ed, S_text, decide_eq_true, decide_eq_false, beqI_t, beqI_f, szOk_of, List.length_cons, List.length_nil, Nat.reduceAdd, oIdx_tup, atI_zero, z]
theorem fact_num (b : Bool) (w f : Nat) (h0 : 0 < w + f) (hw : w ≤ 4) (hf : f ≤ 2) : ∃ t z sg dg, Fact (.tup [.str [110, 117, 109, 98, 101, 114], .bl b, .int w, .int f]) [.str [110, 117, 109, 98, 101, 114], .bl b, .int w, .int f] t z sg dg := by
  have z : (([110, 117, 109, 98, 101, 114] : List Nat) == [116, 101, 120, 116]) = false := by decide
  have z2 : (([110, 117, 109, 98, 101, 114] : List Nat) == [110, 117, 109, 98, 101, 114]) = true := by decide
  have l1 := cnt_len 57 w
  have l2 := cnt_len 57 f
  refine ⟨numText b w f, (if b then 1 else 0) + w + f, b, .tup [.int w, .int f], fun h => ⟨h, Ext.refl h, ?_⟩, fun h => ⟨h, Ext.refl h, law_text_num b w f (by omega) (by omega) h⟩, Nat.le_trans (numText_len b w f) (by decide), ?_, fun h => ?_, fun h => ⟨h, Ext.refl h, ?_⟩, fun h => ?_, fun h => ?_, fun h => ?_, fun v0 v1 v2 v4 v5 v6 v7 v8 v9 h => ?_⟩
  · have c1 := counted_ok 57 w (by omega) h
    have c2 := counted_ok 57 f (by omega) h
    have sv : ∃ s v : List Nat, s = (if b then [115] else []) ∧ v = (if f = 0 then [] else [118]) ∧ s.length ≤ 1 ∧ v.length ≤ 1 := ⟨_, _, rfl, rfl, by split <;> simp, by split <;> simp⟩
    obtain ⟨s, v, es, ev, ls, lv⟩ := sv
    have a1 : oAdd h (.str s) (.str (cntT 57 w)) = some (.str (s ++ cntT 57 w)) := oAdd_str (by omega)
    have a2 : oAdd h (.str (s ++ cntT 57 w)) (.str v) = some (.str (s ++ cntT 57 w ++ v)) := oAdd_str (by simp; omega)
    have a3 : oAdd h (.str (s ++ cntT 57 w ++ v)) (.str (cntT 57 f)) = some (.str (s ++ cntT 57 w ++ v ++ cntT 57 f)) := oAdd_str (by simp; omega)
    have e1 : sSet 1 (eIf (tTru (eBin oIdx (eVar 0) (eC (.int 1)))) (eC (.str (S "s"))) (eC (.str (S "")))) [some (.tup [.str [110, 117, 109, 98, 101, 114], .bl b, .int w, .int f]), none, none, none] h = .nx [some (.tup [.str [110, 117, 109, 98, 101, 114], .bl b, .int w, .int f]), some (.str s), none, none] h := by
      rw [es]
      cases b <;> simp (disch := omega) only [sSeq_eq, sSet_eq, sIf_eq, sRet_eq, sNop_eq, sExpr_eq, sAsg_eq, sAug_eq, sFor_eq, sRaise_eq, eBin_eq, eUn_eq, eVar_eq, eC_eq, eTup_eq, eLst_eq, eCall_eq, eCallB_eq, eMth_eq, eIf_eq, eAnd_eq, eOr_eq, eNot_eq, eSl_eq, pNo_eq, pSome_eq, eComp_eq, iVal_eq, iArgs_eq, aNil_eq, aCons_eq, tVal_eq, tAnd_eq, tOr_eq, tNot_eq, tTru_eq, truth_bl, truth_non, get_0, get_S, Option.join_some, ofO_some, Res.bind_ok, Res.thn_ok, SR.bind_nx, SR.bind_ret, SR.res_ret, SR.res_nx, List.set_cons_succ, List.set_cons_zero, if_true, Bool.false_eq_true, if_false, typ_str, gTpl_eq, gsCons_eq, gsNil_eq, gNam_eq, Option.bind_some, Bool.not_true, Bool.not_false, List.replicate, fn_1, fn_2, fn_3, fn_4, oEq_str, oNe_str, oEq_int, oNe_int, oAdd_int, oSub_int, oLt_int, oGt_int, oLe_int, oGe_int, oIsN_eq, oNeg_int, bLen_str, oIn_ch, oNin_ch, S_e, S_0, S_9, S_mi, S_po, S_zs9, S_num, S_ed, S_text, decide_eq_true, decide_eq_false, beqI_t, beqI_f, szOk_of, List.length_cons, List.length_nil, Nat.reduceAdd, oIdx_tup, atI_one, S_s]
    have e2 : sSet 2 (eIf (tVal (eBin oGt (eBin oIdx (eVar 0) (eC (.int 3))) (eC (.int 0)))) (eC (.str (S "v"))) (eC (.str (S "")))) [some (.tup [.str [110, 117, 109, 98, 101, 114], .bl b, .int w, .int f]), some (.str s), none, none] h = .nx [some (.tup [.str [110, 117, 109, 98, 101, 114], .bl b, .int w, .int f]), some (.str s), some (.str v), none] h := by
      rw [ev]
      by_cases q : f = 0
      · rw [if_pos q]; simp (disch := omega) only [sSeq_eq, sSet_eq, sIf_eq, sRet_eq, sNop_eq, sExpr_eq, sAsg_eq, sAug_eq, sFor_eq, sRaise_eq, eBin_eq, eUn_eq, eVar_eq, eC_eq, eTup_eq, eLst_eq, eCall_eq, eCallB_eq, eMth_eq, eIf_eq, eAnd_eq, eOr_eq, eNot_eq, eSl_eq, pNo_eq, pSome_eq, eComp_eq, iVal_eq, iArgs_eq, aNil_eq, aCons_eq, tVal_eq, tAnd_eq, tOr_eq, tNot_eq, tTru_eq, truth_bl, truth_non, get_0, get_S, Option.join_some, ofO_some, Res.bind_ok, Res.thn_ok, SR.bind_nx, SR.bind_ret, SR.res_ret, SR.res_nx, List.set_cons_succ, List.set_cons_zero, if_true, Bool.false_eq_true, if_false, typ_str, gTpl_eq, gsCons_eq, gsNil_eq, gNam_eq, Option.bind_some, Bool.not_true, Bool.not_false, List.replicate, fn_1, fn_2, fn_3, fn_4, oEq_str, oNe_str, oEq_int, oNe_int, oAdd_int, oSub_int, oLt_int, oGt_int, oLe_int, oGe_int, oIsN_eq, oNeg_int, bLen_str, oIn_ch, oNin_ch, S_e, S_0, S_9, S_mi, S_po, S_zs9, S_num, S_ed, S_text, decide_eq_true, decide_eq_false, beqI_t, beqI_f, szOk_of, List.length_cons, List.length_nil, Nat.reduceAdd, oIdx_tup, atI_three, S_v]
      · rw [if_neg q]; simp (disch := omega) only [sSeq_eq, sSet_eq, sIf_eq, sRet_eq, sNop_eq, sExpr_eq, sAsg_eq, sAug_eq, sFor_eq, sRaise_eq, eBin_eq, eUn_eq, eVar_eq, eC_eq, eTup_eq, eLst_eq, eCall_eq, eCallB_eq, eMth_eq, eIf_eq, eAnd_eq, eOr_eq, eNot_eq, eSl_eq, pNo_eq, pSome_eq, eComp_eq, iVal_eq, iArgs_eq, aNil_eq, aCons_eq, tVal_eq, tAnd_eq, tOr_eq, tNot_eq, tTru_eq, truth_bl, truth_non, get_0, get_S, Option.join_some, ofO_some, Res.bind_ok, Res.thn_ok, SR.bind_nx, SR.bind_ret, SR.res_ret, SR.res_nx, List.set_cons_succ, List.set_cons_zero, if_true, Bool.false_eq_true, if_false, typ_str, gTpl_eq, gsCons_eq, gsNil_eq, gNam_eq, Option.bind_some, Bool.not_true, Bool.not_false, List.replicate, fn_1, fn_2, fn_3, fn_4, oEq_str, oNe_str, oEq_int, oNe_int, oAdd_int, oSub_int, oLt_int, oGt_int, oLe_int, oGe_int, oIsN_eq, oNeg_int, bLen_str, oIn_ch, oNin_ch, S_e, S_0, S_9, S_mi, S_po, S_zs9, S_num, S_ed, S_text, decide_eq_true, decide_eq_false, beqI_t, beqI_f, szOk_of, List.length_cons, List.length_nil, Nat.reduceAdd, oIdx_tup, atI_three, S_v]
    have c0 : ∀ X : SM, sIf (tVal (eBin oEq (eBin oIdx (eVar 0) (eC (.int 0))) (eC (.str (S "text"))))) X sNop [some (.tup [.str [110, 117, 109, 98, 101, 114], .bl b, .int w, .int f]), none, none, none] h = .nx [some (.tup [.str [110, 117, 109, 98, 101, 114], .bl b, .int w, .int f]), none, none, none] h := fun X => by
      simp (disch := omega) only [sSeq_eq, sSet_eq, sIf_eq, sRet_eq, sNop_eq, sExpr_eq, sAsg_eq, sAug_eq, sFor_eq, sRaise_eq, eBin_eq, eUn_eq, eVar_eq, eC_eq, eTup_eq, eLst_eq, eCall_eq, eCallB_eq, eMth_eq, eIf_eq, eAnd_eq, eOr_eq, eNot_eq, eSl_eq, pNo_eq, pSome_eq, eComp_eq, iVal_eq, iArgs_eq, aNil_eq, aCons_eq, tVal_eq, tAnd_eq, tOr_eq, tNot_eq, tTru_eq, truth_bl, truth_non, get_0, get_S, Option.join_some, ofO_some, Res.bind_ok, Res.thn_ok, SR.bind_nx, SR.bind_ret, SR.res_ret, SR.res_nx, List.set_cons_succ, List.set_cons_zero, if_true, Bool.false_eq_true, if_false, typ_str, gTpl_eq, gsCons_eq, gsNil_eq, gNam_eq, Option.bind_some, Bool.not_true, Bool.not_false, List.replicate, fn_1, fn_2, fn_3, fn_4, oEq_str, oNe_str, oEq_int, oNe_int, oAdd_int, oSub_int, oLt_int, oGt_int, oLe_int, oGe_int, oIsN_eq, oNeg_int, bLen_str, oIn_ch, oNin_ch, S_e, S_0, S_9, S_mi, S_po, S_zs9, S_num, S_ed, S_text, decide_eq_true, decide_eq_false, beqI_t, beqI_f, szOk_of, List.length_cons, List.length_nil, Nat.reduceAdd, oIdx_tup, atI_zero, z]
    have c3 : ∀ X : SM, sIf (tVal (eBin oEq (eBin oIdx (eVar 0) (eC (.int 0))) (eC (.str (S "number"))))) X sNop [some (.tup [.str [110, 117, 109, 98, 101, 114], .bl b, .int w, .int f]), none, none, none] h = X [some (.tup [.str [110, 117, 109, 98, 101, 114], .bl b, .int w, .int f]), none, none, none] h := fun X => by
      simp (disch := omega) only [sSeq_eq, sSet_eq, sIf_eq, sRet_eq, sNop_eq, sExpr_eq, sAsg_eq, sAug_eq, sFor_eq, sRaise_eq, eBin_eq, eUn_eq, eVar_eq, eC_eq, eTup_eq, eLst_eq, eCall_eq, eCallB_eq, eMth_eq, eIf_eq, eAnd_eq, eOr_eq, eNot_eq, eSl_eq, pNo_eq, pSome_eq, eComp_eq, iVal_eq, iArgs_eq, aNil_eq, aCons_eq, tVal_eq, tAnd_eq, tOr_eq, tNot_eq, tTru_eq, truth_bl, truth_non, get_0, get_S, Option.join_some, ofO_some, Res.bind_ok, Res.thn_ok, SR.bind_nx, SR.bind_ret, SR.res_ret, SR.res_nx, List.set_cons_succ, List.set_cons_zero, if_true, Bool.false_eq_true, if_false, typ_str, gTpl_eq, gsCons_eq, gsNil_eq, gNam_eq, Option.bind_some, Bool.not_true, Bool.not_false, List.replicate, fn_1, fn_2, fn_3, fn_4, oEq_str, oNe_str, oEq_int, oNe_int, oAdd_int, oSub_int, oLt_int, oGt_int, oLe_int, oGe_int, oIsN_eq, oNeg_int, bLen_str, oIn_ch, oNin_ch, S_e, S_0, S_9, S_mi, S_po, S_zs9, S_num, S_ed, S_text, decide_eq_true, decide_eq_false, beqI_t, beqI_f, szOk_of, List.length_cons, List.length_nil, Nat.reduceAdd, oIdx_tup, atI_zero, z2]
    show SR.res (B_picture_text [some (.tup [.str [110, 117, 109, 98, 101, 114], .bl b, .int w, .int f]), none, none, none] h) = _
    unfold B_picture_text T_picture_text_1
    rw [sSeq_eq, c0, SR.bind_nx, sSeq_eq, c3, sSeq_eq, e1, SR.bind_nx, sSeq_eq, e2, SR.bind_nx]
    simp (disch := omega) only [sSeq_eq, sSet_eq, sIf_eq, sRet_eq, sNop_eq, sExpr_eq, sAsg_eq, sAug_eq, sFor_eq, sRaise_eq, eBin_eq, eUn_eq, eVar_eq, eC_eq, eTup_eq, eLst_eq, eCall_eq, eCallB_eq, eMth_eq, eIf_eq, eAnd_eq, eOr_eq, eNot_eq, eSl_eq, pNo_eq, pSome_eq, eComp_eq, iVal_eq, iArgs_eq, aNil_eq, aCons_eq, tVal_eq, tAnd_eq, tOr_eq, tNot_eq, tTru_eq, truth_bl, truth_non, get_0, get_S, Option.join_some, ofO_some, Res.bind_ok, Res.thn_ok, SR.bind_nx, SR.bind_ret, SR.res_ret, SR.res_nx, List.set_cons_succ, List.set_cons_zero, if_true, Bool.false_eq_true, if_false, typ_str, gTpl_eq, gsCons_eq, gsNil_eq, gNam_eq, Option.bind_some, Bool.not_true, Bool.not_false, List.replicate, fn_1, fn_2, fn_3, fn_4, oEq_str, oNe_str, oEq_int, oNe_int, oAdd_int, oSub_int, oLt_int, oGt_int, oLe_int, oGe_int, oIsN_eq, oNeg_int, bLen_str, oIn_ch, oNin_ch, S_e, S_0, S_9, S_mi, S_po, S_zs9, S_num, S_ed, S_text, decide_eq_true, decide_eq_false, beqI_t, beqI_f, szOk_of, List.length_cons, List.length_nil, Nat.reduceAdd, oIdx_tup, atI_two, atI_three, c1, a1, a2, c2, a3]
    unfold numText
    rw [es, ev]
    by_cases q : f = 0
    · subst q
      rw [show cntT 57 0 = [] from rfl]
      simp
    · simp [q]
  · rw [num_use b (by omega) (by omega), decide_eq_true (by omega : 1 ≤ w + f), decide_eq_true (by omega : w + f ≤ 18)]
    rfl
  · simp (disch := omega) only [sSeq_eq, sSet_eq, sIf_eq, sRet_eq, sNop_eq, sExpr_eq, sAsg_eq, sAug_eq, sFor_eq, sRaise_eq, eBin_eq, eUn_eq, eVar_eq, eC_eq, eTup_eq, eLst_eq, eCall_eq, eCallB_eq, eMth_eq, eIf_eq, eAnd_eq, eOr_eq, eNot_eq, eSl_eq, pNo_eq, pSome_eq, eComp_eq, iVal_eq, iArgs_eq, aNil_eq, aCons_eq, tVal_eq, tAnd_eq, tOr_eq, tNot_eq, tTru_eq, truth_bl, truth_non, get_0, get_S, Option.join_some, ofO_some, Res.bind_ok, Res.thn_ok, SR.bind_nx, SR.bind_ret, SR.res_ret, SR.res_nx, List.set_cons_succ, List.set_cons_zero, if_true, Bool.false_eq_true, if_false, typ_str, gTpl_eq, gsCons_eq, gsNil_eq, gNam_eq, Option.bind_some, Bool.not_true, Bool.not_false, List.replicate, fn_1, fn_2, fn_3, fn_4, oEq_str, oNe_str, oEq_int, oNe_int, oAdd_int, oSub_int, oLt_int, oGt_int, oLe_int, oGe_int, oIsN_eq, oNeg_int, bLen_str, oIn_ch, oNin_ch, S_e, S_0, S_9, S_mi, S_po, S_zs9, S_num, S_ed, S_text, decide_eq_true, decide_eq_false, beqI_t, beqI_f, szOk_of, List.length_cons, List.length_nil, Nat.reduceAdd, M_size_of, B_size_of, oIdx_tup, atI_zero, atI_one, atI_two, atI_three, z, z2, bInt_bl]
  · simp (disch := omega) only [sSeq_eq, sSet_eq, sIf_eq, sRet_eq, sNop_eq, sExpr_eq, sAsg_eq, sAug_eq, sFor_eq, sRaise_eq, eBin_eq, eUn_eq, eVar_eq, eC_eq, eTup_eq, eLst_eq, eCall_eq, eCallB_eq, eMth_eq, eIf_eq, eAnd_eq, eOr_eq, eNot_eq, eSl_eq, pNo_eq, pSome_eq, eComp_eq, iVal_eq, iArgs_eq, aNil_eq, aCons_eq, tVal_eq, tAnd_eq, tOr_eq, tNot_eq, tTru_eq, truth_bl, truth_non, get_0, get_S, Option.join_some, ofO_some, Res.bind_ok, Res.thn_ok, SR.bind_nx, SR.bind_ret, SR.res_ret, SR.res_nx, List.set_cons_succ, List.set_cons_zero, if_true, Bool.false_eq_true, if_false, typ_str, gTpl_eq, gsCons_eq, gsNil_eq, gNam_eq, Option.bind_some, Bool.not_true, Bool.not_false, List.replicate, fn_1, fn_2, fn_3, fn_4, oEq_str, oNe_str, oEq_int, oNe_int, oAdd_int, oSub_int, oLt_int, oGt_int, oLe_int, oGe_int, oIsN_eq, oNeg_int, bLen_str, oIn_ch, oNin_ch, S_e, S_0, S_9, S_mi, S_po, S_zs9, S_num, S_ed, S_text, decide_eq_true, decide_eq_false, beqI_t, beqI_f, szOk_of, List.length_cons, List.length_nil, Nat.reduceAdd, M_v_law_size, B_v_law_size, oIdx_tup, atI_zero, atI_one, atI_two, atI_three, z, z2, bInt_bl]
  · simp (disch := omega) only [sSeq_eq, sSet_eq, sIf_eq, sRet_eq, sNop_eq, sExpr_eq, sAsg_eq, sAug_eq, sFor_eq, sRaise_eq, eBin_eq, eUn_eq, eVar_eq, eC_eq, eTup_eq, eLst_eq, eCall_eq, eCallB_eq, eMth_eq, eIf_eq, eAnd_eq, eOr_eq, eNot_eq, eSl_eq, pNo_eq, pSome_eq, eComp_eq, iVal_eq, iArgs_eq, aNil_eq, aCons_eq, tVal_eq, tAnd_eq, tOr_eq, tNot_eq, tTru_eq, truth_bl, truth_non, get_0, get_S, Option.join_some, ofO_some, Res.bind_ok, Res.thn_ok, SR.bind_nx, SR.bind_ret, SR.res_ret, SR.res_nx, List.set_cons_succ, List.set_cons_zero, if_true, Bool.false_eq_true, if_false, typ_str, gTpl_eq, gsCons_eq, gsNil_eq, gNam_eq, Option.bind_some, Bool.not_true, Bool.not_false, List.replicate, fn_1, fn_2, fn_3, fn_4, oEq_str, oNe_str, oEq_int, oNe_int, oAdd_int, oSub_int, oLt_int, oGt_int, oLe_int, oGe_int, oIsN_eq, oNeg_int, bLen_str, oIn_ch, oNin_ch, S_e, S_0, S_9, S_mi, S_po, S_zs9, S_num, S_ed, S_text, decide_eq_true, decide_eq_false, beqI_t, beqI_f, szOk_of, List.length_cons, List.length_nil, Nat.reduceAdd, M_is_signed, B_is_signed, oIdx_tup, atI_zero, atI_one, z2]
  · have b1 : (sRet (eCall M_digits_in (aCons (eVar 0) aNil))) [some (.tup [.str [110, 117, 109, 98, 101, 114], .bl b, .int w, .int f]), none] h = .ret (.tup [.int w, .int f]) h := by
      simp (disch := omega) only [sSeq_eq, sSet_eq, sIf_eq, sRet_eq, sNop_eq, sExpr_eq, sAsg_eq, sAug_eq, sFor_eq, sRaise_eq, eBin_eq, eUn_eq, eVar_eq, eC_eq, eTup_eq, eLst_eq, eCall_eq, eCallB_eq, eMth_eq, eIf_eq, eAnd_eq, eOr_eq, eNot_eq, eSl_eq, pNo_eq, pSome_eq, eComp_eq, iVal_eq, iArgs_eq, aNil_eq, aCons_eq, tVal_eq, tAnd_eq, tOr_eq, tNot_eq, tTru_eq, truth_bl, truth_non, get_0, get_S, Option.join_some, ofO_some, Res.bind_ok, Res.thn_ok, SR.bind_nx, SR.bind_ret, SR.res_ret, SR.res_nx, List.set_cons_succ, List.set_cons_zero, if_true, Bool.false_eq_true, if_false, typ_str, gTpl_eq, gsCons_eq, gsNil_eq, gNam_eq, Option.bind_some, Bool.not_true, Bool.not_false, List.replicate, fn_1, fn_2, fn_3, fn_4, oEq_str, oNe_str, oEq_int, oNe_int, oAdd_int, oSub_int, oLt_int, oGt_int, oLe_int, oGe_int, oIsN_eq, oNeg_int, bLen_str, oIn_ch, oNin_ch, S_e, S_0, S_9, S_mi, S_po, S_zs9, S_num, S_ed, S_text, decide_eq_true, decide_eq_false, beqI_t, beqI_f, szOk_of, List.length_cons, List.length_nil, Nat.reduceAdd, M_digits_in, B_digits_in, oIdx_tup, atI_zero, atI_two, atI_three, z]
    show SR.res (sTry _ 1 _ _ [some (.tup [.str [110, 117, 109, 98, 101, 114], .bl b, .int w, .int f]), none] h) = _
    rw [sTry_eq, b1]
    rfl
  · have fl : ∀ v ∈ ([.int w, .int f] : List Val), flatOk v := by
      intro v hv
      simp only [List.mem_cons, List.not_mem_nil, or_false] at hv
      rcases hv with rfl | rfl <;> trivial
    have := oNe_of (vEq_tups h fl fl)
    rw [eqFs_self fl] at this
    exact this
  · unfold sgdg
    simp (disch := omega) only [sSeq_eq, sSet_eq, sIf_eq, sRet_eq, sNop_eq, sExpr_eq, sAsg_eq, sAug_eq, sFor_eq, sRaise_eq, eBin_eq, eUn_eq, eVar_eq, eC_eq, eTup_eq, eLst_eq, eCall_eq, eCallB_eq, eMth_eq, eIf_eq, eAnd_eq, eOr_eq, eNot_eq, eSl_eq, pNo_eq, pSome_eq, eComp_eq, iVal_eq, iArgs_eq, aNil_eq, aCons_eq, tVal_eq, tAnd_eq, tOr_eq, tNot_eq, tTru_eq, truth_bl, truth_non, get_0, get_S, Option.join_some, ofO_some, Res.bind_ok, Res.thn_ok, SR.bind_nx, SR.bind_ret, SR.res_ret, SR.res_nx, List.set_cons_succ, List.set_cons_zero, if_true, Bool.false_eq_true, if_false, typ_str, gTpl_eq, gsCons_eq, gsNil_eq, gNam_eq, Option.bind_some, Bool.not_true, Bool.not_false, List.replicate, fn_1, fn_2, fn_3, fn_4, oEq_str, oNe_str, oEq_int, oNe_int, oAdd_int, oSub_int, oLt_int, oGt_int, oLe_int, oGe_int, oIsN_eq, oNeg_int, bLen_str, oIn_ch, oNin_ch, S_e, S_0, S_9, S_mi, S_po, S_zs9, S_num, S_ed, S_text, decide_eq_true, decide_eq_false, beqI_t, beqI_f, szOk_of, List.length_cons, List.length_nil, Nat.reduceAdd, oIdx_tup, atI_zero, atI_one, atI_two, atI_three, z, z2]
theorem fact_ed (b sn : List Nat) (f : Nat) (hb : b ∈ bodyL) (hf : f ≤ 3) (hs : sn ∈ signs) (h9 : sn = [] → edB b f ≠ [57] ∧ edB b f ≠ [57, 57]) : ∃ t z sg dg, Fact (.tup [.str [101, 100, 105, 116, 101, 100], .str (edB b f), .int (nDig b), .int f, .str sn]) [.str [101, 100, 105, 116, 101, 100], .str (edB b f), .int (nDig b), .int f, .str sn] t z sg dg := by
  have z : (([101, 100, 105, 116, 101, 100] : List Nat) == [116, 101, 120, 116]) = false := by decide
  have z2 : (([101, 100, 105, 116, 101, 100] : List Nat) == [110, 117, 109, 98, 101, 114]) = false := by decide
  have z3 : (([101, 100, 105, 116, 101, 100] : List Nat) == [101, 100, 105, 116, 101, 100]) = true := by decide
  have mB := edB_all hb hf
  have oB := List.all_eq_true.mp MS_ok _ mB
  have lB : (edB b f).length ≤ 100 := by
    unfold okStr at oB
    rw [Bool.and_eq_true] at oB
    exact of_decide_eq_true oB.2
  have ps : psEq (edText (edB b f) sn) [.str [101, 100, 105, 116, 101, 100], .str (edB b f), .int (nDig b), .int f, .str sn] = true := by
    have := List.all_eq_true.mp (List.all_eq_true.mp (List.all_eq_true.mp drAll b hb) f (List.mem_range.mpr (by omega))) sn hs
    rw [Bool.or_eq_true] at this
    rcases this with k | k
    · simp only [Bool.and_eq_true, Bool.or_eq_true, beq_iff_eq] at k
      have := h9 k.1
      rcases k.2 with y | y
      · exact absurd y this.1
      · exact absurd y this.2
    · exact k
  have sl : sn.length ≤ 2 := by
    have : ∀ s ∈ signs, s.length ≤ 2 := by decide
    exact this sn hs
  have e7 : sn = [] ∨ sn = [45] ∨ sn = [43] ∨ sn = [46, 45] ∨ sn = [46, 43] ∨ sn = [99, 114] ∨ sn = [100, 98] := by
    unfold signs at hs
    simpa using hs
  generalize edB b f = B at *
  have tl := edText_len (m := B) sl
  refine ⟨edText B sn, B.length + (stripD sn).length, !(sn == []), .tup [.int (nDig b), .int f], fun h => ⟨h, Ext.refl h, ?_⟩, fun h => law_text_ed B sn _ _ lB sl h, ?_, ps, fun h => ?_, fun h => ?_, fun h => ?_, fun h => ?_, fun h => ?_, fun v0 v1 v2 v4 v5 v6 v7 v8 v9 h => ?_⟩
  · have ls := ls_of (h := h) (s := sn) (t := [46]) (by omega)
    have dl := dw_len sn (fun c => [46].contains c)
    have a1 : oAdd h (.str sn) (.str B) = some (.str (sn ++ B)) := oAdd_str (by omega)
    have a2 : oAdd h (.str B) (.str (sn.dropWhile fun c => [46].contains c)) = some (.str (B ++ sn.dropWhile fun c => [46].contains c)) := oAdd_str (by omega)
    have sw : sSwp 3 1 (eTup (aCons (eBin oIdx (eVar 0) (eC (.int 1))) (aCons (eBin oIdx (eVar 0) (eC (.int 4))) aNil))) [some (.tup [.str [101, 100, 105, 116, 101, 100], .str B, .int (nDig b), .int f, .str sn]), none, none, none] h = .nx [some (.tup [.str [101, 100, 105, 116, 101, 100], .str B, .int (nDig b), .int f, .str sn]), some (.str sn), none, some (.str B)] h := by
      unfold sSwp
      simp (disch := omega) only [sSeq_eq, sSet_eq, sIf_eq, sRet_eq, sNop_eq, sExpr_eq, sAsg_eq, sAug_eq, sFor_eq, sRaise_eq, eBin_eq, eUn_eq, eVar_eq, eC_eq, eTup_eq, eLst_eq, eCall_eq, eCallB_eq, eMth_eq, eIf_eq, eAnd_eq, eOr_eq, eNot_eq, eSl_eq, pNo_eq, pSome_eq, eComp_eq, iVal_eq, iArgs_eq, aNil_eq, aCons_eq, tVal_eq, tAnd_eq, tOr_eq, tNot_eq, tTru_eq, truth_bl, truth_non, get_0, get_S, Option.join_some, ofO_some, Res.bind_ok, Res.thn_ok, SR.bind_nx, SR.bind_ret, SR.res_ret, SR.res_nx, List.set_cons_succ, List.set_cons_zero, if_true, Bool.false_eq_true, if_false, typ_str, gTpl_eq, gsCons_eq, gsNil_eq, gNam_eq, Option.bind_some, Bool.not_true, Bool.not_false, List.replicate, fn_1, fn_2, fn_3, fn_4, oEq_str, oNe_str, oEq_int, oNe_int, oAdd_int, oSub_int, oLt_int, oGt_int, oLe_int, oGe_int, oIsN_eq, oNeg_int, bLen_str, oIn_ch, oNin_ch, S_e, S_0, S_9, S_mi, S_po, S_zs9, S_num, S_ed, S_text, decide_eq_true, decide_eq_false, beqI_t, beqI_f, szOk_of, List.length_cons, List.length_nil, Nat.reduceAdd, oIdx_tup, atI_one, atI_four]
    have c0 : ∀ X : SM, sIf (tVal (eBin oEq (eBin oIdx (eVar 0) (eC (.int 0))) (eC (.str (S "text"))))) X sNop [some (.tup [.str [101, 100, 105, 116, 101, 100], .str B, .int (nDig b), .int f, .str sn]), none, none, none] h = .nx [some (.tup [.str [101, 100, 105, 116, 101, 100], .str B, .int (nDig b), .int f, .str sn]), none, none, none] h := fun X => by
      simp (disch := omega) only [sSeq_eq, sSet_eq, sIf_eq, sRet_eq, sNop_eq, sExpr_eq, sAsg_eq, sAug_eq, sFor_eq, sRaise_eq, eBin_eq, eUn_eq, eVar_eq, eC_eq, eTup_eq, eLst_eq, eCall_eq, eCallB_eq, eMth_eq, eIf_eq, eAnd_eq, eOr_eq, eNot_eq, eSl_eq, pNo_eq, pSome_eq, eComp_eq, iVal_eq, iArgs_eq, aNil_eq, aCons_eq, tVal_eq, tAnd_eq, tOr_eq, tNot_eq, tTru_eq, truth_bl, truth_non, get_0, get_S, Option.join_some, ofO_some, Res.bind_ok, Res.thn_ok, SR.bind_nx, SR.bind_ret, SR.res_ret, SR.res_nx, List.set_cons_succ, List.set_cons_zero, if_true, Bool.false_eq_true, if_false, typ_str, gTpl_eq, gsCons_eq, gsNil_eq, gNam_eq, Option.bind_some, Bool.not_true, Bool.not_false, List.replicate, fn_1, fn_2, fn_3, fn_4, oEq_str, oNe_str, oEq_int, oNe_int, oAdd_int, oSub_int, oLt_int, oGt_int, oLe_int, oGe_int, oIsN_eq, oNeg_int, bLen_str, oIn_ch, oNin_ch, S_e, S_0, S_9, S_mi, S_po, S_zs9, S_num, S_ed, S_text, decide_eq_true, decide_eq_false, beqI_t, beqI_f, szOk_of, List.length_cons, List.length_nil, Nat.reduceAdd, oIdx_tup, atI_zero, z]
    have c3 : ∀ X : SM, sIf (tVal (eBin oEq (eBin oIdx (eVar 0) (eC (.int 0))) (eC (.str (S "number"))))) X sNop [some (.tup [.str [101, 100, 105, 116, 101, 100], .str B, .int (nDig b), .int f, .str sn]), none, none, none] h = .nx [some (.tup [.str [101, 100, 105, 116, 101, 100], .str B, .int (nDig b), .int f, .str sn]), none, none, none] h := fun X => by
      simp (disch := omega) only [sSeq_eq, sSet_eq, sIf_eq, sRet_eq, sNop_eq, sExpr_eq, sAsg_eq, sAug_eq, sFor_eq, sRaise_eq, eBin_eq, eUn_eq, eVar_eq, eC_eq, eTup_eq, eLst_eq, eCall_eq, eCallB_eq, eMth_eq, eIf_eq, eAnd_eq, eOr_eq, eNot_eq, eSl_eq, pNo_eq, pSome_eq, eComp_eq, iVal_eq, iArgs_eq, aNil_eq, aCons_eq, tVal_eq, tAnd_eq, tOr_eq, tNot_eq, tTru_eq, truth_bl, truth_non, get_0, get_S, Option.join_some, ofO_some, Res.bind_ok, Res.thn_ok, SR.bind_nx, SR.bind_ret, SR.res_ret, SR.res_nx, List.set_cons_succ, List.set_cons_zero, if_true, Bool.false_eq_true, if_false, typ_str, gTpl_eq, gsCons_eq, gsNil_eq, gNam_eq, Option.bind_some, Bool.not_true, Bool.not_false, List.replicate, fn_1, fn_2, fn_3, fn_4, oEq_str, oNe_str, oEq_int, oNe_int, oAdd_int, oSub_int, oLt_int, oGt_int, oLe_int, oGe_int, oIsN_eq, oNeg_int, bLen_str, oIn_ch, oNin_ch, S_e, S_0, S_9, S_mi, S_po, S_zs9, S_num, S_ed, S_text, decide_eq_true, decide_eq_false, beqI_t, beqI_f, szOk_of, List.length_cons, List.length_nil, Nat.reduceAdd, oIdx_tup, atI_zero, z2]
    have eT : edText B sn = if (sn == [45] || sn == [43]) = true then sn ++ B else B ++ sn.dropWhile fun c => [46].contains c := by
      unfold edText
      rcases e7 with rfl | rfl | rfl | rfl | rfl | rfl | rfl <;> rfl
    show SR.res (B_picture_text [some (.tup [.str [101, 100, 105, 116, 101, 100], .str B, .int (nDig b), .int f, .str sn]), none, none, none] h) = _
    unfold B_picture_text T_picture_text_1
    rw [sSeq_eq, c0, SR.bind_nx, sSeq_eq, c3, SR.bind_nx, sSeq_eq, sw, SR.bind_nx, eT]
    cases q1 : (sn == [45]) with
    | true => simp (disch := omega) only [sSeq_eq, sSet_eq, sIf_eq, sRet_eq, sNop_eq, sExpr_eq, sAsg_eq, sAug_eq, sFor_eq, sRaise_eq, eBin_eq, eUn_eq, eVar_eq, eC_eq, eTup_eq, eLst_eq, eCall_eq, eCallB_eq, eMth_eq, eIf_eq, eAnd_eq, eOr_eq, eNot_eq, eSl_eq, pNo_eq, pSome_eq, eComp_eq, iVal_eq, iArgs_eq, aNil_eq, aCons_eq, tVal_eq, tAnd_eq, tOr_eq, tNot_eq, tTru_eq, truth_bl, truth_non, get_0, get_S, Option.join_some, ofO_some, Res.bind_ok, Res.thn_ok, SR.bind_nx, SR.bind_ret, SR.res_ret, SR.res_nx, List.set_cons_succ, List.set_cons_zero, if_true, Bool.false_eq_true, if_false, typ_str, gTpl_eq, gsCons_eq, gsNil_eq, gNam_eq, Option.bind_some, Bool.not_true, Bool.not_false, List.replicate, fn_1, fn_2, fn_3, fn_4, oEq_str, oNe_str, oEq_int, oNe_int, oAdd_int, oSub_int, oLt_int, oGt_int, oLe_int, oGe_int, oIsN_eq, oNeg_int, bLen_str, oIn_ch, oNin_ch, S_e, S_0, S_9, S_mi, S_po, S_zs9, S_num, S_ed, S_text, decide_eq_true, decide_eq_false, beqI_t, beqI_f, szOk_of, List.length_cons, List.length_nil, Nat.reduceAdd, q1, a1, Bool.true_or]
    | false =>
      cases q2 : (sn == [43]) with
      | true => simp (disch := omega) only [sSeq_eq, sSet_eq, sIf_eq, sRet_eq, sNop_eq, sExpr_eq, sAsg_eq, sAug_eq, sFor_eq, sRaise_eq, eBin_eq, eUn_eq, eVar_eq, eC_eq, eTup_eq, eLst_eq, eCall_eq, eCallB_eq, eMth_eq, eIf_eq, eAnd_eq, eOr_eq, eNot_eq, eSl_eq, pNo_eq, pSome_eq, eComp_eq, iVal_eq, iArgs_eq, aNil_eq, aCons_eq, tVal_eq, tAnd_eq, tOr_eq, tNot_eq, tTru_eq, truth_bl, truth_non, get_0, get_S, Option.join_some, ofO_some, Res.bind_ok, Res.thn_ok, SR.bind_nx, SR.bind_ret, SR.res_ret, SR.res_nx, List.set_cons_succ, List.set_cons_zero, if_true, Bool.false_eq_true, if_false, typ_str, gTpl_eq, gsCons_eq, gsNil_eq, gNam_eq, Option.bind_some, Bool.not_true, Bool.not_false, List.replicate, fn_1, fn_2, fn_3, fn_4, oEq_str, oNe_str, oEq_int, oNe_int, oAdd_int, oSub_int, oLt_int, oGt_int, oLe_int, oGe_int, oIsN_eq, oNeg_int, bLen_str, oIn_ch, oNin_ch, S_e, S_0, S_9, S_mi, S_po, S_zs9, S_num, S_ed, S_text, decide_eq_true, decide_eq_false, beqI_t, beqI_f, szOk_of, List.length_cons, List.length_nil, Nat.reduceAdd, q1, q2, S_pl, a1, Bool.or_true]
      | false => simp (disch := omega) only [sSeq_eq, sSet_eq, sIf_eq, sRet_eq, sNop_eq, sExpr_eq, sAsg_eq, sAug_eq, sFor_eq, sRaise_eq, eBin_eq, eUn_eq, eVar_eq, eC_eq, eTup_eq, eLst_eq, eCall_eq, eCallB_eq, eMth_eq, eIf_eq, eAnd_eq, eOr_eq, eNot_eq, eSl_eq, pNo_eq, pSome_eq, eComp_eq, iVal_eq, iArgs_eq, aNil_eq, aCons_eq, tVal_eq, tAnd_eq, tOr_eq, tNot_eq, tTru_eq, truth_bl, truth_non, get_0, get_S, Option.join_some, ofO_some, Res.bind_ok, Res.thn_ok, SR.bind_nx, SR.bind_ret, SR.res_ret, SR.res_nx, List.set_cons_succ, List.set_cons_zero, if_true, Bool.false_eq_true, if_false, typ_str, gTpl_eq, gsCons_eq, gsNil_eq, gNam_eq, Option.bind_some, Bool.not_true, Bool.not_false, List.replicate, fn_1, fn_2, fn_3, fn_4, oEq_str, oNe_str, oEq_int, oNe_int, oAdd_int, oSub_int, oLt_int, oGt_int, oLe_int, oGe_int, oIsN_eq, oNeg_int, bLen_str, oIn_ch, oNin_ch, S_e, S_0, S_9, S_mi, S_po, S_zs9, S_num, S_ed, S_text, decide_eq_true, decide_eq_false, beqI_t, beqI_f, szOk_of, List.length_cons, List.length_nil, Nat.reduceAdd, q1, q2, S_pl, ls, a2, Bool.or_false]
  · omega
  · have ls := ls_of (h := h) (s := sn) (t := [46]) (by omega)
    have dl := dw_len sn (fun c => [46].contains c)
    unfold stripD
    simp (disch := omega) only [sSeq_eq, sSet_eq, sIf_eq, sRet_eq, sNop_eq, sExpr_eq, sAsg_eq, sAug_eq, sFor_eq, sRaise_eq, eBin_eq, eUn_eq, eVar_eq, eC_eq, eTup_eq, eLst_eq, eCall_eq, eCallB_eq, eMth_eq, eIf_eq, eAnd_eq, eOr_eq, eNot_eq, eSl_eq, pNo_eq, pSome_eq, eComp_eq, iVal_eq, iArgs_eq, aNil_eq, aCons_eq, tVal_eq, tAnd_eq, tOr_eq, tNot_eq, tTru_eq, truth_bl, truth_non, get_0, get_S, Option.join_some, ofO_some, Res.bind_ok, Res.thn_ok, SR.bind_nx, SR.bind_ret, SR.res_ret, SR.res_nx, List.set_cons_succ, List.set_cons_zero, if_true, Bool.false_eq_true, if_false, typ_str, gTpl_eq, gsCons_eq, gsNil_eq, gNam_eq, Option.bind_some, Bool.not_true, Bool.not_false, List.replicate, fn_1, fn_2, fn_3, fn_4, oEq_str, oNe_str, oEq_int, oNe_int, oAdd_int, oSub_int, oLt_int, oGt_int, oLe_int, oGe_int, oIsN_eq, oNeg_int, bLen_str, oIn_ch, oNin_ch, S_e, S_0, S_9, S_mi, S_po, S_zs9, S_num, S_ed, S_text, decide_eq_true, decide_eq_false, beqI_t, beqI_f, szOk_of, List.length_cons, List.length_nil, Nat.reduceAdd, M_size_of, B_size_of, oIdx_tup, atI_zero, atI_one, atI_four, z, z2, ls]
  · have x1 := Ext.one h (.dct ([("", (0 : Int)), ("cr", 2), ("db", 2)].map fun p => (Val.str (S p.1), Val.int p.2)))
    have g := get_new h (Obj.dct ([("", (0 : Int)), ("cr", 2), ("db", 2)].map fun p => (Val.str (S p.1), Val.int p.2)))
    have dg := fun k : List Nat => oDGet2_ref (k := .str k) (z := .int 1) g rfl
    have id := isDct_ref g
    refine ⟨_, x1, ?_⟩
    have gv : (dGet ([("", (0 : Int)), ("cr", 2), ("db", 2)].map fun p => (Val.str (S p.1), Val.int p.2)) (.str sn)).getD (.int 1) = .int (stripD sn).length := by
      simp only [List.map_cons, List.map_nil, S_e, S_cr, S_db]
      rcases e7 with rfl | rfl | rfl | rfl | rfl | rfl | rfl <;> rfl
    have dg := dg sn
    rw [gv] at dg
    simp (disch := omega) only [sSeq_eq, sSet_eq, sIf_eq, sRet_eq, sNop_eq, sExpr_eq, sAsg_eq, sAug_eq, sFor_eq, sRaise_eq, eBin_eq, eUn_eq, eVar_eq, eC_eq, eTup_eq, eLst_eq, eCall_eq, eCallB_eq, eMth_eq, eIf_eq, eAnd_eq, eOr_eq, eNot_eq, eSl_eq, pNo_eq, pSome_eq, eComp_eq, iVal_eq, iArgs_eq, aNil_eq, aCons_eq, tVal_eq, tAnd_eq, tOr_eq, tNot_eq, tTru_eq, truth_bl, truth_non, get_0, get_S, Option.join_some, ofO_some, Res.bind_ok, Res.thn_ok, SR.bind_nx, SR.bind_ret, SR.res_ret, SR.res_nx, List.set_cons_succ, List.set_cons_zero, if_true, Bool.false_eq_true, if_false, typ_str, gTpl_eq, gsCons_eq, gsNil_eq, gNam_eq, Option.bind_some, Bool.not_true, Bool.not_false, List.replicate, fn_1, fn_2, fn_3, fn_4, oEq_str, oNe_str, oEq_int, oNe_int, oAdd_int, oSub_int, oLt_int, oGt_int, oLe_int, oGe_int, oIsN_eq, oNeg_int, bLen_str, oIn_ch, oNin_ch, S_e, S_0, S_9, S_mi, S_po, S_zs9, S_num, S_ed, S_text, decide_eq_true, decide_eq_false, beqI_t, beqI_f, szOk_of, List.length_cons, List.length_nil, Nat.reduceAdd, M_v_law_size, B_v_law_size, oIdx_tup, atI_zero, atI_one, atI_four, z, z2, eDGet2_eq, dInt_eq, id, dg]
  · simp (disch := omega) only [sSeq_eq, sSet_eq, sIf_eq, sRet_eq, sNop_eq, sExpr_eq, sAsg_eq, sAug_eq, sFor_eq, sRaise_eq, eBin_eq, eUn_eq, eVar_eq, eC_eq, eTup_eq, eLst_eq, eCall_eq, eCallB_eq, eMth_eq, eIf_eq, eAnd_eq, eOr_eq, eNot_eq, eSl_eq, pNo_eq, pSome_eq, eComp_eq, iVal_eq, iArgs_eq, aNil_eq, aCons_eq, tVal_eq, tAnd_eq, tOr_eq, tNot_eq, tTru_eq, truth_bl, truth_non, get_0, get_S, Option.join_some, ofO_some, Res.bind_ok, Res.thn_ok, SR.bind_nx, SR.bind_ret, SR.res_ret, SR.res_nx, List.set_cons_succ, List.set_cons_zero, if_true, Bool.false_eq_true, if_false, typ_str, gTpl_eq, gsCons_eq, gsNil_eq, gNam_eq, Option.bind_some, Bool.not_true, Bool.not_false, List.replicate, fn_1, fn_2, fn_3, fn_4, oEq_str, oNe_str, oEq_int, oNe_int, oAdd_int, oSub_int, oLt_int, oGt_int, oLe_int, oGe_int, oIsN_eq, oNeg_int, bLen_str, oIn_ch, oNin_ch, S_e, S_0, S_9, S_mi, S_po, S_zs9, S_num, S_ed, S_text, decide_eq_true, decide_eq_false, beqI_t, beqI_f, szOk_of, List.length_cons, List.length_nil, Nat.reduceAdd, M_is_signed, B_is_signed, oIdx_tup, atI_zero, atI_four, z2, z3]
  · have b1 : (sRet (eCall M_digits_in (aCons (eVar 0) aNil))) [some (.tup [.str [101, 100, 105, 116, 101, 100], .str B, .int (nDig b), .int f, .str sn]), none] h = .ret (.tup [.int (nDig b), .int f]) h := by
      simp (disch := omega) only [sSeq_eq, sSet_eq, sIf_eq, sRet_eq, sNop_eq, sExpr_eq, sAsg_eq, sAug_eq, sFor_eq, sRaise_eq, eBin_eq, eUn_eq, eVar_eq, eC_eq, eTup_eq, eLst_eq, eCall_eq, eCallB_eq, eMth_eq, eIf_eq, eAnd_eq, eOr_eq, eNot_eq, eSl_eq, pNo_eq, pSome_eq, eComp_eq, iVal_eq, iArgs_eq, aNil_eq, aCons_eq, tVal_eq, tAnd_eq, tOr_eq, tNot_eq, tTru_eq, truth_bl, truth_non, get_0, get_S, Option.join_some, ofO_some, Res.bind_ok, Res.thn_ok, SR.bind_nx, SR.bind_ret, SR.res_ret, SR.res_nx, List.set_cons_succ, List.set_cons_zero, if_true, Bool.false_eq_true, if_false, typ_str, gTpl_eq, gsCons_eq, gsNil_eq, gNam_eq, Option.bind_some, Bool.not_true, Bool.not_false, List.replicate, fn_1, fn_2, fn_3, fn_4, oEq_str, oNe_str, oEq_int, oNe_int, oAdd_int, oSub_int, oLt_int, oGt_int, oLe_int, oGe_int, oIsN_eq, oNeg_int, bLen_str, oIn_ch, oNin_ch, S_e, S_0, S_9, S_mi, S_po, S_zs9, S_num, S_ed, S_text, decide_eq_true, decide_eq_false, beqI_t, beqI_f, szOk_of, List.length_cons, List.length_nil, Nat.reduceAdd, M_digits_in, B_digits_in, oIdx_tup, atI_zero, atI_two, atI_three, z]
    show SR.res (sTry _ 1 _ _ [some (.tup [.str [101, 100, 105, 116, 101, 100], .str B, .int (nDig b), .int f, .str sn]), none] h) = _
    rw [sTry_eq, b1]
    rfl
  · have fl : ∀ v ∈ ([.int (nDig b), .int f] : List Val), flatOk v := by
      intro v hv
      simp only [List.mem_cons, List.not_mem_nil, or_false] at hv
      rcases hv with rfl | rfl <;> trivial
    have := oNe_of (vEq_tups h fl fl)
    rw [eqFs_self fl] at this
    exact this
  · unfold sgdg
    simp (disch := omega) only [sSeq_eq, sSet_eq, sIf_eq, sRet_eq, sNop_eq, sExpr_eq, sAsg_eq, sAug_eq, sFor_eq, sRaise_eq, eBin_eq, eUn_eq, eVar_eq, eC_eq, eTup_eq, eLst_eq, eCall_eq, eCallB_eq, eMth_eq, eIf_eq, eAnd_eq, eOr_eq, eNot_eq, eSl_eq, pNo_eq, pSome_eq, eComp_eq, iVal_eq, iArgs_eq, aNil_eq, aCons_eq, tVal_eq, tAnd_eq, tOr_eq, tNot_eq, tTru_eq, truth_bl, truth_non, get_0, get_S, Option.join_some, ofO_some, Res.bind_ok, Res.thn_ok, SR.bind_nx, SR.bind_ret, SR.res_ret, SR.res_nx, List.set_cons_succ, List.set_cons_zero, if_true, Bool.false_eq_true, if_false, typ_str, gTpl_eq, gsCons_eq, gsNil_eq, gNam_eq, Option.bind_some, Bool.not_true, Bool.not_false, List.replicate, fn_1, fn_2, fn_3, fn_4, oEq_str, oNe_str, oEq_int, oNe_int, oAdd_int, oSub_int, oLt_int, oGt_int, oLe_int, oGe_int, oIsN_eq, oNeg_int, bLen_str, oIn_ch, oNin_ch, S_e, S_0, S_9, S_mi, S_po, S_zs9, S_num, S_ed, S_text, decide_eq_true, decide_eq_false, beqI_t, beqI_f, szOk_of, List.length_cons, List.length_nil, Nat.reduceAdd, oIdx_tup, atI_zero, atI_one, atI_two, atI_three, atI_four, z, z2]
end Law

set_option maxRecDepth 100000
set_option maxHeartbeats 1000000
set_option linter.all false
namespace Law
open Cd Mir
theorem cell_ok (ns : List Int) (k : Nat) (h : Hep) : M_v_law_cell [.fl (ns.map .int), .int k] h = .ok (.int (ns.getD k 0)) h := by
  by_cases q : k < ns.length
  · have e : (ns.map Val.int)[k]? = some (.int (ns.getD k 0)) := by
      rw [List.getElem?_map, List.getD_eq_getElem?_getD, List.getElem?_eq_getElem q]; rfl
    have e2 : atI (ns.map Val.int) (k : Int) = some (.int (ns.getD k 0)) := atI_of (by omega) (by simpa using e)
    simp [M_v_law_cell, B_v_law_cell, q, e2]
  · have e : ns.getD k 0 = 0 := by rw [List.getD_eq_getElem?_getD, List.getElem?_eq_none (by omega)]; rfl
    simp [M_v_law_cell, B_v_law_cell, q, e]
theorem rich_ok (c k : Int) (h : Hep) (hk : -1000 < k) (hk2 : k < 1000) : ∃ r, M_v_law_rich [.int c, .int k] h = .ok (.int r) h := by
  by_cases q : 1000000000000000000 ≤ c
  · exact ⟨c, by simp (disch := omega) [M_v_law_rich, B_v_law_rich, q]⟩
  · refine ⟨_, by simp (disch := omega) [M_v_law_rich, B_v_law_rich, q]; rfl⟩
open Classical in
theorem items_ref {h : Hep} {n : Nat} {l : List Val} (e : h[n]? = some (.lst l)) : ∃ chk : Hep → Bool, items h (.ref n) = some (l, chk) ∧ ∀ h', h'[n]? = some (.lst l) → chk h' = true := by
  refine ⟨fun h' => decide (isLst n l h'), ?_, fun h' q => decide_eq_true q⟩
  show (match h[n]? with | some (.lst l) => some (l, fun h' => decide (isLst n l h')) | _ => none) = _
  rw [e]
theorem pic_fact {P : Val} (p : Pic P) : ∃ pl t z sg dg, P = .tup pl ∧ Fact P pl t z sg dg := by
  cases p with
  | tx n h0 h1 => obtain ⟨t, z, sg, dg, f⟩ := fact_tx n h0 h1; exact ⟨_, t, z, sg, dg, rfl, f⟩
  | num b w f h0 hw hf => obtain ⟨t, z, sg, dg, f⟩ := fact_num b w f h0 hw hf; exact ⟨_, t, z, sg, dg, rfl, f⟩
  | ed b sn f hb hf hs h9 => obtain ⟨t, z, sg, dg, f⟩ := fact_ed b sn f hb hf hs h9; exact ⟨_, t, z, sg, dg, rfl, f⟩
/-- one of the two values -/
theorem one_ok {v : Val} {h : Hep} (n : NearV h v) (v0 v1 v2 v3 v4 v5 v6 v7 w9 : Option Val) : ∃ w h', Ke h h' ∧ L_law_1 [v0, v1, v2, v3, v4, v5, v6, v7, some v, w9] h = .nx [v0, v1, v2, v3, v4, v5, v6, v7, some v, w] h' := by
  obtain ⟨k, h1, h2, x1, e1, x2, e2⟩ := both n
  refine ⟨some (.bl k), h2, x1.trans x2, ?_⟩
  have ne : oNe h2 (.bl k) (.bl k) = some (.bl false) := by rw [oNe_bl]; simp
  simp (disch := omega) only [sSeq_eq, sSet_eq, sIf_eq, sRet_eq, sNop_eq, sExpr_eq, sAsg_eq, sAug_eq, sFor_eq, sRaise_eq, eBin_eq, eUn_eq, eVar_eq, eC_eq, eTup_eq, eLst_eq, eCall_eq, eCallB_eq, eMth_eq, eIf_eq, eAnd_eq, eOr_eq, eNot_eq, eSl_eq, pNo_eq, pSome_eq, eComp_eq, iVal_eq, iArgs_eq, aNil_eq, aCons_eq, tVal_eq, tAnd_eq, tOr_eq, tNot_eq, tTru_eq, truth_bl, truth_non, get_0, get_S, Option.join_some, ofO_some, Res.bind_ok, Res.thn_ok, SR.bind_nx, SR.bind_ret, SR.res_ret, SR.res_nx, List.set_cons_succ, List.set_cons_zero, if_true, Bool.false_eq_true, if_false, typ_str, gTpl_eq, gsCons_eq, gsNil_eq, gNam_eq, Option.bind_some, Bool.not_true, Bool.not_false, List.replicate, fn_1, fn_2, fn_3, fn_4, oEq_str, oNe_str, oEq_int, oNe_int, oAdd_int, oSub_int, oLt_int, oGt_int, oLe_int, oGe_int, oIsN_eq, oNeg_int, bLen_str, oIn_ch, oNin_ch, S_e, S_0, S_9, S_mi, S_po, S_zs9, S_num, S_ed, S_text, decide_eq_true, decide_eq_false, beqI_t, beqI_f, szOk_of, List.length_cons, List.length_nil, Nat.reduceAdd, L_law_1, e1, oIsi_eq, typ_bl, Option.map_some, t_bb, e2, ne]
theorem turn_ok (ns : List Int) (k : Nat) (hk : k < 30) (w2 w3 w4 w5 w6 w7 w8 w9 : Option Val) (h : Hep) :
    ∃ u2 u3 u4 u5 u6 u7 u8 u9 h', L_law_3 [some (.fl (ns.map .int)), some (.int k), w2, w3, w4, w5, w6, w7, w8, w9] h = .nx [some (.fl (ns.map .int)), some (.int k), u2, u3, u4, u5, u6, u7, u8, u9] h' := by
  have e1 := cell_ok ns k h
  obtain ⟨r, e2⟩ := rich_ok (ns.getD k 0) k h (by omega) (by omega)
  obtain ⟨P, h1, e3, p, x1⟩ := picture_ok r h
  obtain ⟨pl, t, z, sg, dg, eP, F⟩ := pic_fact p
  obtain ⟨pl', eP', okp, l2, l5, ecp, ecn⟩ := pic_list p
  have : pl' = pl := by rw [eP] at eP'; cases eP'; rfl
  subst this
  obtain ⟨h2, x2, t1⟩ := F.tx h1
  obtain ⟨h3, x3, t2⟩ := F.ltx h2
  obtain ⟨h4, x4, pa⟩ := parse_ok t (Nat.le_trans F.len (by decide)) h3
  have ps := F.ps
  unfold psEq at ps
  rw [Bool.and_eq_true] at ps
  have o0 : outS t ≠ [] := by simpa using ps.1
  obtain ⟨R, eR, fR⟩ : ∃ R, psS (outS t) = .tup R ∧ eqFs R pl' = true := by
    cases ep : psS (outS t) <;> rw [ep] at ps <;> first | exact ⟨_, rfl, ps.2⟩ | (cases ps.2)
  rw [if_neg (fun q => q.elim o0 (fun q => by rw [eR] at q; cases q)), eR] at pa
  have flR : ∀ x ∈ R, flatOk x := by
    rcases ps_good (outS t) with g | ⟨a, l, g, fl, _⟩
    · rw [eR] at g; cases g
    · rw [eR] at g; cases g; exact fl
  have flp : ∀ x ∈ pl', flatOk x := fun x hx => (okVal_flat (List.all_eq_true.mp okp x hx)).1
  have neP := oNe_of (vEq_tups h4 flR flp)
  rw [fR] at neP
  obtain ⟨h5, x5, lz⟩ := F.lsz h4
  have nz : oNe h5 (.int z) (.int z) = some (.bl false) := by rw [oNe_int]; simp
  have nt : oNe h3 (.str t) (.str t) = some (.bl false) := by rw [oNe_str]; simp
  have s1 : sSet 2 (eCall M_v_law_rich (aCons (eCall M_v_law_cell (aCons (eVar 0) (aCons (eVar 1) aNil))) (aCons (eVar 1) aNil))) [some (.fl (ns.map .int)), some (.int k), w2, w3, w4, w5, w6, w7, w8, w9] h = .nx [some (.fl (ns.map .int)), some (.int k), some (.int r), w3, w4, w5, w6, w7, w8, w9] h := by
    simp only [sSeq_eq, sSet_eq, sIf_eq, sRet_eq, sNop_eq, sExpr_eq, sAsg_eq, sAug_eq, sFor_eq, sRaise_eq, eBin_eq, eUn_eq, eVar_eq, eC_eq, eTup_eq, eLst_eq, eCall_eq, eCallB_eq, eMth_eq, eIf_eq, eAnd_eq, eOr_eq, eNot_eq, eSl_eq, pNo_eq, pSome_eq, eComp_eq, iVal_eq, iArgs_eq, aNil_eq, aCons_eq, tVal_eq, tAnd_eq, tOr_eq, tNot_eq, tTru_eq, truth_bl, truth_non, get_0, get_S, Option.join_some, ofO_some, Res.bind_ok, Res.thn_ok, SR.bind_nx, SR.bind_ret, SR.res_ret, SR.res_nx, List.set_cons_succ, List.set_cons_zero, if_true, Bool.false_eq_true, if_false, typ_str, gTpl_eq, gsCons_eq, gsNil_eq, gNam_eq, Option.bind_some, Bool.not_true, Bool.not_false, List.replicate, fn_1, fn_2, fn_3, fn_4, oEq_str, oNe_str, oEq_int, oNe_int, oAdd_int, oSub_int, oLt_int, oGt_int, oLe_int, oGe_int, oIsN_eq, oNeg_int, oIn_ch, oNin_ch, S_e, S_0, S_9, S_mi, S_po, S_zs9, S_num, S_ed, S_text, e1, e2]
  have s2 : sSet 3 (eCall M_v_law_picture (aCons (eVar 2) aNil)) [some (.fl (ns.map .int)), some (.int k), some (.int r), w3, w4, w5, w6, w7, w8, w9] h = .nx [some (.fl (ns.map .int)), some (.int k), some (.int r), some P, w4, w5, w6, w7, w8, w9] h1 := by
    simp only [sSeq_eq, sSet_eq, sIf_eq, sRet_eq, sNop_eq, sExpr_eq, sAsg_eq, sAug_eq, sFor_eq, sRaise_eq, eBin_eq, eUn_eq, eVar_eq, eC_eq, eTup_eq, eLst_eq, eCall_eq, eCallB_eq, eMth_eq, eIf_eq, eAnd_eq, eOr_eq, eNot_eq, eSl_eq, pNo_eq, pSome_eq, eComp_eq, iVal_eq, iArgs_eq, aNil_eq, aCons_eq, tVal_eq, tAnd_eq, tOr_eq, tNot_eq, tTru_eq, truth_bl, truth_non, get_0, get_S, Option.join_some, ofO_some, Res.bind_ok, Res.thn_ok, SR.bind_nx, SR.bind_ret, SR.res_ret, SR.res_nx, List.set_cons_succ, List.set_cons_zero, if_true, Bool.false_eq_true, if_false, typ_str, gTpl_eq, gsCons_eq, gsNil_eq, gNam_eq, Option.bind_some, Bool.not_true, Bool.not_false, List.replicate, fn_1, fn_2, fn_3, fn_4, oEq_str, oNe_str, oEq_int, oNe_int, oAdd_int, oSub_int, oLt_int, oGt_int, oLe_int, oGe_int, oIsN_eq, oNeg_int, oIn_ch, oNin_ch, S_e, S_0, S_9, S_mi, S_po, S_zs9, S_num, S_ed, S_text, e3]
  have s3 : sSet 4 (eCall M_picture_text (aCons (eVar 3) aNil)) [some (.fl (ns.map .int)), some (.int k), some (.int r), some P, w4, w5, w6, w7, w8, w9] h1 = .nx [some (.fl (ns.map .int)), some (.int k), some (.int r), some P, some (.str t), w5, w6, w7, w8, w9] h2 := by
    simp only [sSeq_eq, sSet_eq, sIf_eq, sRet_eq, sNop_eq, sExpr_eq, sAsg_eq, sAug_eq, sFor_eq, sRaise_eq, eBin_eq, eUn_eq, eVar_eq, eC_eq, eTup_eq, eLst_eq, eCall_eq, eCallB_eq, eMth_eq, eIf_eq, eAnd_eq, eOr_eq, eNot_eq, eSl_eq, pNo_eq, pSome_eq, eComp_eq, iVal_eq, iArgs_eq, aNil_eq, aCons_eq, tVal_eq, tAnd_eq, tOr_eq, tNot_eq, tTru_eq, truth_bl, truth_non, get_0, get_S, Option.join_some, ofO_some, Res.bind_ok, Res.thn_ok, SR.bind_nx, SR.bind_ret, SR.res_ret, SR.res_nx, List.set_cons_succ, List.set_cons_zero, if_true, Bool.false_eq_true, if_false, typ_str, gTpl_eq, gsCons_eq, gsNil_eq, gNam_eq, Option.bind_some, Bool.not_true, Bool.not_false, List.replicate, fn_1, fn_2, fn_3, fn_4, oEq_str, oNe_str, oEq_int, oNe_int, oAdd_int, oSub_int, oLt_int, oGt_int, oLe_int, oGe_int, oIsN_eq, oNeg_int, oIn_ch, oNin_ch, S_e, S_0, S_9, S_mi, S_po, S_zs9, S_num, S_ed, S_text, t1]
  have s4 : ∀ X : SM, sIf (tOr (tVal (eBin oNe (eVar 4) (eCall M_v_law_picture_text (aCons (eVar 3) aNil)))) (tOr (tVal (eBin oNe (eCall M_parse_picture (aCons (eVar 4) aNil)) (eVar 3))) (tVal (eBin oNe (eCall M_size_of (aCons (eVar 3) aNil)) (eCall M_v_law_size (aCons (eVar 3) aNil)))))) X sNop [some (.fl (ns.map .int)), some (.int k), some (.int r), some P, some (.str t), w5, w6, w7, w8, w9] h2 = .nx [some (.fl (ns.map .int)), some (.int k), some (.int r), some P, some (.str t), w5, w6, w7, w8, w9] h5 := fun X => by
    have nP : oNe h4 (.tup R) P = some (.bl false) := by rw [eP]; exact neP
    rw [sIf_eq, tOr_eq, tVal_eq, eBin_eq, eVar_eq]
    simp only [get_0, get_S, Option.join_some, ofO_some, Res.bind_ok, eCall_eq, aCons_eq, aNil_eq, eVar_eq, t2, nt, Bool.false_eq_true, if_false, tOr_eq, tVal_eq, eBin_eq, pa, nP, F.sz h4, lz, nz, Res.thn_ok, sNop_eq]
  have row := F.row (some (.fl (ns.map .int))) (some (.int k)) (some (.int r)) (some (.str t)) w5 w6 w7 w8 w9 h5
  have nsg : ∀ h, oNe h (.bl sg) (.bl sg) = some (.bl false) := fun h => by rw [oNe_bl]; simp
  have s6 : ∀ X : SM, sIf (tOr (tNot (tTru (eUn (oIsi "bool") (eCall M_is_signed (aCons (eVar 3) aNil))))) (tOr (tVal (eBin oNe (eCall M_is_signed (aCons (eVar 3) aNil)) (eVar 5))) (tVal (eBin oNe (eCall M_v_law_digits (aCons (eVar 3) aNil)) (eVar 6))))) X sNop [some (.fl (ns.map .int)), some (.int k), some (.int r), some P, some (.str t), some (.bl sg), some dg, w7, w8, w9] h5 = .nx [some (.fl (ns.map .int)), some (.int k), some (.int r), some P, some (.str t), some (.bl sg), some dg, w7, w8, w9] h5 := fun X => by
    simp only [sSeq_eq, sSet_eq, sIf_eq, sRet_eq, sNop_eq, sExpr_eq, sAsg_eq, sAug_eq, sFor_eq, sRaise_eq, eBin_eq, eUn_eq, eVar_eq, eC_eq, eTup_eq, eLst_eq, eCall_eq, eCallB_eq, eMth_eq, eIf_eq, eAnd_eq, eOr_eq, eNot_eq, eSl_eq, pNo_eq, pSome_eq, eComp_eq, iVal_eq, iArgs_eq, aNil_eq, aCons_eq, tVal_eq, tAnd_eq, tOr_eq, tNot_eq, tTru_eq, truth_bl, truth_non, get_0, get_S, Option.join_some, ofO_some, Res.bind_ok, Res.thn_ok, SR.bind_nx, SR.bind_ret, SR.res_ret, SR.res_nx, List.set_cons_succ, List.set_cons_zero, if_true, Bool.false_eq_true, if_false, typ_str, gTpl_eq, gsCons_eq, gsNil_eq, gNam_eq, Option.bind_some, Bool.not_true, Bool.not_false, List.replicate, fn_1, fn_2, fn_3, fn_4, oEq_str, oNe_str, oEq_int, oNe_int, oAdd_int, oSub_int, oLt_int, oGt_int, oLe_int, oGe_int, oIsN_eq, oNeg_int, oIn_ch, oNin_ch, S_e, S_0, S_9, S_mi, S_po, S_zs9, S_num, S_ed, S_text, F.si h5, oIsi_eq, typ_bl, Option.map_some, t_bb, nsg, F.di h5, F.de h5]
  obtain ⟨v, h6, x6, en, nv⟩ := near_ok okp l2 l5 ecn (r / 500) h5
  rw [← eP] at en
  have d500 : ∀ h, oDiv h (.int r) (.int 500) = some (.int (r / 500)) := fun h => oDiv_s (by decide) (by decide)
  have s7 : sSet 7 (eCall M_v_law_near (aCons (eVar 3) (aCons (eBin oDiv (eVar 2) (eC (.int 500))) aNil))) [some (.fl (ns.map .int)), some (.int k), some (.int r), some P, some (.str t), some (.bl sg), some dg, w7, w8, w9] h5 = .nx [some (.fl (ns.map .int)), some (.int k), some (.int r), some P, some (.str t), some (.bl sg), some dg, some v, w8, w9] h6 := by
    simp only [sSeq_eq, sSet_eq, sIf_eq, sRet_eq, sNop_eq, sExpr_eq, sAsg_eq, sAug_eq, sFor_eq, sRaise_eq, eBin_eq, eUn_eq, eVar_eq, eC_eq, eTup_eq, eLst_eq, eCall_eq, eCallB_eq, eMth_eq, eIf_eq, eAnd_eq, eOr_eq, eNot_eq, eSl_eq, pNo_eq, pSome_eq, eComp_eq, iVal_eq, iArgs_eq, aNil_eq, aCons_eq, tVal_eq, tAnd_eq, tOr_eq, tNot_eq, tTru_eq, truth_bl, truth_non, get_0, get_S, Option.join_some, ofO_some, Res.bind_ok, Res.thn_ok, SR.bind_nx, SR.bind_ret, SR.res_ret, SR.res_nx, List.set_cons_succ, List.set_cons_zero, if_true, Bool.false_eq_true, if_false, typ_str, gTpl_eq, gsCons_eq, gsNil_eq, gNam_eq, Option.bind_some, Bool.not_true, Bool.not_false, List.replicate, fn_1, fn_2, fn_3, fn_4, oEq_str, oNe_str, oEq_int, oNe_int, oAdd_int, oSub_int, oLt_int, oGt_int, oLe_int, oGe_int, oIsN_eq, oNeg_int, oIn_ch, oNin_ch, S_e, S_0, S_9, S_mi, S_po, S_zs9, S_num, S_ed, S_text, d500, en]
  let h7 : Hep := h6 ++ [.lst [P, v]]
  have x7 : Ext h6 h7 := Ext.one h6 _
  have g7 : h7[h6.length]? = some (.lst [P, v]) := get_new _ _
  have nP : NearV h7 P := by
    rw [eP]
    exact .tup pl' (by intro z; rw [z] at l2; simp at l2) okp (by omega) ecp
  obtain ⟨w1, h8, x8, o1⟩ := one_ok nP (some (.fl (ns.map .int))) (some (.int k)) (some (.int r)) (some P) (some (.str t)) (some (.bl sg)) (some dg) (some v) w9
  obtain ⟨w2', h9, x9, o2⟩ := one_ok ((nv.ke x7.ke).ke x8) (some (.fl (ns.map .int))) (some (.int k)) (some (.int r)) (some P) (some (.str t)) (some (.bl sg)) (some dg) (some v) w1
  obtain ⟨chk, it, ckh⟩ := items_ref g7
  have ck : ∀ h', Ke h7 h' → chk h' = true := fun h' x => ckh _ (x _ _ g7)
  have el : eLst (aCons (eVar 3) (aCons (eVar 7) aNil)) [some (.fl (ns.map .int)), some (.int k), some (.int r), some P, some (.str t), some (.bl sg), some dg, some v, w8, w9] h6 = .ok (.ref h6.length) h7 := by
    simp only [sSeq_eq, sSet_eq, sIf_eq, sRet_eq, sNop_eq, sExpr_eq, sAsg_eq, sAug_eq, sFor_eq, sRaise_eq, eBin_eq, eUn_eq, eVar_eq, eC_eq, eTup_eq, eLst_eq, eCall_eq, eCallB_eq, eMth_eq, eIf_eq, eAnd_eq, eOr_eq, eNot_eq, eSl_eq, pNo_eq, pSome_eq, eComp_eq, iVal_eq, iArgs_eq, aNil_eq, aCons_eq, tVal_eq, tAnd_eq, tOr_eq, tNot_eq, tTru_eq, truth_bl, truth_non, get_0, get_S, Option.join_some, ofO_some, Res.bind_ok, Res.thn_ok, SR.bind_nx, SR.bind_ret, SR.res_ret, SR.res_nx, List.set_cons_succ, List.set_cons_zero, if_true, Bool.false_eq_true, if_false, typ_str, gTpl_eq, gsCons_eq, gsNil_eq, gNam_eq, Option.bind_some, Bool.not_true, Bool.not_false, List.replicate, fn_1, fn_2, fn_3, fn_4, oEq_str, oNe_str, oEq_int, oNe_int, oAdd_int, oSub_int, oLt_int, oGt_int, oLe_int, oGe_int, oIsN_eq, oNeg_int, oIn_ch, oNin_ch, S_e, S_0, S_9, S_mi, S_po, S_zs9, S_num, S_ed, S_text, if_pos (szOk_iff.mpr (show ([P, v] : List Val).length ≤ 16777216 by simp))]
    rfl
  have s8 : sFor (iVal (eLst (aCons (eVar 3) (aCons (eVar 7) aNil)))) (gNam 8) L_law_1 [some (.fl (ns.map .int)), some (.int k), some (.int r), some P, some (.str t), some (.bl sg), some dg, some v, w8, w9] h6 = .nx [some (.fl (ns.map .int)), some (.int k), some (.int r), some P, some (.str t), some (.bl sg), some dg, some v, some v, w2'] h9 := by
    rw [sFor_eq, iVal_eq, el]
    simp only [Res.bind_ok, it, ofO_some, Res.thn_ok, forL_cons, forL_nil, gNam_eq, List.set_cons_succ, List.set_cons_zero, ck h7 (Ext.refl h7).ke, if_true, o1, ck h8 x8, o2, ck h9 (x8.trans x9)]
  refine ⟨some (.int r), some P, some (.str t), some (.bl sg), some dg, some v, some v, w2', h9, ?_⟩
  show (sSeq (sSet 2 _) (sSeq (sSet 3 _) (sSeq (sSet 4 _) (sSeq (sIf _ _ _) (sSeq sgdg (sSeq (sIf _ _ _) (sSeq (sSet 7 _) (sFor _ _ _)))))))) _ _ = _
  rw [sSeq_eq, s1, SR.bind_nx, sSeq_eq, s2, SR.bind_nx, sSeq_eq, s3, SR.bind_nx, sSeq_eq, s4, SR.bind_nx, sSeq_eq, row, SR.bind_nx, sSeq_eq, s6, SR.bind_nx, sSeq_eq, s7, SR.bind_nx, s8]
theorem law_true (ns : List Int) (hl : ns.length ≤ 63) : ∃ h, Mir.M_law [.fl (ns.map .int)] [] = .ok (.bl true) h := by
  have mm : (if (if (ns.length : Int) < 16 then (ns.length : Int) else 16) > 1 then (if (ns.length : Int) < 16 then (ns.length : Int) else 16) else 1) = ((max 1 (min 16 ns.length) : Nat) : Int) := by
    split <;> split <;> omega
  have loop : ∃ (η : Env) (h' : Hep), forL (gNam 1) (fun _ => true) L_law_3 (rng 0 (max 1 (min 16 ns.length))) [some (.fl (ns.map .int)), none, none, none, none, none, none, none, none, none] [] = .nx η h' := by
    refine forL_gen (fun r => ∃ η h', r = .nx η h') _ (fun i η h' => ∃ u1 u2 u3 u4 u5 u6 u7 u8 u9, η = [some (.fl (ns.map .int)), u1, u2, u3, u4, u5, u6, u7, u8, u9]) _ _ ⟨_, _, _, _, _, _, _, _, _, rfl⟩ ?_ ?_
    · rintro i x η h4 hx ⟨u1, u2, u3, u4, u5, u6, u7, u8, u9, rfl⟩
      obtain ⟨hi, rfl⟩ := rng_get hx
      obtain ⟨v2, v3, v4, v5, v6, v7, v8, v9, h5, e⟩ := turn_ok ns i (by omega) u2 u3 u4 u5 u6 u7 u8 u9 h4
      refine ⟨rfl, _, rfl, ?_⟩
      simp only [List.set_cons_succ, List.set_cons_zero, Int.zero_add, e, SR.turn_nx]
      exact ⟨_, _, _, _, _, _, _, _, _, rfl⟩
    · rintro η h4 ⟨u1, u2, u3, u4, u5, u6, u7, u8, u9, rfl⟩
      exact ⟨rfl, _, _, rfl⟩
  obtain ⟨η, h', e⟩ := loop
  refine ⟨h', ?_⟩
  have mi : ∀ h : Hep, bMin2 [.int 16, .int (ns.length : Int)] h = some (.int (if (ns.length : Int) < 16 then (ns.length : Int) else 16), h) := fun h => rfl
  show SR.res (B_law [some (.fl (ns.map .int)), none, none, none, none, none, none, none, none, none] []) = _
  unfold B_law
  simp (disch := omega) only [Res.thn_ok, List.set_cons_succ, List.set_cons_zero, SR.bind_nx, sSeq_eq, sFor_eq, iArgs_eq, aCons_eq, aNil_eq, eCallB_eq, eVar_eq, eC_eq, get_0, Option.join_some, ofO_some, Res.bind_ok, bLen_fl, List.length_map, mi, bMax2_int, mm, fRng1_s, Int.toNat_natCast, e, sRet_eq, SR.res_ret]
end Law

set_option Elab.async false
set_option linter.all false
set_option maxRecDepth 100000
set_option maxHeartbeats 4000000
namespace Ok
open PySem PySem.Spec PyProof.Rows L2 Cb Mir
def top (i : Nat) : Stmt := PySem.Challenge.pw_cardhouse_k11_texts_of_pictures.main.body.getD i (.Pass ⟨0, 0, 0, 0⟩)
abbrev s_v_law_cell : Stmt := top 29
theorem sc_v_law_cell : FnScope ["script", "k"] ["script", "k"] (defScope s_v_law_cell) := ⟨rfl, rfl, rfl, by decide +kernel, rfl, by decide +kernel, by decide +kernel⟩
abbrev s_digits_in : Stmt := top 25
theorem sc_digits_in : FnScope ["picture"] ["picture"] (defScope s_digits_in) := ⟨rfl, rfl, rfl, by decide +kernel, rfl, by decide +kernel, by decide +kernel⟩
abbrev s_v_law_digits : Stmt := top 36
theorem sc_v_law_digits : FnScope ["picture", "e"] ["picture"] (defScope s_v_law_digits) := ⟨rfl, rfl, rfl, by decide +kernel, rfl, by decide +kernel, by decide +kernel⟩
abbrev s_v_law_picture_text : Stmt := top 32
theorem sc_v_law_picture_text : FnScope ["picture", "text"] ["picture"] (defScope s_v_law_picture_text) := ⟨rfl, rfl, rfl, by decide +kernel, rfl, by decide +kernel, by decide +kernel⟩
abbrev s_only : Stmt := top 14
theorem sc_only : FnScope ["text", "marks", "mark"] ["text", "marks"] (defScope s_only) := ⟨rfl, rfl, rfl, by decide +kernel, rfl, by decide +kernel, by decide +kernel⟩
abbrev s_v_is_body : Stmt := top 17
theorem sc_v_is_body : FnScope ["marks", "parts", "figures", "mark"] ["marks"] (defScope s_v_is_body) := ⟨rfl, rfl, rfl, by decide +kernel, rfl, by decide +kernel, by decide +kernel⟩
abbrev s_v_signs : Stmt := top 16
theorem sc_v_signs : FnScope ["text"] ["text"] (defScope s_v_signs) := ⟨rfl, rfl, rfl, by decide +kernel, rfl, by decide +kernel, by decide +kernel⟩
abbrev s_digits_of : Stmt := top 18
theorem sc_digits_of : FnScope ["marks", "parts", "whole", "mark"] ["marks"] (defScope s_digits_of) := ⟨rfl, rfl, rfl, by decide +kernel, rfl, by decide +kernel, by decide +kernel⟩
abbrev s_v_edited : Stmt := top 19
theorem sc_v_edited : FnScope ["text", "marks", "sign", "whole", "fraction"] ["text"] (defScope s_v_edited) := ⟨rfl, rfl, rfl, by decide +kernel, rfl, by decide +kernel, by decide +kernel⟩
abbrev s_v_number : Stmt := top 15
theorem sc_v_number : FnScope ["text", "signed", "body", "parts", "fraction"] ["text"] (defScope s_v_number) := ⟨rfl, rfl, rfl, by decide +kernel, rfl, by decide +kernel, by decide +kernel⟩
abbrev s_are_figures : Stmt := top 8
theorem sc_are_figures : FnScope ["value", "character"] ["value"] (defScope s_are_figures) := ⟨rfl, rfl, rfl, by decide +kernel, rfl, by decide +kernel, by decide +kernel⟩
abbrev s_expanded : Stmt := top 13
theorem sc_expanded : FnScope ["text", "parts", "index", "mark", "count", "end", "word", "result"] ["text"] (defScope s_expanded) := ⟨rfl, rfl, rfl, by decide +kernel, rfl, by decide +kernel, by decide +kernel⟩
abbrev s_parse_picture : Stmt := top 20
theorem sc_parse_picture : FnScope ["text", "full", "picture"] ["text"] (defScope s_parse_picture) := ⟨rfl, rfl, rfl, by decide +kernel, rfl, by decide +kernel, by decide +kernel⟩
abbrev s_v_law_is_picture : Stmt := top 35
theorem sc_v_law_is_picture : FnScope ["value", "sizes", "part"] ["value"] (defScope s_v_law_is_picture) := ⟨rfl, rfl, rfl, by decide +kernel, rfl, by decide +kernel, by decide +kernel⟩
abbrev s_v_law_near : Stmt := top 34
theorem sc_v_law_near : FnScope ["picture", "rich", "odd", "choice", "at", "one"] ["picture", "rich"] (defScope s_v_law_near) := ⟨rfl, rfl, rfl, by decide +kernel, rfl, by decide +kernel, by decide +kernel⟩
abbrev s_v_law_picture : Stmt := top 31
theorem sc_v_law_picture : FnScope ["rich", "choice", "rest", "whole", "body", "fraction", "sign", "digits", "mark"] ["rich"] (defScope s_v_law_picture) := ⟨rfl, rfl, rfl, by decide +kernel, rfl, by decide +kernel, by decide +kernel⟩
abbrev s_v_law_rich : Stmt := top 30
theorem sc_v_law_rich : FnScope ["cell", "k", "mixed"] ["cell", "k"] (defScope s_v_law_rich) := ⟨rfl, rfl, rfl, by decide +kernel, rfl, by decide +kernel, by decide +kernel⟩
abbrev s_v_law_size : Stmt := top 33
theorem sc_v_law_size : FnScope ["picture"] ["picture"] (defScope s_v_law_size) := ⟨rfl, rfl, rfl, by decide +kernel, rfl, by decide +kernel, by decide +kernel⟩
abbrev s_is_integer : Stmt := top 7
theorem sc_is_integer : FnScope ["value", "least", "greatest"] ["value", "least", "greatest"] (defScope s_is_integer) := ⟨rfl, rfl, rfl, by decide +kernel, rfl, by decide +kernel, by decide +kernel⟩
abbrev s_v_is_edited : Stmt := top 26
theorem sc_v_is_edited : FnScope ["value", "marks", "sign", "whole", "fraction"] ["value"] (defScope s_v_is_edited) := ⟨rfl, rfl, rfl, by decide +kernel, rfl, by decide +kernel, by decide +kernel⟩
abbrev s_is_picture : Stmt := top 27
theorem sc_is_picture : FnScope ["value"] ["value"] (defScope s_is_picture) := ⟨rfl, rfl, rfl, by decide +kernel, rfl, by decide +kernel, by decide +kernel⟩
abbrev s_is_signed : Stmt := top 24
theorem sc_is_signed : FnScope ["picture"] ["picture"] (defScope s_is_signed) := ⟨rfl, rfl, rfl, by decide +kernel, rfl, by decide +kernel, by decide +kernel⟩
abbrev s_v_counted : Stmt := top 21
theorem sc_v_counted : FnScope ["mark", "count"] ["mark", "count"] (defScope s_v_counted) := ⟨rfl, rfl, rfl, by decide +kernel, rfl, by decide +kernel, by decide +kernel⟩
abbrev s_picture_text : Stmt := top 22
theorem sc_picture_text : FnScope ["picture", "sign", "point", "marks"] ["picture"] (defScope s_picture_text) := ⟨rfl, rfl, rfl, by decide +kernel, rfl, by decide +kernel, by decide +kernel⟩
abbrev s_size_of : Stmt := top 23
theorem sc_size_of : FnScope ["picture"] ["picture"] (defScope s_size_of) := ⟨rfl, rfl, rfl, by decide +kernel, rfl, by decide +kernel, by decide +kernel⟩
abbrev s_law : Stmt := top 37
theorem sc_law : FnScope ["script", "k", "rich", "picture", "text", "signed", "digits", "near", "value", "actual"] ["script"] (defScope s_law) := ⟨rfl, rfl, rfl, by decide +kernel, rfl, by decide +kernel, by decide +kernel⟩
structure Txt (K : PySem.W.Frag) (mg : Str → Option Value) (w : World) : Type where
  f_v_law_cell : Addr
  fd_v_law_cell : FuncData
  F_v_law_cell : Fun K "_law_cell" "_law_cell" s_v_law_cell f_v_law_cell fd_v_law_cell
  g_v_law_cell : mg "_law_cell" = some (.ref f_v_law_cell)
  b_v_law_cell : Binds K fd_v_law_cell ["script", "k"] []
  f_digits_in : Addr
  fd_digits_in : FuncData
  F_digits_in : Fun K "digits_in" "digits_in" s_digits_in f_digits_in fd_digits_in
  g_digits_in : mg "digits_in" = some (.ref f_digits_in)
  b_digits_in : Binds K fd_digits_in ["picture"] []
  f_v_law_digits : Addr
  fd_v_law_digits : FuncData
  F_v_law_digits : Fun K "_law_digits" "_law_digits" s_v_law_digits f_v_law_digits fd_v_law_digits
  g_v_law_digits : mg "_law_digits" = some (.ref f_v_law_digits)
  b_v_law_digits : Binds K fd_v_law_digits ["picture"] []
  f_v_law_picture_text : Addr
  fd_v_law_picture_text : FuncData
  F_v_law_picture_text : Fun K "_law_picture_text" "_law_picture_text" s_v_law_picture_text f_v_law_picture_text fd_v_law_picture_text
  g_v_law_picture_text : mg "_law_picture_text" = some (.ref f_v_law_picture_text)
  b_v_law_picture_text : Binds K fd_v_law_picture_text ["picture"] []
  f_only : Addr
  fd_only : FuncData
  F_only : Fun K "only" "only" s_only f_only fd_only
  g_only : mg "only" = some (.ref f_only)
  b_only : Binds K fd_only ["text", "marks"] []
  f_v_is_body : Addr
  fd_v_is_body : FuncData
  F_v_is_body : Fun K "_is_body" "_is_body" s_v_is_body f_v_is_body fd_v_is_body
  g_v_is_body : mg "_is_body" = some (.ref f_v_is_body)
  b_v_is_body : Binds K fd_v_is_body ["marks"] []
  f_v_signs : Addr
  fd_v_signs : FuncData
  F_v_signs : Fun K "_signs" "_signs" s_v_signs f_v_signs fd_v_signs
  g_v_signs : mg "_signs" = some (.ref f_v_signs)
  b_v_signs : Binds K fd_v_signs ["text"] []
  f_digits_of : Addr
  fd_digits_of : FuncData
  F_digits_of : Fun K "digits_of" "digits_of" s_digits_of f_digits_of fd_digits_of
  g_digits_of : mg "digits_of" = some (.ref f_digits_of)
  b_digits_of : Binds K fd_digits_of ["marks"] []
  f_v_edited : Addr
  fd_v_edited : FuncData
  F_v_edited : Fun K "_edited" "_edited" s_v_edited f_v_edited fd_v_edited
  g_v_edited : mg "_edited" = some (.ref f_v_edited)
  b_v_edited : Binds K fd_v_edited ["text"] []
  f_v_number : Addr
  fd_v_number : FuncData
  F_v_number : Fun K "_number" "_number" s_v_number f_v_number fd_v_number
  g_v_number : mg "_number" = some (.ref f_v_number)
  b_v_number : Binds K fd_v_number ["text"] []
  f_are_figures : Addr
  fd_are_figures : FuncData
  F_are_figures : Fun K "are_figures" "are_figures" s_are_figures f_are_figures fd_are_figures
  g_are_figures : mg "are_figures" = some (.ref f_are_figures)
  b_are_figures : Binds K fd_are_figures ["value"] []
  f_expanded : Addr
  fd_expanded : FuncData
  F_expanded : Fun K "expanded" "expanded" s_expanded f_expanded fd_expanded
  g_expanded : mg "expanded" = some (.ref f_expanded)
  b_expanded : Binds K fd_expanded ["text"] []
  f_parse_picture : Addr
  fd_parse_picture : FuncData
  F_parse_picture : Fun K "parse_picture" "parse_picture" s_parse_picture f_parse_picture fd_parse_picture
  g_parse_picture : mg "parse_picture" = some (.ref f_parse_picture)
  b_parse_picture : Binds K fd_parse_picture ["text"] []
  f_v_law_is_picture : Addr
  fd_v_law_is_picture : FuncData
  F_v_law_is_picture : Fun K "_law_is_picture" "_law_is_picture" s_v_law_is_picture f_v_law_is_picture fd_v_law_is_picture
  g_v_law_is_picture : mg "_law_is_picture" = some (.ref f_v_law_is_picture)
  b_v_law_is_picture : Binds K fd_v_law_is_picture ["value"] []
  f_v_law_near : Addr
  fd_v_law_near : FuncData
  F_v_law_near : Fun K "_law_near" "_law_near" s_v_law_near f_v_law_near fd_v_law_near
  g_v_law_near : mg "_law_near" = some (.ref f_v_law_near)
  b_v_law_near : Binds K fd_v_law_near ["picture", "rich"] []
  f_v_law_picture : Addr
  fd_v_law_picture : FuncData
  F_v_law_picture : Fun K "_law_picture" "_law_picture" s_v_law_picture f_v_law_picture fd_v_law_picture
  g_v_law_picture : mg "_law_picture" = some (.ref f_v_law_picture)
  b_v_law_picture : Binds K fd_v_law_picture ["rich"] []
  f_v_law_rich : Addr
  fd_v_law_rich : FuncData
  F_v_law_rich : Fun K "_law_rich" "_law_rich" s_v_law_rich f_v_law_rich fd_v_law_rich
  g_v_law_rich : mg "_law_rich" = some (.ref f_v_law_rich)
  b_v_law_rich : Binds K fd_v_law_rich ["cell", "k"] []
  f_v_law_size : Addr
  fd_v_law_size : FuncData
  F_v_law_size : Fun K "_law_size" "_law_size" s_v_law_size f_v_law_size fd_v_law_size
  g_v_law_size : mg "_law_size" = some (.ref f_v_law_size)
  b_v_law_size : Binds K fd_v_law_size ["picture"] []
  f_is_integer : Addr
  fd_is_integer : FuncData
  F_is_integer : Fun K "is_integer" "is_integer" s_is_integer f_is_integer fd_is_integer
  g_is_integer : mg "is_integer" = some (.ref f_is_integer)
  b_is_integer : Binds K fd_is_integer ["value", "least", "greatest"] []
  f_v_is_edited : Addr
  fd_v_is_edited : FuncData
  F_v_is_edited : Fun K "_is_edited" "_is_edited" s_v_is_edited f_v_is_edited fd_v_is_edited
  g_v_is_edited : mg "_is_edited" = some (.ref f_v_is_edited)
  b_v_is_edited : Binds K fd_v_is_edited ["value"] []
  f_is_picture : Addr
  fd_is_picture : FuncData
  F_is_picture : Fun K "is_picture" "is_picture" s_is_picture f_is_picture fd_is_picture
  g_is_picture : mg "is_picture" = some (.ref f_is_picture)
  b_is_picture : Binds K fd_is_picture ["value"] []
  f_is_signed : Addr
  fd_is_signed : FuncData
  F_is_signed : Fun K "is_signed" "is_signed" s_is_signed f_is_signed fd_is_signed
  g_is_signed : mg "is_signed" = some (.ref f_is_signed)
  b_is_signed : Binds K fd_is_signed ["picture"] []
  f_v_counted : Addr
  fd_v_counted : FuncData
  F_v_counted : Fun K "_counted" "_counted" s_v_counted f_v_counted fd_v_counted
  g_v_counted : mg "_counted" = some (.ref f_v_counted)
  b_v_counted : Binds K fd_v_counted ["mark", "count"] []
  f_picture_text : Addr
  fd_picture_text : FuncData
  F_picture_text : Fun K "picture_text" "picture_text" s_picture_text f_picture_text fd_picture_text
  g_picture_text : mg "picture_text" = some (.ref f_picture_text)
  b_picture_text : Binds K fd_picture_text ["picture"] []
  f_size_of : Addr
  fd_size_of : FuncData
  F_size_of : Fun K "size_of" "size_of" s_size_of f_size_of fd_size_of
  g_size_of : mg "size_of" = some (.ref f_size_of)
  b_size_of : Binds K fd_size_of ["picture"] []
  f_law : Addr
  fd_law : FuncData
  F_law : Fun K "law" "law" s_law f_law fd_law
  g_law : mg "law" = some (.ref f_law)
  b_law : Binds K fd_law ["script"] []
  m_bool : mg "bool" = none
  m_int : mg "int" = none
  m_isinstance : mg "isinstance" = none
  m_len : mg "len" = none
  m_list : mg "list" = none
  m_max : mg "max" = none
  m_min : mg "min" = none
  m_range : mg "range" = none
  m_str : mg "str" = none
  m_tuple : mg "tuple" = none
  u_FIGURES : Value
  g_FIGURES : mg "FIGURES" = some u_FIGURES
  r_FIGURES : RelV (.str (Str.ofString "0123456789")) u_FIGURES
  u_INSERTED : Value
  g_INSERTED : mg "INSERTED" = some u_INSERTED
  r_INSERTED : RelV (.str (Str.ofString ",b0/")) u_INSERTED
  u_MARKS : Value
  g_MARKS : mg "MARKS" = some u_MARKS
  r_MARKS : RelV (.str (Str.ofString "z*9,b0/.")) u_MARKS
  u_MOST_DIGITS : Value
  g_MOST_DIGITS : mg "MOST_DIGITS" = some u_MOST_DIGITS
  r_MOST_DIGITS : RelV (.int 18) u_MOST_DIGITS
  u_MOST_TEXT : Value
  g_MOST_TEXT : mg "MOST_TEXT" = some u_MOST_TEXT
  r_MOST_TEXT : RelV (.int 80) u_MOST_TEXT
  a_SIGNS : Addr
  o_SIGNS : Obj
  g_SIGNS : mg "SIGNS" = some (.ref a_SIGNS)
  l_SIGNS : K.lookup a_SIGNS = some o_SIGNS
  v_SIGNS : tupC o_SIGNS [(.str (Cd.S "")), (.str (Cd.S "-")), (.str (Cd.S "+")), (.str (Cd.S ".-")), (.str (Cd.S ".+")), (.str (Cd.S "cr")), (.str (Cd.S "db"))] = true
  C_BadPicture : Addr
  cg_BadPicture : mg "BadPicture" = some (.ref C_BadPicture)
  C_CardError : Addr
  cg_CardError : mg "CardError" = some (.ref C_CardError)
  xr_BadPicture : ExR K C_BadPicture
  ex_BadPicture_BadPicture : PySem.W.exmOne K (.ref C_BadPicture) (.ref C_BadPicture) = some true
  ex_BadPicture_CardError : PySem.W.exmOne K (.ref C_BadPicture) (.ref C_CardError) = some true
  ec_BadPicture : ExcC K C_BadPicture
  kt_BadPicture_BadPicture : PySem.W.kitOne K (.ref C_BadPicture) (.ref C_BadPicture) = some true
def ca {K : PySem.W.Frag} {mg : Str → Option Value} {w : World} (T : Txt K mg w) : String → Value := fun s => if s = "BadPicture" then .ref T.C_BadPicture else if s = "CardError" then .ref T.C_CardError else .none
section
variable {P : Program} {w : World} {K : PySem.W.Frag} {mg : Str → Option Value} {base : Heap}
theorem ca_BadPicture (T : Txt K mg w) : ca T "BadPicture" = .ref T.C_BadPicture := by unfold ca; simp
theorem ca_CardError (T : Txt K mg w) : ca T "CardError" = .ref T.C_CardError := by unfold ca; simp
theorem tab_BadPicture (T : Txt K mg w) : ∀ c b, ([("BadPicture", true)] : List (String × Bool)).lookup c = some b → PySem.W.exmOne K (ca T c) (.ref T.C_BadPicture) = some b := (tab_cons (by have q := T.ex_BadPicture_BadPicture; rw [← ca_BadPicture T] at q; exact q) tab_nil)
theorem tab_CardError (T : Txt K mg w) : ∀ c b, ([("BadPicture", true)] : List (String × Bool)).lookup c = some b → PySem.W.exmOne K (ca T c) (.ref T.C_CardError) = some b := (tab_cons (by have q := T.ex_BadPicture_CardError; rw [← ca_BadPicture T] at q; exact q) tab_nil)
theorem tai_BadPicture (T : Txt K mg w) : ∀ c b, ([("BadPicture", true)] : List (String × Bool)).lookup c = some b → ∃ C, ca T c = .ref C ∧ ExcC K C ∧ PySem.W.kitOne K (.ref C) (.ref T.C_BadPicture) = some b := (tab_cons ⟨_, ca_BadPicture T, T.ec_BadPicture, T.kt_BadPicture_BadPicture⟩ tab_nil)
theorem ok_v_law_cell (T : Txt K mg w) : FnOk P w K mg base (L2.CX P w) 1 T.f_v_law_cell T.fd_v_law_cell ["script", "k"] (spF K (ca T) 2 M_v_law_cell) :=
  k_def (N := ["script", "k"]) (body := B_v_law_cell) T.F_v_law_cell sc_v_law_cell (fun cdv A outer s H E hr tk po => (kss_cons (ks_if (kt_cmp op_ltA bf_lt (k_var 1) (k_callB call_len bf_len T.m_len (ka_cons (k_var 0) ka_nil)) (nomark _)) (kss_one (ks_ret (k_callTy call_int1 bf_int T.m_int (ka_cons (k_idx (k_var 0) (k_var 1)) ka_nil)))) kss_nil) (kss_one (ks_ret k_int))))
theorem ok_digits_in (T : Txt K mg w) : FnOk P w K mg base (L2.CX P w) 1 T.f_digits_in T.fd_digits_in ["picture"] (spF K (ca T) 1 M_digits_in) :=
  k_def (N := ["picture"]) (body := B_digits_in) T.F_digits_in sc_digits_in (fun cdv A outer s H E hr tk po => (kss_cons (ks_if (kt_cmp (op_eqA hr.units) bf_eq (k_idx (k_var 0) k_int) k_str (nomark _)) (kss_one (ks_raise0 "BadPicture" rfl tk T.xr_BadPicture T.cg_BadPicture (ca_BadPicture T))) kss_nil) (kss_one (ks_ret (k_tup (ka_cons (k_idx (k_var 0) k_int) (ka_cons (k_idx (k_var 0) k_int) ka_nil)))))))
theorem ok_v_law_digits (T : Txt K mg w) : FnOk P w K mg base (L2.CX P w) 2 T.f_v_law_digits T.fd_v_law_digits ["picture"] (spF K (ca T) 1 M_v_law_digits) :=
  k_def (N := ["picture", "e"]) (body := B_v_law_digits) T.F_v_law_digits sc_v_law_digits (fun cdv A outer s H E hr tk po => (kss_one (ks_try 1 sc_v_law_digits.nd tk T.cg_CardError (tab_CardError T) (fun _ _ _ tk po => (kss_one (ks_ret (k_call (ok_digits_in T) tk (hr.mono (by decide)) (by rfl) T.g_digits_in T.F_digits_in.kp T.b_digits_in rfl (ka_cons (k_var 0) ka_nil) (al_cons al_nil))))) (fun a_ oe_ x_ d_ pn_ hz_ hf_ hd_ => (kss_one (ks_ret (k_isE 1 hz_ hf_ hd_ (tai_BadPicture T) T.m_isinstance T.cg_BadPicture)))))))
theorem ok_v_law_picture_text (T : Txt K mg w) : FnOk P w K mg base (L2.CX P w) 1 T.f_v_law_picture_text T.fd_v_law_picture_text ["picture"] (spF K (ca T) 1 M_v_law_picture_text) :=
  k_def (N := ["picture", "text"]) (body := B_v_law_picture_text) T.F_v_law_picture_text sc_v_law_picture_text (fun cdv A outer s H E hr tk po => (kss_cons (ks_if (kt_cmp (op_eqA hr.units) bf_eq (k_idx (k_var 0) k_int) k_str (nomark _)) (kss_one (ks_ret (k_bin op_addA bf_add (k_bin op_addA bf_add k_str (k_callTy call_str_int bf_str T.m_str (ka_cons (k_idx (k_var 0) k_int) ka_nil))) k_str))) kss_nil) (kss_cons (ks_if (kt_cmp (op_eqA hr.units) bf_eq (k_idx (k_var 0) k_int) k_str (nomark _)) (kss_cons (ks_set 1 sc_v_law_picture_text.nd (k_ifE (kt_tru (k_idx (k_var 0) k_int)) k_str k_str)) (kss_cons (ks_if (kt_cmp op_gtA bf_gt (k_idx (k_var 0) k_int) k_int (nomark _)) (kss_one (ks_set 1 sc_v_law_picture_text.nd (k_bin op_addA bf_add (k_bin op_addA bf_add (k_bin op_addA bf_add (k_var 1) k_str) (k_callTy call_str_int bf_str T.m_str (ka_cons (k_idx (k_var 0) k_int) ka_nil))) k_str))) kss_nil) (kss_one (ks_ret (k_ifE (kt_cmp op_gtA bf_gt (k_idx (k_var 0) k_int) k_int (nomark _)) (k_bin op_addA bf_add (k_bin op_addA bf_add (k_bin op_addA bf_add (k_var 1) k_str) (k_callTy call_str_int bf_str T.m_str (ka_cons (k_idx (k_var 0) k_int) ka_nil))) k_str) (k_var 1)))))) kss_nil) (kss_cons (ks_if (kt_cmp op_inA bf_in (k_idx (k_var 0) k_int) (k_lst (ka_cons k_str (ka_cons k_str ka_nil))) (by rfl)) (kss_one (ks_ret (k_bin op_addA bf_add (k_idx (k_var 0) k_int) (k_idx (k_var 0) k_int)))) kss_nil) (kss_one (ks_ret (k_bin op_addA bf_add (k_idx (k_var 0) k_int) (k_ifE (kt_cmp (op_eqA hr.units) bf_eq (k_slice (k_idx (k_var 0) k_int) kp_no (kp_some k_int)) k_str (nomark _)) (k_slice (k_idx (k_var 0) k_int) (kp_some k_int) kp_no) (k_idx (k_var 0) k_int)))))))))
theorem ok_only (T : Txt K mg w) : FnOk P w K mg base (L2.CX P w) 1 T.f_only T.fd_only ["text", "marks"] (spF K (ca T) 2 M_only) :=
  k_def (N := ["text", "marks", "mark"]) (body := B_only) T.F_only sc_only (fun cdv A outer s H E hr tk po => (kss_cons (ks_for po rfl (ki_val (k_var 0)) (kg_name 2 sc_only.nd) (kss_one (ks_if (kt_cmp op_ninA bf_nin (k_var 2) (k_var 1) (by rfl)) (kss_one (ks_ret k_bl)) kss_nil))) (kss_one (ks_ret k_bl))))
theorem ok_v_is_body (T : Txt K mg w) : FnOk P w K mg base (L2.CX P w) 2 T.f_v_is_body T.fd_v_is_body ["marks"] (spF K (ca T) 1 M_v_is_body) :=
  k_def (N := ["marks", "parts", "figures", "mark"]) (body := B_v_is_body) T.F_v_is_body sc_v_is_body (fun cdv A outer s H E hr tk po => (kss_cons (ks_if (kt_pw (kw_or (kt_cmp (op_eqA hr.units) bf_eq (k_var 0) k_str (nomark _)) (kw_or (kt_not (kt_tru (k_call (ok_only T) tk (hr.mono (by decide)) (by rfl) T.g_only T.F_only.kp T.b_only rfl (ka_cons (k_var 0) (ka_cons (k_glob (d := c_MARKS) (v := .str (Str.ofString "z*9,b0/.")) (by rfl) T.g_MARKS T.r_MARKS (fun _ _ => by rw [← toS_S]; exact .str _)) ka_nil)) (al_cons (al_cons al_nil))))) (kw_or1 (kt_cmp op_ninA bf_nin (k_idx (k_var 0) k_int) k_str (by rfl)))))) (kss_one (ks_ret k_bl)) kss_nil) (kss_cons (ks_set 1 sc_v_is_body.nd (k_bm PySem.F.plainAttrs_str PySem.F.slot_str_split PySem.F.type_str_split mt_split mf_split (k_var 0) (ka_cons k_str ka_nil))) (kss_cons (ks_if (kt_pw (kw_or (kt_cmp op_gtA bf_gt (k_callB call_len bf_len T.m_len (ka_cons (k_var 1) ka_nil)) k_int (nomark _)) (kw_or1 (kt_pw (kw_and (kt_cmp (op_eqA hr.units) bf_eq (k_callB call_len bf_len T.m_len (ka_cons (k_var 1) ka_nil)) k_int (nomark _)) (kw_and1 (kt_pw (kw_or (kt_cmp (op_eqA hr.units) bf_eq (k_idx (k_var 1) k_int) k_str (nomark _)) (kw_or1 (kt_not (kt_tru (k_call (ok_only T) tk (hr.mono (by decide)) (by rfl) T.g_only T.F_only.kp T.b_only rfl (ka_cons (k_idx (k_var 1) k_int) (ka_cons k_str ka_nil)) (al_cons (al_cons al_nil)))))))))))))) (kss_one (ks_ret k_bl)) kss_nil) (kss_cons (ks_set 2 sc_v_is_body.nd (k_bm PySem.F.plainAttrs_str PySem.F.slot_str_join PySem.F.type_str_join mt_join mf_join k_str (ka_cons (k_lc1 3 rfl sc_v_is_body.nd (ki_val (k_idx (k_var 1) k_int)) (by rfl) (fun _ _ _ _ _ => (kts_one (kt_cmp op_ninA bf_nin (k_var 3) (k_glob (d := c_INSERTED) (v := .str (Str.ofString ",b0/")) (by rfl) T.g_INSERTED T.r_INSERTED (fun _ _ => by rw [← toS_S]; exact .str _)) (by rfl)))) (fun _ _ _ _ _ => (k_var 3)) (fun _ _ _ _ _ => pg_name (i := 3) sc_v_is_body.nd rfl (Or.inl rfl))) ka_nil))) (kss_one (ks_ret (k_or (k_call (ok_only T) tk (hr.mono (by decide)) (by rfl) T.g_only T.F_only.kp T.b_only rfl (ka_cons (k_bm PySem.F.plainAttrs_str PySem.F.slot_str_lstrip PySem.F.type_str_lstrip mt_lstripChars mf_lstrip (k_var 2) (ka_cons k_str ka_nil)) (ka_cons k_str ka_nil)) (al_cons (al_cons al_nil))) (k_one (k_call (ok_only T) tk (hr.mono (by decide)) (by rfl) T.g_only T.F_only.kp T.b_only rfl (ka_cons (k_bm PySem.F.plainAttrs_str PySem.F.slot_str_lstrip PySem.F.type_str_lstrip mt_lstripChars mf_lstrip (k_var 2) (ka_cons k_str ka_nil)) (ka_cons k_str ka_nil)) (al_cons (al_cons al_nil))))))))))))
theorem ok_v_signs (T : Txt K mg w) : FnOk P w K mg base (L2.CX P w) 1 T.f_v_signs T.fd_v_signs ["text"] (spF K (ca T) 1 M_v_signs) :=
  k_def (N := ["text"]) (body := B_v_signs) T.F_v_signs sc_v_signs (fun cdv A outer s H E hr tk po => (kss_cons (ks_if (kt_pw (kw_or (kt_tru (k_bm PySem.F.plainAttrs_str PySem.F.slot_str_endswith PySem.F.type_str_endswith mt_endswith mf_ends (k_var 0) (ka_cons k_str ka_nil))) (kw_or1 (kt_tru (k_bm PySem.F.plainAttrs_str PySem.F.slot_str_endswith PySem.F.type_str_endswith mt_endswith mf_ends (k_var 0) (ka_cons k_str ka_nil)))))) (kss_one (ks_ret (k_tup (ka_cons (k_slice (k_var 0) kp_no (kp_some (k_un un_neg uf_neg k_int))) (ka_cons (k_slice (k_var 0) (kp_some (k_un un_neg uf_neg k_int)) kp_no) ka_nil))))) kss_nil) (kss_cons (ks_if (kt_pw (kw_or (kt_cmp (op_eqA hr.units) bf_eq (k_idx (k_var 0) k_int) k_str (nomark _)) (kw_or1 (kt_cmp (op_eqA hr.units) bf_eq (k_idx (k_var 0) k_int) k_str (nomark _))))) (kss_one (ks_ret (k_tup (ka_cons (k_slice (k_var 0) (kp_some k_int) kp_no) (ka_cons (k_idx (k_var 0) k_int) ka_nil))))) kss_nil) (kss_cons (ks_if (kt_pw (kw_or (kt_tru (k_bm PySem.F.plainAttrs_str PySem.F.slot_str_endswith PySem.F.type_str_endswith mt_endswith mf_ends (k_var 0) (ka_cons k_str ka_nil))) (kw_or1 (kt_tru (k_bm PySem.F.plainAttrs_str PySem.F.slot_str_endswith PySem.F.type_str_endswith mt_endswith mf_ends (k_var 0) (ka_cons k_str ka_nil)))))) (kss_one (ks_ret (k_tup (ka_cons (k_slice (k_var 0) kp_no (kp_some (k_un un_neg uf_neg k_int))) (ka_cons (k_bin op_addA bf_add k_str (k_idx (k_var 0) (k_un un_neg uf_neg k_int))) ka_nil))))) kss_nil) (kss_one (ks_ret (k_tup (ka_cons (k_var 0) (ka_cons k_str ka_nil)))))))))
theorem ok_digits_of (T : Txt K mg w) : FnOk P w K mg base (L2.CX P w) 1 T.f_digits_of T.fd_digits_of ["marks"] (spF K (ca T) 1 M_digits_of) :=
  k_def (N := ["marks", "parts", "whole", "mark"]) (body := B_digits_of) T.F_digits_of sc_digits_of (fun cdv A outer s H E hr tk po => (kss_cons (ks_set 1 sc_digits_of.nd (k_bm PySem.F.plainAttrs_str PySem.F.slot_str_split PySem.F.type_str_split mt_split mf_split (k_var 0) (ka_cons k_str ka_nil))) (kss_cons (ks_set 2 sc_digits_of.nd (k_callB call_len bf_len T.m_len (ka_cons (k_lc1 3 rfl sc_digits_of.nd (ki_val (k_idx (k_var 1) k_int)) (by rfl) (fun _ _ _ _ _ => (kts_one (kt_cmp op_ninA bf_nin (k_var 3) (k_glob (d := c_INSERTED) (v := .str (Str.ofString ",b0/")) (by rfl) T.g_INSERTED T.r_INSERTED (fun _ _ => by rw [← toS_S]; exact .str _)) (by rfl)))) (fun _ _ _ _ _ => (k_var 3)) (fun _ _ _ _ _ => pg_name (i := 3) sc_digits_of.nd rfl (Or.inl rfl))) ka_nil))) (kss_one (ks_ret (k_tup (ka_cons (k_var 2) (ka_cons (k_ifE (kt_cmp (op_eqA hr.units) bf_eq (k_callB call_len bf_len T.m_len (ka_cons (k_var 1) ka_nil)) k_int (nomark _)) (k_callB call_len bf_len T.m_len (ka_cons (k_idx (k_var 1) k_int) ka_nil)) k_int) ka_nil))))))))
theorem ok_v_edited (T : Txt K mg w) : FnOk P w K mg base (L2.CX P w) 3 T.f_v_edited T.fd_v_edited ["text"] (spF K (ca T) 1 M_v_edited) :=
  k_def (N := ["text", "marks", "sign", "whole", "fraction"]) (body := B_v_edited) T.F_v_edited sc_v_edited (fun cdv A outer s H E hr tk po => (kss_cons (ks_asg (k_call (ok_v_signs T) tk (hr.mono (by decide)) (by rfl) T.g_v_signs T.F_v_signs.kp T.b_v_signs rfl (ka_cons (k_var 0) ka_nil) (al_cons al_nil)) (kg_tup rfl (kgs_cons (kg_name 1 sc_v_edited.nd) (kgs_cons (kg_name 2 sc_v_edited.nd) kgs_nil)) (gl_cons (gl_cons gl_nil)))) (kss_cons (ks_if (kt_not (kt_tru (k_call (ok_v_is_body T) tk (hr.mono (by decide)) (by rfl) T.g_v_is_body T.F_v_is_body.kp T.b_v_is_body rfl (ka_cons (k_var 1) ka_nil) (al_cons al_nil)))) (kss_one (ks_ret k_non)) kss_nil) (kss_cons (ks_asg (k_call (ok_digits_of T) tk (hr.mono (by decide)) (by rfl) T.g_digits_of T.F_digits_of.kp T.b_digits_of rfl (ka_cons (k_var 1) ka_nil) (al_cons al_nil)) (kg_tup rfl (kgs_cons (kg_name 3 sc_v_edited.nd) (kgs_cons (kg_name 4 sc_v_edited.nd) kgs_nil)) (gl_cons (gl_cons gl_nil)))) (kss_cons (ks_if (kt_cmp op_gtA bf_gt (k_bin op_addA bf_add (k_var 3) (k_var 4)) (k_glob (d := c_MOST_DIGITS) (v := .int (18)) (by rfl) T.g_MOST_DIGITS T.r_MOST_DIGITS (fun _ _ => .int _)) (nomark _)) (kss_one (ks_ret k_non)) kss_nil) (kss_one (ks_ret (k_tup (ka_cons k_str (ka_cons (k_var 1) (ka_cons (k_var 3) (ka_cons (k_var 4) (ka_cons (k_var 2) ka_nil)))))))))))))
theorem ok_v_number (T : Txt K mg w) : FnOk P w K mg base (L2.CX P w) 2 T.f_v_number T.fd_v_number ["text"] (spF K (ca T) 1 M_v_number) :=
  k_def (N := ["text", "signed", "body", "parts", "fraction"]) (body := B_v_number) T.F_v_number sc_v_number (fun cdv A outer s H E hr tk po => (kss_cons (ks_set 1 sc_v_number.nd (k_bm PySem.F.plainAttrs_str PySem.F.slot_str_startswith PySem.F.type_str_startswith mt_startswith mf_starts (k_var 0) (ka_cons k_str ka_nil))) (kss_cons (ks_set 2 sc_v_number.nd (k_ifE (kt_tru (k_var 1)) (k_slice (k_var 0) (kp_some k_int) kp_no) (k_var 0))) (kss_cons (ks_set 3 sc_v_number.nd (k_bm PySem.F.plainAttrs_str PySem.F.slot_str_split PySem.F.type_str_split mt_split mf_split (k_var 2) (ka_cons k_str ka_nil))) (kss_cons (ks_if (kt_pw (kw_or (kt_cmp op_gtA bf_gt (k_callB call_len bf_len T.m_len (ka_cons (k_var 3) ka_nil)) k_int (nomark _)) (kw_or (kt_not (kt_tru (k_call (ok_only T) tk (hr.mono (by decide)) (by rfl) T.g_only T.F_only.kp T.b_only rfl (ka_cons (k_bm PySem.F.plainAttrs_str PySem.F.slot_str_join PySem.F.type_str_join mt_join mf_join k_str (ka_cons (k_var 3) ka_nil)) (ka_cons k_str ka_nil)) (al_cons (al_cons al_nil))))) (kw_or1 (kt_pw (kw_and (kt_cmp (op_eqA hr.units) bf_eq (k_callB call_len bf_len T.m_len (ka_cons (k_var 3) ka_nil)) k_int (nomark _)) (kw_and1 (kt_cmp (op_eqA hr.units) bf_eq (k_idx (k_var 3) k_int) k_str (nomark _))))))))) (kss_one (ks_ret k_non)) kss_nil) (kss_cons (ks_set 4 sc_v_number.nd (k_ifE (kt_cmp (op_eqA hr.units) bf_eq (k_callB call_len bf_len T.m_len (ka_cons (k_var 3) ka_nil)) k_int (nomark _)) (k_callB call_len bf_len T.m_len (ka_cons (k_idx (k_var 3) k_int) ka_nil)) k_int)) (kss_cons (ks_if (kt_pw (kw_or (kt_cmp op_ltA bf_lt (k_bin op_addA bf_add (k_callB call_len bf_len T.m_len (ka_cons (k_idx (k_var 3) k_int) ka_nil)) (k_var 4)) k_int (nomark _)) (kw_or1 (kt_cmp op_gtA bf_gt (k_bin op_addA bf_add (k_callB call_len bf_len T.m_len (ka_cons (k_idx (k_var 3) k_int) ka_nil)) (k_var 4)) (k_glob (d := c_MOST_DIGITS) (v := .int (18)) (by rfl) T.g_MOST_DIGITS T.r_MOST_DIGITS (fun _ _ => .int _)) (nomark _))))) (kss_one (ks_ret k_non)) kss_nil) (kss_one (ks_ret (k_tup (ka_cons k_str (ka_cons (k_var 1) (ka_cons (k_callB call_len bf_len T.m_len (ka_cons (k_idx (k_var 3) k_int) ka_nil)) (ka_cons (k_var 4) ka_nil))))))))))))))
theorem ok_are_figures (T : Txt K mg w) : FnOk P w K mg base (L2.CX P w) 1 T.f_are_figures T.fd_are_figures ["value"] (spF K (ca T) 1 M_are_figures) :=
  k_def (N := ["value", "character"]) (body := B_are_figures) T.F_are_figures sc_are_figures (fun cdv A outer s H E hr tk po => (kss_cons (ks_if (kt_pw (kw_or (kt_not (kt_tru (k_isi "str" T.m_isinstance T.m_str (k_var 0)))) (kw_or1 (kt_cmp (op_eqA hr.units) bf_eq (k_var 0) k_str (nomark _))))) (kss_one (ks_ret k_bl)) kss_nil) (kss_cons (ks_for po rfl (ki_val (k_var 0)) (kg_name 1 sc_are_figures.nd) (kss_one (ks_if (kt_cmp op_ninA bf_nin (k_var 1) (k_glob (d := c_FIGURES) (v := .str (Str.ofString "0123456789")) (by rfl) T.g_FIGURES T.r_FIGURES (fun _ _ => by rw [← toS_S]; exact .str _)) (by rfl)) (kss_one (ks_ret k_bl)) kss_nil))) (kss_one (ks_ret k_bl)))))
theorem ok_expanded (T : Txt K mg w) : FnOk P w K mg base (L2.CX P w) 2 T.f_expanded T.fd_expanded ["text"] (spF K (ca T) 1 M_expanded) :=
  k_def (N := ["text", "parts", "index", "mark", "count", "end", "word", "result"]) (body := B_expanded) T.F_expanded sc_expanded (fun cdv A outer s H E hr tk po => (kss_cons (ks_set 1 sc_expanded.nd (k_lst ka_nil)) (kss_cons (ks_set 2 sc_expanded.nd k_int) (kss_cons (ks_while po (kt_cmp op_ltA bf_lt (k_var 2) (k_callB call_len bf_len T.m_len (ka_cons (k_var 0) ka_nil)) (nomark _)) (kss_cons (ks_set 3 sc_expanded.nd (k_idx (k_var 0) (k_var 2))) (kss_cons (ks_set 4 sc_expanded.nd k_int) (kss_cons (ks_aug 2 iop_addB bf_iadd sc_expanded.nd k_int) (kss_cons (ks_if (kt_cmp (op_eqA hr.units) bf_eq (k_slice (k_var 0) (kp_some (k_var 2)) (kp_some (k_bin op_addA bf_add (k_var 2) k_int))) k_str (nomark _)) (kss_cons (ks_set 5 sc_expanded.nd (k_bm PySem.F.plainAttrs_str PySem.F.slot_str_find PySem.F.type_str_find mt_find3 mf_find3 (k_var 0) (ka_cons k_str (ka_cons (k_var 2) ka_nil)))) (kss_cons (ks_set 6 sc_expanded.nd (k_slice (k_var 0) (kp_some (k_bin op_addA bf_add (k_var 2) k_int)) (kp_some (k_var 5)))) (kss_cons (ks_if (kt_pw (kw_or (kt_cmp op_ltA bf_lt (k_var 5) k_int (nomark _)) (kw_or (kt_not (kt_tru (k_call (ok_are_figures T) tk (hr.mono (by decide)) (by rfl) T.g_are_figures T.F_are_figures.kp T.b_are_figures rfl (ka_cons (k_var 6) ka_nil) (al_cons al_nil)))) (kw_or (kt_cmp (op_eqA hr.units) bf_eq (k_idx (k_var 6) k_int) k_str (nomark _)) (kw_or1 (kt_cmp op_gtA bf_gt (k_callB call_len bf_len T.m_len (ka_cons (k_var 6) ka_nil)) k_int (nomark _))))))) (kss_one (ks_raise0 "BadPicture" rfl tk T.xr_BadPicture T.cg_BadPicture (ca_BadPicture T))) kss_nil) (kss_cons (ks_set 4 sc_expanded.nd (k_callTy call_int_str bf_intS T.m_int (ka_cons (k_var 6) ka_nil))) (kss_one (ks_set 2 sc_expanded.nd (k_bin op_addA bf_add (k_var 5) k_int))))))) kss_nil) (kss_one (ks_expr (k_bm PySem.F.plainAttrs_list PySem.F.slot_list_append PySem.F.type_list_append mt_append mf_append (k_var 1) (ka_cons (k_bin op_mulS bf_mulS (k_var 3) (k_var 4)) ka_nil))))))))) (kss_cons (ks_set 7 sc_expanded.nd (k_bm PySem.F.plainAttrs_str PySem.F.slot_str_join PySem.F.type_str_join mt_join mf_join k_str (ka_cons (k_var 1) ka_nil))) (kss_cons (ks_if (kt_pw (kw_or (kt_cmp (op_eqA hr.units) bf_eq (k_var 7) k_str (nomark _)) (kw_or1 (kt_cmp op_gtA bf_gt (k_callB call_len bf_len T.m_len (ka_cons (k_var 7) ka_nil)) (k_glob (d := c_MOST_TEXT) (v := .int (80)) (by rfl) T.g_MOST_TEXT T.r_MOST_TEXT (fun _ _ => .int _)) (nomark _))))) (kss_one (ks_raise0 "BadPicture" rfl tk T.xr_BadPicture T.cg_BadPicture (ca_BadPicture T))) kss_nil) (kss_one (ks_ret (k_var 7)))))))))
theorem ok_parse_picture (T : Txt K mg w) : FnOk P w K mg base (L2.CX P w) 4 T.f_parse_picture T.fd_parse_picture ["text"] (spF K (ca T) 1 M_parse_picture) :=
  k_def (N := ["text", "full", "picture"]) (body := B_parse_picture) T.F_parse_picture sc_parse_picture (fun cdv A outer s H E hr tk po => (kss_cons (ks_set 1 sc_parse_picture.nd (k_call (ok_expanded T) tk (hr.mono (by decide)) (by rfl) T.g_expanded T.F_expanded.kp T.b_expanded rfl (ka_cons (k_var 0) ka_nil) (al_cons al_nil))) (kss_cons (ks_if (kt_tru (k_call (ok_only T) tk (hr.mono (by decide)) (by rfl) T.g_only T.F_only.kp T.b_only rfl (ka_cons (k_var 1) (ka_cons k_str ka_nil)) (al_cons (al_cons al_nil)))) (kss_one (ks_ret (k_tup (ka_cons k_str (ka_cons (k_callB call_len bf_len T.m_len (ka_cons (k_var 1) ka_nil)) ka_nil))))) kss_nil) (kss_cons (ks_set 2 sc_parse_picture.nd (k_call (ok_v_number T) tk (hr.mono (by decide)) (by rfl) T.g_v_number T.F_v_number.kp T.b_v_number rfl (ka_cons (k_var 1) ka_nil) (al_cons al_nil))) (kss_cons (ks_if (kt_cmp op_isN bf_isN (k_var 2) k_non (nomark _)) (kss_one (ks_set 2 sc_parse_picture.nd (k_call (ok_v_edited T) tk (hr.mono (by decide)) (by rfl) T.g_v_edited T.F_v_edited.kp T.b_v_edited rfl (ka_cons (k_var 1) ka_nil) (al_cons al_nil)))) kss_nil) (kss_cons (ks_if (kt_cmp op_isN bf_isN (k_var 2) k_non (nomark _)) (kss_one (ks_raise0 "BadPicture" rfl tk T.xr_BadPicture T.cg_BadPicture (ca_BadPicture T))) kss_nil) (kss_one (ks_ret (k_var 2)))))))))
theorem ok_v_law_is_picture (T : Txt K mg w) : FnOk P w K mg base (L2.CX P w) 5 T.f_v_law_is_picture T.fd_v_law_is_picture ["value"] (spF K (ca T) 1 M_v_law_is_picture) :=
  k_def (N := ["value", "sizes", "part"]) (body := B_v_law_is_picture) T.F_v_law_is_picture sc_v_law_is_picture (fun cdv A outer s H E hr tk po => (kss_cons (ks_if (kt_pw (kw_or (kt_not (kt_tru (k_isi "tuple" T.m_isinstance T.m_tuple (k_var 0)))) (kw_or (kt_cmp op_ltA bf_lt (k_callB call_len bf_len T.m_len (ka_cons (k_var 0) ka_nil)) k_int (nomark _)) (kw_or1 (kt_not (kt_tru (k_isi "str" T.m_isinstance T.m_str (k_idx (k_var 0) k_int)))))))) (kss_one (ks_ret k_bl)) kss_nil) (kss_cons (ks_set 1 sc_v_law_is_picture.nd (k_lst (ka_cons (k_tup (ka_cons k_str (ka_cons k_int ka_nil))) (ka_cons (k_tup (ka_cons k_str (ka_cons k_int ka_nil))) (ka_cons (k_tup (ka_cons k_str (ka_cons k_int ka_nil))) ka_nil))))) (kss_cons (ks_if (kt_cmp (op_notInD (room65 hr)) bf_ninD (k_tup (ka_cons (k_idx (k_var 0) k_int) (ka_cons (k_callB call_len bf_len T.m_len (ka_cons (k_var 0) ka_nil)) ka_nil))) (k_var 1) (by rfl)) (kss_one (ks_ret k_bl)) kss_nil) (kss_cons (ks_for po rfl (ki_val (k_slice (k_var 0) (kp_some k_int) kp_no)) (kg_name 2 sc_v_law_is_picture.nd) (kss_one (ks_if (kt_pw (kw_and (kt_cmp (op_eqA hr.units) bf_eq (k_idx (k_var 0) k_int) k_str (nomark _)) (kw_and1 (kt_pw (kw_or (kt_not (kt_tru (k_isi "int" T.m_isinstance T.m_int (k_var 2)))) (kw_or1 (kt_tru (k_isi "bool" T.m_isinstance T.m_bool (k_var 2))))))))) (kss_one (ks_ret k_bl)) kss_nil))) (kss_cons (ks_if (kt_pw (kw_and (kt_cmp (op_eqA hr.units) bf_eq (k_idx (k_var 0) k_int) k_str (nomark _)) (kw_and1 (kt_not (kt_tru (k_isi "bool" T.m_isinstance T.m_bool (k_idx (k_var 0) k_int))))))) (kss_one (ks_ret k_bl)) kss_nil) (kss_cons (ks_if (kt_pw (kw_and (kt_cmp (op_eqA hr.units) bf_eq (k_idx (k_var 0) k_int) k_str (nomark _)) (kw_and1 (kt_pw (kw_or (kt_not (kt_tru (k_isi "str" T.m_isinstance T.m_str (k_idx (k_var 0) k_int)))) (kw_or1 (kt_not (kt_tru (k_isi "str" T.m_isinstance T.m_str (k_idx (k_var 0) k_int)))))))))) (kss_one (ks_ret k_bl)) kss_nil) (kss_cons (ks_for po rfl (ki_val (k_slice (k_var 0) (kp_some k_int) (kp_some k_int))) (kg_name 2 sc_v_law_is_picture.nd) (kss_one (ks_if (kt_pw (kw_or (kt_not (kt_tru (k_isi "int" T.m_isinstance T.m_int (k_var 2)))) (kw_or (kt_tru (k_isi "bool" T.m_isinstance T.m_bool (k_var 2))) (kw_or (kt_cmp op_ltA bf_lt (k_var 2) k_int (nomark _)) (kw_or1 (kt_cmp op_gtA bf_gt (k_var 2) k_int (nomark _))))))) (kss_one (ks_ret k_bl)) kss_nil))) (kss_cons (ks_if (kt_cmp (op_eqA hr.units) bf_eq (k_idx (k_var 0) k_int) k_str (nomark _)) (kss_one (ks_ret (k_chain op_leA op_leA bf_le bf_le k_int (k_idx (k_var 0) k_int) k_int))) kss_nil) (kss_cons (ks_if (kt_pw (kw_and (kt_cmp (op_eqA hr.units) bf_eq (k_idx (k_var 0) k_int) k_str (nomark _)) (kw_and1 (kt_cmp op_ninA bf_nin (k_idx (k_var 0) k_int) (k_lst (ka_cons k_str (ka_cons k_str (ka_cons k_str (ka_cons k_str (ka_cons k_str (ka_cons k_str (ka_cons k_str ka_nil)))))))) (by rfl))))) (kss_one (ks_ret k_bl)) kss_nil) (kss_one (ks_tryO tk T.cg_BadPicture (tab_BadPicture T) (fun _ _ _ tk po => (kss_one (ks_ret (k_cmp (op_eqA hr.units) bf_eq (k_call (ok_parse_picture T) tk (hr.mono (by decide)) (by rfl) T.g_parse_picture T.F_parse_picture.kp T.b_parse_picture rfl (ka_cons (k_call (ok_v_law_picture_text T) tk (hr.mono (by decide)) (by rfl) T.g_v_law_picture_text T.F_v_law_picture_text.kp T.b_v_law_picture_text rfl (ka_cons (k_var 0) ka_nil) (al_cons al_nil)) ka_nil) (al_cons al_nil)) (k_var 0) (nomark _))))) (fun a_ oe_ pn_ => (kss_one (ks_ret k_bl)))))))))))))))
theorem ok_v_law_near (T : Txt K mg w) : FnOk P w K mg base (L2.CX P w) 1 T.f_v_law_near T.fd_v_law_near ["picture", "rich"] (spF K (ca T) 2 M_v_law_near) :=
  k_def (N := ["picture", "rich", "odd", "choice", "at", "one"]) (body := B_v_law_near) T.F_v_law_near sc_v_law_near (fun cdv A outer s H E hr tk po => (kss_cons (ks_set 2 sc_v_law_near.nd (k_lst (ka_cons k_int (ka_cons k_int (ka_cons k_int (ka_cons k_int (ka_cons (k_un un_neg uf_neg k_int) (ka_cons k_bl (ka_cons k_bl (ka_cons k_non (ka_cons k_str (ka_cons k_str (ka_cons k_str (ka_cons k_str (ka_cons k_str (ka_cons k_str (ka_cons k_str (ka_cons k_str (ka_cons k_str (ka_cons k_str (ka_cons k_str (ka_cons k_int ka_nil)))))))))))))))))))))) (kss_cons (ks_set 3 sc_v_law_near.nd (k_bin op_mod bf_mod (k_var 1) k_int)) (kss_cons (ks_set 4 sc_v_law_near.nd (k_bin op_mod bf_mod (k_bin op_fdivW bf_div (k_var 1) k_int) (k_callB call_len bf_len T.m_len (ka_cons (k_var 0) ka_nil)))) (kss_cons (ks_set 5 sc_v_law_near.nd (k_idx (k_var 2) (k_bin op_mod bf_mod (k_bin op_fdivW bf_div (k_var 1) k_int) k_int))) (kss_cons (ks_if (kt_cmp (op_eqA hr.units) bf_eq (k_var 3) k_int (nomark _)) (kss_one (ks_ret (k_bin op_addW bf_addW (k_slice (k_var 0) kp_no (kp_some (k_var 4))) (k_slice (k_var 0) (kp_some (k_bin op_addA bf_add (k_var 4) k_int)) kp_no)))) kss_nil) (kss_cons (ks_if (kt_cmp (op_eqA hr.units) bf_eq (k_var 3) k_int (nomark _)) (kss_one (ks_ret (k_bin op_addW bf_addW (k_var 0) (k_tup (ka_cons (k_var 5) ka_nil))))) kss_nil) (kss_cons (ks_if (kt_cmp (op_eqA hr.units) bf_eq (k_var 3) k_int (nomark _)) (kss_one (ks_ret (k_idx (k_lst (ka_cons (k_callTy call_list_of bf_list T.m_list (ka_cons (k_var 0) ka_nil)) (ka_cons k_non (ka_cons k_str (ka_cons (k_tup ka_nil) (ka_cons k_int ka_nil)))))) (k_bin op_mod bf_mod (k_bin op_fdivW bf_div (k_var 1) k_int) k_int)))) kss_nil) (kss_one (ks_ret (k_bin op_addW bf_addW (k_bin op_addW bf_addW (k_slice (k_var 0) kp_no (kp_some (k_var 4))) (k_tup (ka_cons (k_var 5) ka_nil))) (k_slice (k_var 0) (kp_some (k_bin op_addA bf_add (k_var 4) k_int)) kp_no))))))))))))
theorem ok_v_law_picture (T : Txt K mg w) : FnOk P w K mg base (L2.CX P w) 1 T.f_v_law_picture T.fd_v_law_picture ["rich"] (spF K (ca T) 1 M_v_law_picture) :=
  k_def (N := ["rich", "choice", "rest", "whole", "body", "fraction", "sign", "digits", "mark"]) (body := B_v_law_picture) T.F_v_law_picture sc_v_law_picture (fun cdv A outer s H E hr tk po => (kss_cons (ks_set 1 sc_v_law_picture.nd (k_bin op_mod bf_mod (k_var 0) k_int)) (kss_cons (ks_set 2 sc_v_law_picture.nd (k_bin op_fdivW bf_div (k_var 0) k_int)) (kss_cons (ks_if (kt_cmp (op_eqA hr.units) bf_eq (k_var 1) k_int (nomark _)) (kss_one (ks_ret (k_tup (ka_cons k_str (ka_cons (k_bin op_addA bf_add k_int (k_bin op_mod bf_mod (k_var 2) k_int)) ka_nil))))) kss_nil) (kss_cons (ks_if (kt_cmp op_ltA bf_lt (k_var 1) k_int (nomark _)) (kss_cons (ks_set 3 sc_v_law_picture.nd (k_bin op_mod bf_mod (k_var 2) k_int)) (kss_one (ks_ret (k_tup (ka_cons k_str (ka_cons (k_cmp (op_eqA hr.units) bf_eq (k_bin op_mod bf_mod (k_bin op_fdivW bf_div (k_var 2) k_int) k_int) k_int (nomark _)) (ka_cons (k_callB (call_max2 rfl) bf_max2 T.m_max (ka_cons (k_var 3) (ka_cons (k_bin op_sub bf_sub k_int (k_bin op_mod bf_mod (k_bin op_fdivW bf_div (k_var 2) k_int) k_int)) ka_nil))) (ka_cons (k_bin op_mod bf_mod (k_bin op_fdivW bf_div (k_var 2) k_int) k_int) ka_nil)))))))) kss_nil) (kss_cons (ks_set 4 sc_v_law_picture.nd (k_idx (k_lst (ka_cons k_str (ka_cons k_str (ka_cons k_str (ka_cons k_str (ka_cons k_str (ka_cons k_str (ka_cons k_str (ka_cons k_str (ka_cons k_str (ka_cons k_str (ka_cons k_str (ka_cons k_str (ka_cons k_str (ka_cons k_str ka_nil))))))))))))))) (k_bin op_mod bf_mod (k_var 2) k_int))) (kss_cons (ks_set 5 sc_v_law_picture.nd (k_bin op_mod bf_mod (k_bin op_fdivW bf_div (k_var 2) k_int) k_int)) (kss_cons (ks_if (kt_cmp op_gtA bf_gt (k_var 5) k_int (nomark _)) (kss_one (ks_set 4 sc_v_law_picture.nd (k_bin op_addA bf_add (k_bin op_addA bf_add (k_var 4) k_str) (k_slice k_str kp_no (kp_some (k_var 5)))))) kss_nil) (kss_cons (ks_set 6 sc_v_law_picture.nd (k_idx (k_lst (ka_cons k_str (ka_cons k_str (ka_cons k_str (ka_cons k_str (ka_cons k_str (ka_cons k_str (ka_cons k_str (ka_cons k_str ka_nil))))))))) (k_bin op_mod bf_mod (k_bin op_fdivW bf_div (k_var 2) k_int) k_int))) (kss_cons (ks_set 7 sc_v_law_picture.nd (k_callB call_len bf_len T.m_len (ka_cons (k_lc1 8 rfl sc_v_law_picture.nd (ki_val (k_var 4)) (by rfl) (fun _ _ _ _ _ => (kts_one (kt_cmp op_inA bf_in (k_var 8) k_str (by rfl)))) (fun _ _ _ _ _ => (k_var 8)) (fun _ _ _ _ _ => pg_name (i := 8) sc_v_law_picture.nd rfl (Or.inl rfl))) ka_nil))) (kss_cons (ks_if (kt_pw (kw_and (kt_cmp (op_eqA hr.units) bf_eq (k_var 6) k_str (nomark _)) (kw_and1 (kt_cmp op_inA bf_in (k_var 4) (k_lst (ka_cons k_str (ka_cons k_str ka_nil))) (by rfl))))) (kss_one (ks_set 6 sc_v_law_picture.nd k_str)) kss_nil) (kss_one (ks_ret (k_tup (ka_cons k_str (ka_cons (k_var 4) (ka_cons (k_bin op_sub bf_sub (k_var 7) (k_var 5)) (ka_cons (k_var 5) (ka_cons (k_var 6) ka_nil)))))))))))))))))))
theorem ok_v_law_rich (T : Txt K mg w) : FnOk P w K mg base (L2.CX P w) 1 T.f_v_law_rich T.fd_v_law_rich ["cell", "k"] (spF K (ca T) 2 M_v_law_rich) :=
  k_def (N := ["cell", "k", "mixed"]) (body := B_v_law_rich) T.F_v_law_rich sc_v_law_rich (fun cdv A outer s H E hr tk po => (kss_cons (ks_if (kt_cmp op_geA bf_ge (k_var 0) (k_bin op_pow bf_pow k_int k_int) (nomark _)) (kss_one (ks_ret (k_callTy call_int1 bf_int T.m_int (ka_cons (k_var 0) ka_nil)))) kss_nil) (kss_cons (ks_set 2 sc_v_law_rich.nd (k_bin op_mod bf_mod (k_callTy call_int1 bf_int T.m_int (ka_cons (k_bin op_addA bf_add (k_bin op_addA bf_add (k_bin op_mulA bf_mul (k_var 0) k_int) (k_bin op_mulA bf_mul (k_var 1) k_int)) k_int) ka_nil)) k_int)) (kss_one (ks_ret (k_bin op_addA bf_add (k_bin op_mulA bf_mul (k_var 2) k_int) (k_bin op_mod bf_mod (k_callTy call_int1 bf_int T.m_int (ka_cons (k_bin op_addA bf_add (k_bin op_mulA bf_mul (k_var 2) k_int) (k_var 0)) ka_nil)) k_int)))))))
theorem ok_v_law_size (T : Txt K mg w) : FnOk P w K mg base (L2.CX P w) 1 T.f_v_law_size T.fd_v_law_size ["picture"] (spF K (ca T) 1 M_v_law_size) :=
  k_def (N := ["picture"]) (body := B_v_law_size) T.F_v_law_size sc_v_law_size (fun cdv A outer s H E hr tk po => (kss_cons (ks_if (kt_cmp (op_eqA hr.units) bf_eq (k_idx (k_var 0) k_int) k_str (nomark _)) (kss_one (ks_ret (k_idx (k_var 0) k_int))) kss_nil) (kss_cons (ks_if (kt_cmp (op_eqA hr.units) bf_eq (k_idx (k_var 0) k_int) k_str (nomark _)) (kss_one (ks_ret (k_bin op_addA bf_add (k_bin op_addA bf_add (k_callTy call_int1 bf_int T.m_int (ka_cons (k_idx (k_var 0) k_int) ka_nil)) (k_idx (k_var 0) k_int)) (k_idx (k_var 0) k_int)))) kss_nil) (kss_one (ks_ret (k_bin op_addA bf_add (k_callB call_len bf_len T.m_len (ka_cons (k_idx (k_var 0) k_int) ka_nil)) (k_dget2 (room1 hr) (k_dint (l := [("", 0), ("cr", 2), ("db", 2)]) (pps_int pe_int (pps_int pe_int (pps_int pe_int pps_nil))) rfl rfl (fun z => by cases z) (by decide) (by decide) (by decide)) (k_idx (k_var 0) k_int) k_int ⟨rfl, rfl, rfl, rfl⟩)))))))
theorem ok_is_integer (T : Txt K mg w) : FnOk P w K mg base (L2.CX P w) 1 T.f_is_integer T.fd_is_integer ["value", "least", "greatest"] (spF K (ca T) 3 M_is_integer) :=
  k_def (N := ["value", "least", "greatest"]) (body := B_is_integer) T.F_is_integer sc_is_integer (fun cdv A outer s H E hr tk po => (kss_cons (ks_if (kt_pw (kw_or (kt_not (kt_tru (k_isi "int" T.m_isinstance T.m_int (k_var 0)))) (kw_or1 (kt_tru (k_isi "bool" T.m_isinstance T.m_bool (k_var 0)))))) (kss_one (ks_ret k_bl)) kss_nil) (kss_one (ks_ret (k_and (k_cmp op_leA bf_le (k_var 1) (k_var 0) (nomark _)) (k_one (k_cmp op_leA bf_le (k_var 0) (k_var 2) (nomark _))))))))
theorem ok_v_is_edited (T : Txt K mg w) : FnOk P w K mg base (L2.CX P w) 3 T.f_v_is_edited T.fd_v_is_edited ["value"] (spF K (ca T) 1 M_v_is_edited) :=
  k_def (N := ["value", "marks", "sign", "whole", "fraction"]) (body := B_v_is_edited) T.F_v_is_edited sc_v_is_edited (fun cdv A outer s H E hr tk po => (kss_cons (ks_swp 1 2 rfl sc_v_is_edited.nd (k_tup (ka_cons (k_idx (k_var 0) k_int) (ka_cons (k_idx (k_var 0) k_int) ka_nil)))) (kss_cons (ks_if (kt_pw (kw_or (kt_not (kt_tru (k_isi "str" T.m_isinstance T.m_str (k_var 1)))) (kw_or (kt_not (kt_tru (k_isi "str" T.m_isinstance T.m_str (k_var 2)))) (kw_or (kt_not (kt_tru (k_call (ok_v_is_body T) tk (hr.mono (by decide)) (by rfl) T.g_v_is_body T.F_v_is_body.kp T.b_v_is_body rfl (ka_cons (k_var 1) ka_nil) (al_cons al_nil)))) (kw_or1 (kt_cmp op_ninA bf_nin (k_var 2) (k_glob (d := c_SIGNS) (v := .ref T.a_SIGNS) (by rfl) T.g_SIGNS rfl (fun ρ H => tupC_rv T.l_SIGNS T.v_SIGNS ρ H)) (by rfl))))))) (kss_one (ks_ret k_bl)) kss_nil) (kss_cons (ks_asg (k_call (ok_digits_of T) tk (hr.mono (by decide)) (by rfl) T.g_digits_of T.F_digits_of.kp T.b_digits_of rfl (ka_cons (k_var 1) ka_nil) (al_cons al_nil)) (kg_tup rfl (kgs_cons (kg_name 3 sc_v_is_edited.nd) (kgs_cons (kg_name 4 sc_v_is_edited.nd) kgs_nil)) (gl_cons (gl_cons gl_nil)))) (kss_cons (ks_if (kt_pw (kw_or (kt_not (kt_tru (k_call (ok_is_integer T) tk (hr.mono (by decide)) (by rfl) T.g_is_integer T.F_is_integer.kp T.b_is_integer rfl (ka_cons (k_idx (k_var 0) k_int) (ka_cons (k_var 3) (ka_cons (k_var 3) ka_nil))) (al_cons (al_cons (al_cons al_nil)))))) (kw_or1 (kt_not (kt_tru (k_call (ok_is_integer T) tk (hr.mono (by decide)) (by rfl) T.g_is_integer T.F_is_integer.kp T.b_is_integer rfl (ka_cons (k_idx (k_var 0) k_int) (ka_cons (k_var 4) (ka_cons (k_var 4) ka_nil))) (al_cons (al_cons (al_cons al_nil))))))))) (kss_one (ks_ret k_bl)) kss_nil) (kss_cons (ks_if (kt_pw (kw_or (kt_cmp op_gtA bf_gt (k_bin op_addA bf_add (k_var 3) (k_var 4)) (k_glob (d := c_MOST_DIGITS) (v := .int (18)) (by rfl) T.g_MOST_DIGITS T.r_MOST_DIGITS (fun _ _ => .int _)) (nomark _)) (kw_or1 (kt_cmp op_gtA bf_gt (k_bin op_addA bf_add (k_callB call_len bf_len T.m_len (ka_cons (k_var 1) ka_nil)) (k_callB call_len bf_len T.m_len (ka_cons (k_bm PySem.F.plainAttrs_str PySem.F.slot_str_lstrip PySem.F.type_str_lstrip mt_lstripChars mf_lstrip (k_var 2) (ka_cons k_str ka_nil)) ka_nil))) (k_glob (d := c_MOST_TEXT) (v := .int (80)) (by rfl) T.g_MOST_TEXT T.r_MOST_TEXT (fun _ _ => .int _)) (nomark _))))) (kss_one (ks_ret k_bl)) kss_nil) (kss_one (ks_ret (k_or (k_cmp (op_neA hr.units) bf_ne (k_var 2) k_str (nomark _)) (k_one (k_not (k_call (ok_only T) tk (hr.mono (by decide)) (by rfl) T.g_only T.F_only.kp T.b_only rfl (ka_cons (k_var 1) (ka_cons k_str ka_nil)) (al_cons (al_cons al_nil))))))))))))))
theorem ok_is_picture (T : Txt K mg w) : FnOk P w K mg base (L2.CX P w) 4 T.f_is_picture T.fd_is_picture ["value"] (spF K (ca T) 1 M_is_picture) :=
  k_def (N := ["value"]) (body := B_is_picture) T.F_is_picture sc_is_picture (fun cdv A outer s H E hr tk po => (kss_cons (ks_if (kt_pw (kw_or (kt_not (kt_tru (k_isi "tuple" T.m_isinstance T.m_tuple (k_var 0)))) (kw_or (kt_cmp (op_eqA hr.units) bf_eq (k_var 0) (k_tup ka_nil) (nomark _)) (kw_or1 (kt_not (kt_tru (k_isi "str" T.m_isinstance T.m_str (k_idx (k_var 0) k_int)))))))) (kss_one (ks_ret k_bl)) kss_nil) (kss_cons (ks_if (kt_cmp (op_eqA hr.units) bf_eq (k_idx (k_var 0) k_int) k_str (nomark _)) (kss_one (ks_ret (k_and (k_cmp (op_eqA hr.units) bf_eq (k_callB call_len bf_len T.m_len (ka_cons (k_var 0) ka_nil)) k_int (nomark _)) (k_one (k_call (ok_is_integer T) tk (hr.mono (by decide)) (by rfl) T.g_is_integer T.F_is_integer.kp T.b_is_integer rfl (ka_cons (k_idx (k_var 0) k_int) (ka_cons k_int (ka_cons (k_glob (d := c_MOST_TEXT) (v := .int (80)) (by rfl) T.g_MOST_TEXT T.r_MOST_TEXT (fun _ _ => .int _)) ka_nil))) (al_cons (al_cons (al_cons al_nil)))))))) kss_nil) (kss_cons (ks_if (kt_cmp (op_eqA hr.units) bf_eq (k_idx (k_var 0) k_int) k_str (nomark _)) (kss_cons (ks_if (kt_pw (kw_or (kt_cmp (op_neA hr.units) bf_ne (k_callB call_len bf_len T.m_len (ka_cons (k_var 0) ka_nil)) k_int (nomark _)) (kw_or1 (kt_not (kt_tru (k_isi "bool" T.m_isinstance T.m_bool (k_idx (k_var 0) k_int))))))) (kss_one (ks_ret k_bl)) kss_nil) (kss_cons (ks_if (kt_pw (kw_or (kt_not (kt_tru (k_call (ok_is_integer T) tk (hr.mono (by decide)) (by rfl) T.g_is_integer T.F_is_integer.kp T.b_is_integer rfl (ka_cons (k_idx (k_var 0) k_int) (ka_cons k_int (ka_cons (k_glob (d := c_MOST_DIGITS) (v := .int (18)) (by rfl) T.g_MOST_DIGITS T.r_MOST_DIGITS (fun _ _ => .int _)) ka_nil))) (al_cons (al_cons (al_cons al_nil)))))) (kw_or1 (kt_not (kt_tru (k_call (ok_is_integer T) tk (hr.mono (by decide)) (by rfl) T.g_is_integer T.F_is_integer.kp T.b_is_integer rfl (ka_cons (k_idx (k_var 0) k_int) (ka_cons k_int (ka_cons (k_glob (d := c_MOST_DIGITS) (v := .int (18)) (by rfl) T.g_MOST_DIGITS T.r_MOST_DIGITS (fun _ _ => .int _)) ka_nil))) (al_cons (al_cons (al_cons al_nil))))))))) (kss_one (ks_ret k_bl)) kss_nil) (kss_one (ks_ret (k_and (k_cmp op_leA bf_le k_int (k_bin op_addA bf_add (k_idx (k_var 0) k_int) (k_idx (k_var 0) k_int)) (nomark _)) (k_one (k_cmp op_leA bf_le (k_bin op_addA bf_add (k_idx (k_var 0) k_int) (k_idx (k_var 0) k_int)) (k_glob (d := c_MOST_DIGITS) (v := .int (18)) (by rfl) T.g_MOST_DIGITS T.r_MOST_DIGITS (fun _ _ => .int _)) (nomark _)))))))) kss_nil) (kss_one (ks_ret (k_and (k_cmp (op_eqA hr.units) bf_eq (k_idx (k_var 0) k_int) k_str (nomark _)) (k_and (k_cmp (op_eqA hr.units) bf_eq (k_callB call_len bf_len T.m_len (ka_cons (k_var 0) ka_nil)) k_int (nomark _)) (k_one (k_call (ok_v_is_edited T) tk (hr.mono (by decide)) (by rfl) T.g_v_is_edited T.F_v_is_edited.kp T.b_v_is_edited rfl (ka_cons (k_var 0) ka_nil) (al_cons al_nil)))))))))))
theorem ok_is_signed (T : Txt K mg w) : FnOk P w K mg base (L2.CX P w) 1 T.f_is_signed T.fd_is_signed ["picture"] (spF K (ca T) 1 M_is_signed) :=
  k_def (N := ["picture"]) (body := B_is_signed) T.F_is_signed sc_is_signed (fun cdv A outer s H E hr tk po => (kss_cons (ks_if (kt_cmp (op_eqA hr.units) bf_eq (k_idx (k_var 0) k_int) k_str (nomark _)) (kss_one (ks_ret (k_idx (k_var 0) k_int))) kss_nil) (kss_one (ks_ret (k_and (k_cmp (op_eqA hr.units) bf_eq (k_idx (k_var 0) k_int) k_str (nomark _)) (k_one (k_cmp (op_neA hr.units) bf_ne (k_idx (k_var 0) k_int) k_str (nomark _))))))))
theorem ok_v_counted (T : Txt K mg w) : FnOk P w K mg base (L2.CX P w) 1 T.f_v_counted T.fd_v_counted ["mark", "count"] (spF K (ca T) 2 M_v_counted) :=
  k_def (N := ["mark", "count"]) (body := B_v_counted) T.F_v_counted sc_v_counted (fun cdv A outer s H E hr tk po => (kss_cons (ks_if (kt_cmp (op_eqA hr.units) bf_eq (k_var 1) k_int (nomark _)) (kss_one (ks_ret k_str)) kss_nil) (kss_one (ks_ret (k_js (kj_cons (k_fmt (k_var 0)) (kj_cons k_str (kj_cons (k_fmt (k_var 1)) (kj_cons k_str kj_nil)))))))))
theorem ok_picture_text (T : Txt K mg w) : FnOk P w K mg base (L2.CX P w) 2 T.f_picture_text T.fd_picture_text ["picture"] (spF K (ca T) 1 M_picture_text) :=
  k_def (N := ["picture", "sign", "point", "marks"]) (body := B_picture_text) T.F_picture_text sc_picture_text (fun cdv A outer s H E hr tk po => (kss_cons (ks_if (kt_cmp (op_eqA hr.units) bf_eq (k_idx (k_var 0) k_int) k_str (nomark _)) (kss_one (ks_ret (k_call (ok_v_counted T) tk (hr.mono (by decide)) (by rfl) T.g_v_counted T.F_v_counted.kp T.b_v_counted rfl (ka_cons k_str (ka_cons (k_idx (k_var 0) k_int) ka_nil)) (al_cons (al_cons al_nil))))) kss_nil) (kss_cons (ks_if (kt_cmp (op_eqA hr.units) bf_eq (k_idx (k_var 0) k_int) k_str (nomark _)) (kss_cons (ks_set 1 sc_picture_text.nd (k_ifE (kt_tru (k_idx (k_var 0) k_int)) k_str k_str)) (kss_cons (ks_set 2 sc_picture_text.nd (k_ifE (kt_cmp op_gtA bf_gt (k_idx (k_var 0) k_int) k_int (nomark _)) k_str k_str)) (kss_one (ks_ret (k_bin op_addA bf_add (k_bin op_addA bf_add (k_bin op_addA bf_add (k_var 1) (k_call (ok_v_counted T) tk (hr.mono (by decide)) (by rfl) T.g_v_counted T.F_v_counted.kp T.b_v_counted rfl (ka_cons k_str (ka_cons (k_idx (k_var 0) k_int) ka_nil)) (al_cons (al_cons al_nil)))) (k_var 2)) (k_call (ok_v_counted T) tk (hr.mono (by decide)) (by rfl) T.g_v_counted T.F_v_counted.kp T.b_v_counted rfl (ka_cons k_str (ka_cons (k_idx (k_var 0) k_int) ka_nil)) (al_cons (al_cons al_nil)))))))) kss_nil) (kss_cons (ks_swp 3 1 rfl sc_picture_text.nd (k_tup (ka_cons (k_idx (k_var 0) k_int) (ka_cons (k_idx (k_var 0) k_int) ka_nil)))) (kss_cons (ks_if (kt_pw (kw_or (kt_cmp (op_eqA hr.units) bf_eq (k_var 1) k_str (nomark _)) (kw_or1 (kt_cmp (op_eqA hr.units) bf_eq (k_var 1) k_str (nomark _))))) (kss_one (ks_ret (k_bin op_addA bf_add (k_var 1) (k_var 3)))) kss_nil) (kss_one (ks_ret (k_bin op_addA bf_add (k_var 3) (k_bm PySem.F.plainAttrs_str PySem.F.slot_str_lstrip PySem.F.type_str_lstrip mt_lstripChars mf_lstrip (k_var 1) (ka_cons k_str ka_nil))))))))))
theorem ok_size_of (T : Txt K mg w) : FnOk P w K mg base (L2.CX P w) 1 T.f_size_of T.fd_size_of ["picture"] (spF K (ca T) 1 M_size_of) :=
  k_def (N := ["picture"]) (body := B_size_of) T.F_size_of sc_size_of (fun cdv A outer s H E hr tk po => (kss_cons (ks_if (kt_cmp (op_eqA hr.units) bf_eq (k_idx (k_var 0) k_int) k_str (nomark _)) (kss_one (ks_ret (k_idx (k_var 0) k_int))) kss_nil) (kss_cons (ks_if (kt_cmp (op_eqA hr.units) bf_eq (k_idx (k_var 0) k_int) k_str (nomark _)) (kss_one (ks_ret (k_bin op_addA bf_add (k_bin op_addA bf_add (k_callTy call_int1 bf_int T.m_int (ka_cons (k_idx (k_var 0) k_int) ka_nil)) (k_idx (k_var 0) k_int)) (k_idx (k_var 0) k_int)))) kss_nil) (kss_one (ks_ret (k_bin op_addA bf_add (k_callB call_len bf_len T.m_len (ka_cons (k_idx (k_var 0) k_int) ka_nil)) (k_callB call_len bf_len T.m_len (ka_cons (k_bm PySem.F.plainAttrs_str PySem.F.slot_str_lstrip PySem.F.type_str_lstrip mt_lstripChars mf_lstrip (k_idx (k_var 0) k_int) (ka_cons k_str ka_nil)) ka_nil))))))))
theorem ok_law (T : Txt K mg w) : FnOk P w K mg base (L2.CX P w) 6 T.f_law T.fd_law ["script"] (spF K (ca T) 1 M_law) :=
  k_def (N := ["script", "k", "rich", "picture", "text", "signed", "digits", "near", "value", "actual"]) (body := B_law) T.F_law sc_law (fun cdv A outer s H E hr tk po => (kss_cons (ks_for po rfl (ki_rng1 T.m_range (ka_cons (k_callB (call_max2 rfl) bf_max2 T.m_max (ka_cons k_int (ka_cons (k_callB (call_min2 rfl) bf_min2 T.m_min (ka_cons k_int (ka_cons (k_callB call_len bf_len T.m_len (ka_cons (k_var 0) ka_nil)) ka_nil))) ka_nil))) ka_nil)) (kg_name 1 sc_law.nd) (kss_cons (ks_set 2 sc_law.nd (k_call (ok_v_law_rich T) tk (hr.mono (by decide)) (by rfl) T.g_v_law_rich T.F_v_law_rich.kp T.b_v_law_rich rfl (ka_cons (k_call (ok_v_law_cell T) tk (hr.mono (by decide)) (by rfl) T.g_v_law_cell T.F_v_law_cell.kp T.b_v_law_cell rfl (ka_cons (k_var 0) (ka_cons (k_var 1) ka_nil)) (al_cons (al_cons al_nil))) (ka_cons (k_var 1) ka_nil)) (al_cons (al_cons al_nil)))) (kss_cons (ks_set 3 sc_law.nd (k_call (ok_v_law_picture T) tk (hr.mono (by decide)) (by rfl) T.g_v_law_picture T.F_v_law_picture.kp T.b_v_law_picture rfl (ka_cons (k_var 2) ka_nil) (al_cons al_nil))) (kss_cons (ks_set 4 sc_law.nd (k_call (ok_picture_text T) tk (hr.mono (by decide)) (by rfl) T.g_picture_text T.F_picture_text.kp T.b_picture_text rfl (ka_cons (k_var 3) ka_nil) (al_cons al_nil))) (kss_cons (ks_if (kt_pw (kw_or (kt_cmp (op_neA hr.units) bf_ne (k_var 4) (k_call (ok_v_law_picture_text T) tk (hr.mono (by decide)) (by rfl) T.g_v_law_picture_text T.F_v_law_picture_text.kp T.b_v_law_picture_text rfl (ka_cons (k_var 3) ka_nil) (al_cons al_nil)) (nomark _)) (kw_or (kt_cmp (op_neA hr.units) bf_ne (k_call (ok_parse_picture T) tk (hr.mono (by decide)) (by rfl) T.g_parse_picture T.F_parse_picture.kp T.b_parse_picture rfl (ka_cons (k_var 4) ka_nil) (al_cons al_nil)) (k_var 3) (nomark _)) (kw_or1 (kt_cmp (op_neA hr.units) bf_ne (k_call (ok_size_of T) tk (hr.mono (by decide)) (by rfl) T.g_size_of T.F_size_of.kp T.b_size_of rfl (ka_cons (k_var 3) ka_nil) (al_cons al_nil)) (k_call (ok_v_law_size T) tk (hr.mono (by decide)) (by rfl) T.g_v_law_size T.F_v_law_size.kp T.b_v_law_size rfl (ka_cons (k_var 3) ka_nil) (al_cons al_nil)) (nomark _)))))) (kss_one (ks_ret k_bl)) kss_nil) (kss_cons (ks_if (kt_cmp (op_eqA hr.units) bf_eq (k_idx (k_var 3) k_int) k_str (nomark _)) (kss_cons (ks_set 5 sc_law.nd k_bl) (kss_one (ks_set 6 sc_law.nd k_bl))) (kss_cons (ks_set 5 sc_law.nd (k_ifE (kt_cmp (op_eqA hr.units) bf_eq (k_idx (k_var 3) k_int) k_str (nomark _)) (k_idx (k_var 3) k_int) (k_cmp (op_neA hr.units) bf_ne (k_idx (k_var 3) k_int) k_str (nomark _)))) (kss_one (ks_set 6 sc_law.nd (k_tup (ka_cons (k_idx (k_var 3) k_int) (ka_cons (k_idx (k_var 3) k_int) ka_nil))))))) (kss_cons (ks_if (kt_pw (kw_or (kt_not (kt_tru (k_isi "bool" T.m_isinstance T.m_bool (k_call (ok_is_signed T) tk (hr.mono (by decide)) (by rfl) T.g_is_signed T.F_is_signed.kp T.b_is_signed rfl (ka_cons (k_var 3) ka_nil) (al_cons al_nil))))) (kw_or (kt_cmp (op_neA hr.units) bf_ne (k_call (ok_is_signed T) tk (hr.mono (by decide)) (by rfl) T.g_is_signed T.F_is_signed.kp T.b_is_signed rfl (ka_cons (k_var 3) ka_nil) (al_cons al_nil)) (k_var 5) (nomark _)) (kw_or1 (kt_cmp (op_neA hr.units) bf_ne (k_call (ok_v_law_digits T) tk (hr.mono (by decide)) (by rfl) T.g_v_law_digits T.F_v_law_digits.kp T.b_v_law_digits rfl (ka_cons (k_var 3) ka_nil) (al_cons al_nil)) (k_var 6) (nomark _)))))) (kss_one (ks_ret k_bl)) kss_nil) (kss_cons (ks_set 7 sc_law.nd (k_call (ok_v_law_near T) tk (hr.mono (by decide)) (by rfl) T.g_v_law_near T.F_v_law_near.kp T.b_v_law_near rfl (ka_cons (k_var 3) (ka_cons (k_bin op_fdivW bf_div (k_var 2) k_int) ka_nil)) (al_cons (al_cons al_nil)))) (kss_one (ks_for po rfl (ki_val (k_lst (ka_cons (k_var 3) (ka_cons (k_var 7) ka_nil)))) (kg_name 8 sc_law.nd) (kss_cons (ks_set 9 sc_law.nd (k_call (ok_is_picture T) tk (hr.mono (by decide)) (by rfl) T.g_is_picture T.F_is_picture.kp T.b_is_picture rfl (ka_cons (k_var 8) ka_nil) (al_cons al_nil))) (kss_one (ks_if (kt_pw (kw_or (kt_not (kt_tru (k_isi "bool" T.m_isinstance T.m_bool (k_var 9)))) (kw_or1 (kt_cmp (op_neA hr.units) bf_ne (k_var 9) (k_call (ok_v_law_is_picture T) tk (hr.mono (by decide)) (by rfl) T.g_v_law_is_picture T.F_v_law_is_picture.kp T.b_v_law_is_picture rfl (ka_cons (k_var 8) ka_nil) (al_cons al_nil)) (nomark _))))) (kss_one (ks_ret k_bl)) kss_nil))))))))))))) (kss_one (ks_ret k_bl))))
end
theorem all_mk {l : PySem.W.OpenLaw} {w : World} {K : PySem.W.Frag} {h : Heap} {mg : Str → Option Value} {fa : Addr} (X : K.In h) (G : h.Ns mainGlobals mg) (hfa : mg "law" = some (.ref fa))
    {f0 : Addr} {od0 an0 : Option Addr} {sl0 : Array (Option Value)} {oc0 kV0 dc0 pm0 cd0 ct0 : Value}
    (a0 : PySem.W.nsIn K mainGlobals "_law_cell" = some (some (.ref f0))) (l0 : K.lookup f0 = some ⟨oc0, od0, .func (PySem.W.fnOf "_law_cell" "_law_cell" (defArgs s_v_law_cell) (defBody s_v_law_cell) (defScope s_v_law_cell) .none kV0 dc0 pm0 an0 cd0 ct0), sl0⟩) (c0 : PySem.W.codeIn K cd0 "_law_cell" = true) (k0 : PySem.W.keepIn K (.ref f0) = true)
    {f1 : Addr} {od1 an1 : Option Addr} {sl1 : Array (Option Value)} {oc1 kV1 dc1 pm1 cd1 ct1 : Value}
    (a1 : PySem.W.nsIn K mainGlobals "digits_in" = some (some (.ref f1))) (l1 : K.lookup f1 = some ⟨oc1, od1, .func (PySem.W.fnOf "digits_in" "digits_in" (defArgs s_digits_in) (defBody s_digits_in) (defScope s_digits_in) .none kV1 dc1 pm1 an1 cd1 ct1), sl1⟩) (c1 : PySem.W.codeIn K cd1 "digits_in" = true) (k1 : PySem.W.keepIn K (.ref f1) = true)
    {f2 : Addr} {od2 an2 : Option Addr} {sl2 : Array (Option Value)} {oc2 kV2 dc2 pm2 cd2 ct2 : Value}
    (a2 : PySem.W.nsIn K mainGlobals "_law_digits" = some (some (.ref f2))) (l2 : K.lookup f2 = some ⟨oc2, od2, .func (PySem.W.fnOf "_law_digits" "_law_digits" (defArgs s_v_law_digits) (defBody s_v_law_digits) (defScope s_v_law_digits) .none kV2 dc2 pm2 an2 cd2 ct2), sl2⟩) (c2 : PySem.W.codeIn K cd2 "_law_digits" = true) (k2 : PySem.W.keepIn K (.ref f2) = true)
    {f3 : Addr} {od3 an3 : Option Addr} {sl3 : Array (Option Value)} {oc3 kV3 dc3 pm3 cd3 ct3 : Value}
    (a3 : PySem.W.nsIn K mainGlobals "_law_picture_text" = some (some (.ref f3))) (l3 : K.lookup f3 = some ⟨oc3, od3, .func (PySem.W.fnOf "_law_picture_text" "_law_picture_text" (defArgs s_v_law_picture_text) (defBody s_v_law_picture_text) (defScope s_v_law_picture_text) .none kV3 dc3 pm3 an3 cd3 ct3), sl3⟩) (c3 : PySem.W.codeIn K cd3 "_law_picture_text" = true) (k3 : PySem.W.keepIn K (.ref f3) = true)
    {f4 : Addr} {od4 an4 : Option Addr} {sl4 : Array (Option Value)} {oc4 kV4 dc4 pm4 cd4 ct4 : Value}
    (a4 : PySem.W.nsIn K mainGlobals "only" = some (some (.ref f4))) (l4 : K.lookup f4 = some ⟨oc4, od4, .func (PySem.W.fnOf "only" "only" (defArgs s_only) (defBody s_only) (defScope s_only) .none kV4 dc4 pm4 an4 cd4 ct4), sl4⟩) (c4 : PySem.W.codeIn K cd4 "only" = true) (k4 : PySem.W.keepIn K (.ref f4) = true)
    {f5 : Addr} {od5 an5 : Option Addr} {sl5 : Array (Option Value)} {oc5 kV5 dc5 pm5 cd5 ct5 : Value}
    (a5 : PySem.W.nsIn K mainGlobals "_is_body" = some (some (.ref f5))) (l5 : K.lookup f5 = some ⟨oc5, od5, .func (PySem.W.fnOf "_is_body" "_is_body" (defArgs s_v_is_body) (defBody s_v_is_body) (defScope s_v_is_body) .none kV5 dc5 pm5 an5 cd5 ct5), sl5⟩) (c5 : PySem.W.codeIn K cd5 "_is_body" = true) (k5 : PySem.W.keepIn K (.ref f5) = true)
    {f6 : Addr} {od6 an6 : Option Addr} {sl6 : Array (Option Value)} {oc6 kV6 dc6 pm6 cd6 ct6 : Value}
    (a6 : PySem.W.nsIn K mainGlobals "_signs" = some (some (.ref f6))) (l6 : K.lookup f6 = some ⟨oc6, od6, .func (PySem.W.fnOf "_signs" "_signs" (defArgs s_v_signs) (defBody s_v_signs) (defScope s_v_signs) .none kV6 dc6 pm6 an6 cd6 ct6), sl6⟩) (c6 : PySem.W.codeIn K cd6 "_signs" = true) (k6 : PySem.W.keepIn K (.ref f6) = true)
    {f7 : Addr} {od7 an7 : Option Addr} {sl7 : Array (Option Value)} {oc7 kV7 dc7 pm7 cd7 ct7 : Value}
    (a7 : PySem.W.nsIn K mainGlobals "digits_of" = some (some (.ref f7))) (l7 : K.lookup f7 = some ⟨oc7, od7, .func (PySem.W.fnOf "digits_of" "digits_of" (defArgs s_digits_of) (defBody s_digits_of) (defScope s_digits_of) .none kV7 dc7 pm7 an7 cd7 ct7), sl7⟩) (c7 : PySem.W.codeIn K cd7 "digits_of" = true) (k7 : PySem.W.keepIn K (.ref f7) = true)
    {f8 : Addr} {od8 an8 : Option Addr} {sl8 : Array (Option Value)} {oc8 kV8 dc8 pm8 cd8 ct8 : Value}
    (a8 : PySem.W.nsIn K mainGlobals "_edited" = some (some (.ref f8))) (l8 : K.lookup f8 = some ⟨oc8, od8, .func (PySem.W.fnOf "_edited" "_edited" (defArgs s_v_edited) (defBody s_v_edited) (defScope s_v_edited) .none kV8 dc8 pm8 an8 cd8 ct8), sl8⟩) (c8 : PySem.W.codeIn K cd8 "_edited" = true) (k8 : PySem.W.keepIn K (.ref f8) = true)
    {f9 : Addr} {od9 an9 : Option Addr} {sl9 : Array (Option Value)} {oc9 kV9 dc9 pm9 cd9 ct9 : Value}
    (a9 : PySem.W.nsIn K mainGlobals "_number" = some (some (.ref f9))) (l9 : K.lookup f9 = some ⟨oc9, od9, .func (PySem.W.fnOf "_number" "_number" (defArgs s_v_number) (defBody s_v_number) (defScope s_v_number) .none kV9 dc9 pm9 an9 cd9 ct9), sl9⟩) (c9 : PySem.W.codeIn K cd9 "_number" = true) (k9 : PySem.W.keepIn K (.ref f9) = true)
    {f10 : Addr} {od10 an10 : Option Addr} {sl10 : Array (Option Value)} {oc10 kV10 dc10 pm10 cd10 ct10 : Value}
    (a10 : PySem.W.nsIn K mainGlobals "are_figures" = some (some (.ref f10))) (l10 : K.lookup f10 = some ⟨oc10, od10, .func (PySem.W.fnOf "are_figures" "are_figures" (defArgs s_are_figures) (defBody s_are_figures) (defScope s_are_figures) .none kV10 dc10 pm10 an10 cd10 ct10), sl10⟩) (c10 : PySem.W.codeIn K cd10 "are_figures" = true) (k10 : PySem.W.keepIn K (.ref f10) = true)
    {f11 : Addr} {od11 an11 : Option Addr} {sl11 : Array (Option Value)} {oc11 kV11 dc11 pm11 cd11 ct11 : Value}
    (a11 : PySem.W.nsIn K mainGlobals "expanded" = some (some (.ref f11))) (l11 : K.lookup f11 = some ⟨oc11, od11, .func (PySem.W.fnOf "expanded" "expanded" (defArgs s_expanded) (defBody s_expanded) (defScope s_expanded) .none kV11 dc11 pm11 an11 cd11 ct11), sl11⟩) (c11 : PySem.W.codeIn K cd11 "expanded" = true) (k11 : PySem.W.keepIn K (.ref f11) = true)
    {f12 : Addr} {od12 an12 : Option Addr} {sl12 : Array (Option Value)} {oc12 kV12 dc12 pm12 cd12 ct12 : Value}
    (a12 : PySem.W.nsIn K mainGlobals "parse_picture" = some (some (.ref f12))) (l12 : K.lookup f12 = some ⟨oc12, od12, .func (PySem.W.fnOf "parse_picture" "parse_picture" (defArgs s_parse_picture) (defBody s_parse_picture) (defScope s_parse_picture) .none kV12 dc12 pm12 an12 cd12 ct12), sl12⟩) (c12 : PySem.W.codeIn K cd12 "parse_picture" = true) (k12 : PySem.W.keepIn K (.ref f12) = true)
    {f13 : Addr} {od13 an13 : Option Addr} {sl13 : Array (Option Value)} {oc13 kV13 dc13 pm13 cd13 ct13 : Value}
    (a13 : PySem.W.nsIn K mainGlobals "_law_is_picture" = some (some (.ref f13))) (l13 : K.lookup f13 = some ⟨oc13, od13, .func (PySem.W.fnOf "_law_is_picture" "_law_is_picture" (defArgs s_v_law_is_picture) (defBody s_v_law_is_picture) (defScope s_v_law_is_picture) .none kV13 dc13 pm13 an13 cd13 ct13), sl13⟩) (c13 : PySem.W.codeIn K cd13 "_law_is_picture" = true) (k13 : PySem.W.keepIn K (.ref f13) = true)
    {f14 : Addr} {od14 an14 : Option Addr} {sl14 : Array (Option Value)} {oc14 kV14 dc14 pm14 cd14 ct14 : Value}
    (a14 : PySem.W.nsIn K mainGlobals "_law_near" = some (some (.ref f14))) (l14 : K.lookup f14 = some ⟨oc14, od14, .func (PySem.W.fnOf "_law_near" "_law_near" (defArgs s_v_law_near) (defBody s_v_law_near) (defScope s_v_law_near) .none kV14 dc14 pm14 an14 cd14 ct14), sl14⟩) (c14 : PySem.W.codeIn K cd14 "_law_near" = true) (k14 : PySem.W.keepIn K (.ref f14) = true)
    {f15 : Addr} {od15 an15 : Option Addr} {sl15 : Array (Option Value)} {oc15 kV15 dc15 pm15 cd15 ct15 : Value}
    (a15 : PySem.W.nsIn K mainGlobals "_law_picture" = some (some (.ref f15))) (l15 : K.lookup f15 = some ⟨oc15, od15, .func (PySem.W.fnOf "_law_picture" "_law_picture" (defArgs s_v_law_picture) (defBody s_v_law_picture) (defScope s_v_law_picture) .none kV15 dc15 pm15 an15 cd15 ct15), sl15⟩) (c15 : PySem.W.codeIn K cd15 "_law_picture" = true) (k15 : PySem.W.keepIn K (.ref f15) = true)
    {f16 : Addr} {od16 an16 : Option Addr} {sl16 : Array (Option Value)} {oc16 kV16 dc16 pm16 cd16 ct16 : Value}
    (a16 : PySem.W.nsIn K mainGlobals "_law_rich" = some (some (.ref f16))) (l16 : K.lookup f16 = some ⟨oc16, od16, .func (PySem.W.fnOf "_law_rich" "_law_rich" (defArgs s_v_law_rich) (defBody s_v_law_rich) (defScope s_v_law_rich) .none kV16 dc16 pm16 an16 cd16 ct16), sl16⟩) (c16 : PySem.W.codeIn K cd16 "_law_rich" = true) (k16 : PySem.W.keepIn K (.ref f16) = true)
    {f17 : Addr} {od17 an17 : Option Addr} {sl17 : Array (Option Value)} {oc17 kV17 dc17 pm17 cd17 ct17 : Value}
    (a17 : PySem.W.nsIn K mainGlobals "_law_size" = some (some (.ref f17))) (l17 : K.lookup f17 = some ⟨oc17, od17, .func (PySem.W.fnOf "_law_size" "_law_size" (defArgs s_v_law_size) (defBody s_v_law_size) (defScope s_v_law_size) .none kV17 dc17 pm17 an17 cd17 ct17), sl17⟩) (c17 : PySem.W.codeIn K cd17 "_law_size" = true) (k17 : PySem.W.keepIn K (.ref f17) = true)
    {f18 : Addr} {od18 an18 : Option Addr} {sl18 : Array (Option Value)} {oc18 kV18 dc18 pm18 cd18 ct18 : Value}
    (a18 : PySem.W.nsIn K mainGlobals "is_integer" = some (some (.ref f18))) (l18 : K.lookup f18 = some ⟨oc18, od18, .func (PySem.W.fnOf "is_integer" "is_integer" (defArgs s_is_integer) (defBody s_is_integer) (defScope s_is_integer) .none kV18 dc18 pm18 an18 cd18 ct18), sl18⟩) (c18 : PySem.W.codeIn K cd18 "is_integer" = true) (k18 : PySem.W.keepIn K (.ref f18) = true)
    {f19 : Addr} {od19 an19 : Option Addr} {sl19 : Array (Option Value)} {oc19 kV19 dc19 pm19 cd19 ct19 : Value}
    (a19 : PySem.W.nsIn K mainGlobals "_is_edited" = some (some (.ref f19))) (l19 : K.lookup f19 = some ⟨oc19, od19, .func (PySem.W.fnOf "_is_edited" "_is_edited" (defArgs s_v_is_edited) (defBody s_v_is_edited) (defScope s_v_is_edited) .none kV19 dc19 pm19 an19 cd19 ct19), sl19⟩) (c19 : PySem.W.codeIn K cd19 "_is_edited" = true) (k19 : PySem.W.keepIn K (.ref f19) = true)
    {f20 : Addr} {od20 an20 : Option Addr} {sl20 : Array (Option Value)} {oc20 kV20 dc20 pm20 cd20 ct20 : Value}
    (a20 : PySem.W.nsIn K mainGlobals "is_picture" = some (some (.ref f20))) (l20 : K.lookup f20 = some ⟨oc20, od20, .func (PySem.W.fnOf "is_picture" "is_picture" (defArgs s_is_picture) (defBody s_is_picture) (defScope s_is_picture) .none kV20 dc20 pm20 an20 cd20 ct20), sl20⟩) (c20 : PySem.W.codeIn K cd20 "is_picture" = true) (k20 : PySem.W.keepIn K (.ref f20) = true)
    {f21 : Addr} {od21 an21 : Option Addr} {sl21 : Array (Option Value)} {oc21 kV21 dc21 pm21 cd21 ct21 : Value}
    (a21 : PySem.W.nsIn K mainGlobals "is_signed" = some (some (.ref f21))) (l21 : K.lookup f21 = some ⟨oc21, od21, .func (PySem.W.fnOf "is_signed" "is_signed" (defArgs s_is_signed) (defBody s_is_signed) (defScope s_is_signed) .none kV21 dc21 pm21 an21 cd21 ct21), sl21⟩) (c21 : PySem.W.codeIn K cd21 "is_signed" = true) (k21 : PySem.W.keepIn K (.ref f21) = true)
    {f22 : Addr} {od22 an22 : Option Addr} {sl22 : Array (Option Value)} {oc22 kV22 dc22 pm22 cd22 ct22 : Value}
    (a22 : PySem.W.nsIn K mainGlobals "_counted" = some (some (.ref f22))) (l22 : K.lookup f22 = some ⟨oc22, od22, .func (PySem.W.fnOf "_counted" "_counted" (defArgs s_v_counted) (defBody s_v_counted) (defScope s_v_counted) .none kV22 dc22 pm22 an22 cd22 ct22), sl22⟩) (c22 : PySem.W.codeIn K cd22 "_counted" = true) (k22 : PySem.W.keepIn K (.ref f22) = true)
    {f23 : Addr} {od23 an23 : Option Addr} {sl23 : Array (Option Value)} {oc23 kV23 dc23 pm23 cd23 ct23 : Value}
    (a23 : PySem.W.nsIn K mainGlobals "picture_text" = some (some (.ref f23))) (l23 : K.lookup f23 = some ⟨oc23, od23, .func (PySem.W.fnOf "picture_text" "picture_text" (defArgs s_picture_text) (defBody s_picture_text) (defScope s_picture_text) .none kV23 dc23 pm23 an23 cd23 ct23), sl23⟩) (c23 : PySem.W.codeIn K cd23 "picture_text" = true) (k23 : PySem.W.keepIn K (.ref f23) = true)
    {f24 : Addr} {od24 an24 : Option Addr} {sl24 : Array (Option Value)} {oc24 kV24 dc24 pm24 cd24 ct24 : Value}
    (a24 : PySem.W.nsIn K mainGlobals "size_of" = some (some (.ref f24))) (l24 : K.lookup f24 = some ⟨oc24, od24, .func (PySem.W.fnOf "size_of" "size_of" (defArgs s_size_of) (defBody s_size_of) (defScope s_size_of) .none kV24 dc24 pm24 an24 cd24 ct24), sl24⟩) (c24 : PySem.W.codeIn K cd24 "size_of" = true) (k24 : PySem.W.keepIn K (.ref f24) = true)
    {f25 : Addr} {od25 an25 : Option Addr} {sl25 : Array (Option Value)} {oc25 kV25 dc25 pm25 cd25 ct25 : Value}
    (a25 : PySem.W.nsIn K mainGlobals "law" = some (some (.ref f25))) (l25 : K.lookup f25 = some ⟨oc25, od25, .func (PySem.W.fnOf "law" "law" (defArgs s_law) (defBody s_law) (defScope s_law) .none kV25 dc25 pm25 an25 cd25 ct25), sl25⟩) (c25 : PySem.W.codeIn K cd25 "law" = true) (k25 : PySem.W.keepIn K (.ref f25) = true)
    (z0 : PySem.W.nsIn K mainGlobals "bool" = some none)
    (z1 : PySem.W.nsIn K mainGlobals "int" = some none)
    (z2 : PySem.W.nsIn K mainGlobals "isinstance" = some none)
    (z3 : PySem.W.nsIn K mainGlobals "len" = some none)
    (z4 : PySem.W.nsIn K mainGlobals "list" = some none)
    (z5 : PySem.W.nsIn K mainGlobals "max" = some none)
    (z6 : PySem.W.nsIn K mainGlobals "min" = some none)
    (z7 : PySem.W.nsIn K mainGlobals "range" = some none)
    (z8 : PySem.W.nsIn K mainGlobals "str" = some none)
    (z9 : PySem.W.nsIn K mainGlobals "tuple" = some none)
    {t0 : Tok} (y0 : PySem.W.nsIn K mainGlobals "FIGURES" = some (some (.str "0123456789" t0)))
    {t1 : Tok} (y1 : PySem.W.nsIn K mainGlobals "INSERTED" = some (some (.str ",b0/" t1)))
    {t2 : Tok} (y2 : PySem.W.nsIn K mainGlobals "MARKS" = some (some (.str "z*9,b0/." t2)))
    {t3 : Tok} (y3 : PySem.W.nsIn K mainGlobals "MOST_DIGITS" = some (some (.int 18 t3)))
    {t4 : Tok} (y4 : PySem.W.nsIn K mainGlobals "MOST_TEXT" = some (some (.int 80 t4)))
    {ra5 : Addr} {ob5 : Obj} (y5 : PySem.W.nsIn K mainGlobals "SIGNS" = some (some (.ref ra5))) (q5 : K.lookup ra5 = some ob5) (v5 : tupC ob5 [(.str (Cd.S "")), (.str (Cd.S "-")), (.str (Cd.S "+")), (.str (Cd.S ".-")), (.str (Cd.S ".+")), (.str (Cd.S "cr")), (.str (Cd.S "db"))] = true)
    {cc0 : Addr} (nc0 : PySem.W.nsIn K mainGlobals "BadPicture" = some (some (.ref cc0)))
    (xF0 : PySem.W.excIn K cc0 [.type "ValueError", .type "Exception", .type "BaseException", .type "object"] "ValueError.__new__" = true) (kF0 : PySem.W.keepIn K (.ref cc0) = true)
    (bF0 : PySem.W.subIn K (.ref cc0) (.type "BaseException") = some true) (tF0 : PySem.W.typeIn K (.ref cc0) = some (.type "type"))
    (dF0 : PySem.W.hasDictIn K cc0 = true)
    (ga0 : PySem.W.findIn K (.ref cc0) "__getattribute__" = some (some (.builtin "BaseException.__getattribute__"))) (gk0 : PySem.W.findIn K (.ref cc0) "__getattr__" = some none) (gc0 : PySem.W.findIn K (.ref cc0) "__class__" = some (some (.builtin "object.__class__"))) (mo0 : PySem.W.mroIn K cc0 (.type "object") = some true)
    {cc1 : Addr} (nc1 : PySem.W.nsIn K mainGlobals "CardError" = some (some (.ref cc1)))
    (bF1 : PySem.W.subIn K (.ref cc1) (.type "BaseException") = some true) (tF1 : PySem.W.typeIn K (.ref cc1) = some (.type "type"))
    (dF1 : PySem.W.hasDictIn K cc1 = true)
    (sn0 : PySem.W.specialIn K (.builtin "object.__class__") "__get__" = some (some (.builtin "getset_descriptor.__get__"))) (st0 : PySem.W.takesIn K (.builtin "object.__class__") = some true)
    (su0x0 : PySem.W.subIn K (.ref cc0) (.ref cc0) = some true)
    (su0x1 : PySem.W.subIn K (.ref cc0) (.ref cc1) = some true)
    (ki0x0 : PySem.W.kitOne K (.ref cc0) (.ref cc0) = some true)
    : ∃ fd : FuncData, (∀ (s : Shared) (v : Value), BindsTo s fd ⟨[v], []⟩ [("script", v)]) ∧ ∀ base : Heap, K.In base → base.Ns mainGlobals mg → FnOk l.prog w K mg base (L2.CX l.prog w) 6 fa fd ["script"] (spO K 1 M_law) := by
  have e := hfa.symm.trans (PySem.W.mg_of X G a25)
  cases e
  have F0 := fun_mk (st := s_v_law_cell) l0 c0 k0
  have F1 := fun_mk (st := s_digits_in) l1 c1 k1
  have F2 := fun_mk (st := s_v_law_digits) l2 c2 k2
  have F3 := fun_mk (st := s_v_law_picture_text) l3 c3 k3
  have F4 := fun_mk (st := s_only) l4 c4 k4
  have F5 := fun_mk (st := s_v_is_body) l5 c5 k5
  have F6 := fun_mk (st := s_v_signs) l6 c6 k6
  have F7 := fun_mk (st := s_digits_of) l7 c7 k7
  have F8 := fun_mk (st := s_v_edited) l8 c8 k8
  have F9 := fun_mk (st := s_v_number) l9 c9 k9
  have F10 := fun_mk (st := s_are_figures) l10 c10 k10
  have F11 := fun_mk (st := s_expanded) l11 c11 k11
  have F12 := fun_mk (st := s_parse_picture) l12 c12 k12
  have F13 := fun_mk (st := s_v_law_is_picture) l13 c13 k13
  have F14 := fun_mk (st := s_v_law_near) l14 c14 k14
  have F15 := fun_mk (st := s_v_law_picture) l15 c15 k15
  have F16 := fun_mk (st := s_v_law_rich) l16 c16 k16
  have F17 := fun_mk (st := s_v_law_size) l17 c17 k17
  have F18 := fun_mk (st := s_is_integer) l18 c18 k18
  have F19 := fun_mk (st := s_v_is_edited) l19 c19 k19
  have F20 := fun_mk (st := s_is_picture) l20 c20 k20
  have F21 := fun_mk (st := s_is_signed) l21 c21 k21
  have F22 := fun_mk (st := s_v_counted) l22 c22 k22
  have F23 := fun_mk (st := s_picture_text) l23 c23 k23
  have F24 := fun_mk (st := s_size_of) l24 c24 k24
  have F25 := fun_mk (st := s_law) l25 c25 k25
  let T : Txt K mg w := {
    f_v_law_cell := f0,
    fd_v_law_cell := _,
    F_v_law_cell := F0,
    g_v_law_cell := PySem.W.mg_of X G a0,
    b_v_law_cell := (F0.binds (ps := ["script", "k"]) (fun _ _ _ _ _ _ us hl => match us, hl with | [_, _], _ => rfl)),
    f_digits_in := f1,
    fd_digits_in := _,
    F_digits_in := F1,
    g_digits_in := PySem.W.mg_of X G a1,
    b_digits_in := (F1.binds (ps := ["picture"]) (fun _ _ _ _ _ _ us hl => match us, hl with | [_], _ => rfl)),
    f_v_law_digits := f2,
    fd_v_law_digits := _,
    F_v_law_digits := F2,
    g_v_law_digits := PySem.W.mg_of X G a2,
    b_v_law_digits := (F2.binds (ps := ["picture"]) (fun _ _ _ _ _ _ us hl => match us, hl with | [_], _ => rfl)),
    f_v_law_picture_text := f3,
    fd_v_law_picture_text := _,
    F_v_law_picture_text := F3,
    g_v_law_picture_text := PySem.W.mg_of X G a3,
    b_v_law_picture_text := (F3.binds (ps := ["picture"]) (fun _ _ _ _ _ _ us hl => match us, hl with | [_], _ => rfl)),
    f_only := f4,
    fd_only := _,
    F_only := F4,
    g_only := PySem.W.mg_of X G a4,
    b_only := (F4.binds (ps := ["text", "marks"]) (fun _ _ _ _ _ _ us hl => match us, hl with | [_, _], _ => rfl)),
    f_v_is_body := f5,
    fd_v_is_body := _,
    F_v_is_body := F5,
    g_v_is_body := PySem.W.mg_of X G a5,
    b_v_is_body := (F5.binds (ps := ["marks"]) (fun _ _ _ _ _ _ us hl => match us, hl with | [_], _ => rfl)),
    f_v_signs := f6,
    fd_v_signs := _,
    F_v_signs := F6,
    g_v_signs := PySem.W.mg_of X G a6,
    b_v_signs := (F6.binds (ps := ["text"]) (fun _ _ _ _ _ _ us hl => match us, hl with | [_], _ => rfl)),
    f_digits_of := f7,
    fd_digits_of := _,
    F_digits_of := F7,
    g_digits_of := PySem.W.mg_of X G a7,
    b_digits_of := (F7.binds (ps := ["marks"]) (fun _ _ _ _ _ _ us hl => match us, hl with | [_], _ => rfl)),
    f_v_edited := f8,
    fd_v_edited := _,
    F_v_edited := F8,
    g_v_edited := PySem.W.mg_of X G a8,
    b_v_edited := (F8.binds (ps := ["text"]) (fun _ _ _ _ _ _ us hl => match us, hl with | [_], _ => rfl)),
    f_v_number := f9,
    fd_v_number := _,
    F_v_number := F9,
    g_v_number := PySem.W.mg_of X G a9,
    b_v_number := (F9.binds (ps := ["text"]) (fun _ _ _ _ _ _ us hl => match us, hl with | [_], _ => rfl)),
    f_are_figures := f10,
    fd_are_figures := _,
    F_are_figures := F10,
    g_are_figures := PySem.W.mg_of X G a10,
    b_are_figures := (F10.binds (ps := ["value"]) (fun _ _ _ _ _ _ us hl => match us, hl with | [_], _ => rfl)),
    f_expanded := f11,
    fd_expanded := _,
    F_expanded := F11,
    g_expanded := PySem.W.mg_of X G a11,
    b_expanded := (F11.binds (ps := ["text"]) (fun _ _ _ _ _ _ us hl => match us, hl with | [_], _ => rfl)),
    f_parse_picture := f12,
    fd_parse_picture := _,
    F_parse_picture := F12,
    g_parse_picture := PySem.W.mg_of X G a12,
    b_parse_picture := (F12.binds (ps := ["text"]) (fun _ _ _ _ _ _ us hl => match us, hl with | [_], _ => rfl)),
    f_v_law_is_picture := f13,
    fd_v_law_is_picture := _,
    F_v_law_is_picture := F13,
    g_v_law_is_picture := PySem.W.mg_of X G a13,
    b_v_law_is_picture := (F13.binds (ps := ["value"]) (fun _ _ _ _ _ _ us hl => match us, hl with | [_], _ => rfl)),
    f_v_law_near := f14,
    fd_v_law_near := _,
    F_v_law_near := F14,
    g_v_law_near := PySem.W.mg_of X G a14,
    b_v_law_near := (F14.binds (ps := ["picture", "rich"]) (fun _ _ _ _ _ _ us hl => match us, hl with | [_, _], _ => rfl)),
    f_v_law_picture := f15,
    fd_v_law_picture := _,
    F_v_law_picture := F15,
    g_v_law_picture := PySem.W.mg_of X G a15,
    b_v_law_picture := (F15.binds (ps := ["rich"]) (fun _ _ _ _ _ _ us hl => match us, hl with | [_], _ => rfl)),
    f_v_law_rich := f16,
    fd_v_law_rich := _,
    F_v_law_rich := F16,
    g_v_law_rich := PySem.W.mg_of X G a16,
    b_v_law_rich := (F16.binds (ps := ["cell", "k"]) (fun _ _ _ _ _ _ us hl => match us, hl with | [_, _], _ => rfl)),
    f_v_law_size := f17,
    fd_v_law_size := _,
    F_v_law_size := F17,
    g_v_law_size := PySem.W.mg_of X G a17,
    b_v_law_size := (F17.binds (ps := ["picture"]) (fun _ _ _ _ _ _ us hl => match us, hl with | [_], _ => rfl)),
    f_is_integer := f18,
    fd_is_integer := _,
    F_is_integer := F18,
    g_is_integer := PySem.W.mg_of X G a18,
    b_is_integer := (F18.binds (ps := ["value", "least", "greatest"]) (fun _ _ _ _ _ _ us hl => match us, hl with | [_, _, _], _ => rfl)),
    f_v_is_edited := f19,
    fd_v_is_edited := _,
    F_v_is_edited := F19,
    g_v_is_edited := PySem.W.mg_of X G a19,
    b_v_is_edited := (F19.binds (ps := ["value"]) (fun _ _ _ _ _ _ us hl => match us, hl with | [_], _ => rfl)),
    f_is_picture := f20,
    fd_is_picture := _,
    F_is_picture := F20,
    g_is_picture := PySem.W.mg_of X G a20,
    b_is_picture := (F20.binds (ps := ["value"]) (fun _ _ _ _ _ _ us hl => match us, hl with | [_], _ => rfl)),
    f_is_signed := f21,
    fd_is_signed := _,
    F_is_signed := F21,
    g_is_signed := PySem.W.mg_of X G a21,
    b_is_signed := (F21.binds (ps := ["picture"]) (fun _ _ _ _ _ _ us hl => match us, hl with | [_], _ => rfl)),
    f_v_counted := f22,
    fd_v_counted := _,
    F_v_counted := F22,
    g_v_counted := PySem.W.mg_of X G a22,
    b_v_counted := (F22.binds (ps := ["mark", "count"]) (fun _ _ _ _ _ _ us hl => match us, hl with | [_, _], _ => rfl)),
    f_picture_text := f23,
    fd_picture_text := _,
    F_picture_text := F23,
    g_picture_text := PySem.W.mg_of X G a23,
    b_picture_text := (F23.binds (ps := ["picture"]) (fun _ _ _ _ _ _ us hl => match us, hl with | [_], _ => rfl)),
    f_size_of := f24,
    fd_size_of := _,
    F_size_of := F24,
    g_size_of := PySem.W.mg_of X G a24,
    b_size_of := (F24.binds (ps := ["picture"]) (fun _ _ _ _ _ _ us hl => match us, hl with | [_], _ => rfl)),
    f_law := fa,
    fd_law := _,
    F_law := F25,
    g_law := PySem.W.mg_of X G a25,
    b_law := (F25.binds (ps := ["script"]) (fun _ _ _ _ _ _ us hl => match us, hl with | [_], _ => rfl)),
    m_bool := PySem.W.mg_none_of X G z0,
    m_int := PySem.W.mg_none_of X G z1,
    m_isinstance := PySem.W.mg_none_of X G z2,
    m_len := PySem.W.mg_none_of X G z3,
    m_list := PySem.W.mg_none_of X G z4,
    m_max := PySem.W.mg_none_of X G z5,
    m_min := PySem.W.mg_none_of X G z6,
    m_range := PySem.W.mg_none_of X G z7,
    m_str := PySem.W.mg_none_of X G z8,
    m_tuple := PySem.W.mg_none_of X G z9,
    u_FIGURES := _,
    g_FIGURES := PySem.W.mg_of X G y0,
    r_FIGURES := ⟨_, rfl⟩,
    u_INSERTED := _,
    g_INSERTED := PySem.W.mg_of X G y1,
    r_INSERTED := ⟨_, rfl⟩,
    u_MARKS := _,
    g_MARKS := PySem.W.mg_of X G y2,
    r_MARKS := ⟨_, rfl⟩,
    u_MOST_DIGITS := _,
    g_MOST_DIGITS := PySem.W.mg_of X G y3,
    r_MOST_DIGITS := ⟨_, rfl⟩,
    u_MOST_TEXT := _,
    g_MOST_TEXT := PySem.W.mg_of X G y4,
    r_MOST_TEXT := ⟨_, rfl⟩,
    a_SIGNS := ra5,
    o_SIGNS := ob5,
    g_SIGNS := PySem.W.mg_of X G y5,
    l_SIGNS := q5,
    v_SIGNS := v5,
    C_BadPicture := cc0,
    cg_BadPicture := PySem.W.mg_of X G nc0,
    C_CardError := cc1,
    cg_CardError := PySem.W.mg_of X G nc1,
    xr_BadPicture := ⟨xF0, kF0, bF0, tF0⟩,
    ex_BadPicture_BadPicture := exm_of bF0 dF0 tF0 su0x0,
    ex_BadPicture_CardError := exm_of bF1 dF1 tF1 su0x1,
    ec_BadPicture := ⟨ga0, gk0, bF0, dF0, gc0, sn0, st0, mo0⟩,
    kt_BadPicture_BadPicture := ki0x0 }
  exact ⟨PySem.W.fnOf "law" "law" (defArgs s_law) (defBody s_law) (defScope s_law) .none kV25 dc25 pm25 an25 cd25 ct25, fun s v => .of_eq rfl, fun base _ _ => (ok_law T).imp spO_of⟩
theorem walk {l : PySem.W.OpenLaw} {q : Program} {loose : List Str} {XP : (Str → Option Value) → Heap → Prop} {YP : World → Heap → Prop} {d : DefRec} {K : Params → PySem.W.Frag} (hn : l.most = some 63) (hdf : d.params.defaults = [])
    (hY : ∀ (w : World) (h : Heap), YP w h → (K w.params).In h)
    (F : ∀ (w : World) (mg : Str → Option Value) (fa : Addr) (h : Heap), (K w.params).In h → h.Ns mainGlobals mg → mg d.name = some (.ref fa) →
      ∃ fd : FuncData, (∀ (s : Shared) (u : Value), BindsTo s fd ⟨[u], []⟩ [("script", u)]) ∧ ∀ base : Heap, (K w.params).In base → base.Ns mainGlobals mg → FnOk l.prog w (K w.params) mg base (L2.CX l.prog w) 6 fa fd ["script"] (spO (K w.params) 1 M_law))
    (hlaw : ∀ ns : List Int, ns.length ≤ 63 → ∃ h, M_law [.fl (ns.map .int)] [] = .ok (.bl true) h) :
    PySem.W.WalkO q loose XP YP l.row.toRowW d [] (fun f vs => PySem.call f vs) := by
  refine L2.walk_of (n := 63) (k := 6) (x := "script") (CX := fun w => L2.CX l.prog w) (sp := fun w => spO (K w.params) 1 M_law) hn (by decide) hdf ⟨rfl, by decide, by decide⟩ hY F (fun w H a ns hl hO hS => ?_) (fun w H s e s' h => ?_)
  · obtain ⟨h, e⟩ := hlaw ns hl
    exact law_spO hO hS e
  · exact cx_no h
end Ok

set_option Elab.async false
open PySem PySem.W PyProof.Rows in
set_option maxRecDepth 100000 in
set_option maxHeartbeats 0 in
theorem PySem.Challenge.cw_cardhouse_k11_texts_of_pictures_holds : PySem.Challenge.rw_cardhouse_k11_texts_of_pictures.Holds := by
  w_on; o_law; k_head; (case hw => w_witness2)
  k_fill
  refine Ok.walk (l := PySem.Challenge.rw_cardhouse_k11_texts_of_pictures) rfl rfl (fun w h Y => PySem.W.kIn_of Y) ?F Law.law_true
  case F =>
    intro w mg fa h KX G hmg
    refine' Ok.all_mk KX G hmg ?a0 ?l0 ?c0 ?k0 ?a1 ?l1 ?c1 ?k1 ?a2 ?l2 ?c2 ?k2 ?a3 ?l3 ?c3 ?k3 ?a4 ?l4 ?c4 ?k4 ?a5 ?l5 ?c5 ?k5 ?a6 ?l6 ?c6 ?k6 ?a7 ?l7 ?c7 ?k7 ?a8 ?l8 ?c8 ?k8 ?a9 ?l9 ?c9 ?k9 ?a10 ?l10 ?c10 ?k10 ?a11 ?l11 ?c11 ?k11 ?a12 ?l12 ?c12 ?k12 ?a13 ?l13 ?c13 ?k13 ?a14 ?l14 ?c14 ?k14 ?a15 ?l15 ?c15 ?k15 ?a16 ?l16 ?c16 ?k16 ?a17 ?l17 ?c17 ?k17 ?a18 ?l18 ?c18 ?k18 ?a19 ?l19 ?c19 ?k19 ?a20 ?l20 ?c20 ?k20 ?a21 ?l21 ?c21 ?k21 ?a22 ?l22 ?c22 ?k22 ?a23 ?l23 ?c23 ?k23 ?a24 ?l24 ?c24 ?k24 ?a25 ?l25 ?c25 ?k25 ?z0 ?z1 ?z2 ?z3 ?z4 ?z5 ?z6 ?z7 ?z8 ?z9 ?y0 ?y1 ?y2 ?y3 ?y4 ?y5 ?q5 ?v5 ?nc0 ?xF0 ?kF0 ?bF0 ?tF0 ?dF0 ?ga0 ?gk0 ?gc0 ?mo0 ?nc1 ?bF1 ?tF1 ?dF1 ?sn0 ?st0 ?su0x0 ?su0x1 ?ki0x0
    (case a0 => k_is)
    (case l0 => k_is)
    (case c0 => k_is)
    (case k0 => k_is)
    (case a1 => k_is)
    (case l1 => k_is)
    (case c1 => k_is)
    (case k1 => k_is)
    (case a2 => k_is)
    (case l2 => k_is)
    (case c2 => k_is)
    (case k2 => k_is)
    (case a3 => k_is)
    (case l3 => k_is)
    (case c3 => k_is)
    (case k3 => k_is)
    (case a4 => k_is)
    (case l4 => k_is)
    (case c4 => k_is)
    (case k4 => k_is)
    (case a5 => k_is)
    (case l5 => k_is)
    (case c5 => k_is)
    (case k5 => k_is)
    (case a6 => k_is)
    (case l6 => k_is)
    (case c6 => k_is)
    (case k6 => k_is)
    (case a7 => k_is)
    (case l7 => k_is)
    (case c7 => k_is)
    (case k7 => k_is)
    (case a8 => k_is)
    (case l8 => k_is)
    (case c8 => k_is)
    (case k8 => k_is)
    (case a9 => k_is)
    (case l9 => k_is)
    (case c9 => k_is)
    (case k9 => k_is)
    (case a10 => k_is)
    (case l10 => k_is)
    (case c10 => k_is)
    (case k10 => k_is)
    (case a11 => k_is)
    (case l11 => k_is)
    (case c11 => k_is)
    (case k11 => k_is)
    (case a12 => k_is)
    (case l12 => k_is)
    (case c12 => k_is)
    (case k12 => k_is)
    (case a13 => k_is)
    (case l13 => k_is)
    (case c13 => k_is)
    (case k13 => k_is)
    (case a14 => k_is)
    (case l14 => k_is)
    (case c14 => k_is)
    (case k14 => k_is)
    (case a15 => k_is)
    (case l15 => k_is)
    (case c15 => k_is)
    (case k15 => k_is)
    (case a16 => k_is)
    (case l16 => k_is)
    (case c16 => k_is)
    (case k16 => k_is)
    (case a17 => k_is)
    (case l17 => k_is)
    (case c17 => k_is)
    (case k17 => k_is)
    (case a18 => k_is)
    (case l18 => k_is)
    (case c18 => k_is)
    (case k18 => k_is)
    (case a19 => k_is)
    (case l19 => k_is)
    (case c19 => k_is)
    (case k19 => k_is)
    (case a20 => k_is)
    (case l20 => k_is)
    (case c20 => k_is)
    (case k20 => k_is)
    (case a21 => k_is)
    (case l21 => k_is)
    (case c21 => k_is)
    (case k21 => k_is)
    (case a22 => k_is)
    (case l22 => k_is)
    (case c22 => k_is)
    (case k22 => k_is)
    (case a23 => k_is)
    (case l23 => k_is)
    (case c23 => k_is)
    (case k23 => k_is)
    (case a24 => k_is)
    (case l24 => k_is)
    (case c24 => k_is)
    (case k24 => k_is)
    (case a25 => k_is)
    (case l25 => k_is)
    (case c25 => k_is)
    (case k25 => k_is)
    (case z0 => k_is)
    (case z1 => k_is)
    (case z2 => k_is)
    (case z3 => k_is)
    (case z4 => k_is)
    (case z5 => k_is)
    (case z6 => k_is)
    (case z7 => k_is)
    (case z8 => k_is)
    (case z9 => k_is)
    (case y0 => k_is)
    (case y1 => k_is)
    (case y2 => k_is)
    (case y3 => k_is)
    (case y4 => k_is)
    (case y5 => k_is)
    (case q5 => k_is)
    (case v5 => first | rfl | decide +kernel)
    (case nc0 => k_is)
    (case xF0 => k_exc)
    (case kF0 => k_is)
    (case bF0 => k_is)
    (case tF0 => k_is)
    (case dF0 => k_is)
    (case ga0 => k_is)
    (case gk0 => k_is)
    (case gc0 => k_is)
    (case mo0 => k_is)
    (case nc1 => k_is)
    (case bF1 => k_is)
    (case tF1 => k_is)
    (case dF1 => k_is)
    (case sn0 => k_is)
    (case st0 => k_is)
    (case su0x0 => first | k_is | rfl | decide +kernel)
    (case su0x1 => first | k_is | rfl | decide +kernel)
    (case ki0x0 => first | k_is | rfl | decide +kernel)
#print axioms PySem.Challenge.cw_cardhouse_k11_texts_of_pictures_holds

