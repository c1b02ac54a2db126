import PyProof.Rows.All
import Wide.All
import OpenK.AllK
import Wide.FinOn
import HandS.ForMost
import HandS.ForExc
import HandS.IsInst
import HandS.Wide
import HandS.Flow
import HandS.ExcOwn
import HandS.Zip
import HandS.TupAny
import KE.GoesEnum
import KE.GoesMore
import HandS.StrMore
import HandS.ExcIs
import HandS.TryOnly
import HandS.SortInts
import HandS.Codes
import HandS.Style
import HandS.Iter
import HandS.Dict
import HandS.Small
import HandS.More
import HandS.Replace
import HandS.ReplaceLit
import PyProof.StrLawsIn
import Wide.Txt
import HandS.FStr
import HandS.Deep
import HandS.Zip0
import PyProof.EnumMake
import HandS.DictComp
import KE.KSortRegAny
import PyProof.Rows.SortShellAny
import PySem.Challenge.RW_cardhouse_k40_performed_paragraphs
set_option Elab.async false
/-! CdCore: a small functional reading of the Python that the laws use: values, a heap of lists, results, combinators. No program in sight. -/
namespace Cd
noncomputable section
open Classical

/-- a value: tuples lie inline, a list (a dict, an instance) is a place of the heap -/
inductive Val where
  | non | bl (b : Bool) | int (i : Int) | str (s : List Nat) | tup (l : List Val) | fl (l : List Val) | ref (n : Nat) | exo (a : Nat)

/-- what stands at a place: a list, a dict, an instance; a list that is only read lies inline (fl) -/
inductive Obj where
  | lst (l : List Val)
  | dct (l : List (Val × Val))
  | ins (c : String) (fs : List (String × Val))

abbrev Hep := List Obj
/-- a written text -/
def S (s : String) : List Nat := s.toList.map Char.toNat
/-- an exception: its class, its arguments (fields) -/
structure Exc where
  cls : String
  args : List Val

inductive Res (α : Type) where
  | ok (a : α) (h : Hep)
  | exc (e : Exc) (h : Hep)
  | stuck

def Res.bind {α β : Type} (r : Res α) (f : α → Hep → Res β) : Res β :=
  match r with
  | .ok a h => f a h
  | .exc e h => .exc e h
  | .stuck => .stuck
@[simp] theorem Res.bind_ok {α β : Type} (a : α) (h : Hep) (f : α → Hep → Res β) : (Res.ok a h).bind f = f a h := id rfl
@[simp] theorem Res.bind_exc {α β : Type} (e : Exc) (h : Hep) (f : α → Hep → Res β) : (Res.exc e h : Res α).bind f = .exc e h := id rfl
@[simp] theorem Res.bind_stuck {α β : Type} (f : α → Hep → Res β) : (Res.stuck : Res α).bind f = .stuck := id rfl

abbrev Env := List (Option Val)
abbrev EM := Env → Hep → Res Val
abbrev TM := Env → Hep → Res Bool
abbrev AM := Env → Hep → Res (List Val)
abbrev Fn := List Val → Hep → Res Val

/-- how a statement ends -/
inductive SR where
  | nx (η : Env) (h : Hep)
  | brk (η : Env) (h : Hep)
  | cont (η : Env) (h : Hep)
  | ret (v : Val) (h : Hep)
  | exc (e : Exc) (η : Env) (h : Hep)
  | stuck
abbrev SM := Env → Hep → SR
def SR.bind (r : SR) (f : Env → Hep → SR) : SR :=
  match r with
  | .nx η h => f η h
  | r => r
@[simp] theorem SR.bind_nx (η : Env) (h : Hep) (f : Env → Hep → SR) : (SR.nx η h).bind f = f η h := id rfl
@[simp] theorem SR.bind_brk (η : Env) (h : Hep) (f : Env → Hep → SR) : (SR.brk η h).bind f = .brk η h := id rfl
@[simp] theorem SR.bind_cont (η : Env) (h : Hep) (f : Env → Hep → SR) : (SR.cont η h).bind f = .cont η h := id rfl
@[simp] theorem SR.bind_ret (v : Val) (h : Hep) (f : Env → Hep → SR) : (SR.ret v h).bind f = .ret v h := id rfl
@[simp] theorem SR.bind_exc (e : Exc) (η : Env) (h : Hep) (f : Env → Hep → SR) : (SR.exc e η h).bind f = .exc e η h := id rfl
@[simp] theorem SR.bind_stuck (f : Env → Hep → SR) : SR.stuck.bind f = .stuck := id rfl
/-- an expression's result within a statement -/
def Res.thn {α : Type} (r : Res α) (η : Env) (f : α → Hep → SR) : SR :=
  match r with
  | .ok a h => f a h
  | .exc e h => .exc e η h
  | .stuck => .stuck
@[simp] theorem Res.thn_ok {α : Type} (a : α) (h : Hep) (η : Env) (f : α → Hep → SR) : (Res.ok a h).thn η f = f a h := id rfl
@[simp] theorem Res.thn_exc {α : Type} (e : Exc) (h : Hep) (η : Env) (f : α → Hep → SR) : (Res.exc e h : Res α).thn η f = .exc e η h := id rfl
@[simp] theorem Res.thn_stuck {α : Type} (η : Env) (f : α → Hep → SR) : (Res.stuck : Res α).thn η f = .stuck := id rfl

/-- a choice that may be missing -/
def ofO {α : Type} (o : Option α) (h : Hep) : Res α :=
  match o with
  | some a => .ok a h
  | none => .stuck
@[simp] theorem ofO_some {α : Type} (a : α) (h : Hep) : ofO (some a) h = .ok a h := id rfl
@[simp] theorem ofO_none {α : Type} (h : Hep) : ofO (none : Option α) h = .stuck := id rfl

/-! ### expressions -/
def eVar (i : Nat) : EM := fun η h => match η[i]? with | some (some v) => .ok v h | _ => .stuck
def eC (v : Val) : EM := fun _ h => .ok v h
/-- an operator on two values that makes no object -/
def eBin (f : Hep → Val → Val → Option Val) (a b : EM) : EM := fun η h => (a η h).bind fun x h1 => (b η h1).bind fun y h2 => ofO (f h2 x y) h2
def eUn (f : Hep → Val → Option Val) (a : EM) : EM := fun η h => (a η h).bind fun x h1 => ofO (f h1 x) h1
def aNil : AM := fun _ h => .ok [] h
def aCons (a : EM) (r : AM) : AM := fun η h => (a η h).bind fun x h1 => (r η h1).bind fun xs h2 => .ok (x :: xs) h2
/-- the largest size of a list, a tuple, a text -/
def line : Nat := Classical.choose (⟨16777216, rfl⟩ : ∃ n : Nat, n = 16777216)
theorem line_is : line = 16777216 := Classical.choose_spec (⟨16777216, rfl⟩ : ∃ n : Nat, n = 16777216)
def szOk (n : Nat) : Prop := n ≤ line
def eTup (a : AM) : EM := fun η h => (a η h).bind fun xs h1 => if szOk xs.length then .ok (.tup xs) h1 else .stuck
def eLst (a : AM) : EM := fun η h => (a η h).bind fun xs h1 => if szOk xs.length then .ok (.ref h1.length) (h1 ++ [.lst xs]) else .stuck
/-- a def, or a built-in function, of the argument list -/
def eCall (F : Fn) (a : AM) : EM := fun η h => (a η h).bind fun xs h1 => F xs h1
def eIf (c : TM) (a b : EM) : EM := fun η h => (c η h).bind fun k h1 => if k then a η h1 else b η h1
/-- x and y, x or y, as values: all but the last are truths -/
def eAnd (a b : EM) : EM := fun η h => (a η h).bind fun x h1 => match x with | .bl true => b η h1 | .bl false => .ok (.bl false) h1 | _ => .stuck
def eOr (a b : EM) : EM := fun η h => (a η h).bind fun x h1 => match x with | .bl true => .ok (.bl true) h1 | .bl false => b η h1 | _ => .stuck
def eNot (a : EM) : EM := fun η h => (a η h).bind fun x h1 => match x with | .bl k => .ok (.bl (!k)) h1 | _ => .stuck

/-! ### tests -/
def tVal (a : EM) : TM := fun η h => (a η h).bind fun x h1 => match x with | .bl k => .ok k h1 | _ => .stuck
def tAnd (a b : TM) : TM := fun η h => (a η h).bind fun k h1 => if k then b η h1 else .ok false h1
def tOr (a b : TM) : TM := fun η h => (a η h).bind fun k h1 => if k then .ok true h1 else b η h1
def tNot (a : TM) : TM := fun η h => (a η h).bind fun k h1 => .ok (!k) h1
/-- the truth of a value -/
def truth (h : Hep) : Val → Option Bool
  | .non => some false
  | .bl k => some k
  | .int i => some (i != 0)
  | .str s => if szOk s.length then some (s.length != 0) else none
  | .tup l => some (!l.isEmpty)
  | .fl l => some (!l.isEmpty)
  | .ref n => match h[n]? with
    | some (.lst l) => some (!l.isEmpty)
    | some (.dct l) => some (!l.isEmpty)
    | _ => none
  | .exo _ => none
def tTru (a : EM) : TM := fun η h => (a η h).bind fun x h1 => ofO (truth h1 x) h1

/-! ### operators -/
def mulOk (i j : Int) : Prop := (-(2 ^ 64) < i ∧ i < 2 ^ 64) ∨ (-(2 ^ 64) < j ∧ j < 2 ^ 64) ∨ i.natAbs.log2 + j.natAbs.log2 < 1000000
def divOk (j : Int) : Prop := 0 < j ∧ j.natAbs.log2 < 9000
def powOk (i j : Int) : Prop := 0 ≤ j ∧ j ≤ 1000000 ∧ i.natAbs < 2 ^ 64
def mdOk (j : Int) : Prop := 0 < j
def oAdd (_ : Hep) : Val → Val → Option Val
  | .int i, .int j => some (.int (i + j))
  | .str s, .str t => if szOk (s.length + t.length) then some (.str (s ++ t)) else none
  | .tup l, .tup m => if l.isEmpty then none else if szOk (l.length + m.length) then some (.tup (l ++ m)) else none
  | _, _ => none
/-- += of integers, of texts -/
def oIAdd (_ : Hep) : Val → Val → Option Val
  | .int i, .int j => some (.int (i + j))
  | .str s, .str t => if szOk (s.length + t.length) then some (.str (s ++ t)) else none
  | _, _ => none
def oSub (_ : Hep) : Val → Val → Option Val
  | .int i, .int j => some (.int (i - j))
  | _, _ => none
def oMul (_ : Hep) : Val → Val → Option Val
  | .int i, .int j => if mulOk i j then some (.int (i * j)) else none
  | _, _ => none
def oDiv (_ : Hep) : Val → Val → Option Val
  | .int i, .int j => if divOk j then some (.int (i / j)) else none
  | _, _ => none
def oMod (_ : Hep) : Val → Val → Option Val
  | .int i, .int j => if mdOk j then some (.int (i % j)) else none
  | _, _ => none
def oPow (_ : Hep) : Val → Val → Option Val
  | .int i, .int j => if powOk i j then some (.int (i ^ j.toNat)) else none
  | _, _ => none
def oNeg (_ : Hep) : Val → Option Val
  | .int i => some (.int (-i))
  | _ => none
def oLt (_ : Hep) : Val → Val → Option Val
  | .int i, .int j => some (.bl (decide (i < j)))
  | .str s, .str t => some (.bl (decide (s < t)))
  | _, _ => none
def oLe (_ : Hep) : Val → Val → Option Val
  | .int i, .int j => some (.bl (decide (i ≤ j)))
  | .str s, .str t => some (.bl (!decide (t < s)))
  | _, _ => none
def oGt (_ : Hep) : Val → Val → Option Val
  | .int i, .int j => some (.bl (decide (j < i)))
  | .str s, .str t => some (.bl (decide (t < s)))
  | _, _ => none
def oGe (_ : Hep) : Val → Val → Option Val
  | .int i, .int j => some (.bl (decide (j ≤ i)))
  | .str s, .str t => some (.bl (!decide (s < t)))
  | _, _ => none
/-- data: a value with all that lies in it -/
inductive Dat where
  | non | bl (b : Bool) | int (i : Int) | str (s : List Nat) | lst (l : List Dat) | tup (l : List Dat)
mutual
def Dat.eqv : Dat → Dat → Bool
  | .non, .non => true
  | .bl a, .bl b => a == b
  | .bl a, .int j => (if a then 1 else 0) == j
  | .int i, .bl b => i == (if b then 1 else 0)
  | .int i, .int j => i == j
  | .str s, .str t => s == t
  | .lst l, .lst m => Dat.eqvs l m
  | .tup l, .tup m => Dat.eqvs l m
  | _, _ => false
def Dat.eqvs : List Dat → List Dat → Bool
  | [], [] => true
  | a :: l, b :: m => Dat.eqv a b && Dat.eqvs l m
  | _, _ => false
end
/-- characters that there are -/
def chOk (s : List Nat) : Prop := ∀ c ∈ s, c < 1114112
mutual
/-- the data of a value, at most n deep -/
def rsl (h : Hep) : Nat → Val → Option Dat
  | _, .non => some .non
  | _, .bl b => some (.bl b)
  | _, .int i => some (.int i)
  | _, .str s => if chOk s then some (.str s) else none
  | 0, _ => none
  | n + 1, .tup l => (rsls h n l).map .tup
  | n + 1, .fl l => (rsls h n l).map .lst
  | n + 1, .ref a => match h[a]? with
    | some (.lst l) => (rsls h n l).map .lst
    | _ => none
  | _ + 1, .exo _ => none
def rsls (h : Hep) (n : Nat) : List Val → Option (List Dat)
  | [] => some []
  | v :: l => match rsl h n v with
    | some d => (rsls h n l).map (d :: ·)
    | none => none
end

/-- == of data -/
def scl : Val → Val → Option Bool
  | .int i, .int j => some (i == j)
  | .str s, .str t => some (s == t)
  | .bl a, .bl b => some (a == b)
  | .non, .non => some true
  | .non, .int _ => some false
  | .non, .bl _ => some false
  | .non, .str _ => some false
  | .int _, .non => some false
  | .bl _, .non => some false
  | .str _, .non => some false
  | .int _, .str _ => some false
  | .str _, .int _ => some false
  | .bl _, .str _ => some false
  | .str _, .bl _ => some false
  | _, _ => none
def vEq (h : Hep) (a b : Val) : Option Bool :=
  match scl a b with
  | some k => some k
  | none => match rsl h 40 a, rsl h 40 b with
    | some x, some y => some (x.eqv y)
    | _, _ => none
def oEq (h : Hep) (a b : Val) : Option Val := (vEq h a b).map .bl
def oNe (h : Hep) (a b : Val) : Option Val := (vEq h a b).map fun k => .bl (!k)
def isNon : Val → Bool
  | .non => true
  | _ => false
def oIsN (_ : Hep) (a b : Val) : Option Val := match b with | .non => some (.bl (isNon a)) | _ => none
def oNotN (_ : Hep) (a b : Val) : Option Val := match b with | .non => some (.bl (!isNon a)) | _ => none
/-- the place of a subscript -/
def ixN (n : Nat) (i : Int) : Option Nat := if 0 ≤ i then (if i < n then some i.toNat else none) else if -(n : Int) ≤ i then some (i + n).toNat else none
def atI {α : Type} (xs : List α) (i : Int) : Option α := (ixN xs.length i).bind fun j => xs[j]?
def oIdx (h : Hep) : Val → Val → Option Val
  | .tup l, .int i => atI l i
  | .fl l, .int i => atI l i
  | .str s, .int i => if szOk s.length then (atI s i).map fun c => .str [c] else none
  | .ref n, .int i => match h[n]? with
    | some (.lst l) => atI l i
    | _ => none
  | _, _ => none
/-! ### statements -/
def sNop : SM := fun η h => .nx η h
def sBrk : SM := fun η h => .brk η h
def sCont : SM := fun η h => .cont η h
def sSeq (a b : SM) : SM := fun η h => (a η h).bind fun η1 h1 => b η1 h1
def sSet (i : Nat) (e : EM) : SM := fun η h => (e η h).thn η fun v h1 => .nx (η.set i (some v)) h1
def sExpr (e : EM) : SM := fun η h => (e η h).thn η fun _ h1 => .nx η h1
def sRet (e : EM) : SM := fun η h => (e η h).thn η fun v h1 => .ret v h1
def sRetN : SM := fun _ h => .ret .non h
def sIf (c : TM) (a b : SM) : SM := fun η h => (c η h).thn η fun k h1 => if k then a η h1 else b η h1
def sAug (i : Nat) (f : Hep → Val → Val → Option Val) (e : EM) : SM := fun η h => match η[i]? with
  | some (some x) => (e η h).thn η fun y h1 => (ofO (f h1 x y) h1).thn η fun z h2 => .nx (η.set i (some z)) h2
  | _ => .stuck
/-- n turns of a while at most -/
def whileN (c : TM) (b : SM) : Nat → Env → Hep → SR
  | 0, _, _ => .stuck
  | n + 1, η, h => (c η h).thn η fun k h1 => if k then
      match b η h1 with
      | .nx η' h' => whileN c b n η' h'
      | .cont η' h' => whileN c b n η' h'
      | .brk η' h' => .nx η' h'
      | r => r
    else .nx η h1
def sWhile (c : TM) (b : SM) : SM := fun η h => if q : ∃ n, whileN c b n η h ≠ .stuck then whileN c b q.choose η h else .stuck
theorem whileN_mono {c : TM} {b : SM} : ∀ (n : Nat) (η : Env) (h : Hep), whileN c b n η h ≠ .stuck → whileN c b (n + 1) η h = whileN c b n η h
  | 0, η, h, q => absurd rfl q
  | n + 1, η, h, q => by
    rw [whileN] at q ⊢
    rw [whileN]
    cases ec : c η h with
    | ok k h1 =>
      rw [ec] at q
      simp only [Res.thn_ok] at q ⊢
      cases k with
      | false => rfl
      | true =>
        simp only [if_true] at q ⊢
        cases eb : b η h1 with
        | nx η' h' => rw [eb] at q; simp only at q ⊢; exact whileN_mono n η' h' q
        | cont η' h' => rw [eb] at q; simp only at q ⊢; exact whileN_mono n η' h' q
        | brk η' h' => rfl
        | ret v h' => rfl
        | exc e η' h' => rfl
        | stuck => rfl
    | exc e h1 => rfl
    | stuck => rfl
theorem whileN_le {c : TM} {b : SM} {η : Env} {h : Hep} {n m : Nat} (q : whileN c b n η h ≠ .stuck) (l : n ≤ m) : whileN c b m η h = whileN c b n η h := by
  induction l with
  | refl => rfl
  | step l ih => rw [whileN_mono _ _ _ (by rw [ih]; exact q), ih]
theorem sWhile_of {c : TM} {b : SM} {η : Env} {h : Hep} {n : Nat} (q : whileN c b n η h ≠ .stuck) : sWhile c b η h = whileN c b n η h := by
  have e : ∃ n, whileN c b n η h ≠ .stuck := ⟨n, q⟩
  unfold sWhile
  rw [dif_pos e]
  rcases Nat.le_total n e.choose with l | l
  · exact whileN_le q l
  · exact (whileN_le e.choose_spec l).symm
theorem sWhile_stuck {c : TM} {b : SM} {η : Env} {h : Hep} (q : ¬ ∃ n, whileN c b n η h ≠ .stuck) : sWhile c b η h = .stuck := by
  unfold sWhile
  rw [dif_neg q]
/-- one turn of a while -/
theorem sWhile_eq (c : TM) (b : SM) (η : Env) (h : Hep) : sWhile c b η h = (c η h).thn η fun k h1 => if k then
      match b η h1 with
      | .nx η' h' => sWhile c b η' h'
      | .cont η' h' => sWhile c b η' h'
      | .brk η' h' => .nx η' h'
      | r => r
    else .nx η h1 := by
  by_cases q : ∃ n, whileN c b n η h ≠ .stuck
  · obtain ⟨n, q⟩ := q
    rw [sWhile_of q]
    cases n with
    | zero => exact absurd rfl q
    | succ n =>
      rw [whileN] at q ⊢
      cases ec : c η h with
      | ok k h1 =>
        rw [ec] at q
        simp only [Res.thn_ok] at q ⊢
        cases k with
        | false => rfl
        | true =>
          simp only [if_true] at q ⊢
          cases eb : b η h1 with
          | nx η' h' => rw [eb] at q; simp only at q ⊢; exact (sWhile_of q).symm
          | cont η' h' => rw [eb] at q; simp only at q ⊢; exact (sWhile_of q).symm
          | brk η' h' => rfl
          | ret v h' => rfl
          | exc e η' h' => rfl
          | stuck => rfl
      | exc e h1 => rfl
      | stuck => rfl
  · have all : ∀ n, whileN c b n η h = .stuck := fun n => Classical.byContradiction fun z => q ⟨n, z⟩
    rw [sWhile_stuck q]
    have q1 : ∀ n, whileN c b (n + 1) η h = .stuck := fun n => all (n + 1)
    simp only [whileN] at q1
    cases ec : c η h with
    | ok k h1 =>
      rw [ec] at q1
      simp only [Res.thn_ok] at q1 ⊢
      cases k with
      | false => exact absurd (q1 0) (by simp)
      | true =>
        simp only [if_true] at q1 ⊢
        cases eb : b η h1 with
        | nx η' h' =>
          rw [eb] at q1
          exact (sWhile_stuck fun ⟨n, z⟩ => z (q1 n)).symm
        | cont η' h' =>
          rw [eb] at q1
          exact (sWhile_stuck fun ⟨n, z⟩ => z (q1 n)).symm
        | brk η' h' => rw [eb] at q1; exact absurd (q1 0) (by simp)
        | ret v h' => rw [eb] at q1; exact absurd (q1 0) (by simp)
        | exc e η' h' => rw [eb] at q1; exact absurd (q1 0) (by simp)
        | stuck => rfl
    | exc e h1 => rw [ec] at q1; exact absurd (q1 0) (by simp)
    | stuck => rfl
/-- the targets of a store -/
abbrev GM := Val → Env → Option Env
def gNam (i : Nat) : GM := fun v η => some (η.set i (some v))
abbrev GMs := List Val → Env → Option Env
def gsNil : GMs := fun vs η => match vs with | [] => some η | _ => none
def gsCons (g : GM) (r : GMs) : GMs := fun vs η => match vs with | v :: t => (g v η).bind fun η1 => r t η1 | [] => none
def gTpl (gs : GMs) : GM := fun v η => match v with | .tup l => gs l η | _ => none
def sAsg (g : GM) (e : EM) : SM := fun η h => (e η h).thn η fun v h1 => match g v η with | some η1 => .nx η1 h1 | none => .stuck
/-- what a for walks: the items, and whether what they come from still stands -/
abbrev IM := Env → Hep → Res (List Val × (Hep → Bool))
def forL (g : GM) (chk : Hep → Bool) (b : SM) : List Val → Env → Hep → SR
  | [], η, h => if chk h then .nx η h else .stuck
  | x :: xs, η, h => if chk h then
      match g x η with
      | some η1 => match b η1 h with
        | .nx η' h' => forL g chk b xs η' h'
        | .cont η' h' => forL g chk b xs η' h'
        | .brk η' h' => .nx η' h'
        | r => r
      | none => .stuck
    else .stuck
def sFor (it : IM) (g : GM) (b : SM) : SM := fun η h => (it η h).thn η fun p h1 => forL g p.2 b p.1 η h1
def isLst (n : Nat) (l : List Val) (h : Hep) : Prop := h[n]? = some (.lst l)
/-- the items of a value -/
def items (h : Hep) : Val → Option (List Val × (Hep → Bool))
  | .tup l => some (l, fun _ => true)
  | .fl l => some (l, fun _ => true)
  | .str s => some (s.map fun c => .str [c], fun _ => true)
  | .ref n => match h[n]? with
    | some (.lst l) => some (l, fun h' => decide (isLst n l h'))
    | _ => none
  | _ => none
def iVal (e : EM) : IM := fun η h => (e η h).bind fun v h1 => ofO (items h1 v) h1
def rng (lo : Int) (n : Nat) : List Val := (List.range n).map fun (i : Nat) => .int (lo + (i : Int))
def i62 (i : Int) : Prop := -(2 ^ 62) ≤ i ∧ i < 2 ^ 62
/-- what a call of a built-in walks, by its arguments -/
def iArgs (f : Hep → List Val → Option (List Val × (Hep → Bool))) (a : AM) : IM := fun η h => (a η h).bind fun vs h1 => ofO (f h1 vs) h1
def fRng1 (_ : Hep) : List Val → Option (List Val × (Hep → Bool))
  | [.int j] => if i62 j then some (rng 0 j.toNat, fun _ => true) else none
  | _ => none
def fRng2 (_ : Hep) : List Val → Option (List Val × (Hep → Bool))
  | [.int i, .int j] => if i62 i ∧ i62 j then some (rng i (j - i).toNat, fun _ => true) else none
  | _ => none
/-- a def: n parameters, all names' slots, the body -/
def fn (n N : Nat) (b : SM) : Fn := fun vs h => if vs.length = n then
    match b (vs.map some ++ List.replicate (N - n) none) h with
    | .nx _ h' => .ok .non h'
    | .ret v h' => .ok v h'
    | .exc e _ h' => .exc e h'
    | _ => .stuck
  else .stuck
/-- a built-in function -/
abbrev BFn := List Val → Hep → Option (Val × Hep)
def eCallB (F : BFn) (a : AM) : EM := fun η h => (a η h).bind fun xs h1 => match F xs h1 with | some (v, h2) => .ok v h2 | none => .stuck
/-! ### exceptions -/
def sRaise (c : String) : SM := fun η h => .exc ⟨c, []⟩ η h
/-- behind a suite: the name of the exception is gone; a suite that raises is not told -/
def SR.forget (i : Nat) : SR → SR
  | .nx η h => .nx (η.set i none) h
  | .brk η h => .brk (η.set i none) h
  | .cont η h => .cont (η.set i none) h
  | .exc _ _ _ => .stuck
  | r => r
/-- try .. except C as e: tbl tells of each class whether C names it -/
def sTry (tbl : List (String × Bool)) (i : Nat) (b : SM) (hd : Exc → Nat → SM) : SM := fun η h => match b η h with
  | .exc x η' h' => match tbl.lookup x.cls with
    | some true => if ∀ a, (hd x a (η'.set i (some (.exo a))) h').forget i = (hd x 0 (η'.set i (some (.exo 0))) h').forget i then (hd x 0 (η'.set i (some (.exo 0))) h').forget i else .stuck
    | some false => .exc x η' h'
    | none => .stuck
  | r => r
def SR.quiet : SR → SR
  | .exc _ _ _ => .stuck
  | r => r
/-- try .. except C -/
def sTryO (tbl : List (String × Bool)) (b : SM) (hd : SM) : SM := fun η h => match b η h with
  | .exc x η' h' => match tbl.lookup x.cls with
    | some true => (hd η' h').quiet
    | some false => .exc x η' h'
    | none => .stuck
  | r => r
/-- isinstance(e, D), e the exception that the suite holds -/
def eIsE (tbl : List (String × Bool)) (x : Exc) (a : Nat) (m : EM) : EM := fun η h => (m η h).bind fun v h1 => match v with
  | .exo b => if b = a then (if x.args = [] then (match tbl.lookup x.cls with | some k => .ok (.bl k) h1 | none => .stuck) else .stuck) else .stuck
  | _ => .stuck
/-! ### built-in functions -/
def bLen : BFn := fun vs h => match vs with
  | [.str s] => if szOk s.length then some (.int s.length, h) else none
  | [.tup l] => some (.int l.length, h)
  | [.fl l] => some (.int l.length, h)
  | [.ref n] => match h[n]? with
    | some (.lst l) => some (.int l.length, h)
    | _ => none
  | _ => none
def bAbs : BFn := fun vs h => match vs with
  | [.int i] => some (.int (if i < 0 then -i else i), h)
  | _ => none
def bMax2 : BFn := fun vs h => match vs with
  | [.int i, .int j] => some (.int (if j > i then j else i), h)
  | _ => none
def bMin2 : BFn := fun vs h => match vs with
  | [.int i, .int j] => some (.int (if j < i then j else i), h)
  | _ => none
def bInt : BFn := fun vs h => match vs with
  | [.int i] => some (.int i, h)
  | [.bl k] => some (.int (if k then 1 else 0), h)
  | _ => none
/-- list(..) of a list or a tuple; tuple(..) -/
def bList : BFn := fun vs h => match vs with
  | [.tup l] => some (.ref h.length, h ++ [.lst l])
  | [.fl l] => some (.ref h.length, h ++ [.lst l])
  | [.ref n] => match h[n]? with
    | some (.lst l) => some (.ref h.length, h ++ [.lst l])
    | _ => none
  | _ => none
def bTuple : BFn := fun vs h => match vs with
  | [.tup l] => some (.tup l, h)
  | [.fl l] => some (.tup l, h)
  | [.ref n] => match h[n]? with
    | some (.lst l) => some (.tup l, h)
    | _ => none
  | _ => none
def bls : List Val → Option (List Bool)
  | [] => some []
  | .bl b :: l => (bls l).map (b :: ·)
  | _ :: _ => none
def itsL (h : Hep) : Val → Option (List Val)
  | .fl l => some l
  | .ref n => match h[n]? with
    | some (.lst l) => some l
    | _ => none
  | _ => none
def bAll : BFn := fun vs h => match vs with
  | [v] => match (itsL h v).bind bls with
    | some bs => some (.bl (bs.all id), h)
    | none => none
  | _ => none
def bAny : BFn := fun vs h => match vs with
  | [v] => match (itsL h v).bind bls with
    | some bs => some (.bl (bs.any id), h)
    | none => none
  | _ => none
/-! ### isinstance -/
/-- the name of a value's built-in type -/
def typ (h : Hep) : Val → Option String
  | .non => some "NoneType"
  | .bl _ => some "bool"
  | .int _ => some "int"
  | .str _ => some "str"
  | .tup _ => some "tuple"
  | .fl _ => some "list"
  | .ref n => match h[n]? with
    | some (.lst _) => some "list"
    | some (.dct _) => some "dict"
    | _ => none
  | .exo _ => none
def isT (t n : String) : Bool := t == n || (t == "bool" && n == "int")
def oIsi (n : String) (h : Hep) (v : Val) : Option Val := (typ h v).map fun t => .bl (isT t n)
/-! ### lists that change -/
def setIx (h : Hep) : Val → Val → Val → Option Hep
  | .ref n, .int k, v => match h[n]? with
    | some (.lst l) => match ixN l.length k with
      | some j => some (h.set n (.lst (l.set j v)))
      | none => none
    | _ => none
  | _, _, _ => none
/-- o[i] = e: the value first -/
def sSetIx (o i e : EM) : SM := fun η h => (e η h).thn η fun v h1 => (o η h1).thn η fun x h2 => (i η h2).thn η fun k h3 => match setIx h3 x k v with
  | some h4 => .nx η h4
  | none => .stuck
/-- an item of a list that may change -/
def oIdxL (h : Hep) : Val → Val → Option Val
  | .ref n, .int i => match h[n]? with
    | some (.lst l) => atI l i
    | _ => none
  | _, _ => none
/-- o[i] op= e -/
def sAugIx (f : Hep → Val → Val → Option Val) (o i e : EM) : SM := fun η h => (o η h).thn η fun x h1 => (i η h1).thn η fun k h2 => (ofO (oIdxL h2 x k) h2).thn η fun y h3 => (e η h3).thn η fun z h4 => (ofO (f h4 y z) h4).thn η fun v h5 =>
  match setIx h5 x k v with
  | some h6 => .nx η h6
  | none => .stuck
/-- o.m(..), a method of a built-in type T -/
def eMth (T : String) (F : Val → BFn) (o : EM) (a : AM) : EM := fun η h => (o η h).bind fun x h1 => if typ h1 x = some T then (a η h1).bind fun xs h2 => (match F x xs h2 with | some (v, h3) => .ok v h3 | none => .stuck) else .stuck
def mAppend : Val → BFn := fun x vs h => match x, vs with
  | .ref n, [v] => match h[n]? with
    | some (.lst l) => if szOk (l.length + 1) then some (.non, h.set n (.lst (l ++ [v]))) else none
    | _ => none
  | _, _ => none
def mExtend : Val → BFn := fun x vs h => match x, vs with
  | .ref n, [.ref m] => match h[n]?, h[m]? with
    | some (.lst l), some (.lst k) => if szOk (l.length + k.length) then some (.non, h.set n (.lst (l ++ k))) else none
    | _, _ => none
  | _, _ => none
def mPop : Val → BFn := fun x vs h => match x, vs with
  | .ref n, [] => match h[n]? with
    | some (.lst l) => match l[l.length - 1]? with
      | some v => some (v, h.set n (.lst l.dropLast))
      | none => none
    | _ => none
  | _, _ => none
/-! ### slices -/
def sIx (n d : Nat) : Option Int → Nat
  | none => d
  | some v => if v < 0 then (v + (n : Int)).toNat else min v.toNat n
def cut {α : Type} (l : List α) (lo hi : Option Int) : List α := (l.drop (sIx l.length 0 lo)).take (sIx l.length l.length hi - sIx l.length 0 lo)
abbrev PM := Env → Hep → Res (Option Int)
def pNo : PM := fun _ h => .ok none h
def pSome (e : EM) : PM := fun η h => (e η h).bind fun x h1 => match x with | .int i => .ok (some i) h1 | _ => .stuck
def oSl (h : Hep) (x : Val) (lo hi : Option Int) : Option (Val × Hep) := match x with
  | .str s => if szOk s.length then some (.str (cut s lo hi), h) else none
  | .tup l => some (.tup (cut l lo hi), h)
  | .fl l => some (.ref h.length, h ++ [.lst (cut l lo hi)])
  | .ref n => match h[n]? with
    | some (.lst l) => some (.ref h.length, h ++ [.lst (cut l lo hi)])
    | _ => none
  | _ => none
def eSl (o : EM) (lo hi : PM) : EM := fun η h => (o η h).bind fun x h1 => (lo η h1).bind fun l h2 => (hi η h2).bind fun u h3 => match oSl h3 x l u with | some (v, h4) => .ok v h4 | none => .stuck
/-! ### comprehensions -/
/-- the block's own slots forgotten -/
def wipe (η : Env) : List Nat → Env
  | [] => η
  | v :: vs => (wipe η vs).set v none
def compL (g : GM) (chk : Hep → Bool) (c : TM) (e : EM) (η : Env) : List Val → Hep → Res (List Val)
  | [], h => if chk h then .ok [] h else .stuck
  | x :: xs, h => if chk h then
      match g x η with
      | some η1 => match c η1 h with
        | .ok k h1 => if k then
            match e η1 h1 with
            | .ok y h2 => (compL g chk c e η xs h2).bind fun ys h3 => .ok (y :: ys) h3
            | _ => .stuck
          else compL g chk c e η xs h1
        | _ => .stuck
      | none => .stuck
    else .stuck
def tTrue : TM := fun _ h => .ok true h
def eComp (vs : List Nat) (it : IM) (g : GM) (c : TM) (e : EM) : EM := fun η h => (it η h).bind fun p h1 => (compL g p.2 c e (wipe η vs) p.1 h1).bind fun ys h2 => if szOk ys.length then .ok (.ref h2.length) (h2 ++ [.lst ys]) else .stuck
/-! ### in -/
def flat : Val → Bool
  | .non => true
  | .bl _ => true
  | .int _ => true
  | .str _ => true
  | _ => false
def eqF : Val → Val → Bool
  | .non, .non => true
  | .bl a, .bl b => a == b
  | .bl a, .int b => (if a then 1 else 0) == b
  | .int a, .bl b => a == (if b then 1 else 0)
  | .int a, .int b => a == b
  | .str a, .str b => a == b
  | _, _ => false
def seqOf (h : Hep) : Val → Option (List Val)
  | .tup l => some l
  | .fl l => some l
  | .ref n => match h[n]? with
    | some (.lst l) => some l
    | _ => none
  | _ => none
def isIn (h : Hep) (a b : Val) : Option Bool :=
  match a, b with
  | .str [c], .str s => some (decide (c ∈ s))
  | _, .str _ => none
  | _, _ => match seqOf h b with
    | some l => if flat a && l.all flat then some (l.any fun y => eqF y a) else none
    | none => none
def oIn (h : Hep) (a b : Val) : Option Val := (isIn h a b).map .bl
def oNin (h : Hep) (a b : Val) : Option Val := (isIn h a b).map fun k => .bl (!k)
/-! ### what a for walks, more -/
/-- the items of a list or tuple, and whether it stands -/
def itemsS (h : Hep) : Val → Option (List Val × (Hep → Bool))
  | .tup l => some (l, fun _ => true)
  | .fl l => some (l, fun _ => true)
  | .ref n => match h[n]? with
    | some (.lst l) => some (l, fun h' => decide (isLst n l h'))
    | _ => none
  | _ => none
def enumL (l : List Val) : List Val := l.zipIdx.map fun p => .tup [.int (p.2 : Nat), p.1]
def fEnum (h : Hep) : List Val → Option (List Val × (Hep → Bool))
  | [v] => (itemsS h v).map fun p => (enumL p.1, p.2)
  | _ => none
def zipL (l m : List Val) : List Val := (l.zip m).map fun p => .tup [p.1, p.2]
def isT2 : Val → Val → Bool
  | .tup _, .tup _ => true
  | .tup _, _ => false
  | _, .tup _ => false
  | _, _ => true
def fZip (h : Hep) : List Val → Option (List Val × (Hep → Bool))
  | [v, w] => match itemsS h v, itemsS h w with
    | some p, some q => if isT2 v w then some (zipL p.1 q.1, fun h' => p.2 h' && q.2 h') else none
    | _, _ => none
  | _ => none
/-! ### texts -/
def bOrd : BFn := fun vs h => match vs with
  | [.str [c]] => some (.int (c : Nat), h)
  | _ => none
/-- a text cut at a sign -/
def cutAt (s : Nat) : List Nat → List Nat → List (List Nat)
  | acc, [] => [acc]
  | acc, c :: r => if c = s then acc :: cutAt s [] r else cutAt s (acc ++ [c]) r
def splitOk (c n : Nat) : Prop := c < 256 ∧ n + 2 ≤ line
def mSplit : Val → BFn := fun x vs h => match x, vs with
  | .str s, [.str [c]] => if splitOk c s.length then some (.ref h.length, h ++ [.lst ((cutAt c [] s).map .str)]) else none
  | _, _ => none
def strOk (i : Int) : Prop := i.natAbs.log2 < 1920
/-- str(int) -/
def bStr : BFn := fun vs h => match vs with
  | [.int i] => if strOk i then some (.str (S (toString i)), h) else none
  | _ => none
/-- the parts with the sign between them -/
def joinL (s : List Nat) : List (List Nat) → List Nat
  | [] => []
  | [p] => p
  | p :: q :: r => p ++ (s ++ joinL s (q :: r))
def strsL : List Val → Option (List (List Nat))
  | [] => some []
  | .str s :: l => (strsL l).map (s :: ·)
  | _ :: _ => none
def joinOk (s : List Nat) (ps : List (List Nat)) : Prop := (ps.map List.length).sum + ps.length * s.length ≤ line
def mJoin : Val → BFn := fun x vs h => match x, vs with
  | .str s, [v] => match (seqOf h v).bind strsL with
    | some ps => if joinOk s ps then some (.str (joinL s ps), h) else none
    | none => none
  | _, _ => none
/-- filled with 0 behind the sign -/
def zfillL (s : List Nat) (i : Int) : List Nat := if i ≤ s.length then s else match s with
  | 43 :: r => 43 :: (List.replicate (i.toNat - s.length) 48 ++ r)
  | 45 :: r => 45 :: (List.replicate (i.toNat - s.length) 48 ++ r)
  | _ => List.replicate (i.toNat - s.length) 48 ++ s
def padOk (i : Int) : Prop := i ≤ line ∧ -1000 < i
def mZfill : Val → BFn := fun x vs h => match x, vs with
  | .str s, [.int i] => if padOk i then some (.str (zfillL s i), h) else none
  | _, _ => none
def mStarts : Val → BFn := fun x vs h => match x, vs with
  | .str s, [.str t] => some (.bl (decide (s.take t.length = t)), h)
  | _, _ => none
def mEnds : Val → BFn := fun x vs h => match x, vs with
  | .str s, [.str t] => some (.bl (decide (t.length ≤ s.length) && decide (s.drop (s.length - t.length) = t)), h)
  | _, _ => none
/-! ### more of lists -/
def oCat (h : Hep) : Val → Val → Option (Val × Hep)
  | .ref n, .ref m => match h[n]?, h[m]? with
    | some (.lst l), some (.lst k) => if szOk (l.length + k.length) then some (.ref h.length, h ++ [.lst (l ++ k)]) else none
    | _, _ => none
  | _, _ => none
/-- list + list -/
def eCat (a b : EM) : EM := fun η h => (a η h).bind fun x h1 => (b η h1).bind fun y h2 => match oCat h2 x y with | some (v, h3) => .ok v h3 | none => .stuck
/-- l[::-1] -/
def eRev (a : EM) : EM := fun η h => (a η h).bind fun x h1 => match itsL h1 x with | some l => .ok (.ref h1.length) (h1 ++ [.lst l.reverse]) | none => .stuck
def digV (s : List Nat) : Nat := s.foldl (fun t c => t * 10 + (c - 48)) 0
def digOk (s : List Nat) : Prop := (s.all fun c => decide (48 ≤ c) && decide (c ≤ 57)) = true ∧ s ≠ [] ∧ s.length ≤ 640
/-- int(figures) -/
def bIntS : BFn := fun vs h => match vs with
  | [.str s] => if digOk s then some (.int (digV s), h) else none
  | _ => none
def intsL : List Val → Option (List Int)
  | [] => some []
  | .int i :: l => (intsL l).map (i :: ·)
  | _ :: _ => none
def maxL : Int → List Int → Int
  | m, [] => m
  | m, i :: l => maxL (if m < i then i else m) l
def bMaxL : BFn := fun vs h => match vs with
  | [v] => match (itsL h v).bind intsL with
    | some (i :: l) => some (.int (maxL i l), h)
    | _ => none
  | _ => none
def insI (i : Int) : List Int → List Int
  | [] => [i]
  | j :: l => if i ≤ j then i :: j :: l else j :: insI i l
def srtI : List Int → List Int
  | [] => []
  | i :: l => insI i (srtI l)
/-- sorted(a list of integers) -/
def bSortI : BFn := fun vs h => match vs with
  | [v] => match (itsL h v).bind intsL with
    | some ns => some (.ref h.length, h ++ [.lst ((srtI ns).map .int)])
    | none => none
  | _ => none
/-- text * int, int * int -/
def repL (s : List Nat) (n : Nat) : List Nat := (List.replicate n s).flatten
def repOk (n : Nat) (i : Int) : Prop := -1000000 < i ∧ i ≤ line ∧ n * i.toNat ≤ line
def oMulS (_ : Hep) : Val → Val → Option Val
  | .int i, .int j => if mulOk i j then some (.int (i * j)) else none
  | .str s, .int i => if repOk s.length i then some (.str (repL s i.toNat)) else none
  | _, _ => none
/-- range of three, upward -/
def rngC (lo c : Int) (n : Nat) : List Val := (List.range n).map fun (i : Nat) => .int (lo + (i : Int) * c)
def i40 (i : Int) : Prop := -(2 ^ 40) ≤ i ∧ i < 2 ^ 40
def stepN (i j c : Int) : Nat := if i < j then ((j - i - 1) / c + 1).toNat else 0
def fRng3 (_ : Hep) : List Val → Option (List Val × (Hep → Bool))
  | [.int i, .int j, .int c] => if i40 i ∧ i40 j ∧ 0 < c ∧ c < 2 ^ 29 then some (rngC i c (stepN i j c), fun _ => true) else none
  | _ => none
/-- a def that is not reckoned any deeper -/
def fnStuck : Fn := fun _ _ => .stuck
/-! ### dicts: keys integers and texts -/
def isKey : Val → Bool
  | .int _ => true
  | .str _ => true
  | _ => false
def keyEq : Val → Val → Bool
  | .int i, .int j => i == j
  | .str s, .str t => s == t
  | _, _ => false
def dGet : List (Val × Val) → Val → Option Val
  | [], _ => none
  | p :: l, k => if keyEq p.1 k then some p.2 else dGet l k
def dHas (l : List (Val × Val)) (k : Val) : Bool := (dGet l k).isSome
def dUpd (k v : Val) : List (Val × Val) → List (Val × Val)
  | [] => []
  | p :: l => (if keyEq p.1 k then (p.1, v) else p) :: dUpd k v l
/-- in its place, or at the end -/
def dPut (l : List (Val × Val)) (k v : Val) : List (Val × Val) := if dHas l k then dUpd k v l else l ++ [(k, v)]
/-- {} -/
def eDNew : EM := fun _ h => .ok (.ref h.length) (h ++ [.dct []])
/-- {k: v, ..} of written texts -/
def eDTxt (l : List (String × String)) : EM := fun _ h => .ok (.ref h.length) (h ++ [.dct (l.map fun p => (.str (S p.1), .str (S p.2)))])
/-- d[k] -/
def oDIdx (h : Hep) (x k : Val) : Option Val := match x with
  | .ref n => match h[n]? with
    | some (.dct l) => if isKey k then dGet l k else none
    | _ => none
  | _ => none
/-- k in d -/
def oDIn (h : Hep) (k x : Val) : Option Val := match x with
  | .ref n => match h[n]? with
    | some (.dct l) => if isKey k then some (.bl (dHas l k)) else none
    | _ => none
  | _ => none
def oDNin (h : Hep) (k x : Val) : Option Val := match x with
  | .ref n => match h[n]? with
    | some (.dct l) => if isKey k then some (.bl (!dHas l k)) else none
    | _ => none
  | _ => none
def setDx (h : Hep) (x k v : Val) : Option Hep := match x with
  | .ref n => match h[n]? with
    | some (.dct l) => if isKey k then (if szOk (l.length + 1) then some (h.set n (.dct (dPut l k v))) else none) else none
    | _ => none
  | _ => none
/-- d[k] = e: the value first -/
def sSetDx (o i e : EM) : SM := fun η h => (e η h).thn η fun v h1 => (o η h1).thn η fun x h2 => (i η h2).thn η fun k h3 => match setDx h3 x k v with
  | some h4 => .nx η h4
  | none => .stuck
/-- d.get(k, v) -/
def isDct (h : Hep) : Val → Bool
  | .ref n => match h[n]? with
    | some (.dct _) => true
    | _ => false
  | _ => false
def oDGet2 (h : Hep) (x y z : Val) : Option Val := match x with
  | .ref n => match h[n]? with
    | some (.dct l) => if isKey y then some ((dGet l y).getD z) else none
    | _ => none
  | _ => none
def eDGet2 (o k v : EM) : EM := fun η h => (o η h).bind fun x h1 => if isDct h1 x then (k η h1).bind fun y h2 => (v η h2).bind fun z h3 => ofO (oDGet2 h3 x y z) h3 else .stuck
/-- what a written dict of texts holds, for the texts that are told -/
def tblGet (tbl : List (String × Option String)) (s : List Nat) : Option (Option String) := (tbl.find? fun p => S p.1 == s).map (·.2)
def oKIn (tbl : List (String × Option String)) (_ : Hep) (x : Val) : Option Val := match x with
  | .str s => (tblGet tbl s).map fun r => .bl r.isSome
  | _ => none
def oKNin (tbl : List (String × Option String)) (_ : Hep) (x : Val) : Option Val := match x with
  | .str s => (tblGet tbl s).map fun r => .bl (!r.isSome)
  | _ => none
def oKGet (tbl : List (String × Option String)) (_ : Hep) (x : Val) : Option Val := match x with
  | .str s => match tblGet tbl s with
    | some (some t) => some (.str (S t))
    | _ => none
  | _ => none
/-- upper of ASCII -/
def up1 (c : Nat) : Nat := if 97 ≤ c ∧ c ≤ 122 then c - 32 else c
def upOk (s : List Nat) : Prop := (s.all fun c => decide (c < 128)) = true ∧ s.length ≤ 1000000
def mUpper : Val → BFn := fun x vs h => match x, vs with
  | .str s, [] => if upOk s then some (.str (s.map up1), h) else none
  | _, _ => none
/-- e.replace(a sign, a text) -/
def replOk (c n m : Nat) : Prop := c < 256 ∧ n + (n + 1) * m + 2 ≤ line
def eRepl (c : Nat) (z : List Nat) (o : EM) : EM := fun η h => (o η h).bind fun x h1 => match x with
  | .str s => if replOk c s.length z.length then .ok (.str (joinL z (cutAt c [] s))) h1 else .stuck
  | _ => .stuck
end
end Cd

set_option Elab.async false
set_option linter.all false
set_option maxRecDepth 100000
set_option maxHeartbeats 4000000
/-! CdB1: the bridge: the functional reading over the hand layer: relations. -/
namespace Cb
open PySem PySem.Spec PyProof.Rows L2

def toS (l : List Nat) : Str := ⟨l.toArray⟩
/-- a list that is only read -/
def FzL (K : PySem.W.Frag) (H : Hp) (a : Addr) (xs : List V) : Prop :=
  (∃ o, H a = some (.frz o (.lst xs))) ∨
    ∃ (o : Obj) (its : Array Value) (n : Nat), K.lookup a = some o ∧ o.cls = .type "list" ∧ o.dict = none ∧ o.data = .seq its n ∧ its.size ≤ sizeLine ∧ Vals xs its.toList
theorem FzL.sq {K : PySem.W.Frag} {H : Hp} {a : Addr} {xs : List V} (h : FzL K H a xs) : SqL K H a xs := by
  rcases h with ⟨o, h⟩ | h
  · exact .inl (.inr ⟨o, h⟩)
  · exact .inr h
section
variable (K : PySem.W.Frag) (ρ : List Addr) (H : Hp)
mutual
inductive RV : Cd.Val → V → Prop
  | non : RV .non .non
  | bl (b : Bool) : RV (.bl b) (.bl b)
  | int (i : Int) : RV (.int i) (.int i)
  | str (s : List Nat) : RV (.str s) (.str (toS s))
  | tup {a : Addr} {ds : List Cd.Val} {vs : List V} (h : SqT K H a vs) (r : RVs ds vs) : RV (.tup ds) (.ref a)
  | fl {a : Addr} {ds : List Cd.Val} {vs : List V} (h : FzL K H a vs) (r : RVs ds vs) : RV (.fl ds) (.ref a)
  | ref {n : Nat} {a : Addr} (h : ρ[n]? = some a) : RV (.ref n) (.ref a)
  | exo (a : Addr) : RV (.exo a) (.ref a)
inductive RVs : List Cd.Val → List V → Prop
  | nil : RVs [] []
  | cons {d : Cd.Val} {v : V} {ds : List Cd.Val} {vs : List V} (h : RV d v) (t : RVs ds vs) : RVs (d :: ds) (v :: vs)
end
def keyOf : Cd.Val → Option Key
  | .int i => some (.inl i)
  | .str s => some (.inr (toS s))
  | _ => none
/-- the entries of a dict -/
inductive RD : List (Cd.Val × Cd.Val) → List (Key × V) → Prop
  | nil : RD [] []
  | cons {k d : Cd.Val} {κ : Key} {v : V} {l : List (Cd.Val × Cd.Val)} {kvs : List (Key × V)} (e : keyOf k = some κ) (r : RV K ρ H d v) (t : RD l kvs) : RD ((k, d) :: l) ((κ, v) :: kvs)
/-- the fields of an instance -/
inductive RF : List (String × Cd.Val) → List (Str × V) → Prop
  | nil : RF [] []
  | cons {k : String} {d : Cd.Val} {v : V} {l : List (String × Cd.Val)} {kvs : List (Str × V)} (r : RV K ρ H d v) (t : RF l kvs) : RF ((k, d) :: l) ((Str.ofString k, v) :: kvs)
/-- the class of a name -/
def CN (K : PySem.W.Frag) (c : String) (C : Addr) : Prop := PySem.W.nsIn K mainGlobals (Str.ofString c) = some (some (.ref C))
/-- what stands at a place -/
def RO : Cd.Obj → Addr → Prop
  | .lst l, a => ∃ vs, H a = some (.lst vs) ∧ RVs K ρ H l vs
  | .dct l, a => ∃ kvs, H a = some (.dK kvs) ∧ RD K ρ H l kvs
  | .ins c fs, a => ∃ C dx kvs, H a = some (.ins C dx kvs) ∧ CN K c C ∧ RF K ρ H fs kvs
end
structure Sim (K : PySem.W.Frag) (ρ : List Addr) (h : Cd.Hep) (H : Hp) : Prop where
  len : ρ.length = h.length
  nd : ρ.Nodup
  obj : ∀ (n : Nat) (o : Cd.Obj) (a : Addr), h[n]? = some o → ρ[n]? = some a → RO K ρ H o a
structure Step (ρ : List Addr) (H : Hp) (ρ' : List Addr) (H' : Hp) : Prop where
  pre : ρ <+: ρ'
  fr : ∀ a o, a ∉ ρ → H a = some o → H' a = some o
  new : ∀ a, a ∈ ρ' → a ∉ ρ → H a = none
theorem Step.refl (ρ : List Addr) (H : Hp) : Step ρ H ρ H := ⟨List.prefix_rfl, fun _ _ _ h => h, fun _ h n => absurd h n⟩
theorem Step.trans {ρ ρ1 ρ2 : List Addr} {H H1 H2 : Hp} (a : Step ρ H ρ1 H1) (b : Step ρ1 H1 ρ2 H2) : Step ρ H ρ2 H2 := by
  have f : ∀ x o, x ∉ ρ → H x = some o → x ∉ ρ1 ∧ H1 x = some o := by
    intro x o n e
    refine ⟨fun m => ?_, a.fr x o n e⟩
    have q := a.new x m n
    rw [q] at e
    cases e
  refine ⟨a.pre.trans b.pre, fun x o n e => b.fr x o (f x o n e).1 (f x o n e).2, fun x m n => ?_⟩
  by_cases h1 : x ∈ ρ1
  · exact a.new x h1 n
  · cases q : H x with
    | none => rfl
    | some o =>
      have := b.new x m h1
      rw [(f x o n q).2] at this; cases this
section
variable {K : PySem.W.Frag} {ρ ρ' : List Addr} {H H' : Hp} {h h' : Cd.Hep}
/-- what stands at a place is no tuple, nothing locked -/
theorem Sim.kind (S : Sim K ρ h H) {a : Addr} (m : a ∈ ρ) : ∃ o, H a = some o ∧ (∀ xs, o ≠ .tup xs) ∧ ∀ ob u, o ≠ .frz ob u := by
  obtain ⟨n, hn⟩ := List.mem_iff_getElem?.mp m
  have hl : n < h.length := by rw [← S.len]; exact (List.getElem?_eq_some_iff.mp hn).1
  have q := S.obj n h[n] a (List.getElem?_eq_getElem hl) hn
  cases e : h[n] with
  | lst l =>
    rw [e] at q
    obtain ⟨vs, e1, _⟩ := q
    exact ⟨_, e1, (fun xs z => by cases z), (fun o u z => by cases z)⟩
  | dct l =>
    rw [e] at q
    obtain ⟨vs, e1, _⟩ := q
    exact ⟨_, e1, (fun xs z => by cases z), (fun o u z => by cases z)⟩
  | ins c fs =>
    rw [e] at q
    obtain ⟨C, dx, vs, e1, _⟩ := q
    exact ⟨_, e1, (fun xs z => by cases z), (fun o u z => by cases z)⟩
theorem Sim.some_of (S : Sim K ρ h H) {a : Addr} (m : a ∈ ρ) : H a ≠ none := fun z => by
  obtain ⟨o, e, _⟩ := S.kind m
  rw [z] at e; cases e
theorem Step.sqT (st : Step ρ H ρ' H') (S : Sim K ρ h H) {a : Addr} {vs : List V} (q : SqT K H a vs) : SqT K H' a vs := by
  rcases q with (q | ⟨o, q⟩) | q
  · refine .inl (.inl (st.fr a _ (fun m => ?_) q))
    obtain ⟨o, e, n1, _⟩ := S.kind m
    rw [q] at e; cases e
    exact n1 _ rfl
  · refine .inl (.inr ⟨o, st.fr a _ (fun m => ?_) q⟩)
    obtain ⟨o', e, _, n2⟩ := S.kind m
    rw [q] at e; cases e
    exact n2 _ _ rfl
  · exact .inr q
theorem Step.fzL (st : Step ρ H ρ' H') (S : Sim K ρ h H) {a : Addr} {vs : List V} (q : FzL K H a vs) : FzL K H' a vs := by
  rcases q with ⟨o, q⟩ | q
  · refine .inl ⟨o, st.fr a _ (fun m => ?_) q⟩
    obtain ⟨o', e, _, n2⟩ := S.kind m
    rw [q] at e; cases e
    exact n2 _ _ rfl
  · exact .inr q
theorem Step.ix (st : Step ρ H ρ' H') {n : Nat} {a : Addr} (e : ρ[n]? = some a) : ρ'[n]? = some a := by
  obtain ⟨t, rfl⟩ := st.pre
  rw [List.getElem?_append_left (List.getElem?_eq_some_iff.mp e).1]
  exact e
mutual
theorem RV.mono (st : Step ρ H ρ' H') (S : Sim K ρ h H) : ∀ {d : Cd.Val} {v : V}, RV K ρ H d v → RV K ρ' H' d v
  | _, _, .non => .non
  | _, _, .bl b => .bl b
  | _, _, .int i => .int i
  | _, _, .str s => .str s
  | _, _, .tup h r => .tup (st.sqT S h) (RVs.mono st S r)
  | _, _, .fl h r => .fl (st.fzL S h) (RVs.mono st S r)
  | _, _, .ref h => .ref (st.ix h)
  | _, _, .exo a => .exo a
theorem RVs.mono (st : Step ρ H ρ' H') (S : Sim K ρ h H) : ∀ {ds : List Cd.Val} {vs : List V}, RVs K ρ H ds vs → RVs K ρ' H' ds vs
  | _, _, .nil => .nil
  | _, _, .cons h t => .cons (RV.mono st S h) (RVs.mono st S t)
end
theorem RVs.length : ∀ {ds : List Cd.Val} {vs : List V}, RVs K ρ H ds vs → ds.length = vs.length
  | _, _, .nil => rfl
  | _, _, .cons _ t => by rw [List.length_cons, List.length_cons, RVs.length t]
theorem RVs.get : ∀ {ds : List Cd.Val} {vs : List V} {i : Nat} {d : Cd.Val}, RVs K ρ H ds vs → ds[i]? = some d → ∃ v, vs[i]? = some v ∧ RV K ρ H d v
  | _, _, _, _, .nil, e => by simp at e
  | _, _, 0, d, .cons h t, e => by simp at e; subst e; exact ⟨_, rfl, h⟩
  | _, _, i + 1, d, .cons h t, e => by
    obtain ⟨v, h1, h2⟩ := RVs.get (i := i) (d := d) t (by simpa using e)
    exact ⟨v, by simpa using h1, h2⟩
theorem RVs.append : ∀ {ds es : List Cd.Val} {vs ws : List V}, RVs K ρ H ds vs → RVs K ρ H es ws → RVs K ρ H (ds ++ es) (vs ++ ws)
  | _, _, _, _, .nil, s => s
  | _, _, _, _, .cons h t, s => .cons h (RVs.append t s)
theorem RVs.set {d : Cd.Val} {v : V} (r : RV K ρ H d v) : ∀ {ds : List Cd.Val} {vs : List V} (i : Nat), RVs K ρ H ds vs → RVs K ρ H (ds.set i d) (vs.set i v)
  | _, _, _, .nil => .nil
  | _, _, 0, .cons _ t => .cons r t
  | _, _, i + 1, .cons q t => .cons q (RVs.set r i t)
theorem RVs.take : ∀ {ds : List Cd.Val} {vs : List V} (n : Nat), RVs K ρ H ds vs → RVs K ρ H (ds.take n) (vs.take n)
  | _, _, 0, _ => .nil
  | _, _, _ + 1, .nil => .nil
  | _, _, n + 1, .cons h t => .cons h (RVs.take n t)
theorem RVs.drop : ∀ {ds : List Cd.Val} {vs : List V} (n : Nat), RVs K ρ H ds vs → RVs K ρ H (ds.drop n) (vs.drop n)
  | _, _, 0, r => r
  | _, _, _ + 1, .nil => .nil
  | _, _, n + 1, .cons _ t => RVs.drop n t
theorem RVs.reverse : ∀ {ds : List Cd.Val} {vs : List V}, RVs K ρ H ds vs → RVs K ρ H ds.reverse vs.reverse
  | _, _, .nil => .nil
  | _, _, .cons h t => by
    rw [List.reverse_cons, List.reverse_cons]
    exact RVs.append (RVs.reverse t) (.cons h .nil)
theorem RD.mono (st : Step ρ H ρ' H') (S : Sim K ρ h H) {l : List (Cd.Val × Cd.Val)} {kvs : List (Key × V)} (r : RD K ρ H l kvs) : RD K ρ' H' l kvs := by
  induction r with
  | nil => exact .nil
  | cons e r t ih => exact .cons e (r.mono st S) ih
theorem RF.mono (st : Step ρ H ρ' H') (S : Sim K ρ h H) {l : List (String × Cd.Val)} {kvs : List (Str × V)} (r : RF K ρ H l kvs) : RF K ρ' H' l kvs := by
  induction r with
  | nil => exact .nil
  | cons r t ih => exact .cons (r.mono st S) ih
theorem RO.mono (st : Step ρ H ρ' H') (S : Sim K ρ h H) {o : Cd.Obj} {a : Addr} (e : H' a = H a) (r : RO K ρ H o a) : RO K ρ' H' o a := by
  cases o with
  | lst l =>
    obtain ⟨vs, e1, q⟩ := r
    exact ⟨vs, by rw [e]; exact e1, q.mono st S⟩
  | dct l =>
    obtain ⟨vs, e1, q⟩ := r
    exact ⟨vs, by rw [e]; exact e1, q.mono st S⟩
  | ins c fs =>
    obtain ⟨C, dx, vs, e1, cn, q⟩ := r
    exact ⟨C, dx, vs, by rw [e]; exact e1, cn, q.mono st S⟩
/-- a new thing that is no place: a tuple -/
theorem Step.out (p : Addr) (o : HO) (n : H p = none) : Step ρ H ρ (upd H p o) :=
  ⟨List.prefix_rfl, fun a u _ e => by rw [upd_ne (ne_of_none e n)]; exact e, fun _ m z => absurd m z⟩
theorem Sim.out (S : Sim K ρ h H) {p : Addr} {o : HO} (n : H p = none) : Sim K ρ h (upd H p o) := by
  refine ⟨S.len, S.nd, fun i u a hi ha => ?_⟩
  have q := S.obj i u a hi ha
  have ne : a ≠ p := fun z => S.some_of (List.mem_iff_getElem?.mpr ⟨i, ha⟩) (z ▸ n)
  exact q.mono (Step.out p o n) S (upd_ne ne)
/-- a new place -/
theorem Step.lay (p : Addr) (o : HO) (n : H p = none) : Step ρ H (ρ ++ [p]) (upd H p o) :=
  ⟨⟨[p], rfl⟩, fun a u _ e => by rw [upd_ne (ne_of_none e n)]; exact e, fun a m z => by
    rcases List.mem_append.mp m with m | m
    · exact absurd m z
    · rw [List.mem_singleton.mp m]; exact n⟩
theorem Sim.lay (S : Sim K ρ h H) {p : Addr} {o : HO} {u : Cd.Obj} (n : H p = none) (r : RO K (ρ ++ [p]) (upd H p o) u p) : Sim K (ρ ++ [p]) (h ++ [u]) (upd H p o) := by
  have np : p ∉ ρ := fun m => S.some_of m n
  refine ⟨by rw [List.length_append, List.length_append, S.len]; rfl, List.nodup_append.mpr ⟨S.nd, by simp, fun a ha b hb => by
    rw [List.mem_singleton.mp hb]
    rintro rfl
    exact np ha⟩, fun i w a hi ha => ?_⟩
  by_cases hl : i < h.length
  · rw [List.getElem?_append_left hl] at hi
    rw [List.getElem?_append_left (by rw [S.len]; exact hl)] at ha
    have q := S.obj i w a hi ha
    have ne : a ≠ p := fun z => np (z ▸ List.mem_iff_getElem?.mpr ⟨i, ha⟩)
    exact q.mono (Step.lay p o n) S (upd_ne ne)
  · have e : i = h.length := by
      have := (List.getElem?_eq_some_iff.mp hi).1
      rw [List.length_append] at this
      simp at this
      omega
    subst e
    rw [List.getElem?_append_right (Nat.le_refl _), Nat.sub_self] at hi
    rw [List.getElem?_append_right (by rw [S.len]; exact Nat.le_refl _), S.len, Nat.sub_self] at ha
    cases hi
    cases ha
    exact r
/-- a place is written -/
theorem Step.put {i : Nat} {a : Addr} {o : HO} (ha : ρ[i]? = some a) : Step ρ H ρ (upd H a o) :=
  ⟨List.prefix_rfl, fun b u n e => by
    have q : b ≠ a := by
      rintro rfl
      exact n (List.mem_iff_getElem?.mpr ⟨i, ha⟩)
    rw [upd_ne q]; exact e, fun _ m z => absurd m z⟩
theorem Sim.put (S : Sim K ρ h H) {i : Nat} {a : Addr} {o : HO} {u : Cd.Obj} (ha : ρ[i]? = some a) (r : RO K ρ (upd H a o) u a) : Sim K ρ (h.set i u) (upd H a o) := by
  refine ⟨by rw [List.length_set, S.len], S.nd, fun j w b hj hb => ?_⟩
  by_cases e : j = i
  · subst e
    rw [ha] at hb; cases hb
    have hl : j < h.length := by rw [← S.len]; exact (List.getElem?_eq_some_iff.mp ha).1
    rw [List.getElem?_set_self hl] at hj
    cases hj
    exact r
  · rw [List.getElem?_set_ne (Ne.symm e)] at hj
    have q := S.obj j w b hj hb
    have ne : b ≠ a := fun z => by
      obtain ⟨h1, e1⟩ := List.getElem?_eq_some_iff.mp hb
      obtain ⟨h2, e2⟩ := List.getElem?_eq_some_iff.mp ha
      exact e ((List.getElem_inj S.nd).mp (e1.trans (z.trans e2.symm)))
    exact q.mono (Step.put ha) S (upd_ne ne)
end
/-- the slots: what the reading knows of them -/
structure RE (K : PySem.W.Frag) (ρ : List Addr) (H : Hp) (η : Cd.Env) (σ : L2.St) : Prop where
  len : η.length = σ.length
  at_ : ∀ (i : Nat) (d : Cd.Val), η[i]? = some (some d) → ∃ v, σ[i]? = some (some v) ∧ RV K ρ H d v
section
variable {K : PySem.W.Frag} {ρ ρ' : List Addr} {H H' : Hp} {h h' : Cd.Hep} {η : Cd.Env} {σ : L2.St}
theorem RE.mono (st : Step ρ H ρ' H') (S : Sim K ρ h H) (r : RE K ρ H η σ) : RE K ρ' H' η σ := ⟨r.len, fun i d e => by
  obtain ⟨v, h1, h2⟩ := r.at_ i d e
  exact ⟨v, h1, h2.mono st S⟩⟩
theorem RE.set {d : Cd.Val} {v : V} (r : RE K ρ H η σ) (q : RV K ρ H d v) (i : Nat) : RE K ρ H (η.set i (some d)) (σ.set i (some v)) := by
  refine ⟨by rw [List.length_set, List.length_set, r.len], fun j e hj => ?_⟩
  by_cases z : j = i
  · subst z
    have hl : j < η.length := by
      have := (List.getElem?_eq_some_iff.mp hj).1
      rwa [List.length_set] at this
    rw [List.getElem?_set_self hl] at hj
    cases hj
    exact ⟨v, List.getElem?_set_self (by rw [← r.len]; exact hl), q⟩
  · rw [List.getElem?_set_ne (Ne.symm z)] at hj
    obtain ⟨u, h1, h2⟩ := r.at_ j e hj
    exact ⟨u, by rw [List.getElem?_set_ne (Ne.symm z)]; exact h1, h2⟩
end
end Cb

set_option Elab.async false
set_option linter.all false
set_option maxRecDepth 100000
set_option maxHeartbeats 4000000
/-! CdB2: the bridge: expressions, tests, arguments. -/
namespace Cb
open PySem PySem.Spec PyProof.Rows L2

/-- an exception as the hand layer tells it -/
def RX (K : PySem.W.Frag) (ca : String → Value) (ρ : List Addr) (H : Hp) (e : Cd.Exc) (cls : Value) (d : Option Addr) : Prop :=
  cls = ca e.cls ∧ ((e.args = [] ∧ d = none) ∨ ∃ dx fs, e.args ≠ [] ∧ d = some dx ∧ H dx = some (.xd fs) ∧ RVs K ρ H e.args (fs.map (·.2)))

section
variable (K : PySem.W.Frag) (ca : String → Value) (W : WX)
/-- what is wanted behind a reading -/
def postG {α β : Type} (R : List Addr → Hp → α → β → Prop) (ρ : List Addr) (H : Hp) (σ : L2.St) (r : Cd.Res α) (Q : β → Hp → Prop) : Prop :=
  match r with
  | .ok v h' => ∀ ρ' H' x, Step ρ H ρ' H' → Sim K ρ' h' H' → R ρ' H' v x → Q x H'
  | .exc e h' => ∀ ρ' H' cls d, Step ρ H ρ' H' → Sim K ρ' h' H' → RX K ca ρ' H' e cls d → W cls d σ H'
  | .stuck => False
def RB : List Addr → Hp → Bool → Bool → Prop := fun _ _ a b => a = b
def tE (m : Cd.EM) : TE := fun σ H Q => ∃ ρ h η, Sim K ρ h H ∧ RE K ρ H η σ ∧ postG K ca W (RV K) ρ H σ (m η h) Q
def tT (m : Cd.TM) : TT := fun σ H Q => ∃ ρ h η, Sim K ρ h H ∧ RE K ρ H η σ ∧ postG K ca W RB ρ H σ (m η h) Q
def tA (m : Cd.AM) : TA := fun σ H Q => ∃ ρ h η, Sim K ρ h H ∧ RE K ρ H η σ ∧ postG K ca W (RVs K) ρ H σ (m η h) Q
end

section
variable {K : PySem.W.Frag} {ca : String → Value} {W : WX} {α β γ δ : Type} {R : List Addr → Hp → α → β → Prop} {ρ ρ1 : List Addr} {H H1 : Hp} {σ : L2.St} {h : Cd.Hep} {η : Cd.Env}
theorem postG.mono {r : Cd.Res α} {Q : β → Hp → Prop} (st : Step ρ H ρ1 H1) (p : postG K ca W R ρ H σ r Q) : postG K ca W R ρ1 H1 σ r Q := by
  cases r with
  | ok v h' => exact fun ρ' H' x s2 S q => p ρ' H' x (st.trans s2) S q
  | exc e h' => exact fun ρ' H' cls d s2 S q => p ρ' H' cls d (st.trans s2) S q
  | stuck => exact p
theorem postG.imp {r : Cd.Res α} {Q Q' : β → Hp → Prop} (p : postG K ca W R ρ H σ r Q) (f : ∀ x H, Q x H → Q' x H) : postG K ca W R ρ H σ r Q' := by
  cases r with
  | ok v h' => exact fun ρ' H' x s2 S q => f _ _ (p ρ' H' x s2 S q)
  | exc e h' => exact p
  | stuck => exact p
/-- the first part's reading, from that of the whole -/
theorem postG.first {S' : List Addr → Hp → γ → δ → Prop} {r : Cd.Res α} {f : α → Cd.Hep → Cd.Res γ} {Q : δ → Hp → Prop} {C : β → Hp → Prop} (p : postG K ca W S' ρ H σ (r.bind f) Q)
    (c : ∀ ρ1 H1 h1 v x, Step ρ H ρ1 H1 → Sim K ρ1 h1 H1 → R ρ1 H1 v x → postG K ca W S' ρ1 H1 σ (f v h1) Q → C x H1) : postG K ca W R ρ H σ r C := by
  cases r with
  | ok v h' => exact fun ρ' H' x st S q => c ρ' H' h' v x st S q (postG.mono st p)
  | exc e h' => exact p
  | stuck => exact p.elim
theorem postG.ofO {o : Option α} {h : Cd.Hep} {Q : β → Hp → Prop} (p : postG K ca W R ρ H σ (Cd.ofO o h) Q) : ∃ v, o = some v ∧ ∀ ρ' H' x, Step ρ H ρ' H' → Sim K ρ' h H' → R ρ' H' v x → Q x H' := by
  cases o with
  | none => exact p.elim
  | some v => exact ⟨v, rfl, p⟩
end

theorem PE.wk {X : Cx} {e : Expr} {t t' : TE} (h : PE X e t) (k : ∀ σ H Q, t' σ H Q → t σ H Q) : PE X e t' := ⟨fun pins s σ H Q I hw => h.run pins s σ H Q I (k _ _ _ hw)⟩
theorem PT.wk {X : Cx} {e : Expr} {t t' : TT} (h : PT X e t) (k : ∀ σ H Q, t' σ H Q → t σ H Q) : PT X e t' := ⟨fun pins s σ H Q I hw => h.run pins s σ H Q I (k _ _ _ hw)⟩
theorem PW.wk {X : Cx} {e : Expr} {t t' : TT} (h : PW X e t) (k : ∀ σ H Q, t' σ H Q → t σ H Q) : PW X e t' := ⟨fun whole pins s σ H Q I hw => h.run whole pins s σ H Q I (k _ _ _ hw)⟩
theorem PA.wk {X : Cx} {es : List Expr} {t t' : TA} (h : PA X es t) (k : ∀ σ H Q, t' σ H Q → t σ H Q) : PA X es t' := ⟨fun pos pins s σ H Q I hw => h.run pos pins s σ H Q I (k _ _ _ hw)⟩
theorem PS.wk {X : Cx} {st : Stmt} {t t' : TS} (h : PS X st t) (k : ∀ D σ H, t' D σ H → t D σ H) : PS X st t' := ⟨fun pins s σ H D I hw => h.run pins s σ H D I (k _ _ _ hw)⟩
theorem PSs.wk {X : Cx} {st : List Stmt} {t t' : TS} (h : PSs X st t) (k : ∀ D σ H, t' D σ H → t D σ H) : PSs X st t' := ⟨fun pins s σ H D I hw => h.run pins s σ H D I (k _ _ _ hw)⟩

/-- the judgements over the functional reading -/
abbrev KE (X : Cx) (ca : String → Value) (W : WX) (e : Expr) (m : Cd.EM) : Prop := PE X e (tE X.K ca W m)
abbrev KT (X : Cx) (ca : String → Value) (W : WX) (e : Expr) (m : Cd.TM) : Prop := PT X e (tT X.K ca W m)
abbrev KW (X : Cx) (ca : String → Value) (W : WX) (e : Expr) (m : Cd.TM) : Prop := PW X e (tT X.K ca W m)
abbrev KA (X : Cx) (ca : String → Value) (W : WX) (es : List Expr) (m : Cd.AM) : Prop := PA X es (tA X.K ca W m)

section
variable {X : Cx} {ca : String → Value} {W : WX} {a b c : Expr} {ma mb : Cd.EM} {pos : Pos}

theorem k_var (i : Nat) {x : Str} {pos : Pos} (hN : X.N[i]? = some x := by rfl) (hv : Vis X.env.scope x := by first | exact Or.inl rfl | exact Or.inr (Or.inl rfl) | exact Or.inr (Or.inr rfl)) (hd : (x == ("__debug__" : Str)) = false := by decide)
    (hcd : (x == ("__classdict__" : Str)) = false := by decide) : KE X ca W (.Name x pos) (Cd.eVar i) := by
  refine PE.wk (pv i hN hv hd hcd) fun σ H Q ⟨ρ, h, η, S, r, p⟩ => ?_
  unfold Cd.eVar at p
  split at p
  · rename_i d e
    obtain ⟨v, h1, h2⟩ := r.at_ i d e
    exact ⟨v, h1, p ρ H v (Step.refl _ _) S h2⟩
  · exact p.elim
theorem k_const {e : Expr} {d : Cd.Val} {v : V} (h : PE X e (tC v)) (r : ∀ ρ H, RV X.K ρ H d v) : KE X ca W e (Cd.eC d) := by
  refine PE.wk h fun σ H Q ⟨ρ, h, η, S, _, p⟩ => ?_
  exact p ρ H v (Step.refl _ _) S (r ρ H)
theorem k_int {i : Int} {j pos} : KE X ca W (.Constant (.int i) j pos) (Cd.eC (.int i)) := k_const pe_int fun _ _ => .int i
theorem k_bl {b : Bool} {j pos} : KE X ca W (.Constant (.bool b) j pos) (Cd.eC (.bl b)) := k_const pe_bl fun _ _ => .bl b
theorem k_non {j pos} : KE X ca W (.Constant .none j pos) (Cd.eC .non) := k_const pe_non fun _ _ => .non
theorem toS_S (s : String) : toS (Cd.S s) = Str.ofString s := by
  unfold toS Cd.S Str.ofString
  rw [PySem.cpsOfBytes_string]
theorem k_str {s : String} {j pos} : KE X ca W (.Constant (.str (Str.ofString s)) j pos) (Cd.eC (.str (Cd.S s))) := k_const pe_str fun ρ H => by
  rw [← toS_S s]
  exact .str _
/-- a constant of the module -/
theorem k_glob {x : Str} {d : Cd.Val} {v : V} {u : Value} {pos : Pos} (hg : Gl X x) (hm : X.mg x = some u) (r : RelV v u) (q : ∀ ρ H, RV X.K ρ H d v) (hd : (x == ("__debug__" : Str)) = false := by decide) : KE X ca W (.Name x pos) (Cd.eC d) :=
  k_const (pe_glob hg hm r hd) q

/-- what an operator's reading must be worth -/
def BinF (K : PySem.W.Frag) (f : Cd.Hep → Cd.Val → Cd.Val → Option Cd.Val) (r : R2) : Prop := ∀ (ρ : List Addr) (h : Cd.Hep) (H : Hp) (d e u : Cd.Val) (x y : V) (Q : VK), Sim K ρ h H → RV K ρ H d x → RV K ρ H e y → f h d e = some u →
  (∀ ρ' H' w, Step ρ H ρ' H' → Sim K ρ' h H' → RV K ρ' H' u w → Q w H') → r x y H Q
def UnF (K : PySem.W.Frag) (f : Cd.Hep → Cd.Val → Option Cd.Val) (r : V → Hp → VK → Prop) : Prop := ∀ (ρ : List Addr) (h : Cd.Hep) (H : Hp) (d u : Cd.Val) (x : V) (Q : VK), Sim K ρ h H → RV K ρ H d x → f h d = some u →
  (∀ ρ' H' w, Step ρ H ρ' H' → Sim K ρ' h H' → RV K ρ' H' u w → Q w H') → r x H Q
theorem tOp_of {f : Cd.Hep → Cd.Val → Cd.Val → Option Cd.Val} {r : R2} (hf : BinF X.K f r) : ∀ σ H Q, tE X.K ca W (Cd.eBin f ma mb) σ H Q → tOp r (tE X.K ca W ma) (tE X.K ca W mb) σ H Q := by
  rintro σ H Q ⟨ρ, h, η, S, re, p⟩
  refine ⟨ρ, h, η, S, re, postG.first p fun ρ1 H1 h1 d x st1 S1 r1 p1 => ?_⟩
  refine ⟨ρ1, h1, η, S1, re.mono st1 S, postG.first p1 fun ρ2 H2 h2 e y st2 S2 r2 p2 => ?_⟩
  obtain ⟨u, hu, k⟩ := p2.ofO
  exact hf ρ2 h2 H2 d e u x y Q S2 (r1.mono st2 S1) r2 hu k
theorem k_bin {op : Operator} {f : Cd.Hep → Cd.Val → Cd.Val → Option Cd.Val} {r : R2} (ho : OpR X (binaryOp op) r) (hf : BinF X.K f r) (ha : KE X ca W a ma) (hb : KE X ca W b mb) : KE X ca W (.BinOp a op b pos) (Cd.eBin f ma mb) :=
  PE.wk (pe_op ho ha hb) (tOp_of hf)
theorem k_cmp {op : CmpOp} {f : Cd.Hep → Cd.Val → Cd.Val → Option Cd.Val} {r : R2} (ho : OpR X (compareOp op) r) (hf : BinF X.K f r) (ha : KE X ca W a ma) (hb : KE X ca W b mb) (hm : behindInMarks op b = false) : KE X ca W (.Compare a [op] [b] pos) (Cd.eBin f ma mb) :=
  PE.wk (pe_cmpR ho ha hb hm) (tOp_of hf)
theorem k_un {op : UnaryOp} {f : Cd.Hep → Cd.Val → Option Cd.Val} {r : V → Hp → VK → Prop} (ho : UnR X (unaryOp op) r) (hf : UnF X.K f r) (ha : KE X ca W a ma) : KE X ca W (.UnaryOp op a pos) (Cd.eUn f ma) := by
  refine PE.wk (pe_un ho ha) fun σ H Q ⟨ρ, h, η, S, re, p⟩ => ?_
  refine ⟨ρ, h, η, S, re, postG.first p fun ρ1 H1 h1 d x st1 S1 r1 p1 => ?_⟩
  obtain ⟨u, hu, k⟩ := p1.ofO
  exact hf ρ1 h1 H1 d u x Q S1 r1 hu k

/-! ### tests -/
theorem bl_of {ρ : List Addr} {H : Hp} {k : Bool} {x : V} (r : RV X.K ρ H (.bl k) x) : x = .bl k := by cases r; rfl
/-- an expression's truth value as a test -/
theorem tB_of : ∀ σ H Q, tT X.K ca W (Cd.tVal ma) σ H Q → tTest (tE X.K ca W ma) σ H Q := by
  rintro σ H Q ⟨ρ, h, η, S, re, p⟩
  refine ⟨ρ, h, η, S, re, postG.first p fun ρ1 H1 h1 d x st1 S1 r1 p1 => ?_⟩
  cases d with
  | bl k => exact ⟨k, bl_of r1, p1 ρ1 H1 k (Step.refl _ _) S1 rfl⟩
  | _ => exact p1.elim
theorem kt_cmp {op : CmpOp} {f : Cd.Hep → Cd.Val → Cd.Val → Option Cd.Val} {r : R2} (ho : OpR X (compareOp op) r) (hf : BinF X.K f r) (ha : KE X ca W a ma) (hb : KE X ca W b mb) (hm : behindInMarks op b = false) :
    KT X ca W (.Compare a [op] [b] pos) (Cd.tVal (Cd.eBin f ma mb)) := by
  refine PT.wk (pt_cmpR ho ha hb hm) fun σ H Q p => ?_
  obtain ⟨ρ, h, η, S, re, p⟩ := tB_of σ H Q p
  exact tOp_of hf σ H _ ⟨ρ, h, η, S, re, p⟩
theorem kt_val {e : Expr} {m : Cd.EM} (h : KE X ca W e m) (he : ∀ whole, isTrue e X.env whole = (do let v ← whole; standAt e.pos; holding [v] (truthy v)) := by intro _; rfl) : KT X ca W e (Cd.tVal m) :=
  PT.wk (pt_val h he) fun σ H Q p => tB_of σ H Q p
theorem isE_map (f : α → β) (l : List α) : (l.map f).isEmpty = l.isEmpty := by cases l <;> rfl
theorem RVs.isEmpty {K : PySem.W.Frag} {ρ : List Addr} {H : Hp} {ds : List Cd.Val} {vs : List V} (r : RVs K ρ H ds vs) : vs.isEmpty = ds.isEmpty := by cases r <;> rfl
theorem line_eq {n : Nat} : Cd.szOk n ↔ n ≤ sizeLine := by
  unfold Cd.szOk
  rw [Cd.line_is, sizeLine_eq]
theorem tru_of {K : PySem.W.Frag} {ρ : List Addr} {h : Cd.Hep} {H : Hp} {d : Cd.Val} {x : V} {k : Bool} (S : Sim K ρ h H) (r : RV K ρ H d x) (e : Cd.truth h d = some k) : TruV K x H k := by
  cases r with
  | non => simp only [Cd.truth, Option.some.injEq] at e; subst e; rfl
  | bl b => simp only [Cd.truth, Option.some.injEq] at e; subst e; rfl
  | int i => simp only [Cd.truth, Option.some.injEq] at e; subst e; rfl
  | str s =>
    simp only [Cd.truth] at e
    split at e
    · rename_i hl
      simp only [Option.some.injEq] at e
      subst e
      rw [line_eq] at hl
      refine ⟨hl, ?_⟩
      show (s.length != 0) = (((s.length : Nat) : Int) != 0)
      rw [Bool.eq_iff_iff, bne_iff_ne, bne_iff_ne]
      omega
    · cases e
  | @tup a ds vs q t =>
    simp only [Cd.truth, Option.some.injEq] at e; subst e
    exact .inr (.inl ⟨vs, q, by rw [t.isEmpty]⟩)
  | @fl a ds vs q t =>
    simp only [Cd.truth, Option.some.injEq] at e; subst e
    exact .inl ⟨vs, q.sq, by rw [t.isEmpty]⟩
  | exo a => cases e
  | @ref n a q =>
    simp only [Cd.truth] at e
    split at e
    · rename_i l hl
      simp only [Option.some.injEq] at e; subst e
      obtain ⟨vs, e1, t⟩ := S.obj n _ a hl q
      exact .inl ⟨vs, SqL.of e1, by rw [t.isEmpty]⟩
    · rename_i l hl
      simp only [Option.some.injEq] at e; subst e
      obtain ⟨kvs, e1, t⟩ := S.obj n _ a hl q
      exact .inr (.inr ⟨kvs, e1, by cases t <;> rfl⟩)
    · cases e
theorem kt_tru (ha : KE X ca W a ma) (he : ∀ whole, isTrue a X.env whole = (do let v ← whole; standAt a.pos; holding [v] (truthy v)) := by intro _; rfl) : KT X ca W a (Cd.tTru ma) := by
  refine PT.wk (pt_truth ha he) fun σ H Q ⟨ρ, h, η, S, re, p⟩ => ?_
  refine ⟨ρ, h, η, S, re, postG.first p fun ρ1 H1 h1 d x st1 S1 r1 p1 => ?_⟩
  obtain ⟨k, hk, q⟩ := p1.ofO
  exact ⟨k, tru_of S1 r1 hk, q ρ1 H1 k (Step.refl _ _) S1 rfl⟩
variable {ta tb tc : Cd.TM}
theorem kt_pw {e : Expr} {m : Cd.TM} (h : KW X ca W e m) : KT X ca W e m := h.pt
theorem kw_and1 (ha : KT X ca W a ta) : KW X ca W (.BoolOp .And [a] pos) ta := pw_and1 ha
theorem kw_or1 (ha : KT X ca W a ta) : KW X ca W (.BoolOp .Or [a] pos) ta := pw_or1 ha
variable {rest : List Expr}
theorem kw_and (ha : KT X ca W a ta) (hb : KW X ca W (.BoolOp .And (b :: rest) pos) tb) : KW X ca W (.BoolOp .And (a :: b :: rest) pos) (Cd.tAnd ta tb) := by
  refine PW.wk (pw_and ha hb) fun σ H Q ⟨ρ, h, η, S, re, p⟩ => ?_
  refine ⟨ρ, h, η, S, re, postG.first p fun ρ1 H1 h1 k x st1 S1 r1 p1 => ?_⟩
  cases (show k = x from r1)
  cases k with
  | true => exact ⟨ρ1, h1, η, S1, re.mono st1 S, p1⟩
  | false => exact p1 ρ1 H1 false (Step.refl _ _) S1 rfl
theorem kw_or (ha : KT X ca W a ta) (hb : KW X ca W (.BoolOp .Or (b :: rest) pos) tb) : KW X ca W (.BoolOp .Or (a :: b :: rest) pos) (Cd.tOr ta tb) := by
  refine PW.wk (pw_or ha hb) fun σ H Q ⟨ρ, h, η, S, re, p⟩ => ?_
  refine ⟨ρ, h, η, S, re, postG.first p fun ρ1 H1 h1 k x st1 S1 r1 p1 => ?_⟩
  cases (show k = x from r1)
  cases k with
  | true => exact p1 ρ1 H1 true (Step.refl _ _) S1 rfl
  | false => exact ⟨ρ1, h1, η, S1, re.mono st1 S, p1⟩
theorem kt_not (ha : KT X ca W a ta) : KT X ca W (.UnaryOp .Not a pos) (Cd.tNot ta) := by
  refine PT.wk (pt_not ha) fun σ H Q ⟨ρ, h, η, S, re, p⟩ => ?_
  refine ⟨ρ, h, η, S, re, postG.first p fun ρ1 H1 h1 k x st1 S1 r1 p1 => ?_⟩
  cases (show k = x from r1)
  exact p1 ρ1 H1 (!k) (Step.refl _ _) S1 rfl
theorem k_ifE (hc : KT X ca W c tc) (ha : KE X ca W a ma) (hb : KE X ca W b mb) : KE X ca W (.IfExp c a b pos) (Cd.eIf tc ma mb) := by
  refine PE.wk (pe_ifExp hc ha hb) fun σ H Q ⟨ρ, h, η, S, re, p⟩ => ?_
  refine ⟨ρ, h, η, S, re, postG.first p fun ρ1 H1 h1 k x st1 S1 r1 p1 => ?_⟩
  cases (show k = x from r1)
  cases k with
  | true => exact ⟨ρ1, h1, η, S1, re.mono st1 S, p1⟩
  | false => exact ⟨ρ1, h1, η, S1, re.mono st1 S, p1⟩
theorem k_one {op : BoolOp} {m : Cd.EM} (h : KE X ca W a m) : KE X ca W (.BoolOp op [a] pos) m := pe_one h
theorem k_and (ha : KE X ca W a ma) (hb : KE X ca W (.BoolOp .And (b :: rest) pos) mb) : KE X ca W (.BoolOp .And (a :: b :: rest) pos) (Cd.eAnd ma mb) := by
  refine PE.wk (pe_and ha hb) fun σ H Q ⟨ρ, h, η, S, re, p⟩ => ?_
  refine ⟨ρ, h, η, S, re, postG.first p fun ρ1 H1 h1 d x st1 S1 r1 p1 => ?_⟩
  cases d with
  | bl k =>
    refine ⟨k, bl_of r1, ?_⟩
    cases k with
    | true => exact ⟨ρ1, h1, η, S1, re.mono st1 S, p1⟩
    | false => exact p1 ρ1 H1 _ (Step.refl _ _) S1 (.bl false)
  | _ => exact p1.elim
theorem k_or (ha : KE X ca W a ma) (hb : KE X ca W (.BoolOp .Or (b :: rest) pos) mb) : KE X ca W (.BoolOp .Or (a :: b :: rest) pos) (Cd.eOr ma mb) := by
  refine PE.wk (pe_or ha hb) fun σ H Q ⟨ρ, h, η, S, re, p⟩ => ?_
  refine ⟨ρ, h, η, S, re, postG.first p fun ρ1 H1 h1 d x st1 S1 r1 p1 => ?_⟩
  cases d with
  | bl k =>
    refine ⟨k, bl_of r1, ?_⟩
    cases k with
    | true => exact p1 ρ1 H1 _ (Step.refl _ _) S1 (.bl true)
    | false => exact ⟨ρ1, h1, η, S1, re.mono st1 S, p1⟩
  | _ => exact p1.elim
theorem k_not (ha : KE X ca W a ma) : KE X ca W (.UnaryOp .Not a pos) (Cd.eNot ma) := by
  refine PE.wk (pe_not ha) fun σ H Q ⟨ρ, h, η, S, re, p⟩ => ?_
  refine ⟨ρ, h, η, S, re, postG.first p fun ρ1 H1 h1 d x st1 S1 r1 p1 => ?_⟩
  cases d with
  | bl k => exact ⟨k, bl_of r1, p1 ρ1 H1 _ (Step.refl _ _) S1 (.bl _)⟩
  | _ => exact p1.elim

/-! ### arguments, displays -/
theorem ka_nil : KA X ca W [] Cd.aNil := PA.wk pa_nil fun σ H Q ⟨ρ, h, η, S, re, p⟩ => p ρ H [] (Step.refl _ _) S .nil
variable {es : List Expr} {e : Expr} {me : Cd.EM} {ms : Cd.AM}
theorem ka_cons (ha : KE X ca W e me) (hr : KA X ca W es ms) (hs : starEach (e :: es) X.env = (false, eval e X.env) :: starEach es X.env := by rfl) : KA X ca W (e :: es) (Cd.aCons me ms) := by
  refine PA.wk (pa_cons ha hr hs) fun σ H Q ⟨ρ, h, η, S, re, p⟩ => ?_
  refine ⟨ρ, h, η, S, re, postG.first p fun ρ1 H1 h1 d x st1 S1 r1 p1 => ?_⟩
  refine ⟨ρ1, h1, η, S1, re.mono st1 S, postG.first p1 fun ρ2 H2 h2 ds xs st2 S2 r2 p2 => ?_⟩
  exact p2 ρ2 H2 _ (Step.refl _ _) S2 (.cons (r1.mono st2 S1) r2)
theorem k_tup {x1} (h : KA X ca W es ms) : KE X ca W (.Tuple es x1 pos) (Cd.eTup ms) := by
  refine PE.wk (pe_tup h) fun σ H Q ⟨ρ, h, η, S, re, p⟩ => ?_
  refine ⟨ρ, h, η, S, re, postG.first p fun ρ1 H1 h1 ds xs st1 S1 r1 p1 => ?_⟩
  split at p1
  · rename_i hl
    rw [line_eq, r1.length] at hl
    refine ⟨hl, fun q nq => ?_⟩
    exact p1 ρ1 _ _ (Step.out q _ nq) (S1.out nq) (.tup (SqT.of upd_same) (r1.mono (Step.out q _ nq) S1))
  · exact p1.elim
theorem k_lst (h : KA X ca W es ms) : KE X ca W (.List es pos) (Cd.eLst ms) := by
  refine PE.wk (pe_lst h) fun σ H Q ⟨ρ, h, η, S, re, p⟩ => ?_
  refine ⟨ρ, h, η, S, re, postG.first p fun ρ1 H1 h1 ds xs st1 S1 r1 p1 => ?_⟩
  split at p1
  · rename_i hl
    rw [line_eq, r1.length] at hl
    refine ⟨hl, fun q nq => ?_⟩
    have st := Step.lay (ρ := ρ1) q (.lst xs) nq
    exact p1 _ _ _ st (S1.lay nq ⟨xs, upd_same, r1.mono st S1⟩) (.ref (by rw [← S1.len, List.getElem?_append_right (Nat.le_refl _), Nat.sub_self]; rfl))
  · exact p1.elim
end
end Cb

set_option Elab.async false
set_option linter.all false
set_option maxRecDepth 100000
set_option maxHeartbeats 4000000
/-! CdB3: the bridge: operators, subscripts. -/
namespace Cb
open PySem PySem.Spec PyProof.Rows L2

theorem toS_app (s t : List Nat) : toS (s ++ t) = toS s ++ toS t := by
  show (⟨(s ++ t).toArray⟩ : Str) = ⟨s.toArray ++ t.toArray⟩
  simp
theorem toS_len (s : List Nat) : (toS s).length = s.length := rfl
theorem toS_inj {s t : List Nat} : (toS s = toS t) ↔ s = t := by
  constructor
  · intro e
    have := congrArg (fun z : Str => z.cps.toList) e
    simpa [toS] using this
  · rintro rfl; rfl

section
variable {X : Cx} {K : PySem.W.Frag}
/-- the ways of oAdd -/
theorem bf_add : BinF K Cd.oAdd (fun x y H Q => (rI0 fun i j => .int (i + j)) x y H Q ∨ (fun x y H Q => ∃ i j, x = V.str i ∧ y = V.str j ∧ i.length + j.length ≤ sizeLine ∧ Q (V.str (i ++ j)) H) x y H Q ∨ rCatT K x y H Q) := by
  intro ρ h H d e u x y Q S r1 r2 hu k
  unfold Cd.oAdd at hu
  split at hu
  · cases hu
    cases r1
    cases r2
    exact .inl ⟨_, _, rfl, rfl, k ρ H _ (Step.refl _ _) S (.int _)⟩
  · rename_i s t
    split at hu
    · rename_i hl
      cases hu
      cases r1
      cases r2
      rw [line_eq] at hl
      exact .inr (.inl ⟨_, _, rfl, rfl, hl, by rw [← toS_app]; exact k ρ H _ (Step.refl _ _) S (.str _)⟩)
    · cases hu
  · rename_i l m
    split at hu
    · cases hu
    · rename_i hn
      split at hu
      · rename_i hl
        cases hu
        cases r1 with
        | @tup a _ vs q1 t1 =>
          cases r2 with
          | @tup b _ ws q2 t2 =>
            rw [line_eq, t1.length, t2.length] at hl
            refine .inr (.inr ⟨a, b, vs, ws, rfl, rfl, q1, q2, ?_, hl, ?_, ?_⟩)
            · intro z
              subst z
              cases t1
              exact hn rfl
            · intro z
              subst z
              cases t2
              rw [List.append_nil] at k
              exact k ρ H _ (Step.refl _ _) S (.tup q1 t1)
            · intro _ p np
              have st := Step.out (ρ := ρ) p (.tup (vs ++ ws)) np
              exact k ρ _ _ st (S.out np) (.tup (SqT.of upd_same) (RVs.append (t1.mono st S) (t2.mono st S)))
      · cases hu
  · cases hu
theorem op_addA : OpR X (binaryOp .Add) (fun x y H Q => (rI0 fun i j => .int (i + j)) x y H Q ∨ (fun x y H Q => ∃ i j, x = V.str i ∧ y = V.str j ∧ i.length + j.length ≤ sizeLine ∧ Q (V.str (i ++ j)) H) x y H Q ∨ rCatT X.K x y H Q) :=
  op_add.or (op_add_str.or op_catT)
theorem bf_sub : BinF K Cd.oSub (rI0 fun i j => .int (i - j)) := by
  intro ρ h H d e u x y Q S r1 r2 hu k
  unfold Cd.oSub at hu
  split at hu
  · cases hu; cases r1; cases r2
    exact ⟨_, _, rfl, rfl, k ρ H _ (Step.refl _ _) S (.int _)⟩
  · cases hu
def CMulA (i j : Int) : Prop := CMul i j ∨ CMulW i j
theorem op_mulA : OpR X (binaryOp .Mult) (rI CMulA fun i j => .int (i * j)) := opI fun _ _ _ _ _ _ _ hc q => mul_int q (by rcases hc with hc | hc; exact hc.ok; exact hc.ok)
theorem iop_mulA : OpR X (inplaceOp .Mult) (rI CMulA fun i j => .int (i * j)) := opI fun _ _ _ _ _ _ _ hc q => imul_int q (by rcases hc with hc | hc; exact hc.ok; exact hc.ok)
theorem mulA_of {i j : Int} (h : Cd.mulOk i j) : CMulA i j := by
  rcases h with h | h | h
  · exact .inl (.inl h)
  · exact .inl (.inr h)
  · exact .inr h
theorem bf_mul : BinF K Cd.oMul (rI CMulA fun i j => .int (i * j)) := by
  intro ρ h H d e u x y Q S r1 r2 hu k
  unfold Cd.oMul at hu
  split at hu
  · split at hu
    · rename_i hm
      cases hu; cases r1; cases r2
      exact ⟨_, _, rfl, rfl, mulA_of hm, k ρ H _ (Step.refl _ _) S (.int _)⟩
    · cases hu
  · cases hu
theorem bf_div : BinF K Cd.oDiv (rI CDivW fun i j => .int (i / j)) := by
  intro ρ h H d e u x y Q S r1 r2 hu k
  unfold Cd.oDiv at hu
  split at hu
  · split at hu
    · rename_i hm
      cases hu; cases r1; cases r2
      exact ⟨_, _, rfl, rfl, hm, k ρ H _ (Step.refl _ _) S (.int _)⟩
    · cases hu
  · cases hu
theorem bf_mod : BinF K Cd.oMod (rI (fun _ j => 0 < j) fun i j => .int (i % j)) := by
  intro ρ h H d e u x y Q S r1 r2 hu k
  unfold Cd.oMod at hu
  split at hu
  · split at hu
    · rename_i hm
      cases hu; cases r1; cases r2
      exact ⟨_, _, rfl, rfl, hm, k ρ H _ (Step.refl _ _) S (.int _)⟩
    · cases hu
  · cases hu
theorem bf_pow : BinF K Cd.oPow (rI CPow fun i j => .int (i ^ j.toNat)) := by
  intro ρ h H d e u x y Q S r1 r2 hu k
  unfold Cd.oPow at hu
  split at hu
  · split at hu
    · rename_i hm
      cases hu; cases r1; cases r2
      exact ⟨_, _, rfl, rfl, hm, k ρ H _ (Step.refl _ _) S (.int _)⟩
    · cases hu
  · cases hu
theorem uf_neg : UnF K Cd.oNeg (rU fun i => .int (-i)) := by
  intro ρ h H d u x Q S r1 hu k
  unfold Cd.oNeg at hu
  split at hu
  · cases hu; cases r1
    exact ⟨_, rfl, k ρ H _ (Step.refl _ _) S (.int _)⟩
  · cases hu
/-! ### comparisons -/
abbrev rStr (p : List Nat → List Nat → Bool) : R2 := fun x y H Q => ∃ i j : Str, x = .str i ∧ y = .str j ∧ Q (.bl (p i.cps.toList j.cps.toList)) H
theorem bf_ord {f : Cd.Hep → Cd.Val → Cd.Val → Option Cd.Val} {p : Int → Int → Bool} {q : List Nat → List Nat → Bool} (hi : ∀ h i j, f h (.int i) (.int j) = some (.bl (p i j))) (hs : ∀ h i j, f h (.str i) (.str j) = some (.bl (q i j)))
    (hn : ∀ h a b u, f h a b = some u → (∃ i j, a = .int i ∧ b = .int j) ∨ ∃ i j, a = .str i ∧ b = .str j) : BinF K f (fun x y H Q => (rI0 fun i j => .bl (p i j)) x y H Q ∨ rStr q x y H Q) := by
  intro ρ h H d e u x y Q S r1 r2 hu k
  rcases hn h d e u hu with ⟨i, j, rfl, rfl⟩ | ⟨i, j, rfl, rfl⟩
  · rw [hi] at hu; cases hu; cases r1; cases r2
    exact .inl ⟨_, _, rfl, rfl, k ρ H _ (Step.refl _ _) S (.bl _)⟩
  · rw [hs] at hu; cases hu; cases r1; cases r2
    exact .inr ⟨_, _, rfl, rfl, k ρ H _ (Step.refl _ _) S (.bl _)⟩
theorem bf_lt : BinF K Cd.oLt (fun x y H Q => (rI0 fun i j => .bl (decide (i < j))) x y H Q ∨ rStr (fun i j => decide (i < j)) x y H Q) := bf_ord (fun _ _ _ => rfl) (fun _ _ _ => rfl) fun h a b u e => by
  unfold Cd.oLt at e
  split at e
  · exact .inl ⟨_, _, rfl, rfl⟩
  · exact .inr ⟨_, _, rfl, rfl⟩
  · cases e
theorem bf_le : BinF K Cd.oLe (fun x y H Q => (rI0 fun i j => .bl (decide (i ≤ j))) x y H Q ∨ rStr (fun i j => !decide (j < i)) x y H Q) := bf_ord (fun _ _ _ => rfl) (fun _ _ _ => rfl) fun h a b u e => by
  unfold Cd.oLe at e
  split at e
  · exact .inl ⟨_, _, rfl, rfl⟩
  · exact .inr ⟨_, _, rfl, rfl⟩
  · cases e
theorem bf_gt : BinF K Cd.oGt (fun x y H Q => (rI0 fun i j => .bl (decide (j < i))) x y H Q ∨ rStr (fun i j => decide (j < i)) x y H Q) := bf_ord (fun _ _ _ => rfl) (fun _ _ _ => rfl) fun h a b u e => by
  unfold Cd.oGt at e
  split at e
  · exact .inl ⟨_, _, rfl, rfl⟩
  · exact .inr ⟨_, _, rfl, rfl⟩
  · cases e
theorem bf_ge : BinF K Cd.oGe (fun x y H Q => (rI0 fun i j => .bl (decide (j ≤ i))) x y H Q ∨ rStr (fun i j => !decide (i < j)) x y H Q) := bf_ord (fun _ _ _ => rfl) (fun _ _ _ => rfl) fun h a b u e => by
  unfold Cd.oGe at e
  split at e
  · exact .inl ⟨_, _, rfl, rfl⟩
  · exact .inr ⟨_, _, rfl, rfl⟩
  · cases e
theorem op_ltA : OpR X (compareOp .Lt) (fun x y H Q => (rI0 fun i j => .bl (decide (i < j))) x y H Q ∨ rStr (fun i j => decide (i < j)) x y H Q) := op_lt.or op_lt_str
theorem op_leA : OpR X (compareOp .LtE) (fun x y H Q => (rI0 fun i j => .bl (decide (i ≤ j))) x y H Q ∨ rStr (fun i j => !decide (j < i)) x y H Q) := op_le.or op_le_str
theorem op_gtA : OpR X (compareOp .Gt) (fun x y H Q => (rI0 fun i j => .bl (decide (j < i))) x y H Q ∨ rStr (fun i j => decide (j < i)) x y H Q) := op_gt.or op_gt_str
theorem op_geA : OpR X (compareOp .GtE) (fun x y H Q => (rI0 fun i j => .bl (decide (j ≤ i))) x y H Q ∨ rStr (fun i j => !decide (i < j)) x y H Q) := op_ge.or op_ge_str
/-! ### data -/
mutual
def toP : Cd.Dat → PyData
  | .non => .none
  | .bl b => .bool b
  | .int i => .int i
  | .str s => .str (toS s)
  | .lst l => .list (toPs l)
  | .tup l => .tuple (toPs l)
def toPs : List Cd.Dat → List PyData
  | [] => []
  | d :: l => toP d :: toPs l
end
mutual
theorem toP_eqv : ∀ a b : Cd.Dat, PyData.eqv (toP a) (toP b) = a.eqv b
  | .non, b => by cases b <;> simp only [toP, PyData.eqv, Cd.Dat.eqv]
  | .bl _, b => by cases b <;> simp only [toP, PyData.eqv, Cd.Dat.eqv]
  | .int _, b => by cases b <;> simp only [toP, PyData.eqv, Cd.Dat.eqv]
  | .str s, b => by
    cases b with
    | str t =>
      simp only [toP, PyData.eqv, Cd.Dat.eqv]
      rw [Bool.eq_iff_iff, beq_iff_eq, beq_iff_eq]
      exact toS_inj
    | _ => simp only [toP, PyData.eqv, Cd.Dat.eqv]
  | .lst l, b => by
    cases b with
    | lst m => simp only [toP, PyData.eqv, Cd.Dat.eqv]; exact toPs_eqv l m
    | _ => simp only [toP, PyData.eqv, Cd.Dat.eqv]
  | .tup l, b => by
    cases b with
    | tup m => simp only [toP, PyData.eqv, Cd.Dat.eqv]; exact toPs_eqv l m
    | _ => simp only [toP, PyData.eqv, Cd.Dat.eqv]
theorem toPs_eqv : ∀ l m : List Cd.Dat, PyData.eqvAll (toPs l) (toPs m) = Cd.Dat.eqvs l m
  | [], [] => rfl
  | [], _ :: _ => rfl
  | _ :: _, [] => rfl
  | a :: l, b :: m => by simp only [toPs, PyData.eqvAll, Cd.Dat.eqvs, toP_eqv a b, toPs_eqv l m]
end
section
variable {ρ : List Addr} {h : Cd.Hep} {H : Hp}
mutual
theorem rsl_dp (S : Sim K ρ h H) : ∀ (n : Nat) (d : Cd.Val) (x : V) (t : Cd.Dat), RV K ρ H d x → Cd.rsl h n d = some t → Dp K H x (toP t) ∧ PyData.canLay0 (toP t) = true ∧ PyData.depth (toP t) ≤ n
  | n, .non, x, t, r, e => by
    cases r; simp only [Cd.rsl, Option.some.injEq] at e; subst e
    exact ⟨.non, rfl, Nat.zero_le _⟩
  | n, .bl b, x, t, r, e => by
    cases r; simp only [Cd.rsl, Option.some.injEq] at e; subst e
    exact ⟨.bl b, rfl, Nat.zero_le _⟩
  | n, .int i, x, t, r, e => by
    cases r; simp only [Cd.rsl, Option.some.injEq] at e; subst e
    exact ⟨.int i, rfl, Nat.zero_le _⟩
  | n, .str s, x, t, r, e => by
    cases r
    simp only [Cd.rsl] at e
    split at e
    · rename_i hs
      cases e
      refine ⟨.str _, ?_, Nat.zero_le _⟩
      show ((toS s).cps.all fun c => decide (c < 0x110000)) = true
      rw [toS, List.all_toArray, List.all_eq_true]
      exact fun c hc => decide_eq_true (hs c hc)
    · cases e
  | 0, .tup l, x, t, r, e => by simp only [Cd.rsl] at e; cases e
  | 0, .fl l, x, t, r, e => by simp only [Cd.rsl] at e; cases e
  | 0, .ref a, x, t, r, e => by simp only [Cd.rsl] at e; cases e
  | 0, .exo a, x, t, r, e => by simp only [Cd.rsl] at e; cases e
  | n + 1, .exo a, x, t, r, e => by simp only [Cd.rsl] at e; cases e
  | n + 1, .tup l, x, t, r, e => by
    cases r with
    | tup q rs =>
      simp only [Cd.rsl] at e
      cases el : Cd.rsls h n l with
      | none => rw [el] at e; cases e
      | some ts =>
        rw [el] at e; cases e
        obtain ⟨a, b, c⟩ := rsls_dp S n l _ ts rs el
        exact ⟨.tup q a, b, by show PyData.depthAll _ + 1 ≤ _; omega⟩
  | n + 1, .fl l, x, t, r, e => by
    cases r with
    | fl q rs =>
      simp only [Cd.rsl] at e
      cases el : Cd.rsls h n l with
      | none => rw [el] at e; cases e
      | some ts =>
        rw [el] at e; cases e
        obtain ⟨a, b, c⟩ := rsls_dp S n l _ ts rs el
        exact ⟨.lst q.sq a, b, by show PyData.depthAll _ + 1 ≤ _; omega⟩
  | n + 1, .ref i, x, t, r, e => by
    cases r with
    | @ref _ a q =>
      simp only [Cd.rsl] at e
      split at e
      · rename_i l hl
        obtain ⟨vs, e1, rs⟩ := S.obj i _ a hl q
        cases el : Cd.rsls h n l with
        | none => rw [el] at e; cases e
        | some ts =>
          rw [el] at e; cases e
          obtain ⟨a, b, c⟩ := rsls_dp S n l _ ts rs el
          exact ⟨.lst (SqL.of e1) a, b, by show PyData.depthAll _ + 1 ≤ _; omega⟩
      · cases e
theorem rsls_dp (S : Sim K ρ h H) : ∀ (n : Nat) (ds : List Cd.Val) (xs : List V) (ts : List Cd.Dat), RVs K ρ H ds xs → Cd.rsls h n ds = some ts → DpAll K H xs (toPs ts) ∧ PyData.canLayAll0 (toPs ts) = true ∧ PyData.depthAll (toPs ts) ≤ n
  | n, [], xs, ts, r, e => by
    cases r; simp only [Cd.rsls, Option.some.injEq] at e; subst e
    exact ⟨.nil, rfl, Nat.zero_le _⟩
  | n, d :: ds, xs, ts, r, e => by
    cases r with
    | cons r1 r2 =>
      simp only [Cd.rsls] at e
      cases e1 : Cd.rsl h n d with
      | none => rw [e1] at e; cases e
      | some t =>
        rw [e1] at e
        simp only at e
        cases e2 : Cd.rsls h n ds with
        | none => rw [e2] at e; cases e
        | some us =>
          rw [e2] at e; cases e
          obtain ⟨a, b, c⟩ := rsl_dp S n d _ t r1 e1
          obtain ⟨a', b', c'⟩ := rsls_dp S n ds _ us r2 e2
          refine ⟨.cons a a', ?_, ?_⟩
          · show (_ && _) = true
            rw [b, b']; rfl
          · show max _ _ ≤ n
            exact Nat.max_le.mpr ⟨c, c'⟩
end
end
theorem shaped_of {t : Cd.Dat} (h1 : PyData.canLay0 (toP t) = true) (h2 : PyData.depth (toP t) ≤ 40) : SeqAt.shaped (toP t) = true := by
  show (_ && decide _) = true
  rw [h1, Bool.true_and]
  exact decide_eq_true (by omega)
theorem scl_of {ρ : List Addr} {H : Hp} {d e : Cd.Val} {x y : V} {k : Bool} (r1 : RV K ρ H d x) (r2 : RV K ρ H e y) (h : Cd.scl d e = some k) : scal x y = true ∧ decide (x = y) = k := by
  cases r1 <;> cases r2 <;> simp only [Cd.scl, Option.some.injEq, reduceCtorEq] at h <;> subst h <;> refine ⟨rfl, ?_⟩ <;> try simp
  · rename_i a b
    cases a <;> cases b <;> rfl
  · rw [Bool.eq_iff_iff]; simp
  · rw [Bool.eq_iff_iff]; simp [toS_inj]
theorem bf_eq : BinF K Cd.oEq (fun x y H Q => rEq x y H Q ∨ rEqD K x y H Q) := by
  intro ρ h H d e u x y Q S r1 r2 hu k
  unfold Cd.oEq Cd.vEq at hu
  cases es : Cd.scl d e with
  | some b =>
    rw [es] at hu; cases hu
    obtain ⟨h1, h2⟩ := scl_of r1 r2 es
    exact .inl ⟨h1, by rw [h2]; exact k ρ H _ (Step.refl _ _) S (.bl _)⟩
  | none =>
    rw [es] at hu
    simp only at hu
    split at hu
    · rename_i t1 t2 e1 e2
      cases hu
      obtain ⟨a, b, c⟩ := rsl_dp S _ _ _ _ r1 e1
      obtain ⟨a', b', c'⟩ := rsl_dp S _ _ _ _ r2 e2
      refine .inr ⟨_, _, a, a', shaped_of b c, shaped_of b' c', ?_⟩
      rw [toP_eqv]
      exact k ρ H _ (Step.refl _ _) S (.bl _)
    · cases hu
theorem bf_ne : BinF K Cd.oNe (fun x y H Q => rNe x y H Q ∨ rNeD K x y H Q) := by
  intro ρ h H d e u x y Q S r1 r2 hu k
  unfold Cd.oNe Cd.vEq at hu
  cases es : Cd.scl d e with
  | some b =>
    rw [es] at hu; cases hu
    obtain ⟨h1, h2⟩ := scl_of r1 r2 es
    exact .inl ⟨h1, by rw [h2]; exact k ρ H _ (Step.refl _ _) S (.bl _)⟩
  | none =>
    rw [es] at hu
    simp only at hu
    split at hu
    · rename_i t1 t2 e1 e2
      cases hu
      obtain ⟨a, b, c⟩ := rsl_dp S _ _ _ _ r1 e1
      obtain ⟨a', b', c'⟩ := rsl_dp S _ _ _ _ r2 e2
      refine .inr ⟨_, _, a, a', shaped_of b c, shaped_of b' c', ?_⟩
      rw [toP_eqv]
      exact k ρ H _ (Step.refl _ _) S (.bl _)
    · cases hu
theorem op_eqA (hu : X.A.units + 64 < cLine) : OpR X (compareOp .Eq) (fun x y H Q => rEq x y H Q ∨ rEqD X.K x y H Q) := op_eq.or (op_eqD hu)
theorem op_neA (hu : X.A.units + 64 < cLine) : OpR X (compareOp .NotEq) (fun x y H Q => rNe x y H Q ∨ rNeD X.K x y H Q) := op_ne.or (op_neD hu)
theorem isNon_of {ρ : List Addr} {H : Hp} {d : Cd.Val} {x : V} (r : RV K ρ H d x) : decide (x = .non) = Cd.isNon d := by cases r <;> rfl
theorem bf_isN : BinF K Cd.oIsN (fun x y H Q => y = .non ∧ Q (.bl (decide (x = .non))) H) := by
  intro ρ h H d e u x y Q S r1 r2 hu k
  unfold Cd.oIsN at hu
  split at hu
  · cases hu; cases r2
    exact ⟨rfl, by rw [isNon_of r1]; exact k ρ H _ (Step.refl _ _) S (.bl _)⟩
  · cases hu
theorem bf_notN : BinF K Cd.oNotN (fun x y H Q => y = .non ∧ Q (.bl (!decide (x = .non))) H) := by
  intro ρ h H d e u x y Q S r1 r2 hu k
  unfold Cd.oNotN at hu
  split at hu
  · cases hu; cases r2
    exact ⟨rfl, by rw [isNon_of r1]; exact k ρ H _ (Step.refl _ _) S (.bl _)⟩
  · cases hu
/-! ### subscripts -/
theorem atI_eq {α : Type} (xs : List α) (i : Int) : L2.atI xs i = Cd.atI xs i := rfl
theorem atI_rv {ρ : List Addr} {H : Hp} {ds : List Cd.Val} {vs : List V} {i : Int} {d : Cd.Val} (r : RVs K ρ H ds vs) (e : Cd.atI ds i = some d) : ∃ v, L2.atI vs i = some v ∧ RV K ρ H d v := by
  unfold Cd.atI at e
  unfold L2.atI
  rw [show L2.ixN vs.length i = Cd.ixN ds.length i from by rw [r.length]; rfl]
  cases q : Cd.ixN ds.length i with
  | none => rw [q] at e; cases e
  | some j =>
    rw [q] at e
    exact r.get e
theorem bf_idx : BinF K Cd.oIdx (rIx K) := by
  intro ρ h H d e u x y Q S r1 r2 hu k
  unfold Cd.oIdx at hu
  split at hu
  · cases r1 with
    | tup q rs =>
      cases r2
      obtain ⟨v, e1, r⟩ := atI_rv rs hu
      exact .inr (.inl ⟨_, _, _, v, rfl, rfl, q, e1, k ρ H _ (Step.refl _ _) S r⟩)
  · cases r1 with
    | fl q rs =>
      cases r2
      obtain ⟨v, e1, r⟩ := atI_rv rs hu
      exact .inl ⟨_, _, _, v, rfl, rfl, q.sq, e1, k ρ H _ (Step.refl _ _) S r⟩
  · rename_i s i
    split at hu
    · rename_i hl
      cases ec : Cd.atI s i with
      | none => rw [ec] at hu; cases hu
      | some c =>
        rw [ec] at hu; cases hu
        cases r1; cases r2
        rw [line_eq] at hl
        exact .inr (.inr ⟨_, _, c, rfl, rfl, hl, ec, k ρ H _ (Step.refl _ _) S (.str [c])⟩)
    · cases hu
  · split at hu
    · rename_i l hl
      cases r1 with
      | ref q =>
        cases r2
        obtain ⟨vs, e1, rs⟩ := S.obj _ _ _ hl q
        obtain ⟨v, e2, r⟩ := atI_rv rs hu
        exact .inl ⟨_, _, _, v, rfl, rfl, SqL.of e1, e2, k ρ H _ (Step.refl _ _) S r⟩
    · cases hu
  · cases hu
theorem k_idx {ca : String → Value} {W : WX} {a b : Expr} {ma mb : Cd.EM} {pos : Pos} (ha : KE X ca W a ma) (hb : KE X ca W b mb) (hs : PlainIx b := by exact fun _ _ => rfl) : KE X ca W (.Subscript a b pos) (Cd.eBin Cd.oIdx ma mb) :=
  PE.wk (pe_ix ix_seq ha hb hs) (tOp_of bf_idx)
end
end Cb

set_option Elab.async false
set_option linter.all false
set_option maxRecDepth 100000
set_option maxHeartbeats 4000000
/-! CdB4: the bridge: statements, loops, defs. -/
namespace Cb
open PySem PySem.Spec PyProof.Rows L2

section
variable (K : PySem.W.Frag) (ca : String → Value) (W : WX)
/-- what is wanted behind a statement's reading -/
def postS (ρ : List Addr) (H : Hp) (r : Cd.SR) (D : Ends) : Prop :=
  match r with
  | .nx η' h' => ∀ ρ' H' σ', Step ρ H ρ' H' → Sim K ρ' h' H' → RE K ρ' H' η' σ' → D.nx σ' H'
  | .brk η' h' => ∀ ρ' H' σ', Step ρ H ρ' H' → Sim K ρ' h' H' → RE K ρ' H' η' σ' → D.bk σ' H'
  | .cont η' h' => ∀ ρ' H' σ', Step ρ H ρ' H' → Sim K ρ' h' H' → RE K ρ' H' η' σ' → D.ct σ' H'
  | .ret v h' => ∀ ρ' H' x, Step ρ H ρ' H' → Sim K ρ' h' H' → RV K ρ' H' v x → D.rt x H'
  | .exc e η' h' => ∀ ρ' H' cls d σ', Step ρ H ρ' H' → Sim K ρ' h' H' → RE K ρ' H' η' σ' → RX K ca ρ' H' e cls d → W cls d σ' H'
  | .stuck => False
def tS (m : Cd.SM) : TS := fun D σ H => ∃ ρ h η, Sim K ρ h H ∧ RE K ρ H η σ ∧ postS K ca W ρ H (m η h) D
def tG (g : Cd.GM) : TG := fun x σ H Q => ∃ ρ h η d η', Sim K ρ h H ∧ RE K ρ H η σ ∧ RV K ρ H d x ∧ g d η = some η' ∧ ∀ σ', RE K ρ H η' σ' → Q σ' H
def tGs (g : Cd.GMs) : TGs := fun xs σ H Q => ∃ ρ h η ds η', Sim K ρ h H ∧ RE K ρ H η σ ∧ RVs K ρ H ds xs ∧ g ds η = some η' ∧ ∀ σ', RE K ρ H η' σ' → Q σ' H
end
abbrev KS (X : Cx) (ca : String → Value) (W : WX) (st : Stmt) (m : Cd.SM) : Prop := PS X st (tS X.K ca W m)
abbrev KSs (X : Cx) (ca : String → Value) (W : WX) (st : List Stmt) (m : Cd.SM) : Prop := PSs X st (tS X.K ca W m)
abbrev KG (X : Cx) (tg : Expr) (g : Cd.GM) : Prop := PG X tg (tG X.K g)
abbrev KGs (X : Cx) (ts : List Expr) (g : Cd.GMs) : Prop := PGs X ts (tGs X.K g)

section
variable {K : PySem.W.Frag} {ca : String → Value} {W : WX} {ρ ρ1 : List Addr} {H H1 : Hp} {σ : L2.St} {h : Cd.Hep} {η : Cd.Env}
theorem postS.mono {r : Cd.SR} {D : Ends} (st : Step ρ H ρ1 H1) (p : postS K ca W ρ H r D) : postS K ca W ρ1 H1 r D := by
  cases r with
  | nx η' h' => exact fun ρ' H' σ' s2 S q => p ρ' H' σ' (st.trans s2) S q
  | brk η' h' => exact fun ρ' H' σ' s2 S q => p ρ' H' σ' (st.trans s2) S q
  | cont η' h' => exact fun ρ' H' σ' s2 S q => p ρ' H' σ' (st.trans s2) S q
  | ret v h' => exact fun ρ' H' x s2 S q => p ρ' H' x (st.trans s2) S q
  | exc e η' h' => exact fun ρ' H' cls d σ' s2 S q => p ρ' H' cls d σ' (st.trans s2) S q
  | stuck => exact p
/-- an expression within a statement -/
theorem postS.first {α β : Type} {R : List Addr → Hp → α → β → Prop} {r : Cd.Res α} {f : α → Cd.Hep → Cd.SR} {D : Ends} {C : β → Hp → Prop} (S0 : Sim K ρ h H) (re : RE K ρ H η σ) (p : postS K ca W ρ H (r.thn η f) D)
    (c : ∀ ρ1 H1 h1 v x, Step ρ H ρ1 H1 → Sim K ρ1 h1 H1 → R ρ1 H1 v x → RE K ρ1 H1 η σ → postS K ca W ρ1 H1 (f v h1) D → C x H1) : postG K ca W R ρ H σ r C := by
  cases r with
  | ok v h' => exact fun ρ' H' x st S q => c ρ' H' h' v x st S q (re.mono st S0) (postS.mono st p)
  | exc e h' => exact fun ρ' H' cls d st S q => p ρ' H' cls d σ st S (re.mono st S0) q
  | stuck => exact p.elim
/-- a statement ahead of another -/
theorem postS.seq {r : Cd.SR} {f : Cd.Env → Cd.Hep → Cd.SR} {D : Ends} {C : L2.St → Hp → Prop} (p : postS K ca W ρ H (r.bind f) D)
    (c : ∀ ρ1 H1 h1 η1 σ1, Step ρ H ρ1 H1 → Sim K ρ1 h1 H1 → RE K ρ1 H1 η1 σ1 → postS K ca W ρ1 H1 (f η1 h1) D → C σ1 H1) : postS K ca W ρ H r { D with nx := C } := by
  cases r with
  | nx η' h' => exact fun ρ' H' σ' st S q => c ρ' H' h' η' σ' st S q (postS.mono st p)
  | brk η' h' => exact p
  | cont η' h' => exact p
  | ret v h' => exact p
  | exc e η' h' => exact p
  | stuck => exact p
end

section
variable {X : Cx} {ca : String → Value} {W : WX} {a b c e : Expr} {ma mb me : Cd.EM} {pos : Pos} {st : Stmt} {rest : List Stmt} {ms mt : Cd.SM}
theorem ks_wk_nx {t : TS} (h : PS X st t) (k : ∀ D σ H, D.nx σ H → t D σ H) : KS X ca W st Cd.sNop := PS.wk h fun D σ H ⟨ρ, h, η, S, re, p⟩ => k D σ H (p ρ H σ (Step.refl _ _) S re)
theorem ks_pass : KS X ca W (.Pass pos) Cd.sNop := ks_wk_nx ps_pass fun _ _ _ h => h
theorem ks_doc {x j pos pos'} : KS X ca W (.Expr (.Constant (.str x) j pos) pos') Cd.sNop := ks_wk_nx ps_doc fun _ _ _ h => h
theorem ks_break : KS X ca W (.Break pos) Cd.sBrk := PS.wk ps_break fun D σ H ⟨ρ, h, η, S, re, p⟩ => p ρ H σ (Step.refl _ _) S re
theorem ks_continue : KS X ca W (.Continue pos) Cd.sCont := PS.wk ps_continue fun D σ H ⟨ρ, h, η, S, re, p⟩ => p ρ H σ (Step.refl _ _) S re
theorem kss_nil : KSs X ca W [] Cd.sNop := PSs.wk pss_nil fun D σ H ⟨ρ, h, η, S, re, p⟩ => p ρ H σ (Step.refl _ _) S re
theorem kss_one (h : KS X ca W st ms) : KSs X ca W [st] ms := pss_one h
theorem kss_cons (h1 : KS X ca W st ms) (h2 : KSs X ca W rest mt) : KSs X ca W (st :: rest) (Cd.sSeq ms mt) := by
  refine PSs.wk (pss_cons h1 h2) fun D σ H ⟨ρ, h, η, S, re, p⟩ => ?_
  exact ⟨ρ, h, η, S, re, postS.seq p fun ρ1 H1 h1 η1 σ1 st1 S1 re1 p1 => ⟨ρ1, h1, η1, S1, re1, p1⟩⟩
theorem ks_expr (he : KE X ca W e me) (hs : swapsWith e none pos.line X.env = pure false := by rfl) : KS X ca W (.Expr e pos) (Cd.sExpr me) := by
  refine PS.wk (ps_expr he hs) fun D σ H ⟨ρ, h, η, S, re, p⟩ => ?_
  exact ⟨ρ, h, η, S, re, postS.first S re p fun ρ1 H1 h1 v x st1 S1 r1 re1 p1 => p1 ρ1 H1 σ (Step.refl _ _) S1 re1⟩
theorem ks_ret (he : KE X ca W e me) : KS X ca W (.Return (some e) pos) (Cd.sRet me) := by
  refine PS.wk (ps_ret he) fun D σ H ⟨ρ, h, η, S, re, p⟩ => ?_
  exact ⟨ρ, h, η, S, re, postS.first S re p fun ρ1 H1 h1 v x st1 S1 r1 re1 p1 => p1 ρ1 H1 x (Step.refl _ _) S1 r1⟩
theorem ks_retN : KS X ca W (.Return none pos) Cd.sRetN := PS.wk ps_retN fun D σ H ⟨ρ, h, η, S, re, p⟩ => p ρ H .non (Step.refl _ _) S .non
theorem ks_if {tc : Cd.TM} {sa sb : List Stmt} (hc : KT X ca W c tc) (ha : KSs X ca W sa ms) (hb : KSs X ca W sb mt) : KS X ca W (.If c sa sb pos) (Cd.sIf tc ms mt) := by
  refine PS.wk (ps_if hc ha hb) fun D σ H ⟨ρ, h, η, S, re, p⟩ => ?_
  refine ⟨ρ, h, η, S, re, postS.first S re p fun ρ1 H1 h1 k x st1 S1 r1 re1 p1 => ?_⟩
  cases (show k = x from r1)
  cases k with
  | true => exact ⟨ρ1, h1, η, S1, re1, p1⟩
  | false => exact ⟨ρ1, h1, η, S1, re1, p1⟩
theorem ks_set (i : Nat) {x : Str} {pos' : Pos} (hN : X.N.Nodup) (he : KE X ca W e me) (hi : X.N[i]? = some x := by rfl) (hx : Loc X.env.scope x := by first | exact Or.inl rfl | exact Or.inr rfl) (hs : swapsWith e (some (.Name x pos')) pos.line X.env = pure false := by rfl)
    (hf : X.fn x = true ∨ X.env.scope.names.lookup x = some .local := by first | exact .inl rfl | exact .inr rfl | assumption) : KS X ca W (.Assign [.Name x pos'] e pos) (Cd.sSet i me) := by
  refine PS.wk (ps_set hN hi hx he hs hf) fun D σ H ⟨ρ, h, η, S, re, p⟩ => ?_
  refine ⟨ρ, h, η, S, re, postS.first S re p fun ρ1 H1 h1 v x st1 S1 r1 re1 p1 => ?_⟩
  exact p1 ρ1 H1 _ (Step.refl _ _) S1 (re1.set r1 i)
/-! ### targets -/
theorem PG.wk {tg : Expr} {t t' : TG} (h : PG X tg t) (k : ∀ v σ H Q, t' v σ H Q → t v σ H Q) : PG X tg t' := ⟨fun pins s σ H v u Q I r hw => h.run pins s σ H v u Q I r (k _ _ _ _ hw)⟩
theorem PGs.wk {ts : List Expr} {t t' : TGs} (h : PGs X ts t) (k : ∀ v σ H Q, t' v σ H Q → t v σ H Q) : PGs X ts t' := ⟨fun pins s σ H v u Q I r hw => h.run pins s σ H v u Q I r (k _ _ _ _ hw)⟩
theorem kg_name (i : Nat) {x : Str} (hN : X.N.Nodup) (hi : X.N[i]? = some x := by rfl) (hx : Loc X.env.scope x := by first | exact Or.inl rfl | exact Or.inr rfl) (hf : X.fn x = true ∨ X.env.scope.names.lookup x = some .local := by first | exact .inl rfl | exact .inr rfl | assumption) :
    KG X (.Name x pos) (Cd.gNam i) := by
  refine PG.wk (pg_name hN hi hx hf) fun v σ H Q ⟨ρ, h, η, d, η', S, re, r, e, k⟩ => ?_
  cases e
  exact k _ (re.set r i)
theorem kgs_nil : KGs X [] Cd.gsNil := by
  refine PGs.wk pgs_nil fun vs σ H Q ⟨ρ, h, η, ds, η', S, re, r, e, k⟩ => ?_
  cases r with
  | nil => cases e; exact ⟨rfl, k _ re⟩
  | cons _ _ => cases e
theorem kgs_cons {t : Expr} {ts : List Expr} {g : Cd.GM} {gs : Cd.GMs} (h1 : KG X t g) (h2 : KGs X ts gs) (hs : (assignEach (t :: ts) X.env).map (·.2) = assign t X.env :: (assignEach ts X.env).map (·.2) := by rfl) : KGs X (t :: ts) (Cd.gsCons g gs) := by
  refine PGs.wk (pgs_cons h1 h2 hs) fun vs σ H Q ⟨ρ, h, η, ds, η', S, re, r, e, k⟩ => ?_
  cases r with
  | nil => cases e
  | @cons d v ds vs r1 r2 =>
    simp only [Cd.gsCons] at e
    cases eg : g d η with
    | none => rw [eg] at e; cases e
    | some η1 =>
      rw [eg] at e
      exact ⟨v, vs, rfl, ρ, h, η, d, η1, S, re, r1, eg, fun σ1 re1 => ⟨ρ, h, η1, ds, η', S, re1, r2, e, k⟩⟩
theorem gs_len : ∀ {ts : List Expr} {gs : Cd.GMs}, (∀ ds η η', gs ds η = some η' → ds.length = ts.length) → True := fun _ => trivial
theorem kg_tup {ts : List Expr} {kk : Nat} {gs : Cd.GMs} {n : Nat} (hc : X.calm = true) (h : KGs X ts gs) (hl : ∀ ds η η', gs ds η = some η' → ds.length = n)
    (hn : (assignEach ts X.env).length = n := by rfl) (hst : (assignEach ts X.env).findIdx? (·.1) = none := by rfl) : KG X (.Tuple ts kk pos) (Cd.gTpl gs) := by
  refine PG.wk (pg_tup hc h hn hst) fun v σ H Q ⟨ρ, h, η, d, η', S, re, r, e, k⟩ => ?_
  cases r with
  | tup q rs =>
    refine ⟨_, _, rfl, q, by rw [← rs.length]; exact hl _ _ _ e, ρ, h, η, _, η', S, re, rs, e, k⟩
  | _ => cases e
theorem gl_nil : ∀ ds η η', Cd.gsNil ds η = some η' → ds.length = 0 := fun ds η η' e => by
  cases ds with
  | nil => rfl
  | cons => cases e
theorem gl_cons {g : Cd.GM} {gs : Cd.GMs} {n : Nat} (h : ∀ ds η η', gs ds η = some η' → ds.length = n) : ∀ ds η η', Cd.gsCons g gs ds η = some η' → ds.length = n + 1 := fun ds η η' e => by
  cases ds with
  | nil => cases e
  | cons d ds =>
    simp only [Cd.gsCons] at e
    cases eg : g d η with
    | none => rw [eg] at e; cases e
    | some η1 => rw [eg] at e; rw [List.length_cons, h _ _ _ e]
theorem ks_asg {tg : Expr} {g : Cd.GM} (he : KE X ca W e me) (hg : KG X tg g) (hs : swapsWithSole [tg] e pos.line X.env = pure false := by rfl) (hw : swappedStores [tg] e X.env = pure none := by rfl) (h1 : (assignEach [tg] X.env).map (·.2) = [assign tg X.env] := by rfl) : KS X ca W (.Assign [tg] e pos) (Cd.sAsg g me) := by
  refine PS.wk (ps_asg he hg hs hw h1) fun D σ H ⟨ρ, h, η, S, re, p⟩ => ?_
  refine ⟨ρ, h, η, S, re, postS.first S re p fun ρ1 H1 h1 v x st1 S1 r1 re1 p1 => ?_⟩
  cases eg : g v η with
  | none => rw [eg] at p1; exact p1.elim
  | some η1 =>
    rw [eg] at p1
    exact ⟨ρ1, h1, η, v, η1, S1, re1, r1, eg, fun σ' re' => p1 ρ1 H1 σ' (Step.refl _ _) S1 re'⟩
/-! ### x op= e -/
theorem ks_aug (i : Nat) {x : Str} {op : Operator} {f : Cd.Hep → Cd.Val → Cd.Val → Option Cd.Val} {r : R2} {pos' : Pos} (ho : OpR X (inplaceOp op) r) (hf : BinF X.K f r) (hN : X.N.Nodup) (he : KE X ca W e me) (hi : X.N[i]? = some x := by rfl) (hx : Loc X.env.scope x := by first | exact Or.inl rfl | exact Or.inr rfl)
    (hff : X.fn x = true ∨ X.env.scope.names.lookup x = some .local := by first | exact .inl rfl | exact .inr rfl | assumption) : KS X ca W (.AugAssign (.Name x pos') op e pos) (Cd.sAug i f me) := by
  refine PS.wk (ps_aug (ti := r) hN hi hx he ho hff) fun D σ H ⟨ρ, h, η, S, re, p⟩ => ?_
  unfold Cd.sAug at p
  split at p
  · rename_i d ed
    obtain ⟨v, e1, r1⟩ := re.at_ i d ed
    refine ⟨v, e1, ρ, h, η, S, re, postS.first S re p fun ρ1 H1 h1 d2 y st1 S1 r2 re1 p1 => ?_⟩
    cases ef : f h1 d d2 with
    | none => rw [ef] at p1; exact p1.elim
    | some z =>
      rw [ef] at p1
      exact hf ρ1 h1 H1 d d2 z v y _ S1 (r1.mono st1 S) r2 ef fun ρ2 H2 w st2 S2 rw2 => p1 ρ2 H2 _ st2 S2 ((re1.mono st2 S1).set rw2 i)
  · exact p.elim
/-! ### while -/
theorem ks_while {tc : Cd.TM} {body : List Stmt} (hp : PassesOwn (model X.prog X.w) X.A X.env X.xe) (hc : KT X ca W c tc) (hb : KSs X ca W body ms) : KS X ca W (.While c body [] pos) (Cd.sWhile tc ms) := by
  refine PS.wk (ps_while hp hc hb) fun D σ H ⟨ρ, h, η, S, re, p⟩ => ?_
  by_cases q : ∃ n, Cd.whileN tc ms n η h ≠ .stuck
  · obtain ⟨n, q⟩ := q
    rw [Cd.sWhile_of q] at p
    refine ⟨fun m σ H => ∃ ρ h η, Sim X.K ρ h H ∧ RE X.K ρ H η σ ∧ postS X.K ca W ρ H (Cd.whileN tc ms m η h) D, ⟨n, ρ, h, η, S, re, p⟩, ?_⟩
    rintro m σ H ⟨ρ, h, η, S, re, p⟩
    cases m with
    | zero => exact p.elim
    | succ m =>
      rw [Cd.whileN] at p
      refine ⟨ρ, h, η, S, re, postS.first S re p fun ρ1 H1 h1 k x st1 S1 r1 re1 p1 => ?_⟩
      cases (show k = x from r1)
      cases k with
      | false => exact p1 ρ1 H1 σ (Step.refl _ _) S1 re1
      | true =>
        refine ⟨fun σ' H' => ∃ ρ h η, Sim X.K ρ h H' ∧ RE X.K ρ H' η σ' ∧ postS X.K ca W ρ H' (Cd.whileN tc ms m η h) D, fun σ' H' w => ⟨m, Nat.lt_succ_self _, w⟩, ρ1, h1, η, S1, re1, ?_⟩
        simp only [if_true] at p1
        cases eb : ms η h1 with
        | nx η' h' => rw [eb] at p1; exact fun ρ2 H2 σ2 st2 S2 re2 => ⟨ρ2, h', η', S2, re2, postS.mono st2 p1⟩
        | cont η' h' => rw [eb] at p1; exact fun ρ2 H2 σ2 st2 S2 re2 => ⟨ρ2, h', η', S2, re2, postS.mono st2 p1⟩
        | brk η' h' => rw [eb] at p1; exact p1
        | ret v h' => rw [eb] at p1; exact p1
        | exc e η' h' => rw [eb] at p1; exact p1
        | stuck => rw [eb] at p1; exact p1
  · rw [Cd.sWhile_stuck q] at p
    exact p.elim
/-! ### for -/
/-- an iterator that yields the items while chk holds -/
structure ItF (K : PySem.W.Frag) (J : It) (ds : List Cd.Val) (chk : Cd.Hep → Bool) (ρ0 : List Addr) (H0 : Hp) : Prop where
  go : ∀ ρ H h i, Step ρ0 H0 ρ H → Sim K ρ h H → chk h = true → i < ds.length → J.go i H
  stop : ∀ ρ H h i, Step ρ0 H0 ρ H → Sim K ρ h H → chk h = true → i = ds.length → J.stop i H
  yld : ∀ ρ H h i d x H', Step ρ0 H0 ρ H → Sim K ρ h H → chk h = true → ds[i]? = some d → J.yld i H x H' → Step ρ H ρ H' ∧ Sim K ρ h H' ∧ RV K ρ H' d x
def tI (K : PySem.W.Frag) (ca : String → Value) (W : WX) (m : Cd.IM) : TI := fun σ H R => ∃ ρ h η, Sim K ρ h H ∧ RE K ρ H η σ ∧
  match m η h with
  | .ok p h' => ∀ ρ' H' J, Step ρ H ρ' H' → Sim K ρ' h' H' → ItF K J p.1 p.2 ρ' H' → R J H'
  | .exc e h' => ∀ ρ' H' cls d, Step ρ H ρ' H' → Sim K ρ' h' H' → RX K ca ρ' H' e cls d → W cls d σ H'
  | .stuck => False
abbrev KI (X : Cx) (ca : String → Value) (W : WX) (tg iter : Expr) (m : Cd.IM) : Prop := PI X tg iter (tI X.K ca W m)
theorem forL_post {K : PySem.W.Frag} {g : Cd.GM} {gt : TG} {tb : TS} (hg : ∀ v σ H Q, tG K g v σ H Q → gt v σ H Q) (hb : ∀ D σ H, tS K ca W ms D σ H → tb D σ H) {J : It} {ds : List Cd.Val} {chk : Cd.Hep → Bool} {ρ0 : List Addr} {H0 : Hp} {h0 : Cd.Hep} {η0 : Cd.Env} {σ0 : L2.St} {D : Ends}
    (F : ItF K J ds chk ρ0 H0) (S : Sim K ρ0 h0 H0) (re : RE K ρ0 H0 η0 σ0) (p : postS K ca W ρ0 H0 (Cd.forL g chk ms ds η0 h0) D) :
    ∃ Wv : Nat → Nat → L2.St → Hp → Prop, (∃ m, Wv 0 m σ0 H0) ∧ ∀ i m σ H, Wv i m σ H →
      (J.stop i H ∧ D.nx σ H) ∨ (J.go i H ∧ ∃ N : L2.St → Hp → Prop, (∀ σ' H', N σ' H' → ∃ m', m' < m ∧ Wv (i + 1) m' σ' H') ∧ ∀ x H', J.yld i H x H' → gt x σ H' fun σ2 H2 => tb { D with nx := N, ct := N, bk := D.nx } σ2 H2) := by
  refine ⟨fun i m σ H => (m + i = ds.length + 1 ∧ i ≤ ds.length) ∧ ∃ ρ h η, Step ρ0 H0 ρ H ∧ Sim K ρ h H ∧ RE K ρ H η σ ∧ postS K ca W ρ H (Cd.forL g chk ms (ds.drop i) η h) D, ⟨ds.length + 1, ⟨rfl, Nat.zero_le _⟩, ρ0, h0, η0, Step.refl _ _, S, re, p⟩, ?_⟩
  rintro i m σ H ⟨⟨em, eil⟩, ρ, h, η, st, S, re, p⟩
  by_cases hi : i < ds.length
  · rw [List.drop_eq_getElem_cons hi, Cd.forL] at p
    split at p
    · rename_i hc
      refine .inr ⟨F.go ρ H h i st S hc hi, fun σ' H' => ∃ ρ h η, Step ρ0 H0 ρ H' ∧ Sim K ρ h H' ∧ RE K ρ H' η σ' ∧ postS K ca W ρ H' (Cd.forL g chk ms (ds.drop (i + 1)) η h) D, fun σ' H' w => ⟨m - 1, by omega, ⟨by omega, by omega⟩, w⟩, fun x H' y => ?_⟩
      obtain ⟨st1, S1, r1⟩ := F.yld ρ H h i ds[i] x H' st S hc (List.getElem?_eq_getElem hi) y
      cases eg : g ds[i] η with
      | none => rw [eg] at p; exact p.elim
      | some η1 =>
        rw [eg] at p
        simp only at p
        refine hg _ _ _ _ ⟨ρ, h, η, ds[i], η1, S1, re.mono st1 S, r1, eg, fun σ2 re2 => hb _ _ _ ⟨ρ, h, η1, S1, re2, ?_⟩⟩
        have p := postS.mono st1 p
        cases eb : ms η1 h with
        | nx η' h' => rw [eb] at p; exact fun ρ2 H2 σ3 st2 S2 re3 => ⟨ρ2, h', η', st.trans (st1.trans st2), S2, re3, postS.mono st2 p⟩
        | cont η' h' => rw [eb] at p; exact fun ρ2 H2 σ3 st2 S2 re3 => ⟨ρ2, h', η', st.trans (st1.trans st2), S2, re3, postS.mono st2 p⟩
        | brk η' h' => rw [eb] at p; exact p
        | ret v h' => rw [eb] at p; exact p
        | exc e η' h' => rw [eb] at p; exact p
        | stuck => rw [eb] at p; exact p
    · exact p.elim
  · rw [List.drop_eq_nil_of_le (by omega), Cd.forL] at p
    split at p
    · rename_i hc
      exact .inl ⟨F.stop ρ H h i st S hc (by omega), p ρ H σ (Step.refl _ _) S re⟩
    · exact p.elim
theorem ks_for {tg iter : Expr} {body : List Stmt} {mi : Cd.IM} {g : Cd.GM} (hp : PassesOwn (model X.prog X.w) X.A X.env X.xe) (hc : X.calm = true) (hi : KI X ca W tg iter mi) (hg : KG X tg g) (hb : KSs X ca W body ms)
    (hs : ∀ x, foldedSetIterable iter X.env x = pure x := by intro _; rfl) : KS X ca W (.For tg iter body [] pos) (Cd.sFor mi g ms) := by
  refine PS.wk (ps_for hp hc hi hg hb hs) fun D σ H ⟨ρ, h, η, S, re, p⟩ => ?_
  refine ⟨ρ, h, η, S, re, ?_⟩
  unfold Cd.sFor at p
  cases em : mi η h with
  | ok q h' =>
    rw [em] at p
    exact fun ρ' H' J st S' F => forL_post (fun _ _ _ _ x => x) (fun _ _ _ x => x) F S' (re.mono st S) (postS.mono st p)
  | exc e h' =>
    rw [em] at p
    exact fun ρ' H' cls d st S' q => p ρ' H' cls d σ st S' (re.mono st S) q
  | stuck => rw [em] at p; exact p.elim
theorem PI.wk {tg iter : Expr} {t t' : TI} (h : PI X tg iter t) (k : ∀ σ H R, t' σ H R → t σ H R) : PI X tg iter t' := ⟨fun pins s σ H R I hw => h.run pins s σ H R I (k _ _ _ hw)⟩
theorem PI.or {tg iter : Expr} {t t' : TI} (h : PI X tg iter t) (h' : PI X tg iter t') : PI X tg iter (fun σ H R => t σ H R ∨ t' σ H R) := ⟨fun pins s σ H R I hw => by
  rcases hw with hw | hw
  · exact h.run pins s σ H R I hw
  · exact h'.run pins s σ H R I hw⟩
theorem SqL.inj' {K : PySem.W.Frag} {H : Hp} {a : Addr} {xs ys : List V} (h : FzL K H a xs) (n : ∀ vs, H a = some (.lst vs) → False) (h' : SqL K H a ys) : True := trivial
theorem itf_tup {K : PySem.W.Frag} {ρ : List Addr} {H : Hp} {h : Cd.Hep} {a : Addr} {ds : List Cd.Val} {vs : List V} (S : Sim K ρ h H) (q : SqT K H a vs) (r : RVs K ρ H ds vs) : ItF K (Itt K a) ds (fun _ => true) ρ H where
  go := fun ρ1 H1 h1 i st S1 _ hi => ⟨vs, vs[i]'(by rw [← r.length]; exact hi), st.sqT S q, List.getElem?_eq_getElem _⟩
  stop := fun ρ1 H1 h1 i st S1 _ hi => ⟨vs, st.sqT S q, by rw [← r.length]; omega⟩
  yld := fun ρ1 H1 h1 i d x H' st S1 _ hd y => by
    obtain ⟨rfl, y⟩ := y
    obtain ⟨v, e1, e2⟩ := r.get hd
    have := y vs (st.sqT S q)
    rw [e1] at this; cases this
    exact ⟨Step.refl _ _, S1, e2.mono st S⟩
theorem itf_fl {K : PySem.W.Frag} {ρ : List Addr} {H : Hp} {h : Cd.Hep} {a : Addr} {ds : List Cd.Val} {vs : List V} (S : Sim K ρ h H) (q : FzL K H a vs) (r : RVs K ρ H ds vs) : ItF K (Itl K a) ds (fun _ => true) ρ H where
  go := fun ρ1 H1 h1 i st S1 _ hi => ⟨vs, vs[i]'(by rw [← r.length]; exact hi), (st.fzL S q).sq, List.getElem?_eq_getElem _⟩
  stop := fun ρ1 H1 h1 i st S1 _ hi => ⟨vs, (st.fzL S q).sq, by rw [← r.length]; omega⟩
  yld := fun ρ1 H1 h1 i d x H' st S1 _ hd y => by
    obtain ⟨rfl, y⟩ := y
    obtain ⟨v, e1, e2⟩ := r.get hd
    have := y vs (st.fzL S q).sq
    rw [e1] at this; cases this
    exact ⟨Step.refl _ _, S1, e2.mono st S⟩
theorem itf_lst {K : PySem.W.Frag} {ρ : List Addr} {H : Hp} {a : Addr} {n : Nat} {ds : List Cd.Val} (q : ρ[n]? = some a) (chk : Cd.Hep → Bool) (hc : ∀ h', chk h' = true → h'[n]? = some (.lst ds)) : ItF K (Itl K a) ds chk ρ H where
  go := fun ρ1 H1 h1 i st S1 c hi => by
    obtain ⟨vs, e1, r⟩ := S1.obj n _ a (hc h1 c) (st.ix q)
    exact ⟨vs, vs[i]'(by rw [← r.length]; exact hi), SqL.of e1, List.getElem?_eq_getElem _⟩
  stop := fun ρ1 H1 h1 i st S1 c hi => by
    obtain ⟨vs, e1, r⟩ := S1.obj n _ a (hc h1 c) (st.ix q)
    exact ⟨vs, SqL.of e1, by rw [← r.length]; omega⟩
  yld := fun ρ1 H1 h1 i d x H' st S1 c hd y => by
    obtain ⟨rfl, y⟩ := y
    obtain ⟨vs, e1, r⟩ := S1.obj n _ a (hc h1 c) (st.ix q)
    obtain ⟨v, e2, e3⟩ := r.get hd
    have := y vs (SqL.of e1)
    rw [e2] at this; cases this
    exact ⟨Step.refl _ _, S1, e3⟩
theorem itf_str {K : PySem.W.Frag} {ρ : List Addr} {H : Hp} (s : List Nat) : ItF K (Its (toS s)) (s.map fun c => .str [c]) (fun _ => true) ρ H where
  go := fun ρ1 H1 h1 i st S1 _ hi => by rw [List.length_map] at hi; exact hi
  stop := fun ρ1 H1 h1 i st S1 _ hi => by rw [List.length_map] at hi; exact Nat.le_of_eq hi.symm
  yld := fun ρ1 H1 h1 i d x H' st S1 _ hd y => by
    obtain ⟨rfl, c, e1, rfl⟩ := y
    have e2 : s[i]? = some c := by
      have : (toS s).cps[i]? = s[i]? := by simp [toS]
      rw [← this]; exact e1
    rw [List.getElem?_map, e2] at hd
    cases hd
    exact ⟨Step.refl _ _, S1, .str [c]⟩
theorem itf_rng {K : PySem.W.Frag} {ρ : List Addr} {H : Hp} (lo : Int) (n : Nat) : ItF K (Itr lo n) (Cd.rng lo n) (fun _ => true) ρ H where
  go := fun ρ1 H1 h1 i st S1 _ hi => by
    have : i < n := by simpa [Cd.rng] using hi
    exact this
  stop := fun ρ1 H1 h1 i st S1 _ hi => by
    have : i = n := by simpa [Cd.rng] using hi
    exact Nat.le_of_eq this.symm
  yld := fun ρ1 H1 h1 i d x H' st S1 _ hd y => by
    obtain ⟨rfl, rfl⟩ := y
    have hi : i < n := by
      have := (List.getElem?_eq_some_iff.mp hd).1
      simpa [Cd.rng] using this
    unfold Cd.rng at hd
    rw [List.getElem?_map, List.getElem?_range hi] at hd
    cases hd
    exact ⟨Step.refl _ _, S1, .int _⟩
theorem ki_val {tg : Expr} (he : KE X ca W e me) : KI X ca W tg e (Cd.iVal me) := by
  refine PI.wk (PI.or (pi_tup he) (PI.or (pi_list he) (pi_str he))) fun σ H R ⟨ρ, h, η, S, re, p⟩ => ?_
  unfold Cd.iVal at p
  cases em : me η h with
  | stuck => rw [em] at p; exact p.elim
  | exc e h' => rw [em] at p; exact .inl ⟨ρ, h, η, S, re, by rw [em]; exact p⟩
  | ok v h' =>
    rw [em] at p
    simp only [Cd.Res.bind_ok] at p
    cases ei : Cd.items h' v with
    | none => rw [ei] at p; exact p.elim
    | some q =>
      rw [ei] at p
      simp only [Cd.ofO_some] at p
      unfold Cd.items at ei
      split at ei
      · cases ei
        refine .inl ⟨ρ, h, η, S, re, ?_⟩
        rw [em]
        intro ρ1 H1 x st1 S1 r1
        cases r1 with
        | tup q1 rs => exact ⟨_, rfl, ⟨_, q1⟩, p ρ1 H1 _ st1 S1 (itf_tup S1 q1 rs)⟩
      · cases ei
        refine .inr (.inl ⟨ρ, h, η, S, re, ?_⟩)
        rw [em]
        intro ρ1 H1 x st1 S1 r1
        cases r1 with
        | fl q1 rs => exact ⟨_, rfl, ⟨_, q1.sq⟩, p ρ1 H1 _ st1 S1 (itf_fl S1 q1 rs)⟩
      · cases ei
        refine .inr (.inr ⟨ρ, h, η, S, re, ?_⟩)
        rw [em]
        intro ρ1 H1 x st1 S1 r1
        cases r1
        exact ⟨_, rfl, p ρ1 H1 _ st1 S1 (itf_str _)⟩
      · split at ei
        · rename_i l hl
          cases ei
          refine .inr (.inl ⟨ρ, h, η, S, re, ?_⟩)
          rw [em]
          intro ρ1 H1 x st1 S1 r1
          cases r1 with
          | ref q1 =>
            obtain ⟨vs, e1, rs⟩ := S1.obj _ _ _ hl q1
            exact ⟨_, rfl, ⟨vs, SqL.of e1⟩, p ρ1 H1 _ st1 S1 (itf_lst q1 _ fun h' c => @of_decide_eq_true _ (Classical.propDecidable _) c)⟩
        · cases ei
      · cases ei
theorem tI_args {f : Cd.Hep → List Cd.Val → Option (List Cd.Val × (Cd.Hep → Bool))} {mas : Cd.AM} {σ : L2.St} {H : Hp} {R : It → Hp → Prop} {C : List V → Hp → Prop} (p : tI X.K ca W (Cd.iArgs f mas) σ H R)
    (c : ∀ ρ1 H1 h1 ds xs q, Sim X.K ρ1 h1 H1 → RVs X.K ρ1 H1 ds xs → f h1 ds = some q → (∀ ρ' H' J, Step ρ1 H1 ρ' H' → Sim X.K ρ' h1 H' → ItF X.K J q.1 q.2 ρ' H' → R J H') → C xs H1) : tA X.K ca W mas σ H C := by
  obtain ⟨ρ, h, η, S, re, p⟩ := p
  refine ⟨ρ, h, η, S, re, ?_⟩
  unfold Cd.iArgs at p
  cases em : mas η h with
  | stuck => rw [em] at p; exact p.elim
  | exc e h' => rw [em] at p; exact p
  | ok v h' =>
    rw [em] at p
    simp only [Cd.Res.bind_ok] at p
    intro ρ1 H1 xs st1 S1 r1
    cases ef : f h' v with
    | none => rw [ef] at p; exact p.elim
    | some q =>
      rw [ef] at p
      exact c ρ1 H1 h' v xs q S1 r1 ef fun ρ' H' J st' S' F => p ρ' H' J (st1.trans st') S' F
theorem ki_rng1 {tg : Expr} {p : Pos} {mas : Cd.AM} (hm : X.mg "range" = none) (ha : KA X ca W [a] mas) (hg : Gl X "range" := by rfl) (hs : starEach [a] X.env = [(false, eval a X.env)] := by rfl) : KI X ca W tg (.Call (.Name "range" p) [a] [] pos) (Cd.iArgs Cd.fRng1 mas) := by
  refine PI.wk (pi_range1 hg hm ha hs) fun σ H R p => tI_args p fun ρ1 H1 h1 ds xs q S1 r1 ef k => ?_
  unfold Cd.fRng1 at ef
  split at ef
  · rename_i j
    split at ef
    · rename_i hj
      cases ef
      cases r1 with
      | cons r2 r3 =>
        cases r2; cases r3
        exact ⟨j, rfl, hj.1, hj.2, k ρ1 H1 _ (Step.refl _ _) S1 (itf_rng 0 _)⟩
    · cases ef
  · cases ef
theorem ki_rng2 {tg : Expr} {p : Pos} {mas : Cd.AM} (hm : X.mg "range" = none) (ha : KA X ca W [a, b] mas) (hg : Gl X "range" := by rfl) (hs : starEach [a, b] X.env = [(false, eval a X.env), (false, eval b X.env)] := by rfl) (hs2 : starEach [b] X.env = [(false, eval b X.env)] := by rfl) :
    KI X ca W tg (.Call (.Name "range" p) [a, b] [] pos) (Cd.iArgs Cd.fRng2 mas) := by
  refine PI.wk (pi_range2 hg hm ha hs hs2) fun σ H R p => tI_args p fun ρ1 H1 h1 ds xs q S1 r1 ef k => ?_
  unfold Cd.fRng2 at ef
  split at ef
  · rename_i i j
    split at ef
    · rename_i hj
      cases ef
      cases r1 with
      | cons r2 r3 =>
        cases r2
        cases r3 with
        | cons r4 r5 =>
          cases r4; cases r5
          exact ⟨i, j, rfl, ⟨hj.1.1, hj.1.2, hj.2.1, hj.2.2⟩, k ρ1 H1 _ (Step.refl _ _) S1 (itf_rng i _)⟩
    · cases ef
  · cases ef

/-! ### calls -/
/-- the promise of a def whose reading is F, of n parameters -/
def spF (K : PySem.W.Frag) (ca : String → Value) (n : Nat) (F : Cd.Fn) : Sp := fun vs H Q E => vs.length = n ∧ ∃ ρ h ds, Sim K ρ h H ∧ RVs K ρ H ds vs ∧
  match F ds h with
  | .ok v h' => ∀ ρ' H' x, Step ρ H ρ' H' → Sim K ρ' h' H' → RV K ρ' H' v x → Q x H'
  | .exc e h' => ∀ ρ' H' cls d, Step ρ H ρ' H' → Sim K ρ' h' H' → RX K ca ρ' H' e cls d → E cls d H'
  | .stuck => False
theorem k_call {k n : Nat} {f : Addr} {fd : FuncData} {ps : List Str} {F : Cd.Fn} {x : Str} {p : Pos} {es : List Expr} {mas : Cd.AM} (G : FnOk X.prog X.w X.K X.mg X.base (L2.CX X.prog X.w) k f fd ps (spF X.K ca n F)) (tk : Takes X W) (hr : Room k X.A) (hg : Gl X x) (hm : X.mg x = some (.ref f))
    (hk : PySem.W.keepIn X.K (.ref f) = true) (hb : Binds X.K fd ps []) (hn : n = (e :: es).length) (ha : KA X ca W (e :: es) mas) (hal : ∀ η h vs h', mas η h = .ok vs h' → vs.length = (e :: es).length) (hdb : (x == ("__debug__" : Str)) = false := by decide)
    (he : starEach (e :: es) X.env = (false, eval e X.env) :: starEach es X.env := by rfl) (hpl : (backTo pos (starEach es X.env)).any (·.1) = false := by rfl) : KE X ca W (.Call (.Name x p) (e :: es) [] pos) (Cd.eCall F mas) := by
  refine PE.wk (pe_callS G hr hg hm hk hb (fun σ => passAt tk σ) ha hdb he hpl) fun σ H Q ⟨ρ, h, η, S, re, p⟩ => ?_
  refine ⟨ρ, h, η, S, re, ?_⟩
  unfold Cd.eCall at p
  cases em : mas η h with
  | stuck => rw [em] at p; exact p.elim
  | exc e h' => rw [em] at p; exact p
  | ok ds h1 =>
    rw [em] at p
    simp only [Cd.Res.bind_ok] at p
    intro ρ1 H1 xs st1 S1 r1
    refine ⟨by rw [← r1.length, hal _ _ _ _ em, hn], ρ1, h1, ds, S1, r1, ?_⟩
    cases eF : F ds h1 with
    | stuck => rw [eF] at p; exact p.elim
    | ok v h2 => rw [eF] at p; exact fun ρ2 H2 x st2 S2 r2 => p ρ2 H2 x (st1.trans st2) S2 r2
    | exc ex h2 => rw [eF] at p; exact fun ρ2 H2 cls d st2 S2 r2 => p ρ2 H2 cls d (st1.trans st2) S2 r2
theorem al_nil : ∀ η h vs h', Cd.aNil η h = .ok vs h' → vs.length = 0 := fun η h vs h' e => by cases e; rfl
theorem al_cons {m : Cd.EM} {r : Cd.AM} {n : Nat} (hr : ∀ η h vs h', r η h = .ok vs h' → vs.length = n) : ∀ η h vs h', Cd.aCons m r η h = .ok vs h' → vs.length = n + 1 := fun η h vs h' e => by
  unfold Cd.aCons at e
  cases em : m η h with
  | stuck => rw [em] at e; cases e
  | exc _ _ => rw [em] at e; cases e
  | ok v h1 =>
    rw [em] at e
    simp only [Cd.Res.bind_ok] at e
    cases er : r η h1 with
    | stuck => rw [er] at e; cases e
    | exc _ _ => rw [er] at e; cases e
    | ok vs1 h2 =>
      rw [er] at e
      cases e
      rw [List.length_cons, hr _ _ _ _ er]
/-- a built-in function -/
def BFnF (K : PySem.W.Frag) (F : Cd.BFn) (r : List V → Hp → VK → Prop) : Prop := ∀ (ρ : List Addr) (h h' : Cd.Hep) (H : Hp) (ds : List Cd.Val) (u : Cd.Val) (xs : List V) (Q : VK), Sim K ρ h H → RVs K ρ H ds xs → F ds h = some (u, h') →
  (∀ ρ' H' w, Step ρ H ρ' H' → Sim K ρ' h' H' → RV K ρ' H' u w → Q w H') → r xs H Q
theorem tCB_of {F : Cd.BFn} {r : List V → Hp → VK → Prop} {mas : Cd.AM} (hf : BFnF X.K F r) : ∀ σ H Q, tE X.K ca W (Cd.eCallB F mas) σ H Q → tCB r (tA X.K ca W mas) σ H Q := by
  rintro σ H Q ⟨ρ, h, η, S, re, p⟩
  refine ⟨ρ, h, η, S, re, postG.first p fun ρ1 H1 h1 ds xs st1 S1 r1 p1 => ?_⟩
  cases e : F ds h1 with
  | none => rw [e] at p1; exact p1.elim
  | some q =>
    obtain ⟨u, h2⟩ := q
    rw [e] at p1
    exact hf ρ1 h1 h2 H1 ds u xs Q S1 r1 e p1
theorem k_callB {id : String} {F : Cd.BFn} {r : List V → Hp → VK → Prop} {x : Str} {p : Pos} {es : List Expr} {mas : Cd.AM} (hc : CallR X (.builtin id) r) (hf : BFnF X.K F r) (hm : X.mg x = none) (ha : KA X ca W (e :: es) mas) (hg : Gl X x := by rfl) (hv : bootBuiltins x = some (.builtin id) := by decide +kernel) (hn : x ≠ "__name__" := by decide) (hdb : (x == ("__debug__" : Str)) = false := by decide)
    (he : starEach (e :: es) X.env = (false, eval e X.env) :: starEach es X.env := by rfl) (hpl : (backTo pos (starEach es X.env)).any (·.1) = false := by rfl) : KE X ca W (.Call (.Name x p) (e :: es) [] pos) (Cd.eCallB F mas) :=
  PE.wk (pe_callB hc hg hm hv ha hn hdb he hpl) (tCB_of hf)
theorem k_callTy {T : String} {F : Cd.BFn} {r : List V → Hp → VK → Prop} {x : Str} {p : Pos} {es : List Expr} {mas : Cd.AM} (hc : CallR X (.type T) r) (hf : BFnF X.K F r) (hm : X.mg x = none) (ha : KA X ca W (e :: es) mas) (hg : Gl X x := by rfl) (hv : bootBuiltins x = some (.type T) := by decide +kernel) (hn : x ≠ "__name__" := by decide) (hdb : (x == ("__debug__" : Str)) = false := by decide)
    (he : starEach (e :: es) X.env = (false, eval e X.env) :: starEach es X.env := by rfl) (hpl : (backTo pos (starEach es X.env)).any (·.1) = false := by rfl) : KE X ca W (.Call (.Name x p) (e :: es) [] pos) (Cd.eCallB F mas) :=
  PE.wk (pe_callTy hc hg hm hv ha hn hdb he hpl) (tCB_of hf)
end

/-! ### a def -/
section
variable {P : Program} {w : World} {K : PySem.W.Frag} {mg : Str → Option Value} {base : Heap} {ca : String → Value}
/-- the wish of a def's body: what is raised goes out -/
abbrev WD (E : XK) : WX := fun cls d _ H => E cls d H
theorem re_start {ρ : List Addr} {H : Hp} {ds : List Cd.Val} {vs : List V} {N : List Str} (r : RVs K ρ H ds vs) : RE K ρ H (ds.map some ++ List.replicate (N.length - ds.length) none) (L2.start N vs) := by
  refine ⟨?_, fun i d e => ?_⟩
  · unfold L2.start
    simp only [List.length_append, List.length_map, List.length_replicate, r.length]
  · unfold L2.start
    by_cases hi : i < ds.length
    · rw [List.getElem?_append_left (by simpa using hi), List.getElem?_map] at e
      cases ed : ds[i]? with
      | none => rw [ed] at e; cases e
      | some d' =>
        rw [ed] at e
        cases e
        obtain ⟨v, e1, e2⟩ := r.get ed
        refine ⟨v, ?_, e2⟩
        rw [List.getElem?_append_left (by rw [List.length_map, ← r.length]; exact hi), List.getElem?_map, e1]
        rfl
    · rw [List.getElem?_append_right (by simpa using hi)] at e
      have := List.mem_of_getElem? e
      rw [List.mem_replicate] at this
      cases this.2
theorem k_def {x qual : Str} {st : Stmt} {f : Addr} {fd : FuncData} {N ps : List Str} {k : Nat} {body : Cd.SM} (F : Fun K x qual st f fd) (S : FnScope N ps (defScope st))
    (hb : ∀ (cdv : Value) (A : Around) (outer : List Env) (s : Shared) (H : Hp) (E : XK), Room k (A.deeper (envOfC qual (defScope st) s.heap.objs.size f cdv)) →
      Takes (cxOf (L2.CX P w) P w K mg base N qual (defScope st) f cdv A outer s H E) (WD E) →
      PassesOwn (model P w) (cxOf (L2.CX P w) P w K mg base N qual (defScope st) f cdv A outer s H E).A (cxOf (L2.CX P w) P w K mg base N qual (defScope st) f cdv A outer s H E).env (cxOf (L2.CX P w) P w K mg base N qual (defScope st) f cdv A outer s H E).xe →
      KSs (cxOf (L2.CX P w) P w K mg base N qual (defScope st) f cdv A outer s H E) ca (WD E) (defBody st) body) :
    FnOk P w K mg base (L2.CX P w) (k + 1) f fd ps (spF K ca ps.length (Cd.fn ps.length N.length body)) := by
  refine F.okX S (fun vs H Q E h => h.1) (fun cdv A outer s H vs Q E hr h => ?_)
  obtain ⟨hl, ρ, h0, ds, Si, r, p⟩ := h
  have tk : Takes (cxOf (L2.CX P w) P w K mg base N qual (defScope st) f cdv A outer s H E) (WD E) := takes_of rfl rfl rfl rfl
  refine ⟨_, hb cdv A outer s H E hr tk (passes_of rfl), ρ, h0, _, Si, re_start (N := N) r, ?_⟩
  unfold Cd.fn at p
  rw [if_pos (by rw [r.length, hl])] at p
  have el : ds.length = ps.length := by rw [r.length, hl]
  rw [← el] at p
  cases eb : body (ds.map some ++ List.replicate (N.length - ds.length) none) h0 with
  | nx η' h' => rw [eb] at p; exact fun ρ' H' σ' st S' _ => p ρ' H' .non st S' .non
  | ret v h' => rw [eb] at p; exact p
  | exc e η' h' => rw [eb] at p; exact fun ρ' H' cls d σ' st S' _ q => p ρ' H' cls d st S' q
  | brk _ _ => rw [eb] at p; exact p.elim
  | cont _ _ => rw [eb] at p; exact p.elim
  | stuck => rw [eb] at p; exact p.elim
end
end Cb

set_option Elab.async false
set_option linter.all false
set_option maxRecDepth 100000
set_option maxHeartbeats 4000000
/-! CdB5: the bridge: built-in functions. -/
namespace Cb
open PySem PySem.Spec PyProof.Rows L2
section
variable {X : Cx} {K : PySem.W.Frag} {ca : String → Value} {W : WX}
theorem one_rv {ρ : List Addr} {H : Hp} {d : Cd.Val} {xs : List V} (r : RVs K ρ H [d] xs) : ∃ x, xs = [x] ∧ RV K ρ H d x := by
  cases r with
  | cons a b => cases b; exact ⟨_, rfl, a⟩
theorem two_rv {ρ : List Addr} {H : Hp} {d e : Cd.Val} {xs : List V} (r : RVs K ρ H [d, e] xs) : ∃ x y, xs = [x, y] ∧ RV K ρ H d x ∧ RV K ρ H e y := by
  cases r with
  | cons a b => obtain ⟨y, rfl, q⟩ := one_rv b; exact ⟨_, y, rfl, a, q⟩
/-- a list or tuple by its reading -/
theorem seq_of {ρ : List Addr} {h : Cd.Hep} {H : Hp} {d : Cd.Val} {x : V} {l : List Cd.Val} (S : Sim K ρ h H) (r : RV K ρ H d x) (e : Cd.itsL h d = some l) : ∃ a vs, x = .ref a ∧ SqL K H a vs ∧ RVs K ρ H l vs := by
  cases r with
  | fl q rs => cases e; exact ⟨_, _, rfl, q.sq, rs⟩
  | ref q =>
    simp only [Cd.itsL] at e
    split at e
    · rename_i m hl
      cases e
      obtain ⟨vs, e1, rs⟩ := S.obj _ _ _ hl q
      exact ⟨_, vs, rfl, SqL.of e1, rs⟩
    · cases e
  | _ => cases e
theorem bf_len : BFnF K Cd.bLen (fun xs H Q => ∃ x n, xs = [x] ∧ LenV K x H n ∧ Q (.int n) H) := by
  intro ρ h h' H ds u xs Q S r e k
  unfold Cd.bLen at e
  split at e
  · split at e
    · rename_i s hl
      cases e
      obtain ⟨x, rfl, r0⟩ := one_rv r
      cases r0
      rw [line_eq] at hl
      exact ⟨_, s.length, rfl, (⟨hl, rfl⟩ : _ ∧ _), k ρ H _ (Step.refl _ _) S (.int _)⟩
    · cases e
  · cases e
    obtain ⟨x, rfl, r0⟩ := one_rv r
    cases r0 with
    | tup q rs => exact ⟨_, _, rfl, .inr ⟨_, q, rfl⟩, k ρ H _ (Step.refl _ _) S (by rw [rs.length]; exact .int _)⟩
  · cases e
    obtain ⟨x, rfl, r0⟩ := one_rv r
    cases r0 with
    | fl q rs => exact ⟨_, _, rfl, .inl ⟨_, q.sq, rfl⟩, k ρ H _ (Step.refl _ _) S (by rw [rs.length]; exact .int _)⟩
  · split at e
    · rename_i l hl
      cases e
      obtain ⟨x, rfl, r0⟩ := one_rv r
      cases r0 with
      | ref q =>
        obtain ⟨vs, e1, rs⟩ := S.obj _ _ _ hl q
        exact ⟨_, _, rfl, .inl ⟨_, SqL.of e1, rfl⟩, k ρ H _ (Step.refl _ _) S (by rw [rs.length]; exact .int _)⟩
    · cases e
  · cases e
theorem bf_abs : BFnF K Cd.bAbs (fun xs H Q => ∃ i, xs = [.int i] ∧ Q (.int (if i < 0 then -i else i)) H) := by
  intro ρ h h' H ds u xs Q S r e k
  unfold Cd.bAbs at e
  split at e
  · cases e
    obtain ⟨x, rfl, r0⟩ := one_rv r
    cases r0
    exact ⟨_, rfl, k ρ H _ (Step.refl _ _) S (.int _)⟩
  · cases e
theorem bf_max2 : BFnF K Cd.bMax2 (fun xs H Q => ∃ i j, xs = [.int i, .int j] ∧ Q (.int (if j > i then j else i)) H) := by
  intro ρ h h' H ds u xs Q S r e k
  unfold Cd.bMax2 at e
  split at e
  · cases e
    obtain ⟨x, y, rfl, r0, r2⟩ := two_rv r
    cases r0; cases r2
    exact ⟨_, _, rfl, k ρ H _ (Step.refl _ _) S (.int _)⟩
  · cases e
theorem bf_min2 : BFnF K Cd.bMin2 (fun xs H Q => ∃ i j, xs = [.int i, .int j] ∧ Q (.int (if j < i then j else i)) H) := by
  intro ρ h h' H ds u xs Q S r e k
  unfold Cd.bMin2 at e
  split at e
  · cases e
    obtain ⟨x, y, rfl, r0, r2⟩ := two_rv r
    cases r0; cases r2
    exact ⟨_, _, rfl, k ρ H _ (Step.refl _ _) S (.int _)⟩
  · cases e
theorem bf_int : BFnF K Cd.bInt (fun xs H Q => (∃ i, xs = [.int i] ∧ Q (.int i) H) ∨ ∃ k, xs = [.bl k] ∧ Q (.int (if k then 1 else 0)) H) := by
  intro ρ h h' H ds u xs Q S r e k
  unfold Cd.bInt at e
  split at e
  · cases e
    obtain ⟨x, rfl, r0⟩ := one_rv r
    cases r0
    exact .inl ⟨_, rfl, k ρ H _ (Step.refl _ _) S (.int _)⟩
  · cases e
    obtain ⟨x, rfl, r0⟩ := one_rv r
    cases r0
    exact .inr ⟨_, rfl, k ρ H _ (Step.refl _ _) S (.int _)⟩
  · cases e
theorem lay_k {ρ : List Addr} {h : Cd.Hep} {H : Hp} {ds : List Cd.Val} {vs : List V} {Q : VK} (S : Sim K ρ h H) (rs : RVs K ρ H ds vs) (k : ∀ ρ' H' w, Step ρ H ρ' H' → Sim K ρ' (h ++ [.lst ds]) H' → RV K ρ' H' (.ref h.length) w → Q w H') :
    ∀ l, H l = none → Q (.ref l) (upd H l (.lst vs)) := fun l nl => by
  have st := Step.lay (ρ := ρ) l (.lst vs) nl
  exact k _ _ _ st (S.lay nl ⟨vs, upd_same, rs.mono st S⟩) (.ref (by rw [← S.len, List.getElem?_append_right (Nat.le_refl _), Nat.sub_self]; rfl))
theorem bf_list : BFnF K Cd.bList (fun xs H Q => ∃ p ys, xs = [.ref p] ∧ (SqL K H p ys ∨ SqT K H p ys) ∧ ∀ l, H l = none → Q (.ref l) (upd H l (.lst ys))) := by
  intro ρ h h' H ds u xs Q S r e k
  unfold Cd.bList at e
  split at e
  · cases e
    obtain ⟨x, rfl, r0⟩ := one_rv r
    cases r0 with
    | tup q rs => exact ⟨_, _, rfl, .inr q, lay_k S rs k⟩
  · cases e
    obtain ⟨x, rfl, r0⟩ := one_rv r
    cases r0 with
    | fl q rs => exact ⟨_, _, rfl, .inl q.sq, lay_k S rs k⟩
  · split at e
    · rename_i l hl
      cases e
      obtain ⟨x, rfl, r0⟩ := one_rv r
      cases r0 with
      | ref q =>
        obtain ⟨vs, e1, rs⟩ := S.obj _ _ _ hl q
        exact ⟨_, _, rfl, .inl (SqL.of e1), lay_k S rs k⟩
    · cases e
  · cases e
theorem tup_k {ρ : List Addr} {h : Cd.Hep} {H : Hp} {ds : List Cd.Val} {vs : List V} {Q : VK} (S : Sim K ρ h H) (rs : RVs K ρ H ds vs) (k : ∀ ρ' H' w, Step ρ H ρ' H' → Sim K ρ' h H' → RV K ρ' H' (.tup ds) w → Q w H') :
    ∀ l, H l = none → Q (.ref l) (upd H l (.tup vs)) := fun l nl => by
  have st := Step.out (ρ := ρ) l (.tup vs) nl
  exact k _ _ _ st (S.out nl) (.tup (SqT.of upd_same) (rs.mono st S))
theorem bf_tuple : BFnF K Cd.bTuple (fun xs H Q => ∃ p ys, xs = [.ref p] ∧ ((SqL K H p ys ∧ ∀ l, H l = none → Q (.ref l) (upd H l (.tup ys))) ∨ (SqT K H p ys ∧ Q (.ref p) H))) := by
  intro ρ h h' H ds u xs Q S r e k
  unfold Cd.bTuple at e
  split at e
  · cases e
    obtain ⟨x, rfl, r0⟩ := one_rv r
    cases r0 with
    | tup q rs => exact ⟨_, _, rfl, .inr ⟨q, k ρ H _ (Step.refl _ _) S (.tup q rs)⟩⟩
  · cases e
    obtain ⟨x, rfl, r0⟩ := one_rv r
    cases r0 with
    | fl q rs => exact ⟨_, _, rfl, .inl ⟨q.sq, tup_k S rs k⟩⟩
  · split at e
    · rename_i l hl
      cases e
      obtain ⟨x, rfl, r0⟩ := one_rv r
      cases r0 with
      | ref q =>
        obtain ⟨vs, e1, rs⟩ := S.obj _ _ _ hl q
        exact ⟨_, _, rfl, .inl ⟨SqL.of e1, tup_k S rs k⟩⟩
    · cases e
  · cases e
theorem bls_of {ρ : List Addr} {H : Hp} : ∀ {ds : List Cd.Val} {bs : List Bool} {vs : List V}, Cd.bls ds = some bs → RVs K ρ H ds vs → vs = bs.map V.bl
  | [], bs, vs, e, r => by cases e; cases r; rfl
  | .bl b :: ds, bs, vs, e, r => by
    simp only [Cd.bls] at e
    cases q : Cd.bls ds with
    | none => rw [q] at e; cases e
    | some cs =>
      rw [q] at e; cases e
      cases r with
      | cons r1 r2 =>
        cases r1
        rw [bls_of q r2]; rfl
theorem bf_all : BFnF K Cd.bAll (rAll K) := by
  intro ρ h h' H ds u xs Q S r e k
  unfold Cd.bAll at e
  split at e
  · rename_i v
    split at e
    · rename_i bs hb
      cases e
      obtain ⟨x, rfl, r0⟩ := one_rv r
      cases el : Cd.itsL h v with
      | none => rw [el] at hb; cases hb
      | some l =>
        rw [el] at hb
        obtain ⟨a, vs, rfl, q, rs⟩ := seq_of S r0 el
        exact ⟨a, bs, rfl, by rw [← bls_of hb rs]; exact q, k ρ H _ (Step.refl _ _) S (.bl _)⟩
    · cases e
  · cases e
theorem bf_any : BFnF K Cd.bAny (rAny K) := by
  intro ρ h h' H ds u xs Q S r e k
  unfold Cd.bAny at e
  split at e
  · rename_i v
    split at e
    · rename_i bs hb
      cases e
      obtain ⟨x, rfl, r0⟩ := one_rv r
      cases el : Cd.itsL h v with
      | none => rw [el] at hb; cases hb
      | some l =>
        rw [el] at hb
        obtain ⟨a, vs, rfl, q, rs⟩ := seq_of S r0 el
        exact ⟨a, bs, rfl, by rw [← bls_of hb rs]; exact q, k ρ H _ (Step.refl _ _) S (.bl _)⟩
    · cases e
  · cases e
/-! ### isinstance -/
theorem typ_of {ρ : List Addr} {h : Cd.Hep} {H : Hp} {d : Cd.Val} {x : V} {t : String} (S : Sim K ρ h H) (r : RV K ρ H d x) (e : Cd.typ h d = some t) : TyX K H x (.type t) ∧ t ∈ ["NoneType", "bool", "int", "str", "tuple", "list", "dict"] := by
  cases r with
  | non => cases e; exact ⟨.base .non, by simp⟩
  | bl b => cases e; exact ⟨.base (.bl b), by simp⟩
  | int i => cases e; exact ⟨.base (.int i), by simp⟩
  | str s => cases e; exact ⟨.base (.str _), by simp⟩
  | tup q rs =>
    cases e
    refine ⟨?_, by simp⟩
    rcases q with (q | ⟨o, q⟩) | ⟨o, its, n, q1, q2, _⟩
    · exact .base (.tup q)
    · exact .fTuple q
    · exact .kTuple q1 q2
  | fl q rs =>
    cases e
    refine ⟨?_, by simp⟩
    rcases q with ⟨o, q⟩ | ⟨o, its, n, q1, q2, _⟩
    · exact .base (.frz q)
    · exact .kList q1 q2
  | exo a => cases e
  | ref q =>
    simp only [Cd.typ] at e
    split at e
    · rename_i l hl
      cases e
      obtain ⟨vs, e1, rs⟩ := S.obj _ _ _ hl q
      exact ⟨.base (.lst e1), by simp⟩
    · rename_i l hl
      cases e
      obtain ⟨kvs, e1, rd⟩ := S.obj _ _ _ hl q
      exact ⟨.base (.dK e1), by simp⟩
    · cases e
def tyAll : Bool := ["NoneType", "bool", "int", "str", "tuple", "list", "dict"].all fun t => ["bool", "int", "str", "tuple", "list", "dict"].all fun n => kitB t n == some (Cd.isT t n)
theorem tyAll_ok : tyAll = true := by decide +kernel
theorem kit_isT {t n : String} (ht : t ∈ ["NoneType", "bool", "int", "str", "tuple", "list", "dict"]) (hn : n ∈ ["bool", "int", "str", "tuple", "list", "dict"]) : kitB t n = some (Cd.isT t n) := by
  have h := tyAll_ok
  unfold tyAll at h
  rw [List.all_eq_true] at h
  have h1 := h t ht
  rw [List.all_eq_true] at h1
  exact beq_iff_eq.mp (h1 n hn)
theorem k_isi (n : String) {a : Expr} {ma : Cd.EM} {x : Str} {p p2 pos : Pos} (hm : X.mg "isinstance" = none) (hm2 : X.mg x = none) (ha : KE X ca W a ma) (hv : bootBuiltins x = some (.type n) := by decide +kernel) (hn : n ∈ ["bool", "int", "str", "tuple", "list", "dict"] := by decide) (hg : Gl X "isinstance" := by rfl) (hg2 : Gl X x := by rfl) (hnn : x ≠ "__name__" := by decide) (hdb : (x == ("__debug__" : Str)) = false := by decide)
    (he : starEach [a, .Name x p2] X.env = (false, eval a X.env) :: starEach [.Name x p2] X.env := by rfl) (he2 : starEach [.Name x p2] X.env = (false, eval (.Name x p2) X.env) :: starEach [] X.env := by rfl) (hpl : (backTo pos (starEach [.Name x p2] X.env)).any (·.1) = false := by rfl) :
    KE X ca W (.Call (.Name "isinstance" p) [a, .Name x p2] [] pos) (Cd.eUn (Cd.oIsi n) ma) := by
  refine PE.wk (pe_callB call_isi hg hm (by decide +kernel) (pa_cons ha (pa_cons (pe_bltn (v := .ty n) hg2 hm2 hv rfl hnn hdb) pa_nil he2) he) (by decide) (by decide) he hpl) fun σ H Q ⟨ρ, h, η, S, re, p⟩ => ?_
  refine ⟨ρ, h, η, S, re, postG.first p fun ρ1 H1 h1 d x st1 S1 r1 p1 => ?_⟩
  obtain ⟨u, hu, k⟩ := p1.ofO
  unfold Cd.oIsi at hu
  cases et : Cd.typ h1 d with
  | none => rw [et] at hu; cases hu
  | some t =>
    rw [et] at hu; cases hu
    obtain ⟨q, ht⟩ := typ_of S1 r1 et
    exact ⟨x, .ty n, .type t, .type n, _, rfl, .ty n, q, kit_ty (kit_isT ht hn), k ρ1 H1 _ (Step.refl _ _) S1 (.bl _)⟩
end
theorem iop_addA {X : Cx} : OpR X (inplaceOp .Add) (rI0 fun i j => .int (i + j)) := iop_add
section
variable {K : PySem.W.Frag} {ca : String → Value}
theorem rvs_ints {ρ : List Addr} {H : Hp} : ∀ ns : List Int, RVs K ρ H (ns.map .int) (ns.map V.int)
  | [] => .nil
  | n :: ns => .cons (.int n) (rvs_ints ns)
theorem law_sp {H : Hp} {a : Addr} {ns : List Int} {M : Cd.Fn} {h : Cd.Hep} (hO : Only H) (hS : SqL K H a (ns.map V.int)) (e : M [.fl (ns.map .int)] [] = .ok (.bl true) h) : spF K ca 1 M [.ref a] H (fun v _ => v = .bl true) fun _ _ _ => False := by
  have fz : FzL K H a (ns.map V.int) := by
    rcases hS with (q | ⟨o, q⟩) | q
    · rcases hO a with z | ⟨o, xs, z⟩
      · rw [z] at q; cases q
      · rw [z] at q; cases q
    · exact .inl ⟨o, q⟩
    · exact .inr q
  refine ⟨rfl, [], [], [.fl (ns.map .int)], ⟨rfl, List.nodup_nil, fun n o a h1 => by simp at h1⟩, .cons (.fl fz (rvs_ints ns)) .nil, ?_⟩
  rw [e]
  intro ρ' H' x st S r
  cases r
  rfl
theorem cx_no {P : Program} {w : World} {H : Hp} {s : Shared} {e : Value} {s' : Shared} (h : L2.CX P w [] H s (fun _ _ _ => False) e s') : False := by
  obtain ⟨_, _, _, _, _, _, _, _, _, _, _, _, z⟩ := h
  exact z
end
end Cb

set_option Elab.async false
set_option linter.all false
set_option maxRecDepth 100000
set_option maxHeartbeats 4000000
/-! CdB6: the bridge: lists that change, slices, comprehensions. -/
namespace Cb
open PySem PySem.Spec PyProof.Rows L2
section
variable {X : Cx} {K : PySem.W.Frag} {ca : String → Value} {W : WX} {a b c e : Expr} {ma mb me mo : Cd.EM} {pos : Pos}
theorem setIx_of {ρ : List Addr} {h h' : Cd.Hep} {H : Hp} {x k v : Cd.Val} {ox ik vv : V} (S : Sim K ρ h H) (r1 : RV K ρ H x ox) (r2 : RV K ρ H k ik) (r3 : RV K ρ H v vv) (e : Cd.setIx h x k v = some h') {Q : Hp → Prop} (q : ∀ H', Step ρ H ρ H' → Sim K ρ h' H' → Q H') : rSetL ox ik vv H Q := by
  unfold Cd.setIx at e
  split at e
  · split at e
    · rename_i l hl
      split at e
      · rename_i j hj
        cases e
        cases r1 with
        | ref qa =>
          cases r2
          obtain ⟨vs, e1, rs⟩ := S.obj _ _ _ hl qa
          have st := Step.put (ρ := ρ) (H := H) (o := .lst (vs.set j vv)) qa
          exact ⟨_, vs, _, j, rfl, rfl, e1, (by rw [← rs.length]; exact hj), q _ st (S.put qa ⟨_, upd_same, (RVs.set r3 j rs).mono st S⟩)⟩
      · cases e
    · cases e
  · cases e
theorem ks_setIx (he : KE X ca W e me) (ho : KE X ca W a ma) (hi : KE X ca W b mb) {tpos : Pos} (hs : swapsWithSole [.Subscript a b tpos] e pos.line X.env = pure false := by rfl) (hw : swappedStores [.Subscript a b tpos] e X.env = pure none := by rfl) (h1 : (assignEach [.Subscript a b tpos] X.env).map (·.2) = [assign (.Subscript a b tpos) X.env] := by rfl) (hx : assign (.Subscript a b tpos) X.env = assign (.Subscript a b tpos) X.env := by rfl) (pg : PG X (.Subscript a b tpos) (gSub (tE X.K ca W ma) (tE X.K ca W mb) rSetL)) :
    KS X ca W (.Assign [.Subscript a b tpos] e pos) (Cd.sSetIx ma mb me) := by
  refine PS.wk (ps_asg he pg hs hw h1) fun D σ H ⟨ρ, h, η, S, re, p⟩ => ?_
  refine ⟨ρ, h, η, S, re, postS.first S re p fun ρ1 H1 h1 v vv st1 S1 r1 re1 p1 => ?_⟩
  refine ⟨ρ1, h1, η, S1, re1, postS.first S1 re1 p1 fun ρ2 H2 h2 x ox st2 S2 r2 re2 p2 => ?_⟩
  refine ⟨ρ2, h2, η, S2, re2, postS.first S2 re2 p2 fun ρ3 H3 h3 k ik st3 S3 r3 re3 p3 => ?_⟩
  cases es : Cd.setIx h3 x k v with
  | none => rw [es] at p3; exact p3.elim
  | some h4 =>
    rw [es] at p3
    exact setIx_of S3 (r2.mono st3 S2) r3 ((r1.mono st2 S1).mono st3 S2) es fun H' st S' => p3 ρ3 H' σ st S' (re3.mono st S3)
/-! ### methods of built-in types -/
def MthF (K : PySem.W.Frag) (F : Cd.Val → Cd.BFn) (r : V → List V → Hp → VK → Prop) : Prop := ∀ (ρ : List Addr) (h h' : Cd.Hep) (H : Hp) (x : Cd.Val) (ds : List Cd.Val) (u : Cd.Val) (ox : V) (xs : List V) (Q : VK), Sim K ρ h H → RV K ρ H x ox → RVs K ρ H ds xs → F x ds h = some (u, h') →
  (∀ ρ' H' w, Step ρ H ρ' H' → Sim K ρ' h' H' → RV K ρ' H' u w → Q w H') → r ox xs H Q
theorem tyV_of {ρ : List Addr} {h : Cd.Hep} {H : Hp} {d : Cd.Val} {x : V} {T : String} (S : Sim K ρ h H) (r : RV K ρ H d x) (e : Cd.typ h d = some T) (hT : T = "str" ∨ T = "list" ∨ T = "int") : tyV K T x H := by
  cases r with
  | non => cases e; rcases hT with z | z | z <;> exact absurd z (by decide)
  | bl b => cases e; rcases hT with z | z | z <;> exact absurd z (by decide)
  | int i => cases e; rfl
  | str s => cases e; rfl
  | tup q rs => cases e; rcases hT with z | z | z <;> exact absurd z (by decide)
  | fl q rs => cases e; exact .inl ⟨rfl, _, q.sq⟩
  | exo a => cases e
  | ref q =>
    simp only [Cd.typ] at e
    split at e
    · rename_i l hl
      cases e
      obtain ⟨vs, e1, rs⟩ := S.obj _ _ _ hl q
      exact .inl ⟨rfl, _, SqL.of e1⟩
    · rename_i l hl
      cases e
      rcases hT with z | z | z <;> exact absurd z (by decide)
    · cases e
theorem tBM_of {T : String} {F : Cd.Val → Cd.BFn} {r : V → List V → Hp → VK → Prop} {mas : Cd.AM} (hT : T = "str" ∨ T = "list" ∨ T = "int") (hf : MthF X.K F r) : ∀ σ H Q, tE X.K ca W (Cd.eMth T F mo mas) σ H Q → tBM X.K T r (tE X.K ca W mo) (tA X.K ca W mas) σ H Q := by
  rintro σ H Q ⟨ρ, h, η, S, re, p⟩
  refine ⟨ρ, h, η, S, re, postG.first p fun ρ1 H1 h1 x ox st1 S1 r1 p1 => ?_⟩
  split at p1
  · rename_i ht
    refine ⟨tyV_of S1 r1 ht hT, ρ1, h1, η, S1, re.mono st1 S, postG.first p1 fun ρ2 H2 h2 ds xs st2 S2 r2 p2 => ?_⟩
    cases e : F x ds h2 with
    | none => rw [e] at p2; exact p2.elim
    | some q =>
      obtain ⟨u, h3⟩ := q
      rw [e] at p2
      exact hf ρ2 h2 h3 H2 x ds u ox xs Q S2 (r1.mono st2 S1) r2 e p2
  · exact p1.elim
theorem k_bm {T id : String} {name : Str} {F : Cd.Val → Cd.BFn} {r : V → List V → Hp → VK → Prop} {apos : Pos} {o : Expr} {es : List Expr} {mas : Cd.AM} (pa : PlainAttrs T) (slot : Slot T name id) (hty : typeOf (.builtin id) = pure (.type "method_descriptor")) (hm : MtR X id r) (hf : MthF X.K F r) (ho : KE X ca W o mo) (ha : KA X ca W (e :: es) mas) (hT : T = "str" ∨ T = "list" ∨ T = "int" := by decide)
    (hbase : attributeBase o name X.env (eval o X.env) = eval o X.env := by rfl)
    (hfew : ((backTo pos (starEach (e :: es) X.env)).all (fun x => !x.1) && (backToKw pos (keywordEach [] X.env)).all (fun x => x.1.isSome)
      && decide ((e :: es).length + ([] : List Keyword).length + (if ([] : List Keyword).isEmpty then 0 else 1) < 30)) = true := by rfl)
    (hline : (apos.endLine == pos.line) = true := by rfl) (hs : starEach (e :: es) X.env = (false, eval e X.env) :: starEach es X.env := by rfl) (hplain : (backTo pos (starEach es X.env)).any (·.1) = false := by rfl) :
    KE X ca W (.Call (.Attribute o name apos) (e :: es) [] pos) (Cd.eMth T F mo mas) := PE.wk (pe_bm pa slot hty hm ho ha hbase hfew hline hs hplain) (tBM_of hT hf)
theorem k_bm0 {T id : String} {name : Str} {F : Cd.Val → Cd.BFn} {r : V → List V → Hp → VK → Prop} {apos : Pos} {o : Expr} (pa : PlainAttrs T) (slot : Slot T name id) (hty : typeOf (.builtin id) = pure (.type "method_descriptor")) (hm : MtR X id r) (hf : MthF X.K F r) (ho : KE X ca W o mo) (hT : T = "str" ∨ T = "list" ∨ T = "int" := by decide)
    (hbase : attributeBase o name X.env (eval o X.env) = eval o X.env := by rfl) (hline : (apos.endLine == pos.line) = true := by rfl) :
    KE X ca W (.Call (.Attribute o name apos) [] [] pos) (Cd.eMth T F mo Cd.aNil) := by
  refine PE.wk (pe_bm0 pa slot hty hm ho hbase hline) fun σ H Q p => ?_
  obtain ⟨ρ, h, η, S, re, p⟩ := tBM_of (mas := Cd.aNil) hT hf σ H Q p
  refine ⟨ρ, h, η, S, re, p.imp fun x H1 q => ⟨q.1, ?_⟩⟩
  obtain ⟨_, ρ1, h1, η1, S1, re1, p1⟩ := q
  exact p1 ρ1 H1 [] (Step.refl _ _) S1 .nil
theorem mf_append : MthF K Cd.mAppend rAppend := by
  intro ρ h h' H x ds u ox xs Q S r1 r2 e k
  unfold Cd.mAppend at e
  split at e
  · split at e
    · rename_i l hl
      split at e
      · rename_i hz
        cases e
        cases r1 with
        | ref q =>
          obtain ⟨y, rfl, ry⟩ := one_rv r2
          obtain ⟨vs, e1, rs⟩ := S.obj _ _ _ hl q
          rw [line_eq, rs.length] at hz
          have st := Step.put (ρ := ρ) (H := H) (o := .lst (vs ++ [y])) q
          exact ⟨_, vs, y, rfl, rfl, e1, hz, k ρ _ _ st (S.put q ⟨_, upd_same, (RVs.append rs (.cons ry .nil)).mono st S⟩) .non⟩
      · cases e
    · cases e
  · cases e
theorem mf_extend : MthF K Cd.mExtend rExtend := by
  intro ρ h h' H x ds u ox xs Q S r1 r2 e k
  unfold Cd.mExtend at e
  split at e
  · split at e
    · rename_i l m hl hm
      split at e
      · rename_i hz
        cases e
        cases r1 with
        | ref q =>
          obtain ⟨y, rfl, ry⟩ := one_rv r2
          cases ry with
          | ref q2 =>
            obtain ⟨vs, e1, rs⟩ := S.obj _ _ _ hl q
            obtain ⟨ws, e2, rs2⟩ := S.obj _ _ _ hm q2
            rw [line_eq, rs.length, rs2.length] at hz
            have st := Step.put (ρ := ρ) (H := H) (o := .lst (vs ++ ws)) q
            exact ⟨_, _, vs, ws, rfl, rfl, e1, e2, hz, k ρ _ _ st (S.put q ⟨_, upd_same, (RVs.append rs rs2).mono st S⟩) .non⟩
      · cases e
    · cases e
  · cases e
theorem RVs.dropLast {ρ : List Addr} {H : Hp} {ds : List Cd.Val} {vs : List V} (r : RVs K ρ H ds vs) : RVs K ρ H ds.dropLast vs.dropLast := by
  rw [List.dropLast_eq_take, List.dropLast_eq_take, r.length]
  exact RVs.take _ r
theorem mf_pop : MthF K Cd.mPop rPop := by
  intro ρ h h' H x ds u ox xs Q S r1 r2 e k
  unfold Cd.mPop at e
  split at e
  · split at e
    · rename_i l hl
      split at e
      · rename_i v hv
        cases e
        cases r2
        cases r1 with
        | ref q =>
          obtain ⟨vs, e1, rs⟩ := S.obj _ _ _ hl q
          obtain ⟨y, e2, ry⟩ := rs.get hv
          rw [rs.length] at e2
          have st := Step.put (ρ := ρ) (H := H) (o := .lst vs.dropLast) q
          exact ⟨_, vs, y, rfl, rfl, e1, e2, k ρ _ _ st (S.put q ⟨_, upd_same, rs.dropLast.mono st S⟩) (ry.mono st S)⟩
      · cases e
    · cases e
  · cases e
/-! ### slices -/
def tP (K : PySem.W.Frag) (ca : String → Value) (W : WX) (m : Cd.PM) : TO := fun σ H Q => ∃ ρ h η, Sim K ρ h H ∧ RE K ρ H η σ ∧ postG K ca W (fun _ _ a b => a = b) ρ H σ (m η h) Q
theorem PO.wk {e : Option Expr} {t t' : TO} (h : PO X e t) (k : ∀ σ H Q, t' σ H Q → t σ H Q) : PO X e t' := ⟨fun pins s σ H Q I hw => h.run pins s σ H Q I (k _ _ _ hw)⟩
theorem kp_no : PO X none (tP X.K ca W Cd.pNo) := PO.wk po_none fun σ H Q ⟨ρ, h, η, S, re, p⟩ => p ρ H none (Step.refl _ _) S rfl
theorem kp_some (he : KE X ca W e me) : PO X (some e) (tP X.K ca W (Cd.pSome me)) := by
  refine PO.wk (po_some he) fun σ H Q ⟨ρ, h, η, S, re, p⟩ => ?_
  refine ⟨ρ, h, η, S, re, postG.first p fun ρ1 H1 h1 d x st1 S1 r1 p1 => ?_⟩
  cases d with
  | int i => cases r1; exact ⟨i, rfl, p1 ρ1 H1 _ (Step.refl _ _) S1 rfl⟩
  | _ => exact p1.elim
theorem cut_rv {ρ : List Addr} {H : Hp} {ds : List Cd.Val} {vs : List V} (lo hi : Option Int) (r : RVs K ρ H ds vs) : RVs K ρ H (Cd.cut ds lo hi) (cutV vs lo hi) := by
  unfold Cd.cut cutV
  rw [show HT.sIx = Cd.sIx from rfl, ← r.length]
  exact RVs.take _ (RVs.drop _ r)
theorem cut_str (s : List Nat) (lo hi : Option Int) : cutS (toS s) lo hi = toS (Cd.cut s lo hi) := by
  unfold Cd.cut cutS toS
  have : HT.sIx = Cd.sIx := rfl
  rfl
def rSlAll (K : PySem.W.Frag) : V → Option Int → Option Int → Hp → VK → Prop := fun x lo hi H Q => rSlS x lo hi H Q ∨ rSlA K x lo hi H Q ∨ rSlL K x lo hi H Q
theorem sl_all : SlR X (rSlAll X.K) := SlR.or sl_str (SlR.or sl_tupA sl_list)
theorem sl_of {ρ : List Addr} {h h' : Cd.Hep} {H : Hp} {d u : Cd.Val} {x : V} {lo hi : Option Int} {Q : VK} (S : Sim K ρ h H) (r : RV K ρ H d x) (e : Cd.oSl h d lo hi = some (u, h')) (k : ∀ ρ' H' w, Step ρ H ρ' H' → Sim K ρ' h' H' → RV K ρ' H' u w → Q w H') : rSlAll K x lo hi H Q := by
  unfold Cd.oSl at e
  split at e
  · split at e
    · rename_i s hz
      cases e
      cases r
      rw [line_eq] at hz
      exact .inl ⟨_, rfl, hz, by rw [cut_str]; exact k ρ H _ (Step.refl _ _) S (.str _)⟩
    · cases e
  · cases e
    cases r with
    | @tup a ds0 vs q rs =>
      refine .inr (.inl ⟨_, _, rfl, q, fun hw => ?_, fun _ => tup_k S (cut_rv lo hi rs) k⟩)
      have e : ∀ l : List Cd.Val, l.length = vs.length → Cd.cut l lo hi = l := fun l hl => by
        unfold Cd.cut
        rw [show HT.sIx = Cd.sIx from rfl, ← hl] at hw
        rw [hw.1, hw.2]
        simp
      rw [e _ rs.length] at k
      exact k ρ H _ (Step.refl _ _) S (.tup q rs)
  · cases e
    cases r with
    | fl q rs => exact .inr (.inr ⟨_, _, rfl, q.sq, lay_k S (cut_rv lo hi rs) k⟩)
  · split at e
    · rename_i l hl
      cases e
      cases r with
      | ref q =>
        obtain ⟨vs, e1, rs⟩ := S.obj _ _ _ hl q
        exact .inr (.inr ⟨_, _, rfl, SqL.of e1, lay_k S (cut_rv lo hi rs) k⟩)
    · cases e
  · cases e
theorem k_slice {lo hi : Option Expr} {ml mh : Cd.PM} {p2 : Pos} (he : KE X ca W e me) (hl : PO X lo (tP X.K ca W ml)) (hh : PO X hi (tP X.K ca W mh)) : KE X ca W (.Subscript e (.Slice lo hi none p2) pos) (Cd.eSl me ml mh) := by
  refine PE.wk (pe_slice sl_all he hl hh) fun σ H Q ⟨ρ, h, η, S, re, p⟩ => ?_
  refine ⟨ρ, h, η, S, re, postG.first p fun ρ1 H1 h1 d x st1 S1 r1 p1 => ?_⟩
  refine ⟨ρ1, h1, η, S1, re.mono st1 S, postG.first p1 fun ρ2 H2 h2 l l' st2 S2 r2 p2 => ?_⟩
  cases (show l = l' from r2)
  refine ⟨ρ2, h2, η, S2, (re.mono st1 S).mono st2 S1, postG.first p2 fun ρ3 H3 h3 u u' st3 S3 r3 p3 => ?_⟩
  cases (show u = u' from r3)
  cases eo : Cd.oSl h3 d l u with
  | none => rw [eo] at p3; exact p3.elim
  | some q =>
    obtain ⟨v, h4⟩ := q
    rw [eo] at p3
    exact sl_of S3 ((r1.mono st2 S1).mono st3 S2) eo p3
end
end Cb

set_option Elab.async false
set_option linter.all false
set_option maxRecDepth 100000
set_option maxHeartbeats 4000000
/-! CdB7: the bridge: comprehensions. -/
namespace Cb
open PySem PySem.Spec PyProof.Rows L2
/-- as Step, but the list D, which is no place, may change -/
structure StepD (D : Addr) (ρ : List Addr) (H : Hp) (ρ' : List Addr) (H' : Hp) : Prop where
  pre : ρ <+: ρ'
  fr : ∀ a o, a ∉ ρ → a ≠ D → H a = some o → H' a = some o
  new : ∀ a, a ∈ ρ' → a ∉ ρ → H a = none
theorem Step.toD {D : Addr} {ρ ρ' : List Addr} {H H' : Hp} (s : Step ρ H ρ' H') : StepD D ρ H ρ' H' := ⟨s.pre, fun a o n _ e => s.fr a o n e, s.new⟩
theorem StepD.trans {D : Addr} {ρ ρ1 ρ2 : List Addr} {H H1 H2 : Hp} (a : StepD D ρ H ρ1 H1) (b : StepD D ρ1 H1 ρ2 H2) (hd : H D ≠ none) (nd : ∀ x, x ∈ ρ2 → x ≠ D) : StepD D ρ H ρ2 H2 := by
  have f : ∀ x o, x ∉ ρ → x ≠ D → H x = some o → x ∉ ρ1 ∧ H1 x = some o := by
    intro x o n nD e
    refine ⟨fun m => ?_, a.fr x o n nD e⟩
    have q := a.new x m n
    rw [q] at e
    cases e
  refine ⟨a.pre.trans b.pre, fun x o n nD e => b.fr x o (f x o n nD e).1 nD (f x o n nD e).2, fun x m n => ?_⟩
  by_cases h1 : x ∈ ρ1
  · exact a.new x h1 n
  · cases q : H x with
    | none => rfl
    | some o =>
      have := b.new x m h1
      rw [(f x o n (nd x m) q).2] at this; cases this
section
variable {K : PySem.W.Frag} {D : Addr} {acc acc' : List V} {ρ ρ' : List Addr} {H H' : Hp} {h h' : Cd.Hep}
theorem sqT_app (hD : H D = some (.lst acc)) {a : Addr} {vs : List V} (q : SqT K H a vs) : SqT K (upd H D (.lst acc')) a vs := by
  rcases q with (q | ⟨o, q⟩) | q
  · have n : a ≠ D := fun z => by rw [z, hD] at q; cases q
    exact .inl (.inl (by rw [upd_ne n]; exact q))
  · have n : a ≠ D := fun z => by rw [z, hD] at q; cases q
    exact .inl (.inr ⟨o, by rw [upd_ne n]; exact q⟩)
  · exact .inr q
theorem fzL_app (hD : H D = some (.lst acc)) {a : Addr} {vs : List V} (q : FzL K H a vs) : FzL K (upd H D (.lst acc')) a vs := by
  rcases q with ⟨o, q⟩ | q
  · have n : a ≠ D := fun z => by rw [z, hD] at q; cases q
    exact .inl ⟨o, by rw [upd_ne n]; exact q⟩
  · exact .inr q
mutual
theorem RV.app (hD : H D = some (.lst acc)) : ∀ {d : Cd.Val} {v : V}, RV K ρ H d v → RV K ρ (upd H D (.lst acc')) d v
  | _, _, .non => .non
  | _, _, .bl b => .bl b
  | _, _, .int i => .int i
  | _, _, .str s => .str s
  | _, _, .tup h r => .tup (sqT_app hD h) (RVs.app hD r)
  | _, _, .fl h r => .fl (fzL_app hD h) (RVs.app hD r)
  | _, _, .ref h => .ref h
  | _, _, .exo a => .exo a
theorem RVs.app (hD : H D = some (.lst acc)) : ∀ {ds : List Cd.Val} {vs : List V}, RVs K ρ H ds vs → RVs K ρ (upd H D (.lst acc')) ds vs
  | _, _, .nil => .nil
  | _, _, .cons h t => .cons (RV.app hD h) (RVs.app hD t)
end
theorem RD.app {l : List (Cd.Val × Cd.Val)} {kvs : List (Key × V)} (hD : H D = some (.lst acc)) (r : RD K ρ H l kvs) : RD K ρ (upd H D (.lst acc')) l kvs := by
  induction r with
  | nil => exact .nil
  | cons e r t ih => exact .cons e (RV.app hD r) ih
theorem RF.app {l : List (String × Cd.Val)} {kvs : List (Str × V)} (hD : H D = some (.lst acc)) (r : RF K ρ H l kvs) : RF K ρ (upd H D (.lst acc')) l kvs := by
  induction r with
  | nil => exact .nil
  | cons r t ih => exact .cons (RV.app hD r) ih
theorem Sim.app (S : Sim K ρ h H) (hD : H D = some (.lst acc)) (nD : D ∉ ρ) : Sim K ρ h (upd H D (.lst acc')) := by
  refine ⟨S.len, S.nd, fun i o a hi ha => ?_⟩
  have q := S.obj i o a hi ha
  have n : a ≠ D := fun z => nD (z ▸ List.mem_iff_getElem?.mpr ⟨i, ha⟩)
  cases o with
  | lst l =>
    obtain ⟨vs, e1, rs⟩ := q
    exact ⟨vs, by rw [upd_ne n]; exact e1, RVs.app hD rs⟩
  | dct l =>
    obtain ⟨vs, e1, rs⟩ := q
    exact ⟨vs, by rw [upd_ne n]; exact e1, RD.app hD rs⟩
  | ins c fs =>
    obtain ⟨C, dx, vs, e1, cn, rs⟩ := q
    exact ⟨C, dx, vs, by rw [upd_ne n]; exact e1, cn, RF.app hD rs⟩
theorem RE.app {η : Cd.Env} {σ : L2.St} (r : RE K ρ H η σ) (hD : H D = some (.lst acc)) : RE K ρ (upd H D (.lst acc')) η σ := ⟨r.len, fun i d e => by
  obtain ⟨v, h1, h2⟩ := r.at_ i d e
  exact ⟨v, h1, RV.app hD h2⟩⟩
/-- the list becomes a place -/
theorem StepD.place (s : StepD D ρ H ρ' H') (hD : H D = none) (nD : D ∉ ρ') : Step ρ H (ρ' ++ [D]) H' := by
  refine ⟨s.pre.trans ⟨[D], rfl⟩, fun a o n e => s.fr a o n (fun z => by rw [z, hD] at e; cases e) e, fun a m n => ?_⟩
  rcases List.mem_append.mp m with m | m
  · exact s.new a m n
  · rw [List.mem_singleton.mp m]; exact hD
theorem Sim.place {vs : List V} {ds : List Cd.Val} (S : Sim K ρ h H) (hD : H D = some (.lst vs)) (nD : D ∉ ρ) (r : RVs K ρ H ds vs) : Sim K (ρ ++ [D]) (h ++ [.lst ds]) H := by
  have st : Step ρ H (ρ ++ [D]) H → True := fun _ => trivial
  have up : ∀ {d : Cd.Val} {v : V}, RV K ρ H d v → RV K (ρ ++ [D]) H d v := fun q => rv_more q
  have ups : ∀ {ds : List Cd.Val} {vs : List V}, RVs K ρ H ds vs → RVs K (ρ ++ [D]) H ds vs := fun q => rvs_more q
  refine ⟨by rw [List.length_append, List.length_append, S.len]; rfl, List.nodup_append.mpr ⟨S.nd, by simp, fun a ha b hb => by
    rw [List.mem_singleton.mp hb]
    rintro rfl
    exact nD ha⟩, fun i w a hi ha => ?_⟩
  by_cases hl : i < h.length
  · rw [List.getElem?_append_left hl] at hi
    rw [List.getElem?_append_left (by rw [S.len]; exact hl)] at ha
    have q := S.obj i w a hi ha
    cases w with
    | lst l => obtain ⟨vs, e1, rs⟩ := q; exact ⟨vs, e1, ups rs⟩
    | dct l =>
      obtain ⟨vs, e1, rs⟩ := q
      refine ⟨vs, e1, ?_⟩
      clear e1 hi
      induction rs with
      | nil => exact .nil
      | cons e r t ih => exact .cons e (up r) ih
    | ins c fs =>
      obtain ⟨C, dx, vs, e1, cn, rs⟩ := q
      refine ⟨C, dx, vs, e1, cn, ?_⟩
      clear e1 hi
      induction rs with
      | nil => exact .nil
      | cons r t ih => exact .cons (up r) ih
  · have e : i = h.length := by
      have := (List.getElem?_eq_some_iff.mp hi).1
      rw [List.length_append] at this
      simp at this
      omega
    subst e
    rw [List.getElem?_append_right (Nat.le_refl _), Nat.sub_self] at hi
    rw [List.getElem?_append_right (by rw [S.len]; exact Nat.le_refl _), S.len, Nat.sub_self] at ha
    cases hi
    cases ha
    exact ⟨vs, hD, ups r⟩
where
  rv_more {d : Cd.Val} {v : V} (q : RV K ρ H d v) : RV K (ρ ++ [D]) H d v := by
    exact RV.rec (motive_1 := fun d v _ => RV K (ρ ++ [D]) H d v) (motive_2 := fun ds vs _ => RVs K (ρ ++ [D]) H ds vs) .non (fun b => .bl b) (fun i => .int i) (fun s => .str s) (fun h _ r => .tup h r) (fun h _ r => .fl h r)
      (fun h => .ref (by rw [List.getElem?_append_left (List.getElem?_eq_some_iff.mp h).1]; exact h)) (fun a => .exo a) .nil (fun _ _ a b => .cons a b) q
  rvs_more {ds : List Cd.Val} {vs : List V} (q : RVs K ρ H ds vs) : RVs K (ρ ++ [D]) H ds vs := by
    exact RVs.rec (motive_1 := fun d v _ => RV K (ρ ++ [D]) H d v) (motive_2 := fun ds vs _ => RVs K (ρ ++ [D]) H ds vs) .non (fun b => .bl b) (fun i => .int i) (fun s => .str s) (fun h _ r => .tup h r) (fun h _ r => .fl h r)
      (fun h => .ref (by rw [List.getElem?_append_left (List.getElem?_eq_some_iff.mp h).1]; exact h)) (fun a => .exo a) .nil (fun _ _ a b => .cons a b) q
end
theorem RE.wipe {K : PySem.W.Frag} {ρ : List Addr} {H : Hp} {η : Cd.Env} {σ : L2.St} (r : RE K ρ H η σ) : ∀ vs : List Nat, RE K ρ H (Cd.wipe η vs) (L2.wipe σ vs)
  | [] => r
  | v :: vs => by
    have ih := RE.wipe r vs
    refine ⟨by show (List.set _ _ _).length = (List.set _ _ _).length; rw [List.length_set, List.length_set]; exact ih.len, fun i d e => ?_⟩
    have e : ((Cd.wipe η vs).set v none)[i]? = some (some d) := e
    have n : i ≠ v := by
      rintro rfl
      have hl : i < (Cd.wipe η vs).length := by
        have := (List.getElem?_eq_some_iff.mp e).1
        rwa [List.length_set] at this
      rw [List.getElem?_set_self hl] at e
      cases e
    rw [List.getElem?_set_ne (Ne.symm n)] at e
    obtain ⟨u, h1, h2⟩ := ih.at_ i d e
    exact ⟨u, by show ((L2.wipe σ vs).set v none)[i]? = _; rw [List.getElem?_set_ne (Ne.symm n)]; exact h1, h2⟩
abbrev W0 : WX := fun _ _ _ _ => False
section
variable {X : Cx} {ca : String → Value} {W : WX}
/-- the targets that keep to their own slots -/
def OwnG (K : PySem.W.Frag) (vs : List Nat) (g : Cd.GM) (gt : TG) : Prop := ∀ (ρ : List Addr) (h : Cd.Hep) (H : Hp) (η η' : Cd.Env) (σ : L2.St) (d : Cd.Val) (x : V) (Q : L2.St → Hp → Prop), Sim K ρ h H → RE K ρ H η σ → RV K ρ H d x → g d η = some η' →
  (∀ σ', RE K ρ H η' σ' → (L2.wipe σ vs = σ → L2.wipe σ' vs = σ) → Q σ' H) → gt x σ H Q
theorem compL_post {K : PySem.W.Frag} {g : Cd.GM} {gt : TG} {tc : Cd.TM} {tt : TT} {me : Cd.EM} {te : TE} {vs : List Nat} (hg : OwnG K vs g gt) (ht : ∀ σ H Q, tT K ca W0 tc σ H Q → tt σ H Q) (he : ∀ σ H Q, tE K ca W0 me σ H Q → te σ H Q) {J : It} {ds : List Cd.Val} {chk : Cd.Hep → Bool} {ρ0 : List Addr} {H0 : Hp} {h0 : Cd.Hep} {η : Cd.Env} {σ : L2.St} {Q : VK} {D : Addr}
    (F : ItF K J ds chk ρ0 H0) (S : Sim K ρ0 h0 H0) (re : RE K ρ0 H0 η σ) (nD : H0 D = none)
    (p : ∃ ys h', Cd.compL g chk tc me (Cd.wipe η vs) ds h0 = .ok ys h' ∧ Cd.szOk ys.length ∧ ∀ ρ' H' x, Step ρ0 H0 ρ' H' → Sim K ρ' (h' ++ [.lst ys]) H' → RV K ρ' H' (.ref h'.length) x → Q x H') (hv : L2.wipe (L2.wipe σ vs) vs = L2.wipe σ vs) :
    ∃ Wv : Nat → Nat → Hp → Prop, (∃ m, Wv 0 m (upd H0 D (.lst []))) ∧ ∀ i m H, Wv i m H →
      (J.stop i H ∧ Q (.ref D) H) ∨ (J.go i H ∧ ∃ Nx : Hp → Prop, (∀ H', Nx H' → ∃ m', m' < m ∧ Wv (i + 1) m' H') ∧ ∀ x H', J.yld i H x H' → gt x (L2.wipe σ vs) H' fun σ2 H2 => L2.wipe σ2 vs = L2.wipe σ vs ∧ tt σ2 H2 fun b H3 =>
        if b = true then te σ2 H3 fun y H4 => ∃ acc, H4 D = some (.lst acc) ∧ acc.length < sizeLine ∧ Nx (upd H4 D (.lst (acc ++ [y]))) else Nx H3) := by
  obtain ⟨ys, hE, ey, hz, k⟩ := p
  -- between two turns
  refine ⟨fun i m H => (m + i = ds.length + 1 ∧ i ≤ ds.length) ∧ ∃ ρ h accd acc rest, StepD D ρ0 (upd H0 D (.lst [])) ρ H ∧ Sim K ρ h H ∧ H D = some (.lst acc) ∧ D ∉ ρ ∧ RE K ρ H (Cd.wipe η vs) (L2.wipe σ vs) ∧ RVs K ρ H accd acc ∧ ys = accd ++ rest ∧ Cd.compL g chk tc me (Cd.wipe η vs) (ds.drop i) h = .ok rest hE,
    ⟨ds.length + 1, ⟨rfl, Nat.zero_le _⟩, ρ0, h0, [], [], ys, ⟨List.prefix_rfl, fun a o _ _ e => e, fun _ m n => absurd m n⟩, S.out nD, upd_same, fun m => S.some_of m nD, (re.wipe vs).mono (Step.out D _ nD) S, .nil, rfl, ey⟩, ?_⟩
  rintro i m H ⟨⟨em, eil⟩, ρ, h, accd, acc, rest, st, Si, hD, nDρ, rw_, racc, eys, er⟩
  have st0 : Step ρ0 H0 ρ H := by
    refine ⟨st.pre, fun a o n e => ?_, fun a m n => ?_⟩
    · have ne : a ≠ D := fun z => by rw [z, nD] at e; cases e
      exact st.fr a o n ne (by rw [upd_ne ne]; exact e)
    · have ne : a ≠ D := fun z => nDρ (z ▸ m)
      have := st.new a m n
      rwa [upd_ne ne] at this
  by_cases hi : i < ds.length
  · rw [List.drop_eq_getElem_cons hi, Cd.compL] at er
    split at er
    · rename_i hc
      refine .inr ⟨F.go ρ H h i st0 Si hc hi, fun H' => ∃ ρ h accd acc rest, StepD D ρ0 (upd H0 D (.lst [])) ρ H' ∧ Sim K ρ h H' ∧ H' D = some (.lst acc) ∧ D ∉ ρ ∧ RE K ρ H' (Cd.wipe η vs) (L2.wipe σ vs) ∧ RVs K ρ H' accd acc ∧ ys = accd ++ rest ∧ Cd.compL g chk tc me (Cd.wipe η vs) (ds.drop (i + 1)) h = .ok rest hE,
        fun H' w => ⟨m - 1, by omega, ⟨by omega, by omega⟩, w⟩, fun x H' y => ?_⟩
      obtain ⟨st1, S1, r1⟩ := F.yld ρ H h i ds[i] x H' st0 Si hc (List.getElem?_eq_getElem hi) y
      -- D stands through a step
      have keepD : ∀ {ρa ρb : List Addr} {Ha Hb : Hp} {ac : List V}, Step ρa Ha ρb Hb → D ∉ ρa → Ha D = some (.lst ac) → Hb D = some (.lst ac) ∧ D ∉ ρb := fun s n e => ⟨s.fr D _ n e, fun mm => by
        have := s.new D mm n
        rw [this] at e; cases e⟩
      have dne : (upd H0 D (.lst [])) D ≠ none := by rw [upd_same]; exact fun z => nomatch z
      have ne_of_not : ∀ {ρb : List Addr}, D ∉ ρb → ∀ z, z ∈ ρb → z ≠ D := fun n z m e => n (e ▸ m)
      obtain ⟨hD1, nD1⟩ := keepD st1 nDρ hD
      cases eg : g ds[i] (Cd.wipe η vs) with
      | none => rw [eg] at er; cases er
      | some η1 =>
        rw [eg] at er
        simp only at er
        refine hg ρ h H' (Cd.wipe η vs) η1 (L2.wipe σ vs) ds[i] x _ S1 (rw_.mono st1 Si) r1 eg fun σ2 re2 hw => ⟨hw hv, ?_⟩
        refine ht _ _ _ ⟨ρ, h, η1, S1, re2, ?_⟩
        cases ec : tc η1 h with
        | stuck => rw [ec] at er; cases er
        | exc _ _ => rw [ec] at er; cases er
        | ok kk h1 =>
          rw [ec] at er
          simp only at er
          intro ρ2 H2 b st2 S2 rb
          cases (show kk = b from rb)
          obtain ⟨hD2, nD2⟩ := keepD st2 nD1 hD1
          have sD2 : StepD D ρ0 (upd H0 D (.lst [])) ρ2 H2 := (st.trans (st1.trans st2).toD dne (ne_of_not nD2))
          cases kk with
          | false =>
            simp only [Bool.false_eq_true, if_false] at er ⊢
            exact ⟨ρ2, h1, accd, acc, rest, sD2, S2, hD2, nD2, (rw_.mono st1 Si).mono st2 S1, (racc.mono st1 Si).mono st2 S1, eys, er⟩
          | true =>
            simp only [if_true] at er ⊢
            refine he _ _ _ ⟨ρ2, h1, η1, S2, re2.mono st2 S1, ?_⟩
            cases ee : me η1 h1 with
            | stuck => rw [ee] at er; cases er
            | exc _ _ => rw [ee] at er; cases er
            | ok y1 h2 =>
              rw [ee] at er
              simp only at er
              intro ρ3 H3 yv st3 S3 ry
              obtain ⟨hD3, nD3⟩ := keepD st3 nD2 hD2
              cases el : Cd.compL g chk tc me (Cd.wipe η vs) (ds.drop (i + 1)) h2 with
              | stuck => rw [el] at er; cases er
              | exc _ _ => rw [el] at er; cases er
              | ok rest2 h3 =>
                rw [el] at er
                simp only [Cd.Res.bind_ok, Cd.Res.ok.injEq] at er
                obtain ⟨e1, e2⟩ := er
                have racc3 := ((racc.mono st1 Si).mono st2 S1).mono st3 S2
                have sD3 : StepD D ρ0 (upd H0 D (.lst [])) ρ3 H3 := st.trans ((st1.trans st2).trans st3).toD dne (ne_of_not nD3)
                refine ⟨acc, hD3, ?_, ρ3, h2, accd ++ [y1], acc ++ [yv], rest2, ?_, S3.app hD3 nD3, upd_same, nD3, (((rw_.mono st1 Si).mono st2 S1).mono st3 S2).app hD3, RVs.app hD3 (RVs.append racc3 (.cons ry .nil)), by rw [eys, ← e1, List.append_assoc]; rfl, by rw [el, e2]⟩
                · rw [line_eq, eys, ← e1, List.length_append, List.length_cons, racc.length] at hz
                  omega
                · exact ⟨sD3.pre, fun a o n ne e => by rw [upd_ne ne]; exact sD3.fr a o n ne e, sD3.new⟩
    · cases er
  · rw [List.drop_eq_nil_of_le (by omega), Cd.compL] at er
    split at er
    · rename_i hc
      cases er
      rw [List.append_nil] at eys
      subst eys
      refine .inl ⟨F.stop ρ H _ i st0 Si hc (by omega), k (ρ ++ [D]) H _ ?_ (Si.place hD nDρ racc) (.ref ?_)⟩
      · refine ⟨st0.pre.trans ⟨[D], rfl⟩, st0.fr, fun a m n => ?_⟩
        rcases List.mem_append.mp m with m | m
        · exact st0.new a m n
        · rw [List.mem_singleton.mp m]; exact nD
      · rw [← Si.len, List.getElem?_append_right (Nat.le_refl _), Nat.sub_self]; rfl
    · cases er
/-- a comprehension of one for -/
theorem tLc_of {mi : Cd.IM} {g : Cd.GM} {gt : TG} {tc : Cd.TM} {tt : TT} {me : Cd.EM} {te : TE} {vs : List Nat} (hg : OwnG X.K vs g gt) (ht : ∀ σ H Q, tT X.K ca W0 tc σ H Q → tt σ H Q) (he : ∀ σ H Q, tE X.K ca W0 me σ H Q → te σ H Q) (hv : ∀ σ : L2.St, L2.wipe (L2.wipe σ vs) vs = L2.wipe σ vs) :
    ∀ σ H Q, tE X.K ca W (Cd.eComp vs mi g tc me) σ H Q → tLc (tI X.K ca W mi) gt tt te vs σ H Q := by
  rintro σ H Q ⟨ρ, h, η, S, re, p⟩
  refine ⟨ρ, h, η, S, re, ?_⟩
  unfold Cd.eComp at p
  cases em : mi η h with
  | stuck => rw [em] at p; exact p.elim
  | exc e h' => rw [em] at p; exact p
  | ok q h1 =>
    rw [em] at p
    simp only [Cd.Res.bind_ok] at p
    intro ρ1 H1 J st1 S1 F D nD
    refine compL_post hg ht he F S1 (re.mono st1 S) nD ?_ (hv σ)
    cases el : Cd.compL g q.2 tc me (Cd.wipe η vs) q.1 h1 with
    | stuck => rw [el] at p; exact p.elim
    | exc e h2 =>
      -- a comprehension's own steps raise nothing here
      exact (compL_noexc el).elim
    | ok ys h2 =>
      rw [el] at p
      simp only [Cd.Res.bind_ok] at p
      split at p
      · rename_i hz
        exact ⟨ys, h2, rfl, hz, fun ρ' H' x st S' r => p ρ' H' x (st1.trans st) S' r⟩
      · exact p.elim
where
  compL_noexc {g : Cd.GM} {chk : Cd.Hep → Bool} {c : Cd.TM} {e : Cd.EM} {η : Cd.Env} : ∀ {xs : List Cd.Val} {h : Cd.Hep} {ex : Cd.Exc} {h2 : Cd.Hep}, Cd.compL g chk c e η xs h = .exc ex h2 → False
    | [], h, ex, h2, q => by
      rw [Cd.compL] at q
      split at q <;> cases q
    | x :: xs, h, ex, h2, q => by
      rw [Cd.compL] at q
      split at q
      · split at q
        · split at q
          · split at q
            · split at q
              · rename_i y h3 _
                cases el : Cd.compL g chk c e η xs h3 with
                | stuck => rw [el] at q; cases q
                | exc _ _ => exact compL_noexc el
                | ok _ _ => rw [el] at q; cases q
              · cases q
            · exact compL_noexc q
          · cases q
        · cases q
      · cases q
theorem own_name {K : PySem.W.Frag} (i : Nat) : OwnG K [i] (Cd.gNam i) (gName i) := by
  intro ρ h H η η' σ d x Q S re r e k
  cases e
  refine k _ (re.set r i) fun hw => ?_
  show (σ.set i (some x)).set i none = σ
  rw [List.set_set]
  exact hw
theorem own_two {K : PySem.W.Frag} (i j : Nat) (ne : i ≠ j) : OwnG K [i, j] (Cd.gTpl (Cd.gsCons (Cd.gNam i) (Cd.gsCons (Cd.gNam j) Cd.gsNil))) (gTup K 2 (gCons (gName i) (gCons (gName j) gNil))) := by
  intro ρ h H η η' σ d x Q S re r e k
  cases r with
  | tup q rs =>
    cases rs with
    | nil => cases e
    | cons r1 rs =>
      cases rs with
      | nil => cases e
      | cons r2 rs =>
        cases rs with
        | cons r3 rs => cases e
        | nil =>
          cases e
          refine ⟨_, _, rfl, q, rfl, _, _, rfl, _, _, rfl, rfl, k _ ((re.set r1 i).set r2 j) fun hw => ?_⟩
          show ((((σ.set i _).set j _).set j none).set i none) = σ
          rw [List.set_set, List.set_comm _ _ (Ne.symm ne), List.set_set]
          have hw : (σ.set j none).set i none = σ := hw
          first | exact hw | (rw [List.set_comm none none ne]; exact hw)
  | _ => cases e
theorem wipe_one (i : Nat) (σ : L2.St) : L2.wipe (L2.wipe σ [i]) [i] = L2.wipe σ [i] := by
  show (σ.set i none).set i none = σ.set i none
  rw [List.set_set]
theorem wipe_two (i j : Nat) (ne : i ≠ j) (σ : L2.St) : L2.wipe (L2.wipe σ [i, j]) [i, j] = L2.wipe σ [i, j] := by
  show ((((σ.set j none).set i none).set j none).set i none) = (σ.set j none).set i none
  rw [List.set_comm none none ne, List.set_set, List.set_set]
theorem kts_nil {X : Cx} {ca : String → Value} : PTs X [] (tT X.K ca W0 Cd.tTrue) := ⟨fun pins s σ H Q I hw => pts_nil.run pins s σ H Q I (by
  obtain ⟨ρ, h, η, S, re, p⟩ := hw
  exact p ρ H true (Step.refl _ _) S rfl)⟩
theorem kts_one {X : Cx} {ca : String → Value} {c : Expr} {tc : Cd.TM} (h : KT X ca W0 c tc) : PTs X [c] (tT X.K ca W0 tc) := pts_one h
variable {pos p2 : Pos} {elt iter : Expr} {ifs : List Expr} {scope : Scope} {mi : Cd.IM} {tc : Cd.TM} {me : Cd.EM}
/-- [elt for x in iter if ..], x in slot i -/
theorem k_lc1 (i : Nat) {x : Str} (hc : X.calm = true) (hN : X.N.Nodup) (hi : KI X ca W (.Name x p2) iter mi) (ok : blkC X.N X.env.scope scope [(x, i)] = true)
    (ht : ∀ (s : Shared) (H : Hp) (C : Addr) (cl : List (Str × Addr)) (fp : List Addr), PTs (X.blk s H scope (compEnvC scope cl C X.env) fp) ifs (tT X.K ca W0 tc))
    (he : ∀ (s : Shared) (H : Hp) (C : Addr) (cl : List (Str × Addr)) (fp : List Addr), KE (X.blk s H scope (compEnvC scope cl C X.env) fp) ca W0 elt me)
    (hg : ∀ (s : Shared) (H : Hp) (C : Addr) (cl : List (Str × Addr)) (fp : List Addr), PG (X.blk s H scope (compEnvC scope cl C X.env) fp) (.Name x p2) (gName i)) (hs : ∀ x, foldedSetIterable iter X.env x = pure x := by intro _; rfl) :
    KE X ca W (.ListComp elt [⟨.Name x p2, iter, ifs, 0⟩] scope pos) (Cd.eComp [i] mi (Cd.gNam i) tc me) :=
  PE.wk (pe_lc (te := tE X.K ca W0 me) (own := [(x, i)]) hc hN hi (blkOk_by ok) hg ht he hs) (tLc_of (own_name i) (fun _ _ _ q => q) (fun _ _ _ q => q) (wipe_one i))
/-- y = [elt for x in iter if ..] -/
theorem ks_setLc1 (k i : Nat) {x y : Str} {py spos : Pos} (hc : X.calm = true) (hN : X.N.Nodup) (hi : KI X ca W (.Name x p2) iter mi) (ok : blkC X.N X.env.scope scope [(x, i)] = true)
    (hsw : swapsWith (.ListComp elt [⟨.Name x p2, iter, ifs, 0⟩] scope pos) (some (.Name y py)) spos.line X.env = pure true)
    (ht : ∀ (s : Shared) (H : Hp) (C : Addr) (cl : List (Str × Addr)) (fp : List Addr), PTs (X.blk s H scope (compEnvC scope cl C X.env) fp) ifs (tT X.K ca W0 tc))
    (he : ∀ (s : Shared) (H : Hp) (C : Addr) (cl : List (Str × Addr)) (fp : List Addr), KE (X.blk s H scope (compEnvC scope cl C X.env) fp) ca W0 elt me)
    (hg : ∀ (s : Shared) (H : Hp) (C : Addr) (cl : List (Str × Addr)) (fp : List Addr), PG (X.blk s H scope (compEnvC scope cl C X.env) fp) (.Name x p2) (gName i))
    (hy : X.N[k]? = some y := by rfl) (hyl : X.env.scope.names.lookup y = some .local := by rfl) (hs : ∀ x, foldedSetIterable iter X.env x = pure x := by intro _; rfl) :
    KS X ca W (.Assign [.Name y py] (.ListComp elt [⟨.Name x p2, iter, ifs, 0⟩] scope pos) spos) (Cd.sSet k (Cd.eComp [i] mi (Cd.gNam i) tc me)) := by
  refine PS.wk (ps_setLc (te := tE X.K ca W0 me) (i := k) (own := [(x, i)]) hc hN hy hyl hsw hi (blkOk_by ok) hg ht he hs) fun D σ H ⟨ρ, h, η, S, re, p⟩ => ?_
  refine tLc_of (own_name i) (fun _ _ _ q => q) (fun _ _ _ q => q) (wipe_one i) σ H _ ⟨ρ, h, η, S, re, postS.first S re p fun ρ1 H1 h1 v x st1 S1 r1 re1 p1 => ?_⟩
  exact p1 ρ1 H1 _ (Step.refl _ _) S1 (re1.set r1 k)
/-- [elt for x, y in iter if ..] -/
theorem k_lc2n (i j : Nat) (ne : i ≠ j) {x y : Str} {px py : Pos} {kk : Nat} (hc : X.calm = true) (hN : X.N.Nodup) (hi : KI X ca W (.Tuple [.Name x px, .Name y py] kk p2) iter mi) (ok : blkC X.N X.env.scope scope [(x, i), (y, j)] = true)
    (ht : ∀ (s : Shared) (H : Hp) (C : Addr) (cl : List (Str × Addr)) (fp : List Addr), PTs (X.blk s H scope (compEnvC scope cl C X.env) fp) ifs (tT X.K ca W0 tc))
    (he : ∀ (s : Shared) (H : Hp) (C : Addr) (cl : List (Str × Addr)) (fp : List Addr), KE (X.blk s H scope (compEnvC scope cl C X.env) fp) ca W0 elt me)
    (hg : ∀ (s : Shared) (H : Hp) (C : Addr) (cl : List (Str × Addr)) (fp : List Addr), PG (X.blk s H scope (compEnvC scope cl C X.env) fp) (.Tuple [.Name x px, .Name y py] kk p2) (gTup X.K 2 (gCons (gName i) (gCons (gName j) gNil)))) (hs : ∀ x, foldedSetIterable iter X.env x = pure x := by intro _; rfl) :
    KE X ca W (.ListComp elt [⟨.Tuple [.Name x px, .Name y py] kk p2, iter, ifs, 0⟩] scope pos) (Cd.eComp [i, j] mi (Cd.gTpl (Cd.gsCons (Cd.gNam i) (Cd.gsCons (Cd.gNam j) Cd.gsNil))) tc me) :=
  PE.wk (pe_lc (te := tE X.K ca W0 me) (own := [(x, i), (y, j)]) hc hN hi (blkOk_by ok) hg ht he hs) (tLc_of (own_two i j ne) (fun _ _ _ q => q) (fun _ _ _ q => q) (wipe_two i j ne))
theorem ks_setLc2n (k i j : Nat) (ne : i ≠ j) {x y z : Str} {px py pz spos : Pos} {kk : Nat} (hc : X.calm = true) (hN : X.N.Nodup) (hi : KI X ca W (.Tuple [.Name x px, .Name y py] kk p2) iter mi) (ok : blkC X.N X.env.scope scope [(x, i), (y, j)] = true)
    (hsw : swapsWith (.ListComp elt [⟨.Tuple [.Name x px, .Name y py] kk p2, iter, ifs, 0⟩] scope pos) (some (.Name z pz)) spos.line X.env = pure true)
    (ht : ∀ (s : Shared) (H : Hp) (C : Addr) (cl : List (Str × Addr)) (fp : List Addr), PTs (X.blk s H scope (compEnvC scope cl C X.env) fp) ifs (tT X.K ca W0 tc))
    (he : ∀ (s : Shared) (H : Hp) (C : Addr) (cl : List (Str × Addr)) (fp : List Addr), KE (X.blk s H scope (compEnvC scope cl C X.env) fp) ca W0 elt me)
    (hg : ∀ (s : Shared) (H : Hp) (C : Addr) (cl : List (Str × Addr)) (fp : List Addr), PG (X.blk s H scope (compEnvC scope cl C X.env) fp) (.Tuple [.Name x px, .Name y py] kk p2) (gTup X.K 2 (gCons (gName i) (gCons (gName j) gNil))))
    (hy : X.N[k]? = some z := by rfl) (hyl : X.env.scope.names.lookup z = some .local := by rfl) (hs : ∀ x, foldedSetIterable iter X.env x = pure x := by intro _; rfl) :
    KS X ca W (.Assign [.Name z pz] (.ListComp elt [⟨.Tuple [.Name x px, .Name y py] kk p2, iter, ifs, 0⟩] scope pos) spos) (Cd.sSet k (Cd.eComp [i, j] mi (Cd.gTpl (Cd.gsCons (Cd.gNam i) (Cd.gsCons (Cd.gNam j) Cd.gsNil))) tc me)) := by
  refine PS.wk (ps_setLc (te := tE X.K ca W0 me) (i := k) (own := [(x, i), (y, j)]) hc hN hy hyl hsw hi (blkOk_by ok) hg ht he hs) fun D σ H ⟨ρ, h, η, S, re, p⟩ => ?_
  refine tLc_of (own_two i j ne) (fun _ _ _ q => q) (fun _ _ _ q => q) (wipe_two i j ne) σ H _ ⟨ρ, h, η, S, re, postS.first S re p fun ρ1 H1 h1 v x st1 S1 r1 re1 p1 => ?_⟩
  exact p1 ρ1 H1 _ (Step.refl _ _) S1 (re1.set r1 k)
end
end Cb

set_option Elab.async false
set_option linter.all false
set_option maxRecDepth 100000
set_option maxHeartbeats 4000000
/-! CdB8: the bridge: in, enumerate, zip, o[i] op= e. -/
namespace Cb
open PySem PySem.Spec PyProof.Rows L2
section
variable {X : Cx} {K : PySem.W.Frag} {ca : String → Value} {W : WX} {a b c e : Expr} {ma mb me : Cd.EM} {pos : Pos}
theorem flat_of {ρ : List Addr} {H : Hp} {d : Cd.Val} {x : V} (r : RV K ρ H d x) : flatV x = Cd.flat d := by cases r <;> rfl
theorem flats_of {ρ : List Addr} {H : Hp} : ∀ {ds : List Cd.Val} {vs : List V}, RVs K ρ H ds vs → vs.all flatV = ds.all Cd.flat
  | _, _, .nil => rfl
  | _, _, .cons h t => by rw [List.all_cons, List.all_cons, flat_of h, flats_of t]
theorem eqF_of {ρ : List Addr} {H : Hp} {d e : Cd.Val} {x y : V} (r1 : RV K ρ H d x) (r2 : RV K ρ H e y) : eqV x y = Cd.eqF d e := by
  cases r1 <;> cases r2 <;> try rfl
  rename_i s t
  show (toS s == toS t) = (s == t)
  rw [Bool.eq_iff_iff, beq_iff_eq, beq_iff_eq]
  exact toS_inj
theorem inV_of {ρ : List Addr} {H : Hp} {d : Cd.Val} {x : V} (r : RV K ρ H d x) : ∀ {ds : List Cd.Val} {vs : List V}, RVs K ρ H ds vs → inV x vs = ds.any fun y => Cd.eqF y d
  | _, _, .nil => rfl
  | _, _, .cons h t => by
    show (eqV _ x || inV x _) = _
    rw [eqF_of h r, inV_of r t, List.any_cons]
def rInA (K : PySem.W.Frag) (neg : Bool) : R2 := fun x y H Q => (∃ (c : Nat) (z : Str), x = .str ⟨#[c]⟩ ∧ y = .str z ∧ Q (.bl (if neg then !decide (c ∈ z.cps.toList) else decide (c ∈ z.cps.toList))) H) ∨ rIn K neg x y H Q
theorem op_inA : OpR X (compareOp .In) (rInA X.K false) := OpR.or op_in_sign op_in_seq
theorem op_ninA : OpR X (compareOp .NotIn) (rInA X.K true) := OpR.or op_notIn_sign op_notIn_seq
theorem bf_inG (neg : Bool) : BinF K (fun h a b => (Cd.isIn h a b).map fun k => .bl (if neg then !k else k)) (rInA K neg) := by
  intro ρ h H d e u x y Q S r1 r2 hu k
  have hu : Option.map (fun k => Cd.Val.bl (if neg = true then !k else k)) (Cd.isIn h d e) = some u := hu
  cases ei : Cd.isIn h d e with
  | none => rw [ei] at hu; cases hu
  | some kk =>
    rw [ei] at hu
    cases hu
    unfold Cd.isIn at ei
    split at ei
    · cases ei
      cases r1; cases r2
      exact .inl ⟨_, _, rfl, rfl, k ρ H _ (Step.refl _ _) S (.bl _)⟩
    · cases ei
    · split at ei
      · rename_i l hl
        split at ei
        · rename_i hf
          cases ei
          rw [Bool.and_eq_true] at hf
          have go : ∀ {p : Addr} {vs : List V}, (SqL K H p vs ∨ SqT K H p vs) → RVs K ρ H l vs → rIn K neg x (.ref p) H Q := fun {p vs} q rs =>
            ⟨p, vs, rfl, q, by rw [flat_of r1]; exact hf.1, by rw [flats_of rs]; exact hf.2, by rw [inV_of r1 rs]; exact k ρ H _ (Step.refl _ _) S (.bl _)⟩
          refine .inr ?_
          cases r2 with
          | tup q rs => cases hl; exact go (.inr q) rs
          | fl q rs => cases hl; exact go (.inl q.sq) rs
          | ref q =>
            simp only [Cd.seqOf] at hl
            split at hl
            · rename_i m hm
              cases hl
              obtain ⟨vs, e1, rs⟩ := S.obj _ _ _ hm q
              exact go (.inl (SqL.of e1)) rs
            · cases hl
          | _ => cases hl
        · cases ei
      · cases ei
theorem bf_in : BinF K Cd.oIn (rInA K false) := bf_inG false
theorem bf_nin : BinF K Cd.oNin (rInA K true) := bf_inG true
/-! ### o[i] op= e -/
theorem get_list : PGet X (rIxL X.K) := by
  intro pins s σ H x y v u Q I rx ry h
  obtain ⟨p, xs, i, z, rfl, rfl, hq, he, q⟩ := h
  cases rx
  obtain ⟨t, rfl⟩ := ry
  obtain ⟨its, r, pl, hz⟩ := I.list hq
  obtain ⟨j, h1, h2, h3, h4, h5⟩ := L2.atI_get he
  obtain ⟨w, ew, rw'⟩ := r.get h2
  have hl := r.length
  have hn := line63
  have fin : EP X pins σ Q w s := ⟨z, H, I, rw', q⟩
  by_cases h0 : 0 ≤ i
  · have hj : i.toNat = j := by
      rw [seqIndex_of h0 h5] at h1
      exact Option.some.inj h1
    exact wpAny_getItem_list pl.isList h0 (by omega) (by rw [hj]; simpa using ew) fin
  · have hj : (i + (its.toArray.size : Int)).toNat = j := by
      rw [seqIndex_neg (by omega) h4] at h1
      rw [List.size_toArray, ← hl]
      exact Option.some.inj h1
    exact wpAny_getItem_list_neg pl.isList (by omega) (by rw [List.size_toArray] <;> omega) (by omega) (by rw [hj]; simpa using ew) fin
theorem ks_augIx {op : Operator} {f : Cd.Hep → Cd.Val → Cd.Val → Option Cd.Val} {r : R2} {tpos : Pos} (ho : OpR X (inplaceOp op) r) (hf : BinF X.K f r) (ha : KE X ca W a ma) (hb : KE X ca W b mb) (he : KE X ca W e me)
    (hs : ∀ ov iv new, augStore b ov iv new = (do holding [new, ov, iv] (setItem ov iv new); release [new, ov, iv] []; pure .next) := by intros; rfl) : KS X ca W (.AugAssign (.Subscript a b tpos) op e pos) (Cd.sAugIx f ma mb me) := by
  refine PS.wk (ps_augS (tip := r) ha hb get_list he ho set_list hs) fun D σ H ⟨ρ, h, η, S, re, p⟩ => ?_
  refine ⟨ρ, h, η, S, re, postS.first S re p fun ρ1 H1 h1 x ox st1 S1 r1 re1 p1 => ?_⟩
  refine ⟨ρ1, h1, η, S1, re1, postS.first S1 re1 p1 fun ρ2 H2 h2 k ik st2 S2 r2 re2 p2 => ?_⟩
  have r1' := r1.mono st2 S1
  cases ei : Cd.oIdxL h2 x k with
  | none => rw [ei] at p2; exact p2.elim
  | some y =>
    rw [ei] at p2
    simp only [Cd.ofO_some, Cd.Res.thn_ok] at p2
    have lst : rIxL X.K ox ik H2 (fun old H3 => RV X.K ρ2 H2 y old ∧ H3 = H2) := by
      unfold Cd.oIdxL at ei
      split at ei
      · split at ei
        · rename_i l hl
          cases r1' with
          | ref q =>
            cases r2
            obtain ⟨vs, e1, rs⟩ := S2.obj _ _ _ hl q
            obtain ⟨v, e2, rv⟩ := atI_rv rs ei
            exact ⟨_, vs, _, v, rfl, rfl, SqL.of e1, e2, rv, rfl⟩
        · cases ei
      · cases ei
    obtain ⟨pp, xs, ii, vv, e1, e2, e3, e4, rv, _⟩ := lst
    refine ⟨pp, xs, ii, vv, e1, e2, e3, e4, ρ2, h2, η, S2, re2, postS.first S2 re2 p2 fun ρ3 H3 h3 z oz st3 S3 r3 re3 p3 => ?_⟩
    cases ef : f h3 y z with
    | none => rw [ef] at p3; exact p3.elim
    | some v =>
      rw [ef] at p3
      simp only [Cd.ofO_some, Cd.Res.thn_ok] at p3
      refine hf ρ3 h3 H3 y z v vv oz _ S3 (rv.mono st3 S2) r3 ef fun ρ4 H4 w st4 S4 r4 => ?_
      cases es : Cd.setIx h3 x k v with
      | none => rw [es] at p3; exact p3.elim
      | some h5 =>
        rw [es] at p3
        exact setIx_of S4 ((r1'.mono st3 S2).mono st4 S3) ((r2.mono st3 S2).mono st4 S3) r4 es fun H' st S' => p3 ρ4 H' σ (st4.trans st) S' ((re3.mono st4 S3).mono st S4)
/-! ### enumerate, zip -/
theorem itemsS_of {ρ : List Addr} {h : Cd.Hep} {H : Hp} {d : Cd.Val} {x : V} {p : List Cd.Val × (Cd.Hep → Bool)} (S : Sim K ρ h H) (r : RV K ρ H d x) (e : Cd.itemsS h d = some p) :
    (∃ a vs, x = .ref a ∧ SqT K H a vs ∧ Cd.isT2 d (.tup []) = true ∧ ∀ ρ1 H1 h1, Step ρ H ρ1 H1 → Sim K ρ1 h1 H1 → p.2 h1 = true → ∃ ws, SqT K H1 a ws ∧ RVs K ρ1 H1 p.1 ws) ∨
    (∃ a vs, x = .ref a ∧ SqL K H a vs ∧ Cd.isT2 d (.tup []) = false ∧ ∀ ρ1 H1 h1, Step ρ H ρ1 H1 → Sim K ρ1 h1 H1 → p.2 h1 = true → ∃ ws, SqL K H1 a ws ∧ RVs K ρ1 H1 p.1 ws) := by
  cases r with
  | tup q rs => cases e; exact .inl ⟨_, _, rfl, q, rfl, fun ρ1 H1 h1 st S1 _ => ⟨_, st.sqT S q, rs.mono st S⟩⟩
  | fl q rs => cases e; exact .inr ⟨_, _, rfl, q.sq, rfl, fun ρ1 H1 h1 st S1 _ => ⟨_, (st.fzL S q).sq, rs.mono st S⟩⟩
  | ref q =>
    simp only [Cd.itemsS] at e
    split at e
    · rename_i l hl
      cases e
      obtain ⟨vs, e1, rs⟩ := S.obj _ _ _ hl q
      refine .inr ⟨_, vs, rfl, SqL.of e1, rfl, fun ρ1 H1 h1 st S1 c => ?_⟩
      have c := @of_decide_eq_true _ (Classical.propDecidable _) c
      obtain ⟨ws, e2, rs2⟩ := S1.obj _ _ _ c (st.ix q)
      exact ⟨ws, SqL.of e2, rs2⟩
    · cases e
  | _ => cases e
theorem enumL_get {l : List Cd.Val} {i : Nat} {d : Cd.Val} (e : (Cd.enumL l)[i]? = some d) : ∃ y, l[i]? = some y ∧ d = .tup [.int (i : Nat), y] := by
  unfold Cd.enumL at e
  rw [List.getElem?_map, List.getElem?_zipIdx] at e
  cases q : l[i]? with
  | none => rw [q] at e; cases e
  | some y => rw [q] at e; cases e; exact ⟨y, rfl, by simp⟩
theorem enumL_len (l : List Cd.Val) : (Cd.enumL l).length = l.length := by simp [Cd.enumL]
theorem itf_enumL {ρ : List Addr} {H : Hp} {a : Addr} {p : List Cd.Val × (Cd.Hep → Bool)} (F : ∀ ρ1 H1 h1, Step ρ H ρ1 H1 → Sim K ρ1 h1 H1 → p.2 h1 = true → ∃ ws, SqL K H1 a ws ∧ RVs K ρ1 H1 p.1 ws) : ItF K (Ite K a) (Cd.enumL p.1) p.2 ρ H where
  go := fun ρ1 H1 h1 i st S1 c hi => by
    obtain ⟨ws, q, rs⟩ := F ρ1 H1 h1 st S1 c
    rw [enumL_len] at hi
    exact ⟨ws, ws[i]'(by rw [← rs.length]; exact hi), q, List.getElem?_eq_getElem _⟩
  stop := fun ρ1 H1 h1 i st S1 c hi => by
    obtain ⟨ws, q, rs⟩ := F ρ1 H1 h1 st S1 c
    rw [enumL_len] at hi
    exact ⟨ws, q, by rw [← rs.length]; omega⟩
  yld := fun ρ1 H1 h1 i d x H' st S1 c hd y => by
    obtain ⟨ws, q, rs⟩ := F ρ1 H1 h1 st S1 c
    obtain ⟨T, xx, rfl, nT, rfl, hx⟩ := y
    obtain ⟨y, ey, rfl⟩ := enumL_get hd
    obtain ⟨v, e1, e2⟩ := rs.get ey
    have := hx ws q
    rw [e1] at this; cases this
    have s2 := Step.out (ρ := ρ1) T (.tup [.int (i : Nat), xx]) nT
    exact ⟨s2, S1.out nT, .tup (SqT.of upd_same) (.cons (.int _) (.cons (e2.mono s2 S1) .nil))⟩
/-- the tuple at a, its items in new pairs with their places -/
def IteT (K : PySem.W.Frag) (a : Addr) : It :=
  ⟨fun i H => ∃ (xs : List V) (x : V), SqT K H a xs ∧ xs[i]? = some x, fun i H v H' => ∃ T x, v = .ref T ∧ H T = none ∧ H' = upd H T (.tup [.int (i : Nat), x]) ∧ ∀ xs, SqT K H a xs → xs[i]? = some x, fun i H => ∃ xs : List V, SqT K H a xs ∧ xs.length = i⟩
theorem itf_enumT {ρ : List Addr} {H : Hp} {a : Addr} {p : List Cd.Val × (Cd.Hep → Bool)} (F : ∀ ρ1 H1 h1, Step ρ H ρ1 H1 → Sim K ρ1 h1 H1 → p.2 h1 = true → ∃ ws, SqT K H1 a ws ∧ RVs K ρ1 H1 p.1 ws) : ItF K (IteT K a) (Cd.enumL p.1) p.2 ρ H where
  go := fun ρ1 H1 h1 i st S1 c hi => by
    obtain ⟨ws, q, rs⟩ := F ρ1 H1 h1 st S1 c
    rw [enumL_len] at hi
    exact ⟨ws, ws[i]'(by rw [← rs.length]; exact hi), q, List.getElem?_eq_getElem _⟩
  stop := fun ρ1 H1 h1 i st S1 c hi => by
    obtain ⟨ws, q, rs⟩ := F ρ1 H1 h1 st S1 c
    rw [enumL_len] at hi
    exact ⟨ws, q, by rw [← rs.length]; omega⟩
  yld := fun ρ1 H1 h1 i d x H' st S1 c hd y => by
    obtain ⟨ws, q, rs⟩ := F ρ1 H1 h1 st S1 c
    obtain ⟨T, xx, rfl, nT, rfl, hx⟩ := y
    obtain ⟨y, ey, rfl⟩ := enumL_get hd
    obtain ⟨v, e1, e2⟩ := rs.get ey
    have := hx ws q
    rw [e1] at this; cases this
    have s2 := Step.out (ρ := ρ1) T (.tup [.int (i : Nat), xx]) nT
    exact ⟨s2, S1.out nT, .tup (SqT.of upd_same) (.cons (.int _) (.cons (e2.mono s2 S1) .nil))⟩
theorem meets_enumerate_newT (v : Value) (o : Obj) (Hh : Heap → Prop) (B : Begins v o Hh) :
    Meets (Builtin.«enumerate.__new__» ⟨[.type "enumerate", v], []⟩) (fun _ R s => Hh s.heap ∧
      R (.ok (.ret (.ref (s.heap.push o).objs.size))) { s with heap := (s.heap.push o).push { cls := .type "enumerate", data := .fields #[.none, .bool false, .ref s.heap.objs.size, rawInt 0, .none, .none] } }) :=
  .of_wp fun prog w A R s h => by
    obtain ⟨hp, g, d, tk, os⟩ := s; obtain ⟨h1, h⟩ := h
    have hsub := sub_enumerate
    have q1 : ∀ {A' : Around} {E : Value → Shared → Prop} {Q : Value → Shared → Prop}, Q (.ref hp.objs.size) ⟨hp.push o, g, d, tk, os⟩ → wpAny (model prog w) A' (pyIter v) Q E ⟨hp, g, d, tk, os⟩ :=
      fun q => B.iter prog w _ _ ⟨hp, g, d, tk, os⟩ _ h1 q
    wp_walk using q1
    refine wpAny_stack_any fun st => wpAny_pure ?_
    split
    · rename_i c _ _ _ _ _
      cases (c == Value.type "enumerate")
      · wp_walk using q1
        exact ⟨_, rfl, h⟩
      · wp_walk using q1
        exact ⟨_, rfl, h⟩
    · wp_walk using q1
      exact ⟨_, rfl, h⟩
theorem call_enumerate_B {prog : Program} {w : World} {A : Around} {E : Value → Shared → Prop} {s : Shared} {v : Value} {o : Obj} {Hh : Heap → Prop} {Q : Value → Shared → Prop} (B : Begins v o Hh) (h1 : Hh s.heap)
    (h : ∀ h', IsEnum h' (s.heap.objs.size + 1) s.heap.objs.size 0 .none → h'.get? s.heap.objs.size = some o → h'.objs.size = s.heap.objs.size + 2 → (∀ b o, s.heap.get? b = some o → h'.get? b = some o) → Q (.ref (s.heap.objs.size + 1)) { s with heap := h' }) :
    wpAny (model prog w) A (call (.type "enumerate") [v]) Q E s := by
  refine callType_new F.called_enumerate (by decide) (F.typeCall_enumerate_1 _) (F.newCall_enumerate_1 _) (fun obj => F.args_object_init_2 obj _) F.entry_enumerate_new (meets_enumerate_newT v o Hh B) ⟨h1, ?_⟩
  have hz : (s.heap.push o).objs.size = s.heap.objs.size + 1 := Heap.size_push ..
  show _ ∧ _
  rw [hz]
  have he : IsEnum ((s.heap.push o).push { cls := .type "enumerate", data := .fields #[.none, .bool false, .ref s.heap.objs.size, rawInt 0, .none, .none] }) (s.heap.objs.size + 1) s.heap.objs.size 0 .none := by
    have := Heap.get?_push_size (s.heap.push o) (o := { cls := .type "enumerate", data := .fields #[.none, .bool false, .ref s.heap.objs.size, rawInt 0, .none, .none] }) rfl
    rw [hz] at this; exact this
  exact ⟨⟨_, he, rfl⟩, h _ he (Heap.get?_push_of_some _ (Heap.get?_push_size _ B.free)) (by rw [Heap.size_push, hz]) fun b o x => Heap.get?_push_of_some _ (Heap.get?_push_of_some _ x)⟩
theorem tup_ne {h : Heap} {a b i : Nat} {items : Array Value} {n : String} {o : Obj} (p : h.IsTuple a items) (ho : h.get? b = some o) (hc : o.cls = .type n) (hn : n ≠ "tuple") : a ≠ b := by
  rintro rfl
  obtain ⟨ob, e, c, _⟩ := p
  rw [ho] at e
  cases e
  rw [hc] at c
  injection c with c
  exact hn c
theorem turn_enumT {P : Program} {w : World} {K : PySem.W.Frag} {elts : List Expr} {kk : Nat} {tpos : Pos} (a e it : Addr) :
    Turn P w K (.Tuple elts kk tpos) (IteT K a) [e, it] e (fun i h => (∃ old, IsEnum h e it ((i : Nat) : Int) old) ∧ h.IsTupleIter it a i ∧ e ≠ it) where
  mem := by simp
  obj := fun i h st b hb => by
    obtain ⟨⟨old, he⟩, ⟨o, ho, hc, hd⟩, _⟩ := st
    have e' : b = e ∨ b = it := by simpa using hb
    rcases e' with z | z
    · rw [z]; exact ⟨_, he, fun v q => nomatch q⟩
    · rw [z]; exact ⟨o, ho, fun v q => by rw [hd] at q; cases q⟩
  keep := fun i h h' st k => let ⟨⟨old, he⟩, hi, hne⟩ := st; ⟨⟨old, k e (by simp) _ he⟩, hi.at fun o q => k it (by simp) o q, hne⟩
  item := by
    intro X hP hw hK hc i pins s σ H E I hf st hg
    subst hP hw hK
    obtain ⟨⟨old, he⟩, hit, hne⟩ := st
    obtain ⟨xs, x, hq, hx⟩ := hg
    obtain ⟨its, rv, p, hz⟩ := I.tuple hq
    obtain ⟨u, hu, ru⟩ := rv.get hx
    have hel : e < s.heap.objs.size := Heap.lt_size he
    have hil : it < s.heap.objs.size := by obtain ⟨_, q, _⟩ := hit; exact Heap.lt_size q
    have pt : s.heap.IsTuple a its.toArray := p
    have hai : a ≠ it := by obtain ⟨o, ho, hc', _⟩ := id hit; exact tup_ne (i := 0) pt ho hc' (by decide)
    have hae : a ≠ e := tup_ne (i := 0) pt he rfl (by decide)
    have hlt : i < its.toArray.size := by
      rw [List.size_toArray]
      exact (List.getElem?_eq_some_iff.mp hu).1
    refine wpAny_pyNext_enum_itemD (Draws.tuple (A := X.A.in1) (I.ok.hd hc) it a hai its.toArray) he ⟨hit, pt⟩ hlt hne (by simp [hne, hae.symm]) fun x' h' tk hP' ho hst' hT hsz hk => ?_
    have ex : x' = u := by
      have h1 : its.toArray[i]? = some x' := hP'
      have h2 : its.toArray[i]? = some u := by simpa using hu
      rw [h1] at h2; exact Option.some.inj h2
    subst ex
    refine ⟨_, rfl, wpAny_letOwnedTupleGo_enum (s := { s with heap := h', toks := tk + 1 }) ho fun h'' he' sb => ?_⟩
    have hT2 : h''.get? s.heap.objs.size = some { cls := .type "tuple", data := .seq #[.int i tk, x'] } := (sb.2 _ (Nat.ne_of_gt hel)).trans hT
    have new : ObjOk X.prog X.w (upd H s.heap.objs.size (.tup [.int (i : Nat), x])) h'' s.heap.objs.size (.tup [.int (i : Nat), x]) :=
      ⟨by show 2 ≤ sizeLine; decide, [.int i tk, x'], .cons ⟨_, rfl⟩ (.cons ru .nil), ⟨_, hT2, rfl, _, rfl⟩⟩
    have I1 : Inv X pins σ (upd H s.heap.objs.size (.tup [.int (i : Nat), x])) { s with heap := h'', toks := tk + 1 } :=
      I.turnedNew (ch := [e, it]) (fun b ob hb q => (sb.2 b (fun z => hb (by simp [z]))).trans (hk b ob (fun z => hb (by simp [z])) (fun z => hb (by simp [z])) q)) hf (Nat.le_refl _) new
    refine ⟨.ref s.heap.objs.size, _, I1, rfl, ⟨_, x, rfl, I.hok.fresh (Nat.le_refl _), rfl, fun ys hy => by rw [I.tuple_inj hy hq]; exact hx⟩, ⟨⟨x', ?_⟩, hst'.1.at fun o q => (sb.2 it (Ne.symm hne)).trans q, hne⟩, fun b hb => ?_⟩
    · have e1 : ((i + 1 : Nat) : Int) = (i : Int) + 1 := by omega
      rw [e1]; exact he'
    · have hb' : b < s.heap.objs.size := by
        have e' : b = e ∨ b = it := by simpa using hb
        rcases e' with z | z
        · rw [z]; exact hel
        · rw [z]; exact hil
      rw [upd_ne (Nat.ne_of_lt hb')]
      exact (hf b hb).1
  done := by
    intro X hP hw hK hc i pins s σ H E I hf st hg
    subst hP hw hK
    obtain ⟨⟨old, he⟩, hit, hne⟩ := st
    obtain ⟨xs, hq, hx⟩ := hg
    obtain ⟨its, rv, p, hz⟩ := I.tuple hq
    obtain ⟨f0, f1, f2, f3, f4, f5⟩ := hf it (by simp)
    have hl := rv.length
    have pt : s.heap.IsTuple a its.toArray := p
    have hai : a ≠ it := by obtain ⟨o, ho, hc', _⟩ := id hit; exact tup_ne (i := 0) pt ho hc' (by decide)
    have en : i = its.toArray.size := by rw [List.size_toArray]; omega
    subst en
    exact wpAny_pyNext_enum_endD (Draws.tuple (A := X.A.in1) (I.ok.hd hc) it a hai its.toArray) he ⟨hit, pt⟩ fun h' eb => ⟨rfl, I.turned (t' := s.toks) (fun b o hb q => eb b o hb q) f0 f1 f3 f4 f5⟩
  self := fun A i s Q E st h => let ⟨⟨_, he⟩, _⟩ := st; wpAny_pyIter_enum he h
def iEnumT (K : PySem.W.Frag) (ta : TA) : TI := fun σ H R => ta σ H fun vs H1 => ∃ a xs, vs = [.ref a] ∧ SqT K H1 a xs ∧ R (IteT K a) H1
theorem pi_enumT {ta : TA} {p pos tpos : Pos} {elts : List Expr} {kk : Nat} (hg : Gl X "enumerate") (hm : X.mg "enumerate" = none) (ha : PA X [e] ta) (hs : starEach [e] X.env = [(false, eval e X.env)] := by rfl) :
    PI X (.Tuple elts kk tpos) (.Call (.Name "enumerate" p) [e] [] pos) (iEnumT X.K ta) := by
  refine ⟨fun pins s σ H R I h => ?_⟩
  refine Call_ (ld_blt I hg hm boot_enumerate (PyProof.Rows.callWith_type1 (thn (ha.run pos pins s σ H _ I h) fun us s1 ⟨vs, H1, I1, r1, q1⟩ => ?_) hs rfl))
  obtain ⟨a, xs, ex, hq, q⟩ := q1
  subst ex
  cases r1 with
  | cons r rr =>
    cases rr
    cases r
    obtain ⟨its, rv, p', hz⟩ := I1.tuple hq
    refine call_enumerate_B (begins_tuple a its.toArray) (show s1.heap.IsTuple a its.toArray from p') fun h' he hit hsz hk => wpAny_pyIter_enum he ?_
    have I2 : Inv X pins σ H1 { s1 with heap := h' } := I1.kept (t' := s1.toks) hk
    refine ⟨s1.heap.objs.size + 1, [s1.heap.objs.size + 1, s1.heap.objs.size], _, _, H1, rfl, I2, turn_enumT a (s1.heap.objs.size + 1) s1.heap.objs.size, ⟨⟨.none, he⟩, ⟨_, hit, rfl, rfl⟩, Nat.succ_ne_self _⟩, fun b hb => ?_, q⟩
    have e' : b = s1.heap.objs.size + 1 ∨ b = s1.heap.objs.size := by simpa using hb
    have hle : s1.heap.objs.size ≤ b := by
      rcases e' with z | z
      · rw [z]; exact Nat.le_add_right _ _
      · rw [z]; exact Nat.le_refl _
    exact I1.fpOk hle (I1.hok.fresh hle)
theorem PI.or2 {tg iter : Expr} {ta : TA} {f g : List V → Hp → (It → Hp → Prop) → Prop} (h : PI X tg iter (fun σ H R => ta σ H fun vs H1 => f vs H1 R)) (h' : PI X tg iter (fun σ H R => ta σ H fun vs H1 => g vs H1 R)) : True := trivial
theorem ki_enum {p tpos : Pos} {elts : List Expr} {kk : Nat} {mas : Cd.AM} (hm : X.mg "enumerate" = none) (ha : KA X ca W [e] mas) (hg : Gl X "enumerate" := by rfl) (hs : starEach [e] X.env = [(false, eval e X.env)] := by rfl) :
    KI X ca W (.Tuple elts kk tpos) (.Call (.Name "enumerate" p) [e] [] pos) (Cd.iArgs Cd.fEnum mas) := by
  refine PI.wk (PI.or (pi_enum hg hm ha hs) (pi_enumT hg hm ha hs)) fun σ H R q => ?_
  -- which of the two: read off the value
  obtain ⟨ρ, h, η, S, re, pp⟩ := id q
  have side : (∃ v h1, mas η h = .ok [v] h1 ∧ Cd.isT2 v (.tup []) = true) ∨ ¬ (∃ v h1, mas η h = .ok [v] h1 ∧ Cd.isT2 v (.tup []) = true) := Classical.em _
  have go : ∀ {C : List V → Hp → Prop}, (∀ ρ1 H1 h1 d x pq, mas η h = .ok [d] h1 → Sim X.K ρ1 h1 H1 → RV X.K ρ1 H1 d x → Cd.itemsS h1 d = some pq → (∀ ρ' H' J, Step ρ1 H1 ρ' H' → Sim X.K ρ' h1 H' → ItF X.K J (Cd.enumL pq.1) pq.2 ρ' H' → R J H') → C [x] H1) → tA X.K ca W mas σ H C := by
    intro C c
    refine ⟨ρ, h, η, S, re, ?_⟩
    unfold Cd.iArgs at pp
    cases em : mas η h with
    | stuck => rw [em] at pp; exact pp.elim
    | exc _ _ => rw [em] at pp; exact pp
    | ok vs h1 =>
      rw [em] at pp
      simp only [Cd.Res.bind_ok] at pp
      intro ρ1 H1 xs st1 S1 r1
      cases ef : Cd.fEnum h1 vs with
      | none => rw [ef] at pp; exact pp.elim
      | some qq =>
        rw [ef] at pp
        unfold Cd.fEnum at ef
        split at ef
        · rename_i d
          cases ei : Cd.itemsS h1 d with
          | none => rw [ei] at ef; cases ef
          | some pq =>
            rw [ei] at ef
            cases ef
            obtain ⟨x, rfl, r2⟩ := one_rv r1
            exact c ρ1 H1 h1 d x pq em S1 r2 ei fun ρ' H' J st S' F => pp ρ' H' J (st1.trans st) S' F
        · cases ef
  rcases side with ⟨v, hh, em, ht⟩ | hn
  · refine .inr (go fun ρ1 H1 h1 d x pq em2 S1 r2 ei k => ?_)
    rw [em] at em2; cases em2
    rcases itemsS_of S1 r2 ei with ⟨a, vs, rfl, q1, _, F⟩ | ⟨a, vs, rfl, q1, ht2, F⟩
    · exact ⟨a, vs, rfl, q1, k ρ1 H1 _ (Step.refl _ _) S1 (itf_enumT F)⟩
    · rw [ht] at ht2; cases ht2
  · refine .inl (go fun ρ1 H1 h1 d x pq em2 S1 r2 ei k => ?_)
    rcases itemsS_of S1 r2 ei with ⟨a, vs, rfl, q1, ht, F⟩ | ⟨a, vs, rfl, q1, _, F⟩
    · exact (hn ⟨_, _, em2, ht⟩).elim
    · exact ⟨a, vs, rfl, q1, k ρ1 H1 _ (Step.refl _ _) S1 (itf_enumL F)⟩
end
end Cb

set_option Elab.async false
set_option linter.all false
set_option maxRecDepth 100000
set_option maxHeartbeats 4000000
/-! CdB9: the bridge: texts; constants of the module. -/
namespace Cb
open PySem PySem.Spec PyProof.Rows L2 TL
section
variable {X : Cx} {K : PySem.W.Frag} {ca : String → Value} {W : WX}
theorem bf_ord' : BFnF K Cd.bOrd (fun xs H Q => ∃ x, xs = [.str x] ∧ x.length = 1 ∧ Q (.int (x.cps.getD 0 0 : Nat)) H) := by
  intro ρ h h' H ds u xs Q S r e k
  unfold Cd.bOrd at e
  split at e
  · cases e
    obtain ⟨x, rfl, r0⟩ := one_rv r
    cases r0
    exact ⟨_, rfl, rfl, k ρ H _ (Step.refl _ _) S (.int _)⟩
  · cases e
theorem cutAt_spl (s : Nat) : ∀ (l acc : List Nat), spl [s] 0 acc l = Cd.cutAt s acc l
  | [], acc => rfl
  | c :: r, acc => by
    by_cases q : c = s
    · subst q
      rw [spl_hit (show pre [c] (c :: r) = true by simp [pre]), Cd.cutAt, if_pos rfl]
      show acc :: spl [c] 0 [] r = _
      rw [cutAt_spl c r []]
    · rw [spl_miss (show pre [s] (c :: r) = false by simp [pre, q]), Cd.cutAt, if_neg q, cutAt_spl s r _]
theorem tl_toS (s : List Nat) : tl (toS s) = s := rfl
theorem rvs_strs {ρ : List Addr} {H : Hp} : ∀ l : List (List Nat), RVs K ρ H (l.map .str) ((l.map toS).map V.str)
  | [] => .nil
  | s :: l => .cons (.str s) (rvs_strs l)
theorem mf_split : MthF K Cd.mSplit (fun x xs H Q => ∃ a b, x = .str a ∧ xs = [.str b] ∧ (b.length == 0) = false ∧ a.length + 2 ≤ sizeLine ∧ rNewStrs (Txt.split a b) H Q) := by
  intro ρ h h' H x ds u ox xs Q S r1 r2 e k
  unfold Cd.mSplit at e
  split at e
  · split at e
    · rename_i s c hz
      cases e
      cases r1
      obtain ⟨y, rfl, ry⟩ := one_rv r2
      cases ry
      obtain ⟨h1, h2⟩ := hz
      rw [Cd.line_is] at h2
      refine ⟨_, _, rfl, rfl, rfl, by rw [sizeLine_eq]; exact h2, ?_⟩
      have e : (Txt.split (toS s) (toS [c])).map tl = Cd.cutAt c [] s := by
        rw [split_spl _ _ (by show [c] ≠ []; simp) (kind_ok (by show (([c] : List Nat).toArray.all fun x => decide (x < 256)) = true; simp [h1]))]
        exact cutAt_spl c s []
      have e2 : Txt.split (toS s) (toS [c]) = (Cd.cutAt c [] s).map toS := map_tl_inj (by
        rw [e, List.map_map]
        exact (List.map_id' (Cd.cutAt c [] s)).symm)
      rw [e2]
      exact lay_k S (rvs_strs _) k
    · cases e
  · cases e
/-! ### constants of the module -/
/-- a written value as one of mine -/
def valC : Value → Cd.Val → Bool
  | .none, .non => true
  | .bool a, .bl b => a == b
  | .int i _, .int j => i == j
  | .str z _, .str s => z.cps.toList == s
  | _, _ => false
def valsC : List Value → List Cd.Val → Bool
  | [], [] => true
  | v :: vs, d :: ds => valC v d && valsC vs ds
  | _, _ => false
theorem valC_of {K : PySem.W.Frag} {ρ : List Addr} {H : Hp} {v : Value} {d : Cd.Val} (h : valC v d = true) : ∃ x, RelV x v ∧ RV K ρ H d x := by
  unfold valC at h
  split at h
  · exact ⟨.non, rfl, .non⟩
  · rename_i a b; exact ⟨.bl b, by rw [beq_iff_eq.mp h]; rfl, .bl b⟩
  · rename_i i t j; exact ⟨.int j, ⟨t, by rw [beq_iff_eq.mp h]⟩, .int j⟩
  · rename_i z t s
    have e := beq_iff_eq.mp h
    refine ⟨.str (toS s), ⟨t, ?_⟩, .str s⟩
    have : toS s = z := ext_tl (by rw [tl_toS]; exact e.symm)
    rw [this]
  · cases h
theorem valsC_of {K : PySem.W.Frag} {ρ : List Addr} {H : Hp} : ∀ {vs : List Value} {ds : List Cd.Val}, valsC vs ds = true → ∃ xs, Vals xs vs ∧ RVs K ρ H ds xs
  | [], [], _ => ⟨[], .nil, .nil⟩
  | v :: vs, d :: ds, h => by
    rw [valsC, Bool.and_eq_true] at h
    obtain ⟨x, h1, h2⟩ := valC_of (K := K) (ρ := ρ) (H := H) h.1
    obtain ⟨xs, h3, h4⟩ := valsC_of (K := K) (ρ := ρ) (H := H) h.2
    exact ⟨x :: xs, .cons h1 h3, .cons h2 h4⟩
/-- an object that is a written tuple -/
def tupC (o : Obj) (ds : List Cd.Val) : Bool := match o.cls, o.data with
  | .type n, .seq its _ => n == "tuple" && decide (its.size ≤ 1000) && valsC its.toList ds
  | _, _ => false
theorem tupC_rv {a : Addr} {o : Obj} {ds : List Cd.Val} (lk : K.lookup a = some o) (h : tupC o ds = true) (ρ : List Addr) (H : Hp) : RV K ρ H (.tup ds) (.ref a) := by
  unfold tupC at h
  split at h
  · rename_i n its m hc hd
    simp only [Bool.and_eq_true, beq_iff_eq, decide_eq_true_eq] at h
    obtain ⟨⟨h1, h2⟩, h3⟩ := h
    obtain ⟨xs, h4, h5⟩ := valsC_of (K := K) (ρ := ρ) (H := H) h3
    exact .tup (.inr ⟨o, its, m, lk, by rw [hc, h1], hd, by rw [sizeLine_eq]; omega, h4⟩) h5
  · cases h
/-- f(): no argument -/
theorem k_call0 {k n : Nat} {f : Addr} {fd : FuncData} {ps : List Str} {F : Cd.Fn} {x : Str} {p pos : Pos} (G : FnOk X.prog X.w X.K X.mg X.base (L2.CX X.prog X.w) k f fd ps (spF X.K ca n F)) (tk : Takes X W) (hr : Room k X.A) (hg : Gl X x) (hm : X.mg x = some (.ref f))
    (hk : PySem.W.keepIn X.K (.ref f) = true) (hb : Binds X.K fd ps []) (hn : n = 0) (hdb : (x == ("__debug__" : Str)) = false := by decide) : KE X ca W (.Call (.Name x p) [] [] pos) (Cd.eCall F Cd.aNil) := by
  refine ⟨fun pins s σ H Q I ⟨ρ, h, η, S, re, q⟩ => ?_⟩
  refine wpAny_Call_Name_kw (ld_glob I hg hm ?_ hdb)
  refine PySem.W.callWith_K0 I.kIn hk (run_fnS (us := []) (vs := []) (E := fun σ => WE W σ) G hr hb (passAt tk σ) I .nil ?_)
  refine ⟨hn.symm, ρ, h, [], S, .nil, ?_⟩
  have q : postG X.K ca W (RV X.K) ρ H σ (F [] h) Q := q
  cases eF : F [] h with
  | stuck => rw [eF] at q; exact q.elim
  | ok v h2 => rw [eF] at q; exact fun ρ2 H2 x st2 S2 r2 => q ρ2 H2 x st2 S2 r2
  | exc ex h2 => rw [eF] at q; exact fun ρ2 H2 cls d st2 S2 r2 => q ρ2 H2 cls d st2 S2 r2
end
end Cb

set_option Elab.async false
set_option linter.all false
set_option maxRecDepth 100000
set_option maxHeartbeats 4000000
/-! CdB10: the bridge: raise X(), try .. except X [as e], isinstance of a caught error. -/
namespace Cb
open PySem PySem.Spec PyProof.Rows L2
section
variable {X : Cx} {K : PySem.W.Frag}
theorem bf_iadd : BinF K Cd.oIAdd (fun x y H Q => (rI0 fun i j => .int (i + j)) x y H Q ∨ (fun x y H Q => ∃ i j, x = V.str i ∧ y = V.str j ∧ i.length + j.length ≤ sizeLine ∧ Q (V.str (i ++ j)) H) x y H Q) := by
  intro ρ h H d e u x y Q S r1 r2 hu k
  unfold Cd.oIAdd at hu
  split at hu
  · cases hu
    cases r1
    cases r2
    exact .inl ⟨_, _, rfl, rfl, k ρ H _ (Step.refl _ _) S (.int _)⟩
  · rename_i s t
    split at hu
    · rename_i hl
      cases hu
      cases r1
      cases r2
      rw [line_eq] at hl
      exact .inr ⟨_, _, rfl, rfl, hl, by rw [← toS_app]; exact k ρ H _ (Step.refl _ _) S (.str _)⟩
    · cases hu
  · cases hu
theorem iop_addB : OpR X (inplaceOp .Add) (fun x y H Q => (rI0 fun i j => .int (i + j)) x y H Q ∨ (fun x y H Q => ∃ i j, x = V.str i ∧ y = V.str j ∧ i.length + j.length ≤ sizeLine ∧ Q (V.str (i ++ j)) H) x y H Q) := iop_add.or iop_add_str
end
/-- an own exception class over ValueError, without own __init__ -/
structure ExR (K : PySem.W.Frag) (C : Addr) : Prop where
  x : PySem.W.excIn K C [.type "ValueError", .type "Exception", .type "BaseException", .type "object"] "ValueError.__new__" = true
  k : PySem.W.keepIn K (.ref C) = true
  b : PySem.W.subIn K (.ref C) (.type "BaseException") = some true
  t : PySem.W.typeIn K (.ref C) = some (.type "type")
section
variable {X : Cx} {ca : String → Value} {W : WX} {C : Addr} {x : Str} {p pos : Pos}
/-- X() -/
theorem pmk_own0 (E : ExR X.K C) (gC : X.mg x = some (.ref C)) (hg : Gl X x) (hdb : (x == ("__debug__" : Str)) = false := by decide) : PMk X (.Call (.Name x p) [] [] pos) (fun _ H Q => Q (.ref C) none H) := by
  intro pins s σ H Q I h
  refine wpAny_Call_Name_kw (ld_glob I hg gC ?_ hdb)
  refine PySem.W.callWith_K0 I.kIn E.k ?_
  show wpAny _ _ (call (.ref C) []) _ _ _
  obtain ⟨bm, N, nm, qn, bs, hdct, sn, sub, ab, col, dd, k0, k1, k2, k3, k5, mN, hC, hN, hni, T⟩ := exc_obj I.kIn E.x
  refine wpAny_call_exc_subT PySem.F.excBase_ValueError T hC hN hni (fun h' e hm => ?_) (Nat.zero_le _)
  exact mk_of I hm (raises_own E.b E.t) h (I.hok.gone hm.new)
theorem ks_raise0 (c : String) {pos2 : Pos} (hc : X.calm = true) (tk : Takes X W) (E : ExR X.K C) (gC : X.mg x = some (.ref C)) (hca : ca c = .ref C) (hg : Gl X x := by rfl) (hdb : (x == ("__debug__" : Str)) = false := by decide) :
    KS X ca W (.Raise (some (.Call (.Name x p) [] [] pos)) none pos2) (Cd.sRaise c) := by
  refine PS.wk (ps_raise hc tk (pmk_own0 E gC hg hdb)) fun D σ H ⟨ρ, h, η, S, re, q⟩ => ?_
  exact q ρ H (.ref C) none σ (Step.refl _ _) S re ⟨hca.symm, .inl ⟨rfl, rfl⟩⟩
/-! ### slots forgotten -/
theorem RE.forget {K : PySem.W.Frag} {ρ : List Addr} {H : Hp} {η : Cd.Env} {σ : L2.St} (r : RE K ρ H η σ) (i : Nat) (o : Option V) : RE K ρ H (η.set i none) (σ.set i o) := by
  refine ⟨by rw [List.length_set, List.length_set, r.len], fun j d hj => ?_⟩
  by_cases z : i = j
  · subst z
    rw [List.getElem?_set] at hj
    split at hj
    · split at hj <;> cases hj
    · rename_i q; exact absurd rfl q
  · rw [List.getElem?_set_ne z] at hj
    rw [List.getElem?_set_ne z]
    exact r.at_ j d hj
/-- the ends of a suite whose name goes -/
abbrev offD (D : Ends) (i : Nat) : Ends := { nx := fun σ' H' => D.nx (σ'.set i none) H', rt := D.rt, bk := fun σ' H' => D.bk (σ'.set i none) H', ct := fun σ' H' => D.ct (σ'.set i none) H' }
theorem post_forget {K : PySem.W.Frag} {ρ : List Addr} {H : Hp} {r : Cd.SR} {D : Ends} {i : Nat} (p : postS K ca W ρ H (r.forget i) D) : postS K ca W0 ρ H r (offD D i) := by
  cases r with
  | nx η' h' => exact fun ρ' H' σ' st S re => p ρ' H' _ st S (re.forget i none)
  | brk η' h' => exact fun ρ' H' σ' st S re => p ρ' H' _ st S (re.forget i none)
  | cont η' h' => exact fun ρ' H' σ' st S re => p ρ' H' _ st S (re.forget i none)
  | ret v h' => exact p
  | exc e η' h' => exact p.elim
  | stuck => exact p.elim
theorem post_quiet {K : PySem.W.Frag} {ρ : List Addr} {H : Hp} {r : Cd.SR} {D : Ends} (p : postS K ca W ρ H r.quiet D) : postS K ca W0 ρ H r D := by
  cases r with
  | nx η' h' => exact p
  | brk η' h' => exact p
  | cont η' h' => exact p
  | ret v h' => exact p
  | exc e η' h' => exact p.elim
  | stuck => exact p.elim
end
section
variable {X : Cx} {ca : String → Value} {W : WX} {C : Addr} {x n : Str} {np pos pos' : Pos} {body suite : List Stmt} {b₀ : Stmt} {mb : Cd.SM} {tbl : List (String × Bool)}
theorem ks_try (i : Nat) {hd : Cd.Exc → Nat → Cd.SM} (hN : X.N.Nodup) (tk : Takes X W) (gC : X.mg x = some (.ref C)) (ht : ∀ c b, tbl.lookup c = some b → PySem.W.exmOne X.K (ca c) (.ref C) = some b)
    (hb : ∀ (W : WX) (pn : List (Addr × Obj)) (xe : Value → Shared → Prop), Takes (X.tr pn xe) W → PassesOwn (model X.prog X.w) X.A X.env xe → KSs (X.tr pn xe) ca W body mb)
    (hsu : ∀ (a : Addr) (oe : Obj) (e : Cd.Exc) (d : Option Addr) (pn : List (Addr × Obj)), Zc (ca e.cls) d oe → (∃ vs, oe.data = .fields vs) → (e.args = [] → d = none) → KSs (X.suite a ((a, oe) :: pn)) ca W0 (b₀ :: suite) (hd e a))
    (hs : X.stack = X.env :: X.outer := by rfl) (hf : X.env.frame = some X.env.locals := by rfl) (hi : X.N[i]? = some n := by rfl) (hln : X.env.kindOf n = some .local := by rfl) (hg : Gl X x := by rfl) (hdb : (x == ("__debug__" : Str)) = false := by decide) :
    KS X ca W (.Try body [.ExceptHandler (some (.Name x np)) (some n) (b₀ :: suite) pos'] [] [] pos) (Cd.sTry tbl i mb hd) := by
  refine PS.wk (ps_try_as (tb := fun W => tS X.K ca W mb) (ts := fun a cls d D σ H => ∃ e : Cd.Exc, cls = ca e.cls ∧ (e.args = [] → d = none) ∧ tS X.K ca W0 (hd e a) D σ H) hs hf hN hi hln ⟨hg, hdb, .inl gC⟩ tk hb (fun a oe cls d pn hz hfl => ?_)) fun D σ H ⟨ρ, h, η, S, re, p⟩ => ?_
  · refine ⟨fun pins s σ H D I ⟨e, he, hd', q⟩ => ?_⟩
    subst he
    exact (hsu a oe e d pn hz hfl hd').run pins s σ H D I q
  · refine ⟨ρ, h, η, S, re, ?_⟩
    unfold Cd.sTry at p
    cases eb : mb η h with
    | nx η' h' => rw [eb] at p; exact p
    | brk η' h' => rw [eb] at p; exact p
    | cont η' h' => rw [eb] at p; exact p
    | ret v h' => rw [eb] at p; exact p
    | stuck => rw [eb] at p; exact p.elim
    | exc e η' h' =>
      rw [eb] at p
      simp only at p
      intro ρ' H' cls d σ' st S' re' rx
      obtain ⟨rx1, rx2⟩ := rx
      cases el : tbl.lookup e.cls with
      | none => rw [el] at p; exact p.elim
      | some b =>
        rw [el] at p
        refine ⟨b, by rw [rx1]; exact ht _ _ el, fun hbt a ha => ?_, fun hbf => ?_⟩
        · subst hbt
          simp only at p
          split at p
          · rename_i hall
            rw [← hall a] at p
            refine ⟨e, rx1, fun z => ?_, ρ', h', η'.set i (some (.exo a)), S', re'.set (.exo a) i, post_forget (postS.mono st p)⟩
            rcases rx2 with ⟨_, q⟩ | ⟨dx, fs, q1, q2, q3⟩
            · exact q
            · exact absurd z q1
          · exact p.elim
        · subst hbf
          exact p ρ' H' cls d σ' st S' re' ⟨rx1, rx2⟩
theorem ks_tryO {hd : Cd.SM} (tk : Takes X W) (gC : X.mg x = some (.ref C)) (ht : ∀ c b, tbl.lookup c = some b → PySem.W.exmOne X.K (ca c) (.ref C) = some b)
    (hb : ∀ (W : WX) (pn : List (Addr × Obj)) (xe : Value → Shared → Prop), Takes (X.tr pn xe) W → PassesOwn (model X.prog X.w) X.A X.env xe → KSs (X.tr pn xe) ca W body mb)
    (hsu : ∀ (a : Addr) (oe : Obj) (pn : List (Addr × Obj)), KSs (X.suite a ((a, oe) :: pn)) ca W0 (b₀ :: suite) hd)
    (hs : X.stack = X.env :: X.outer := by rfl) (hf : X.env.frame = some X.env.locals := by rfl) (hg : Gl X x := by rfl) (hdb : (x == ("__debug__" : Str)) = false := by decide) :
    KS X ca W (.Try body [.ExceptHandler (some (.Name x np)) none (b₀ :: suite) pos'] [] [] pos) (Cd.sTryO tbl mb hd) := by
  refine PS.wk (ps_try_only (tb := fun W => tS X.K ca W mb) (ts := fun a cls d D σ H => tS X.K ca W0 hd D σ H) hs hf ⟨hg, hdb, .inl gC⟩ tk hb (fun a oe cls d pn hz hfl => ?_)) fun D σ H ⟨ρ, h, η, S, re, p⟩ => ?_
  · exact hsu a oe pn
  · refine ⟨ρ, h, η, S, re, ?_⟩
    unfold Cd.sTryO at p
    cases eb : mb η h with
    | nx η' h' => rw [eb] at p; exact p
    | brk η' h' => rw [eb] at p; exact p
    | cont η' h' => rw [eb] at p; exact p
    | ret v h' => rw [eb] at p; exact p
    | stuck => rw [eb] at p; exact p.elim
    | exc e η' h' =>
      rw [eb] at p
      simp only at p
      intro ρ' H' cls d σ' st S' re' rx
      obtain ⟨rx1, rx2⟩ := rx
      cases el : tbl.lookup e.cls with
      | none => rw [el] at p; exact p.elim
      | some b =>
        rw [el] at p
        refine ⟨b, by rw [rx1]; exact ht _ _ el, fun hbt a ha => ?_, fun hbf => ?_⟩
        · subst hbt
          exact ⟨ρ', h', η', S', re', post_quiet (postS.mono st p)⟩
        · subst hbf
          exact p ρ' H' cls d σ' st S' re' ⟨rx1, rx2⟩
end
/-! ### isinstance(e, X) in the suite -/
section
variable {X : Cx} {ca : String → Value} {W : WX} {D : Addr} {x : Str} {p p2 p3 pos : Pos} {n : Str} {tbl : List (String × Bool)} {a : Addr} {oe : Obj} {pn : List (Addr × Obj)} {e : Cd.Exc} {d : Option Addr}
theorem k_isE (i : Nat) (hz : Zc (ca e.cls) d oe) (hfl : ∃ vs, oe.data = .fields vs) (hd : e.args = [] → d = none) (ht : ∀ c b, tbl.lookup c = some b → ∃ C, ca c = .ref C ∧ ExcC X.K C ∧ PySem.W.kitOne X.K (.ref C) (.ref D) = some b)
    (hm : X.mg "isinstance" = none) (gD : X.mg x = some (.ref D)) (hN : X.N[i]? = some n := by rfl) (hv : Vis X.env.scope n := by first | exact Or.inl rfl | exact Or.inr (Or.inl rfl) | exact Or.inr (Or.inr rfl)) (hdn : (n == ("__debug__" : Str)) = false := by decide)
    (hcd : (n == ("__classdict__" : Str)) = false := by decide) (hg : Gl X "isinstance" := by rfl) (hg2 : Gl X x := by rfl) (hdb : (x == ("__debug__" : Str)) = false := by decide)
    (he : starEach [.Name n p3, .Name x p2] X.env = (false, eval (.Name n p3) X.env) :: starEach [.Name x p2] X.env := by rfl) (he2 : starEach [.Name x p2] X.env = (false, eval (.Name x p2) X.env) :: starEach [] X.env := by rfl) (hpl : (backTo pos (starEach [.Name x p2] X.env)).any (·.1) = false := by rfl) :
    KE (X.suite a ((a, oe) :: pn)) ca W (.Call (.Name "isinstance" p) [.Name n p3, .Name x p2] [] pos) (Cd.eIsE tbl e a (Cd.eVar i)) := by
  refine ⟨fun pins s σ H Q I ⟨ρ, h, η, S, re, q⟩ => ?_⟩
  have known : ∃ k, tbl.lookup e.cls = some k ∧ e.args = [] ∧ η[i]? = some (some (.exo a)) ∧ ∀ ρ' H' x, Step ρ H ρ' H' → Sim X.K ρ' h H' → RV X.K ρ' H' (.bl k) x → Q x H' := by
    unfold Cd.eIsE Cd.eVar at q
    split at q
    · rename_i v hv
      simp only [Cd.Res.bind_ok] at q
      split at q
      · split at q
        · rename_i zb
          subst zb
          split at q
          · rename_i z
            split at q
            · rename_i k hk; exact ⟨k, hk, z, hv, q⟩
            · exact q.elim
          · exact q.elim
        · exact q.elim
      · exact q.elim
    · exact q.elim
  obtain ⟨k, hk, z, hη, q2⟩ := known
  obtain ⟨C, hC, EC, kit⟩ := ht _ _ hk
  have hz' : Zc (.ref C) none oe := by rw [← hC, ← hd z]; exact hz
  obtain ⟨v, hσ, rv⟩ := re.at_ i _ hη
  cases rv
  have pa : PA (X.suite a ((a, oe) :: pn)) [.Name n p3, .Name x p2] (tCons (tVar i) (tCons (tC (.ref D)) tNil)) :=
    pa_cons (pv (X := X.suite a ((a, oe) :: pn)) i hN hv hdn hcd) (pa_cons (pe_glob (X := X.suite a ((a, oe) :: pn)) (v := .ref D) hg2 gD rfl hdb) pa_nil he2) he
  refine (pe_callB (X := X.suite a ((a, oe) :: pn)) (call_isE EC hz' hfl) hg hm (by decide +kernel) pa (by decide) (by decide) he hpl).run pins s σ H Q I ?_
  refine ⟨_, hσ, _, .ref D, k, rfl, fun u hu => hu, kit, ?_⟩
  exact q2 ρ H _ (Step.refl _ _) S (.bl _)
end
theorem tab_nil {P : String → Bool → Prop} : ∀ c b, ([] : List (String × Bool)).lookup c = some b → P c b := fun c b e => by cases e
theorem tab_cons {P : String → Bool → Prop} {k : String} {v : Bool} {t : List (String × Bool)} (h : P k v) (ht : ∀ c b, t.lookup c = some b → P c b) : ∀ c b, ((k, v) :: t).lookup c = some b → P c b := fun c b e => by
  rw [List.lookup_cons] at e
  split at e
  · rename_i q
    cases e
    rw [eq_of_beq q]
    exact h
  · exact ht c b e
theorem exm_of {K : PySem.W.Frag} {C D : Addr} {b : Bool} (h1 : PySem.W.subIn K (.ref D) (.type "BaseException") = some true) (h2 : PySem.W.hasDictIn K D = true) (h3 : PySem.W.typeIn K (.ref D) = some (.type "type")) (h4 : PySem.W.subIn K (.ref C) (.ref D) = some b) : PySem.W.exmOne K (.ref C) (.ref D) = some b :=
  PySem.W.exm_ref h1 h2 h3 h4
/-! ### the law's def -/
def spO (K : PySem.W.Frag) (n : Nat) (F : Cd.Fn) : Sp := fun vs H Q E => vs.length = n ∧ ∃ ρ h ds, Sim K ρ h H ∧ RVs K ρ H ds vs ∧
  match F ds h with
  | .ok v h' => ∀ ρ' H' x, Step ρ H ρ' H' → Sim K ρ' h' H' → RV K ρ' H' v x → Q x H'
  | _ => False
theorem spO_of {K : PySem.W.Frag} {ca : String → Value} {n : Nat} {F : Cd.Fn} : ∀ vs H Q E, spO K n F vs H Q E → spF K ca n F vs H Q E := fun vs H Q E ⟨hl, ρ, h, ds, S, r, p⟩ => by
  refine ⟨hl, ρ, h, ds, S, r, ?_⟩
  cases e : F ds h with
  | ok v h' => rw [e] at p; exact p
  | exc y h' => rw [e] at p; exact p.elim
  | stuck => rw [e] at p; exact p.elim
theorem law_spO {K : PySem.W.Frag} {H : Hp} {a : Addr} {ns : List Int} {M : Cd.Fn} {h : Cd.Hep} (hO : Only H) (hS : SqL K H a (ns.map V.int)) (e : M [.fl (ns.map .int)] [] = .ok (.bl true) h) : spO K 1 M [.ref a] H (fun v _ => v = .bl true) fun _ _ _ => False := by
  have fz : FzL K H a (ns.map V.int) := by
    rcases hS with (q | ⟨o, q⟩) | q
    · rcases hO a with z | ⟨o, xs, z⟩
      · rw [z] at q; cases q
      · rw [z] at q; cases q
    · exact .inl ⟨o, q⟩
    · exact .inr q
  refine ⟨rfl, [], [], [.fl (ns.map .int)], ⟨rfl, List.nodup_nil, fun n o a h1 => by simp at h1⟩, .cons (.fl fz (rvs_ints ns)) .nil, ?_⟩
  rw [e]
  intro ρ' H' x st S r
  cases r
  rfl
end Cb

set_option Elab.async false
set_option linter.all false
set_option maxRecDepth 100000
set_option maxHeartbeats 4000000
/-! CdB11: the bridge: str, join, zfill, startswith, endswith. -/
namespace Cb
open PySem PySem.Spec PyProof.Rows L2 TL
section
variable {X : Cx} {K : PySem.W.Frag} {ca : String → Value} {W : WX}
theorem bf_str : BFnF K Cd.bStr (fun xs H Q => ∃ i, xs = [.int i] ∧ i.natAbs.log2 < 1920 ∧ Q (.str (toString i)) H) := by
  intro ρ h h' H ds u xs Q S r e k
  unfold Cd.bStr at e
  split at e
  · split at e
    · rename_i i hi
      cases e
      obtain ⟨x, rfl, r0⟩ := one_rv r
      cases r0
      refine ⟨i, rfl, hi, ?_⟩
      refine k ρ H _ (Step.refl _ _) S ?_
      have q := RV.str (K := K) (ρ := ρ) (H := H) (Cd.S (toString i))
      rw [toS_S] at q
      exact q
    · cases e
  · cases e
theorem strs_rv {ρ : List Addr} {H : Hp} : ∀ {l : List Cd.Val} {vs : List V} {ps : List (List Nat)}, Cd.strsL l = some ps → RVs K ρ H l vs → vs = (ps.map toS).map V.str
  | [], vs, ps, e, r => by cases r; cases e; rfl
  | .str s :: l, vs, ps, e, r => by
    cases r with
    | cons r1 rs =>
      cases r1
      simp only [Cd.strsL] at e
      cases el : Cd.strsL l with
      | none => rw [el] at e; cases e
      | some qs =>
        rw [el] at e; cases e
        rw [strs_rv el rs]
        rfl
  | .non :: _, _, _, e, _ => by cases e
  | .bl _ :: _, _, _, e, _ => by cases e
  | .int _ :: _, _, _, e, _ => by cases e
  | .tup _ :: _, _, _, e, _ => by cases e
  | .fl _ :: _, _, _, e, _ => by cases e
  | .ref _ :: _, _, _, e, _ => by cases e
  | .exo _ :: _, _, _, e, _ => by cases e
theorem joinL_eq (s : List Nat) : ∀ ps : List (List Nat), TL.joinL s ps = Cd.joinL s ps
  | [] => rfl
  | [p] => rfl
  | p :: q :: r => by rw [TL.joinL, Cd.joinL, joinL_eq s (q :: r)]
theorem lens_eq : ∀ ps : List (List Nat), (ps.map toS).map (·.length) = ps.map List.length
  | [] => rfl
  | p :: ps => by
    rw [List.map_cons, List.map_cons, List.map_cons, lens_eq ps]
    rfl
theorem seqOf_of {ρ : List Addr} {h : Cd.Hep} {H : Hp} {d : Cd.Val} {x : V} {l : List Cd.Val} (S : Sim K ρ h H) (r : RV K ρ H d x) (e : Cd.seqOf h d = some l) : ∃ a vs, x = .ref a ∧ (SqL K H a vs ∨ SqT K H a vs) ∧ RVs K ρ H l vs := by
  cases r with
  | fl q rs => cases e; exact ⟨_, _, rfl, .inl q.sq, rs⟩
  | tup q rs => cases e; exact ⟨_, _, rfl, .inr q, rs⟩
  | ref q =>
    simp only [Cd.seqOf] at e
    split at e
    · rename_i m hl
      cases e
      obtain ⟨vs, e1, rs⟩ := S.obj _ _ _ hl q
      exact ⟨_, vs, rfl, .inl (SqL.of e1), rs⟩
    · cases e
  | _ => cases e
theorem mf_join : MthF K Cd.mJoin (fun x xs H Q => ∃ a p, ∃ ys : List Str, x = .str a ∧ xs = [.ref p] ∧ (SqL K H p (ys.map V.str) ∨ SqT K H p (ys.map V.str)) ∧
    (ys.map (·.length)).sum + ys.length * a.length ≤ 16777216 ∧ Q (.str (Txt.join a ys)) H) := by
  intro ρ h h' H x ds u ox xs Q S r1 r2 e k
  unfold Cd.mJoin at e
  split at e
  · rename_i s v
    split at e
    · rename_i ps hp
      split at e
      · rename_i hz
        cases e
        cases r1
        obtain ⟨y, rfl, ry⟩ := one_rv r2
        cases es : Cd.seqOf h v with
        | none => rw [es] at hp; cases hp
        | some l =>
          rw [es] at hp
          obtain ⟨a, vs, rfl, sq, rs⟩ := seqOf_of S ry es
          have ev := strs_rv hp rs
          subst ev
          refine ⟨_, a, ps.map toS, rfl, rfl, sq, ?_, ?_⟩
          · have hz : (ps.map List.length).sum + ps.length * s.length ≤ Cd.line := hz
            rw [Cd.line_is] at hz
            rw [lens_eq, List.length_map]
            exact hz
          · have ej : Txt.join (toS s) (ps.map toS) = toS (Cd.joinL s ps) := by
              refine ext_tl ?_
              rw [join_eq, tl_join, tl_toS, tl_toS, List.map_map, show (tl ∘ toS) = id from rfl, List.map_id, joinL_eq]
            rw [ej]
            exact k ρ H _ (Step.refl _ _) S (.str _)
      · cases e
    · cases e
  · cases e
theorem mf_starts : MthF K Cd.mStarts (fun x xs H Q => ∃ a b, x = .str a ∧ xs = [.str b] ∧ Q (.bl (Txt.startswith a b)) H) := by
  intro ρ h h' H x ds u ox xs Q S r1 r2 e k
  unfold Cd.mStarts at e
  split at e
  · rename_i s t
    cases e
    cases r1
    obtain ⟨y, rfl, ry⟩ := one_rv r2
    cases ry
    refine ⟨_, _, rfl, rfl, ?_⟩
    have e2 : Txt.startswith (toS s) (toS t) = decide (s.take t.length = t) := by
      unfold Txt.startswith
      rw [StrLaws.subAt_eq]
      show (decide (0 + t.length ≤ s.length) && (((s.drop 0).take t.length) == t)) = _
      rw [List.drop_zero, Nat.zero_add]
      by_cases q : s.take t.length = t
      · have l : t.length ≤ s.length := by
          have := congrArg List.length q
          rw [List.length_take] at this
          omega
        simp [q, l]
      · simp [q]
    rw [e2]
    exact k ρ H _ (Step.refl _ _) S (.bl _)
  · cases e
theorem mf_ends : MthF K Cd.mEnds (fun x xs H Q => ∃ a b, x = .str a ∧ xs = [.str b] ∧ Q (.bl (Txt.endswith a b)) H) := by
  intro ρ h h' H x ds u ox xs Q S r1 r2 e k
  unfold Cd.mEnds at e
  split at e
  · rename_i s t
    cases e
    cases r1
    obtain ⟨y, rfl, ry⟩ := one_rv r2
    cases ry
    refine ⟨_, _, rfl, rfl, ?_⟩
    have e2 : Txt.endswith (toS s) (toS t) = (decide (t.length ≤ s.length) && decide (s.drop (s.length - t.length) = t)) := by
      unfold Txt.endswith
      rw [StrLaws.subAt_eq]
      show (decide (0 + t.length ≤ s.length) && (((s.drop (s.length - t.length)).take t.length) == t)) = _
      rw [Nat.zero_add]
      by_cases l : t.length ≤ s.length
      · have e3 : (s.drop (s.length - t.length)).take t.length = s.drop (s.length - t.length) := by
          rw [List.take_of_length_le]
          rw [List.length_drop]; omega
        rw [e3]
        by_cases q : s.drop (s.length - t.length) = t <;> simp [q, l]
      · simp [l]
    rw [e2]
    exact k ρ H _ (Step.refl _ _) S (.bl _)
  · cases e
theorem tl_pad (x : Str) (n : Nat) : tl (Builtin.Str.padded x n 0 48) = List.replicate n 48 ++ tl x := by
  simp [tl, Builtin.Str.padded]
theorem zfill_eq (s : List Nat) (i : Int) : Txt.zfill (toS s) i = toS (Cd.zfillL s i) := by
  refine ext_tl ?_
  unfold Txt.zfill Cd.zfillL
  by_cases q : i ≤ s.length
  · rw [if_pos q, if_pos (show i ≤ ((toS s).length : Int) from q)]
  · rw [if_neg q, if_neg (show ¬ i ≤ ((toS s).length : Int) from q)]
    show tl (zfilled (toS s) (i.toNat - s.length)) = _
    have plain : ∀ t : List Nat, tl (Builtin.Str.padded (toS t) (i.toNat - s.length) 0 48) = List.replicate (i.toNat - s.length) 48 ++ t := fun t => tl_pad (toS t) _
    have sg : ∀ (c : Nat) (r : List Nat), s = c :: r → tl (Builtin.Str.strSub (toS s) 0 1 ++ Builtin.Str.padded (Builtin.Str.strSub (toS s) 1 (toS s).length) (i.toNat - s.length) 0 48) = c :: (List.replicate (i.toNat - s.length) 48 ++ r) := by
      intro c r hs
      rw [tl_append, tl_pad, tl_strSub, tl_strSub_end, tl_toS, hs]
      simp
    unfold zfilled
    cases s with
    | nil => exact plain []
    | cons c r =>
      have h0 : (toS (c :: r)).cps[0]? = some c := by simp [toS]
      rw [h0]
      by_cases q1 : c = 43
      · subst q1
        exact sg 43 r rfl
      · by_cases q2 : c = 45
        · subst q2
          exact sg 45 r rfl
        · split
          · rename_i z; exact absurd (Option.some.inj z) q1
          · rename_i z; exact absurd (Option.some.inj z) q2
          · split
            · rename_i z; exact absurd (List.cons.inj z).1 q1
            · rename_i z; exact absurd (List.cons.inj z).1 q2
            · exact plain _
theorem mf_zfill : MthF K Cd.mZfill (fun x xs H Q => ∃ (a : Str) (i : Int), x = .str a ∧ xs = [.int i] ∧ PadOk i = true ∧ Q (.str (Txt.zfill a i)) H) := by
  intro ρ h h' H x ds u ox xs Q S r1 r2 e k
  unfold Cd.mZfill at e
  split at e
  · rename_i s i
    split at e
    · rename_i hi
      cases e
      cases r1
      obtain ⟨y, rfl, ry⟩ := one_rv r2
      cases ry
      obtain ⟨h1, h2⟩ := hi
      rw [Cd.line_is] at h1
      refine ⟨_, i, rfl, rfl, ?_, ?_⟩
      · unfold PadOk fitsSsize Builtin.Str.tooLong
        rw [sizeLine_eq]
        simp
        omega
      · have ez : Txt.zfill (toS s) i = toS (Cd.zfillL s i) := by
          exact zfill_eq s i
        rw [ez]
        exact k ρ H _ (Step.refl _ _) S (.str _)
    · cases e
  · cases e
end
end Cb

set_option Elab.async false
set_option linter.all false
set_option maxRecDepth 100000
set_option maxHeartbeats 4000000
/-! CdB12: the bridge: list + list, l[::-1], int(figures), max of a list. -/
namespace Cb
open PySem PySem.Spec PyProof.Rows L2 TL
section
variable {X : Cx} {K : PySem.W.Frag} {ca : String → Value} {W : WX} {a b : Expr} {ma mb : Cd.EM} {pos : Pos}
theorem k_cat (ha : KE X ca W a ma) (hb : KE X ca W b mb) : KE X ca W (.BinOp a .Add b pos) (Cd.eCat ma mb) := by
  refine PE.wk (pe_op op_cat ha hb) fun σ H Q ⟨ρ, h, η, S, re, p⟩ => ?_
  refine ⟨ρ, h, η, S, re, postG.first p fun ρ1 H1 h1 d x st1 S1 r1 p1 => ?_⟩
  refine ⟨ρ1, h1, η, S1, re.mono st1 S, postG.first p1 fun ρ2 H2 h2 e y st2 S2 r2 p2 => ?_⟩
  have r1 := r1.mono st2 S1
  cases eo : Cd.oCat h2 d e with
  | none => rw [eo] at p2; exact p2.elim
  | some w =>
    obtain ⟨v, h3⟩ := w
    rw [eo] at p2
    unfold Cd.oCat at eo
    split at eo
    · split at eo
      · rename_i l k hl hk
        split at eo
        · rename_i hz
          cases eo
          cases r1 with
          | ref q1 =>
            cases r2 with
            | ref q2 =>
              obtain ⟨vs, e1, rs⟩ := S2.obj _ _ _ hl q1
              obtain ⟨ws, e2, ss⟩ := S2.obj _ _ _ hk q2
              rw [line_eq, rs.length, ss.length] at hz
              exact ⟨_, _, vs, ws, rfl, rfl, e1, e2, hz, lay_k S2 (rs.append ss) p2⟩
        · cases eo
      · cases eo
    · cases eo
theorem k_rev {k : Nat} {p1 p2 p3 : Pos} (ha : KE X ca W a ma) : KE X ca W (.Subscript a (.Slice none none (some (.UnaryOp .USub (.Constant (.int 1) k p1) p2)) p3) pos) (Cd.eRev ma) := by
  refine PE.wk (pe_revL ha) fun σ H Q ⟨ρ, h, η, S, re, p⟩ => ?_
  refine ⟨ρ, h, η, S, re, postG.first p fun ρ1 H1 h1 d x st1 S1 r1 p1 => ?_⟩
  cases el : Cd.itsL h1 d with
  | none => rw [el] at p1; exact p1.elim
  | some l =>
    rw [el] at p1
    obtain ⟨a, vs, rfl, sq, rs⟩ := seq_of S1 r1 el
    exact ⟨a, vs, rfl, sq, lay_k S1 rs.reverse p1⟩
theorem bf_intS : BFnF K Cd.bIntS (fun xs H Q => ∃ a n, xs = [.str a] ∧ PySem.intText? a = some n ∧ a.length ≤ 640 ∧ Q (.int n) H) := by
  intro ρ h h' H ds u xs Q S r e k
  unfold Cd.bIntS at e
  split at e
  · split at e
    · rename_i s hs
      cases e
      obtain ⟨x, rfl, r0⟩ := one_rv r
      cases r0
      obtain ⟨h1, h2, h3⟩ := hs
      exact ⟨_, _, rfl, SX.int_S h1 h2 (by omega), h3, k ρ H _ (Step.refl _ _) S (.int _)⟩
    · cases e
  · cases e
theorem ints_rv {ρ : List Addr} {H : Hp} : ∀ {l : List Cd.Val} {vs : List V} {ns : List Int}, Cd.intsL l = some ns → RVs K ρ H l vs → vs = ns.map V.int
  | [], vs, ps, e, r => by cases r; cases e; rfl
  | .int s :: l, vs, ps, e, r => by
    cases r with
    | cons r1 rs =>
      cases r1
      simp only [Cd.intsL] at e
      cases el : Cd.intsL l with
      | none => rw [el] at e; cases e
      | some qs =>
        rw [el] at e; cases e
        rw [ints_rv el rs]
        rfl
  | .non :: _, _, _, e, _ => by cases e
  | .bl _ :: _, _, _, e, _ => by cases e
  | .str _ :: _, _, _, e, _ => by cases e
  | .tup _ :: _, _, _, e, _ => by cases e
  | .fl _ :: _, _, _, e, _ => by cases e
  | .ref _ :: _, _, _, e, _ => by cases e
  | .exo _ :: _, _, _, e, _ => by cases e
theorem maxL_le : ∀ (l : List Int) (m : Int), m ≤ Cd.maxL m l ∧ ∀ y ∈ l, y ≤ Cd.maxL m l
  | [], m => ⟨Int.le_refl _, fun y h => by cases h⟩
  | i :: l, m => by
    by_cases q : m < i
    · obtain ⟨h1, h2⟩ := maxL_le l i
      have e : Cd.maxL m (i :: l) = Cd.maxL i l := by rw [Cd.maxL, if_pos q]
      rw [e]
      refine ⟨by omega, fun y hy => ?_⟩
      rcases List.mem_cons.mp hy with rfl | hy
      · exact h1
      · exact h2 y hy
    · obtain ⟨h1, h2⟩ := maxL_le l m
      have e : Cd.maxL m (i :: l) = Cd.maxL m l := by rw [Cd.maxL, if_neg q]
      rw [e]
      refine ⟨h1, fun y hy => ?_⟩
      rcases List.mem_cons.mp hy with rfl | hy
      · omega
      · exact h2 y hy
theorem maxL_mem : ∀ (l : List Int) (m : Int), Cd.maxL m l ∈ m :: l
  | [], m => List.mem_cons_self
  | i :: l, m => by
    have h := maxL_mem l (if m < i then i else m)
    rw [Cd.maxL]
    rcases List.mem_cons.mp h with h | h
    · rw [h]; split <;> simp
    · exact List.mem_cons_of_mem _ (List.mem_cons_of_mem _ h)
theorem bf_maxL : BFnF K Cd.bMaxL (rMax K) := by
  intro ρ h h' H ds u xs Q S r e k
  unfold Cd.bMaxL at e
  split at e
  · rename_i v
    split at e
    · rename_i i l hb
      cases e
      obtain ⟨x, rfl, r0⟩ := one_rv r
      cases el : Cd.itsL h v with
      | none => rw [el] at hb; cases hb
      | some m =>
        rw [el] at hb
        obtain ⟨a, vs, rfl, sq, rs⟩ := seq_of S r0 el
        have ev := ints_rv hb rs
        subst ev
        refine ⟨a, i :: l, rfl, sq, by simp, fun m hm hle => ?_⟩
        have q1 := maxL_le l i
        have q2 := maxL_mem l i
        have em : m = Cd.maxL i l := by
          apply Int.le_antisymm
          · rcases List.mem_cons.mp hm with rfl | z
            · exact q1.1
            · exact q1.2 m z
          · exact hle _ q2
        rw [em]
        exact k ρ H _ (Step.refl _ _) S (.int _)
    · cases e
  · cases e
theorem insI_perm (i : Int) : ∀ l : List Int, (Cd.insI i l).Perm (i :: l)
  | [] => List.Perm.refl _
  | j :: l => by
    rw [Cd.insI]
    split
    · exact List.Perm.refl _
    · exact ((insI_perm i l).cons j).trans (List.Perm.swap i j l)
theorem srtI_perm : ∀ l : List Int, (Cd.srtI l).Perm l
  | [] => List.Perm.refl _
  | i :: l => (insI_perm i _).trans ((srtI_perm l).cons i)
theorem insI_pw (i : Int) : ∀ l : List Int, l.Pairwise (· ≤ ·) → (Cd.insI i l).Pairwise (· ≤ ·)
  | [], _ => by simp [Cd.insI]
  | j :: l, h => by
    rw [Cd.insI]
    have h' := List.pairwise_cons.mp h
    split
    · rename_i q
      refine List.pairwise_cons.mpr ⟨fun y hy => ?_, h⟩
      rcases List.mem_cons.mp hy with rfl | hy
      · exact q
      · exact Int.le_trans q (h'.1 y hy)
    · rename_i q
      refine List.pairwise_cons.mpr ⟨fun y hy => ?_, insI_pw i l h'.2⟩
      rcases List.mem_cons.mp ((insI_perm i l).mem_iff.mp hy) with rfl | hy
      · omega
      · exact h'.1 y hy
theorem srtI_pw : ∀ l : List Int, (Cd.srtI l).Pairwise (· ≤ ·)
  | [] => List.Pairwise.nil
  | i :: l => insI_pw i _ (srtI_pw l)
theorem rvs_ints2 {ρ : List Addr} {H : Hp} : ∀ l : List Int, RVs K ρ H (l.map .int) (l.map V.int)
  | [] => .nil
  | s :: l => .cons (.int s) (rvs_ints2 l)
theorem bf_sortI : BFnF K Cd.bSortI (rSortedI K) := by
  intro ρ h h' H ds u xs Q S r e k
  unfold Cd.bSortI at e
  split at e
  · rename_i v
    split at e
    · rename_i ns hb
      cases e
      obtain ⟨x, rfl, r0⟩ := one_rv r
      cases el : Cd.itsL h v with
      | none => rw [el] at hb; cases hb
      | some m =>
        rw [el] at hb
        obtain ⟨a, vs, rfl, sq, rs⟩ := seq_of S r0 el
        have ev := ints_rv hb rs
        subst ev
        refine ⟨a, ns, rfl, sq, fun ns' p hp hw np => ?_⟩
        have en : ns' = Cd.srtI ns := List.Perm.eq_of_pairwise (fun a b _ _ h1 h2 => Int.le_antisymm h1 h2) hw (srtI_pw ns) (hp.trans (srtI_perm ns).symm)
        subst en
        exact lay_k S (rvs_ints2 _) k p np
    · cases e
  · cases e
end
end Cb

set_option Elab.async false
set_option linter.all false
set_option maxRecDepth 100000
set_option maxHeartbeats 4000000
/-! CdB13: the bridge: text * int, range of three, a def that calls itself. -/
namespace Cb
open PySem PySem.Spec PyProof.Rows L2 TL
theorem foldl_app (a : Array Nat) : ∀ (n : Nat) (acc : Array Nat), ((List.replicate n a).foldl (· ++ ·) acc).toList = acc.toList ++ (List.replicate n a.toList).flatten
  | 0, acc => by simp
  | n + 1, acc => by
    rw [List.replicate_succ, List.foldl_cons, foldl_app a n, List.replicate_succ, List.flatten_cons, Array.toList_append, List.append_assoc]
theorem mul_eq (s : List Nat) (i : Int) : Txt.mul (toS s) i = toS (Cd.repL s i.toNat) := by
  refine ext_tl ?_
  unfold Txt.mul Cd.repL
  by_cases h1 : i < 1
  · rw [if_pos h1, show i.toNat = 0 by omega]
    rfl
  · rw [if_neg h1]
    by_cases h2 : (i == 1 || (toS s).length == 0) = true
    · rw [if_pos h2]
      rcases Bool.or_eq_true _ _ |>.mp h2 with q | q
      · have : i = 1 := by simpa using q
        subst this
        show tl (toS s) = _
        simp
      · have q : s.length = 0 := eq_of_beq q
        have : s = [] := List.eq_nil_of_length_eq_zero q
        subst this
        show tl (toS []) = _
        simp
    · rw [if_neg h2]
      show ((List.replicate i.toNat (toS s).cps).foldl (· ++ ·) #[]).toList = _
      rw [foldl_app]
      show _ = (toS _).cps.toList
      simp [toS]
theorem mulOk_of {s : List Nat} {i : Int} (h : Cd.repOk s.length i) : MulOk (toS s) i := by
  obtain ⟨h1, h2, h3⟩ := h
  rw [Cd.line_is] at h2 h3
  have sl : sizeLine = 16777216 := sizeLine_eq
  refine ⟨by simp; omega, fun h4 h5 => ?_, fun h4 h5 => ?_⟩
  · show ¬ ((s.length : Int) > (2 ^ 63 - 1) / i)
    have : (s.length : Int) ≤ (2 ^ 63 - 1) / i := by
      rw [Int.le_ediv_iff_mul_le (by omega)]
      have e : (i.toNat : Int) = i := Int.toNat_of_nonneg (by omega)
      rw [← e]
      have : ((s.length * i.toNat : Nat) : Int) ≤ (16777216 : Nat) := Int.ofNat_le.mpr h3
      rw [Int.natCast_mul] at this
      omega
    omega
  · show Builtin.Str.tooLong (s.length * i.toNat) = false
    unfold Builtin.Str.tooLong
    rw [sl]
    simp
    exact h3
section
variable {X : Cx} {K : PySem.W.Frag} {ca : String → Value} {W : WX} {a b c : Expr} {ma mb : Cd.EM} {pos : Pos}
theorem op_mul_str : OpR X (binaryOp .Mult) (fun x y H Q => ∃ a i, x = V.str a ∧ y = V.int i ∧ MulOk a i ∧ Q (V.str (Txt.mul a i)) H) := by
  intro pins s σ H x y v u Q I rx ry h
  obtain ⟨i, j, rfl, rfl, hz, q⟩ := h
  obtain ⟨t, rfl⟩ := rx
  obtain ⟨t', rfl⟩ := ry
  exact SB.mul hz (fun t' tk => ⟨.str _, H, I.tok _, ⟨_, rfl⟩, q⟩)
theorem op_mulS : OpR X (binaryOp .Mult) (fun x y H Q => (rI CMulA fun i j => .int (i * j)) x y H Q ∨ (fun x y H Q => ∃ a i, x = V.str a ∧ y = V.int i ∧ MulOk a i ∧ Q (V.str (Txt.mul a i)) H) x y H Q) := op_mulA.or op_mul_str
theorem bf_mulS : BinF K Cd.oMulS (fun x y H Q => (rI CMulA fun i j => .int (i * j)) x y H Q ∨ (fun x y H Q => ∃ a i, x = V.str a ∧ y = V.int i ∧ MulOk a i ∧ Q (V.str (Txt.mul a i)) H) x y H Q) := by
  intro ρ h H d e u x y Q S r1 r2 hu k
  unfold Cd.oMulS at hu
  split at hu
  · split at hu
    · rename_i hm
      cases hu; cases r1; cases r2
      exact .inl ⟨_, _, rfl, rfl, mulA_of hm, k ρ H _ (Step.refl _ _) S (.int _)⟩
    · cases hu
  · split at hu
    · rename_i s i hm
      cases hu; cases r1; cases r2
      exact .inr ⟨_, _, rfl, rfl, mulOk_of hm, by rw [mul_eq]; exact k ρ H _ (Step.refl _ _) S (.str _)⟩
    · cases hu
  · cases hu
theorem itf_rngC {ρ : List Addr} {H : Hp} (lo c : Int) (n : Nat) : ItF K (Itc lo c n) (Cd.rngC lo c n) (fun _ => true) ρ H where
  go := fun ρ1 H1 h1 i st S1 _ hi => by
    have : i < n := by simpa [Cd.rngC] using hi
    exact this
  stop := fun ρ1 H1 h1 i st S1 _ hi => by
    have : i = n := by simpa [Cd.rngC] using hi
    exact Nat.le_of_eq this.symm
  yld := fun ρ1 H1 h1 i d x H' st S1 _ hd y => by
    obtain ⟨rfl, rfl⟩ := y
    have hi : i < n := by
      have := (List.getElem?_eq_some_iff.mp hd).1
      simpa [Cd.rngC] using this
    unfold Cd.rngC at hd
    rw [List.getElem?_map, List.getElem?_range hi] at hd
    cases hd
    exact ⟨Step.refl _ _, S1, .int _⟩
theorem rgC_of {i j c : Int} (h1 : Cd.i40 i) (h2 : Cd.i40 j) (h3 : 0 < c) (h4 : c < 2 ^ 29) : RgC i j c (Cd.stepN i j c) := by
  obtain ⟨a1, a2⟩ := h1
  obtain ⟨b1, b2⟩ := h2
  have d0 : i < j → 0 ≤ (j - i - 1) / c := fun q => Int.ediv_nonneg (by omega) (by omega)
  have d1 : i < j → (j - i - 1) / c ≤ j - i - 1 := fun q => Int.ediv_le_self _ (by omega)
  have rs : Builtin.Range.rangeSize i j c = (Cd.stepN i j c : Int) := by
    unfold Builtin.Range.rangeSize Cd.stepN
    rw [if_pos h3]
    split
    · rename_i q
      have := d0 q
      omega
    · rfl
  have sz : (Cd.stepN i j c : Int) < 2 ^ 42 := by
    unfold Cd.stepN
    split
    · rename_i q
      have := d0 q
      have := d1 q
      omega
    · decide
  refine ⟨by omega, by omega, ?_, rs⟩
  unfold Builtin.Range.small
  rw [rs]
  simp only [Builtin.Range.rangeFitsLong, Bool.and_eq_true, Bool.or_eq_true, decide_eq_true_eq, beq_iff_eq, h3, if_true]
  omega
theorem ki_rng3 {tg : Expr} {p : Pos} {mas : Cd.AM} (hm : X.mg "range" = none) (ha : KA X ca W [a, b, c] mas) (hg : Gl X "range" := by rfl) (hs : starEach [a, b, c] X.env = (false, eval a X.env) :: starEach [b, c] X.env := by rfl) (hpl : (backTo pos (starEach [b, c] X.env)).any (·.1) = false := by rfl) :
    KI X ca W tg (.Call (.Name "range" p) [a, b, c] [] pos) (Cd.iArgs Cd.fRng3 mas) := by
  refine PI.wk (pi_range3 hg hm ha hs hpl) fun σ H R p => tI_args p fun ρ1 H1 h1 ds xs q S1 r1 ef k => ?_
  unfold Cd.fRng3 at ef
  split at ef
  · rename_i i j c
    split at ef
    · rename_i hj
      cases ef
      cases r1 with
      | cons r2 r3 =>
        cases r2
        cases r3 with
        | cons r4 r5 =>
          cases r4
          cases r5 with
          | cons r6 r7 =>
            cases r6; cases r7
            exact ⟨i, j, c, _, rfl, rgC_of hj.1 hj.2.1 hj.2.2.1 hj.2.2.2, k ρ1 H1 _ (Step.refl _ _) S1 (itf_rngC i c _)⟩
    · cases ef
  · cases ef
end
section
variable {P : Program} {w : World} {K : PySem.W.Frag} {mg : Str → Option Value} {base : Heap} {ca : String → Value}
theorem fnOk_stuck {k n : Nat} {f : Addr} {fd : FuncData} {ps : List Str} : FnOk P w K mg base (L2.CX P w) k f fd ps (spF K ca n Cd.fnStuck) := by
  have no : ∀ vs H Q E, spF K ca n Cd.fnStuck vs H Q E → False := fun vs H Q E h => by
    obtain ⟨_, ρ, h0, ds, _, _, p⟩ := h
    exact p
  exact ⟨fun vs H Q E h => (no vs H Q E h).elim, fun A outer s H args us vs Q E hr he hb hv hs => (no vs H Q E hs).elim⟩
end
end Cb

set_option Elab.async false
set_option linter.all false
set_option maxRecDepth 100000
set_option maxHeartbeats 4000000
/-! CdB14: the bridge: dicts; written dicts; upper. -/
namespace Cb
open PySem PySem.Spec PyProof.Rows L2 TL
theorem room1 {k : Nat} {A : Around} (r : Room k A) : A.units + 1 < cLine := by
  have := r.un
  omega
section
variable {K : PySem.W.Frag} {ρ : List Addr} {H : Hp}
theorem keyOf_some {k : Cd.Val} (h : Cd.isKey k = true) : ∃ κ, keyOf k = some κ := by
  cases k <;> first | exact ⟨_, rfl⟩ | cases h
theorem key_rv {k : Cd.Val} {κ : Key} {x : V} (h : keyOf k = some κ) (r : RV K ρ H k x) : x = kV κ := by
  cases r with
  | int i => cases h; rfl
  | str s => cases h; rfl
  | _ => cases h
theorem keyEq_iff {a b : Cd.Val} {κ μ : Key} (ha : keyOf a = some κ) (hb : keyOf b = some μ) : Cd.keyEq a b = decide (κ = μ) := by
  cases a with
  | int i =>
    cases ha
    cases b with
    | int j =>
      cases hb
      show (i == j) = _
      by_cases q : i = j
      · subst q; simp
      · rw [beq_false_of_ne q, decide_eq_false (fun z => q (Sum.inl.inj z))]
    | str s => cases hb; rw [decide_eq_false (fun z => by cases z)]; rfl
    | _ => cases hb
  | str s =>
    cases ha
    cases b with
    | int j => cases hb; rw [decide_eq_false (fun z => by cases z)]; rfl
    | str t =>
      cases hb
      show (s == t) = _
      by_cases q : s = t
      · subst q; simp
      · rw [beq_false_of_ne q, decide_eq_false (fun z => q (toS_inj.mp (Sum.inr.inj z)))]
    | _ => cases hb
  | _ => cases ha
theorem RD.length {l : List (Cd.Val × Cd.Val)} {kvs : List (Key × V)} (r : RD K ρ H l kvs) : l.length = kvs.length := by
  induction r with
  | nil => rfl
  | cons e r t ih => rw [List.length_cons, List.length_cons, ih]
theorem RD.get {l : List (Cd.Val × Cd.Val)} {kvs : List (Key × V)} (r : RD K ρ H l kvs) {k : Cd.Val} {κ : Key} (hk : keyOf k = some κ) :
    match Cd.dGet l k with
    | some d => ∃ v, valV kvs κ = some v ∧ RV K ρ H d v
    | none => valV kvs κ = none := by
  induction r with
  | nil => rfl
  | @cons k1 d κ1 v l kvs e r t ih =>
    rw [Cd.dGet]
    have q := keyEq_iff e hk
    by_cases z : κ1 = κ
    · subst z
      rw [decide_eq_true rfl] at q
      rw [show (if Cd.keyEq (k1, d).1 k = true then some (k1, d).2 else Cd.dGet l k) = some d from if_pos q]
      exact ⟨v, valV_pos (p := (κ1, v)) rfl, r⟩
    · rw [decide_eq_false z] at q
      rw [show (if Cd.keyEq (k1, d).1 k = true then some (k1, d).2 else Cd.dGet l k) = Cd.dGet l k from if_neg (by rw [q]; decide)]
      rw [show valV ((κ1, v) :: kvs) κ = valV kvs κ from valV_neg (p := (κ1, v)) z]
      exact ih
theorem RD.has {l : List (Cd.Val × Cd.Val)} {kvs : List (Key × V)} (r : RD K ρ H l kvs) {k : Cd.Val} {κ : Key} (hk : keyOf k = some κ) : (valV kvs κ).isSome = Cd.dHas l k := by
  have q := r.get hk
  unfold Cd.dHas
  cases e : Cd.dGet l k with
  | some d => rw [e] at q; obtain ⟨v, e2, _⟩ := q; rw [e2]; rfl
  | none => rw [e] at q; simp only at q; rw [q]; rfl
theorem RD.upd {l : List (Cd.Val × Cd.Val)} {kvs : List (Key × V)} (r : RD K ρ H l kvs) {k d : Cd.Val} {κ : Key} {v : V} (hk : keyOf k = some κ) (rv : RV K ρ H d v) : RD K ρ H (Cd.dUpd k d l) (kvs.map fun kv => if kv.1 = κ then (kv.1, v) else kv) := by
  induction r with
  | nil => exact .nil
  | @cons k1 d1 κ1 v1 l kvs e r t ih =>
    rw [Cd.dUpd, List.map_cons]
    have q := keyEq_iff e hk
    by_cases z : κ1 = κ
    · subst z
      rw [decide_eq_true rfl] at q
      rw [show (if Cd.keyEq (k1, d1).1 k = true then ((k1, d1).1, d) else (k1, d1)) = (k1, d) from if_pos q, if_pos rfl]
      exact .cons e rv ih
    · rw [decide_eq_false z] at q
      rw [show (if Cd.keyEq (k1, d1).1 k = true then ((k1, d1).1, d) else (k1, d1)) = (k1, d1) from if_neg (by rw [q]; decide), if_neg z]
      exact .cons e r ih
theorem RD.snoc {l : List (Cd.Val × Cd.Val)} {kvs : List (Key × V)} (r : RD K ρ H l kvs) {k d : Cd.Val} {κ : Key} {v : V} (hk : keyOf k = some κ) (rv : RV K ρ H d v) : RD K ρ H (l ++ [(k, d)]) (kvs ++ [(κ, v)]) := by
  induction r with
  | nil => exact .cons hk rv .nil
  | cons e r t ih => exact .cons e r ih
theorem RD.put {l : List (Cd.Val × Cd.Val)} {kvs : List (Key × V)} (r : RD K ρ H l kvs) {k d : Cd.Val} {κ : Key} {v : V} (hk : keyOf k = some κ) (rv : RV K ρ H d v) : RD K ρ H (Cd.dPut l k d) (putK kvs κ v) := by
  unfold Cd.dPut putK
  rw [valV_any, r.has hk]
  cases Cd.dHas l k with
  | true => exact r.upd hk rv
  | false => exact r.snoc hk rv
end
section
variable {X : Cx} {ca : String → Value} {W : WX} {a b c e : Expr} {ma mb me : Cd.EM} {pos : Pos}
theorem dct_at {ρ : List Addr} {h : Cd.Hep} {H : Hp} {n : Nat} {x : V} {l : List (Cd.Val × Cd.Val)} (S : Sim X.K ρ h H) (r : RV X.K ρ H (.ref n) x) (hl : h[n]? = some (.dct l)) : ∃ p kvs, x = .ref p ∧ ρ[n]? = some p ∧ H p = some (.dK kvs) ∧ RD X.K ρ H l kvs := by
  cases r with
  | ref q =>
    obtain ⟨kvs, e1, rd⟩ := S.obj _ _ _ hl q
    exact ⟨_, kvs, rfl, q, e1, rd⟩
theorem k_dnew : KE X ca W (.Dict [] [] pos) Cd.eDNew := by
  refine PE.wk pe_dnewK fun σ H Q ⟨ρ, h, η, S, re, p⟩ => ?_
  intro q hq
  exact p (ρ ++ [q]) _ (.ref q) (Step.lay q _ hq) (S.lay hq ⟨[], upd_same, .nil⟩) (.ref (by rw [← S.len, List.getElem?_append_right (Nat.le_refl _), Nat.sub_self]; rfl))
theorem k_didx (hu : X.A.units + 1 < cLine) (ha : KE X ca W a ma) (hb : KE X ca W b mb) (hs : NoSl b) : KE X ca W (.Subscript a b pos) (Cd.eBin Cd.oDIdx ma mb) := by
  refine PE.wk (pe_dget hu ha hb hs) fun σ H Q ⟨ρ, h, η, S, re, p⟩ => ?_
  refine ⟨ρ, h, η, S, re, postG.first p fun ρ1 H1 h1 d x st1 S1 r1 p1 => ?_⟩
  refine ⟨ρ1, h1, η, S1, re.mono st1 S, postG.first p1 fun ρ2 H2 h2 k y st2 S2 r2 p2 => ?_⟩
  obtain ⟨u, hu, kk⟩ := p2.ofO
  unfold Cd.oDIdx at hu
  split at hu
  · split at hu
    · rename_i l hl
      split at hu
      · rename_i hk
        obtain ⟨κ, eκ⟩ := keyOf_some hk
        obtain ⟨p, kvs, rfl, _, e1, rd⟩ := dct_at S2 (r1.mono st2 S1) hl
        have g := rd.get eκ
        rw [hu] at g
        obtain ⟨v, ev, rv⟩ := g
        have ky := key_rv eκ r2
        subst ky
        exact ⟨p, v, rfl, ev ▸ DGet.k e1, kk ρ2 H2 v (Step.refl _ _) S2 rv⟩
      · cases hu
    · cases hu
  · cases hu
theorem tDIn_of : ∀ σ H Q, tE X.K ca W (Cd.eBin Cd.oDIn ma mb) σ H Q → tDIn (tE X.K ca W ma) (tE X.K ca W mb) σ H Q := by
  rintro σ H Q ⟨ρ, h, η, S, re, p⟩
  refine ⟨ρ, h, η, S, re, postG.first p fun ρ1 H1 h1 k y st1 S1 r1 p1 => ?_⟩
  refine ⟨ρ1, h1, η, S1, re.mono st1 S, postG.first p1 fun ρ2 H2 h2 d x st2 S2 r2 p2 => ?_⟩
  obtain ⟨u, hu, kk⟩ := p2.ofO
  unfold Cd.oDIn at hu
  split at hu
  · split at hu
    · rename_i l hl
      split at hu
      · rename_i hk
        cases hu
        obtain ⟨κ, eκ⟩ := keyOf_some hk
        obtain ⟨p, kvs, rfl, _, e1, rd⟩ := dct_at S2 r2 hl
        have ky := key_rv eκ (r1.mono st2 S1)
        subst ky
        refine ⟨p, _, rfl, DGet.k e1, ?_⟩
        rw [rd.has eκ]
        exact kk ρ2 H2 _ (Step.refl _ _) S2 (.bl _)
      · cases hu
    · cases hu
  · cases hu
theorem tDNin_of : ∀ σ H Q, tE X.K ca W (Cd.eBin Cd.oDNin ma mb) σ H Q → tDNotIn (tE X.K ca W ma) (tE X.K ca W mb) σ H Q := by
  rintro σ H Q ⟨ρ, h, η, S, re, p⟩
  refine ⟨ρ, h, η, S, re, postG.first p fun ρ1 H1 h1 k y st1 S1 r1 p1 => ?_⟩
  refine ⟨ρ1, h1, η, S1, re.mono st1 S, postG.first p1 fun ρ2 H2 h2 d x st2 S2 r2 p2 => ?_⟩
  obtain ⟨u, hu, kk⟩ := p2.ofO
  unfold Cd.oDNin at hu
  split at hu
  · split at hu
    · rename_i l hl
      split at hu
      · rename_i hk
        cases hu
        obtain ⟨κ, eκ⟩ := keyOf_some hk
        obtain ⟨p, kvs, rfl, _, e1, rd⟩ := dct_at S2 r2 hl
        have ky := key_rv eκ (r1.mono st2 S1)
        subst ky
        refine ⟨p, _, rfl, DGet.k e1, ?_⟩
        rw [rd.has eκ]
        exact kk ρ2 H2 _ (Step.refl _ _) S2 (.bl _)
      · cases hu
    · cases hu
  · cases hu
theorem k_din (hu : X.A.units + 1 < cLine) (ha : KE X ca W a ma) (hb : KE X ca W b mb) (hm : behindInMarks .In b = false) : KE X ca W (.Compare a [.In] [b] pos) (Cd.eBin Cd.oDIn ma mb) := PE.wk (pe_cmp (pc_din hu ha hb) hm) tDIn_of
theorem k_dnin (hu : X.A.units + 1 < cLine) (ha : KE X ca W a ma) (hb : KE X ca W b mb) (hm : behindInMarks .NotIn b = false) : KE X ca W (.Compare a [.NotIn] [b] pos) (Cd.eBin Cd.oDNin ma mb) := PE.wk (pe_cmp (pc_dnotin hu ha hb) hm) tDNin_of
theorem kt_din (hu : X.A.units + 1 < cLine) (ha : KE X ca W a ma) (hb : KE X ca W b mb) (hm : behindInMarks .In b = false) : KT X ca W (.Compare a [.In] [b] pos) (Cd.tVal (Cd.eBin Cd.oDIn ma mb)) :=
  PT.wk (pt_cmp (pc_din hu ha hb) hm) fun σ H Q p => tDIn_of σ H _ (tB_of σ H Q p)
theorem kt_dnin (hu : X.A.units + 1 < cLine) (ha : KE X ca W a ma) (hb : KE X ca W b mb) (hm : behindInMarks .NotIn b = false) : KT X ca W (.Compare a [.NotIn] [b] pos) (Cd.tVal (Cd.eBin Cd.oDNin ma mb)) :=
  PT.wk (pt_cmp (pc_dnotin hu ha hb) hm) fun σ H Q p => tDNin_of σ H _ (tB_of σ H Q p)
theorem setDx_of {K : PySem.W.Frag} {ρ : List Addr} {h h' : Cd.Hep} {H : Hp} {o k v : Cd.Val} {oo kk vv : V} {Q : Hp → Prop} (S : Sim K ρ h H) (r1 : RV K ρ H o oo) (r2 : RV K ρ H k kk) (r3 : RV K ρ H v vv) (e : Cd.setDx h o k v = some h') (q : ∀ H', Step ρ H ρ H' → Sim K ρ h' H' → Q H') : rSetD oo kk vv H Q := by
  unfold Cd.setDx at e
  split at e
  · split at e
    · rename_i l hl
      split at e
      · rename_i hk
        split at e
        · rename_i hz
          cases e
          obtain ⟨κ, eκ⟩ := keyOf_some hk
          cases r1 with
          | @ref _ p hp =>
            obtain ⟨kvs, e1, rd⟩ := S.obj _ _ _ hl hp
            have ky := key_rv eκ r2
            subst ky
            have hz' : kvs.length < sizeLine := by
              rw [line_eq, rd.length] at hz
              omega
            have st : Step ρ H ρ (upd H p (.dK (putK kvs κ vv))) := Step.put hp
            exact ⟨p, _, rfl, DPut.k e1 hz', q _ st (S.put hp ⟨_, upd_same, (rd.put eκ r3).mono st S⟩)⟩
        · cases e
      · cases e
    · cases e
  · cases e
theorem ks_setDx (he : KE X ca W e me) (ho : KE X ca W a ma) (hi : KE X ca W b mb) {tpos : Pos} (hs : swapsWithSole [.Subscript a b tpos] e pos.line X.env = pure false := by rfl) (hw : swappedStores [.Subscript a b tpos] e X.env = pure none := by rfl) (h1 : (assignEach [.Subscript a b tpos] X.env).map (·.2) = [assign (.Subscript a b tpos) X.env] := by rfl) (hx : assign (.Subscript a b tpos) X.env = assign (.Subscript a b tpos) X.env := by rfl) (pg : PG X (.Subscript a b tpos) (gSub (tE X.K ca W ma) (tE X.K ca W mb) rSetD)) :
    KS X ca W (.Assign [.Subscript a b tpos] e pos) (Cd.sSetDx ma mb me) := by
  refine PS.wk (ps_asg he pg hs hw h1) fun D σ H ⟨ρ, h, η, S, re, p⟩ => ?_
  refine ⟨ρ, h, η, S, re, postS.first S re p fun ρ1 H1 h1 v vv st1 S1 r1 re1 p1 => ?_⟩
  refine ⟨ρ1, h1, η, S1, re1, postS.first S1 re1 p1 fun ρ2 H2 h2 x ox st2 S2 r2 re2 p2 => ?_⟩
  refine ⟨ρ2, h2, η, S2, re2, postS.first S2 re2 p2 fun ρ3 H3 h3 k ik st3 S3 r3 re3 p3 => ?_⟩
  cases es : Cd.setDx h3 x k v with
  | none => rw [es] at p3; exact p3.elim
  | some h4 =>
    rw [es] at p3
    exact setDx_of S3 (r2.mono st3 S2) r3 ((r1.mono st2 S1).mono st3 S2) es fun H' st S' => p3 ρ3 H' σ st S' (re3.mono st S3)
theorem pps_txt {k v : String} {j1 j2 : Nat} {p1 p2 : Pos} {ks : List (Option Expr)} {vs : List Expr} {l : List (String × String)} (h : PPs X pos ks vs (l.map fun p => (tC (.str (toS (Cd.S p.1))), tC (.str (toS (Cd.S p.2)))))) :
    PPs X pos (some (.Constant (.str (Str.ofString k)) j1 p1) :: ks) (.Constant (.str (Str.ofString v)) j2 p2 :: vs) (((k, v) :: l).map fun p => (tC (.str (toS (Cd.S p.1))), tC (.str (toS (Cd.S p.2))))) := by
  rw [List.map_cons]
  refine pps_cons ?_ ?_ h
  · rw [← toS_S]; exact pe_str
  · rw [← toS_S]; exact pe_str
theorem tPairs_txt {σ : L2.St} {H : Hp} {Q : List (V × V) → Hp → Prop} : ∀ (l : List (String × String)) (pre : List (V × V)), Q (pre ++ l.map fun p => (V.str (toS (Cd.S p.1)), V.str (toS (Cd.S p.2)))) H →
    tPairs (l.map fun p => (tC (.str (toS (Cd.S p.1))), tC (.str (toS (Cd.S p.2))))) σ H fun ps H2 => Q (pre ++ ps) H2
  | [], pre, q => q
  | p :: l, pre, q => by
    show tPairs (l.map _) σ H fun ps H3 => Q (pre ++ (V.str (toS (Cd.S p.1)), V.str (toS (Cd.S p.2))) :: ps) H3
    have := tPairs_txt (σ := σ) (H := H) (Q := Q) l (pre ++ [(V.str (toS (Cd.S p.1)), V.str (toS (Cd.S p.2)))]) (by rw [List.append_assoc]; exact q)
    simpa using this
theorem mergeK_new : ∀ (kvs acc : List (Key × V)), (acc ++ kvs).Pairwise (fun a b => a.1 ≠ b.1) → mergeK acc kvs = acc ++ kvs
  | [], acc, _ => by rw [List.append_nil]; rfl
  | p :: kvs, acc, h => by
    have e : putK acc p.1 p.2 = acc ++ [p] := by
      unfold putK
      rw [if_neg]
      intro z
      obtain ⟨q, hq, e⟩ := List.any_eq_true.mp z
      have := (List.pairwise_append.mp h).2.2 q hq p List.mem_cons_self
      exact this (of_decide_eq_true e)
    show mergeK (putK acc p.1 p.2) kvs = _
    rw [e, mergeK_new kvs (acc ++ [p]) (by rw [List.append_assoc]; exact h), List.append_assoc]
    rfl
theorem k_dtxt {l : List (String × String)} {keys : List (Option Expr)} {values : List Expr} (h : PPs X pos keys values (l.map fun p => (tC (.str (toS (Cd.S p.1))), tC (.str (toS (Cd.S p.2))))))
    (hall : keys.all (·.isSome) = true) (hl : keys.length = values.length) (h0 : keys ≠ []) (h15 : keys.length ≤ 15) (l15 : l.length ≤ 15) (hnd : l.Pairwise (fun a b => Cd.S a.1 ≠ Cd.S b.1)) : KE X ca W (.Dict keys values pos) (Cd.eDTxt l) := by
  refine PE.wk (pe_disp h hall hl h0 h15) fun σ H Q ⟨ρ, hh, η, S, re, p⟩ => ?_
  intro q hq
  refine tPairs_txt (Q := fun ps H2 => H2 q = some (.dK []) ∧ ∃ kvs : List (Key × V), ps = kvs.map (fun kv => (kV kv.1, kv.2)) ∧ kvs.length ≤ 15 ∧ Q (.ref q) (upd H2 q (.dK (mergeK [] kvs)))) l [] ?_
  refine ⟨upd_same, l.map fun p => (.inr (toS (Cd.S p.1)), .str (toS (Cd.S p.2))), by rw [List.map_map]; rfl, by rw [List.length_map]; exact l15, ?_⟩
  rw [upd_upd, mergeK_new _ [] (by
    rw [List.nil_append, List.pairwise_map]
    exact hnd.imp fun {a b} n z => n (toS_inj.mp (Sum.inr.inj z))), List.nil_append]
  have rd : ∀ l : List (String × String), RD X.K (ρ ++ [q]) (upd H q (.dK (l.map fun p => (.inr (toS (Cd.S p.1)), .str (toS (Cd.S p.2)))))) (l.map fun p => (.str (Cd.S p.1), .str (Cd.S p.2))) (l.map fun p => (.inr (toS (Cd.S p.1)), .str (toS (Cd.S p.2)))) := by
    intro l
    generalize upd H q _ = H'
    induction l with
    | nil => exact .nil
    | cons p l ih => exact .cons rfl (.str _) ih
  exact p (ρ ++ [q]) _ (.ref q) (Step.lay q _ hq) (S.lay hq ⟨_, upd_same, rd l⟩) (.ref (by rw [← S.len, List.getElem?_append_right (Nat.le_refl _), Nat.sub_self]; rfl))
theorem k_dget2 {o : Expr} {mo : Cd.EM} {apos cpos : Pos} (hu : X.A.units + 1 < cLine) (ho : KE X ca W o mo) (ha : KE X ca W a ma) (hb : KE X ca W b mb) (m : M2 X o "get" apos a b cpos) : KE X ca W (.Call (.Attribute o "get" apos) [a, b] [] cpos) (Cd.eDGet2 mo ma mb) := by
  refine PE.wk (pe_dget2 hu ho ha hb m) fun σ H Q ⟨ρ, h, η, S, re, p⟩ => ?_
  refine ⟨ρ, h, η, S, re, postG.first p fun ρ1 H1 h1 d x st1 S1 r1 p1 => ?_⟩
  split at p1
  · rename_i hd
    have key : ∃ n l, d = .ref n ∧ h1[n]? = some (.dct l) := by
      unfold Cd.isDct at hd
      split at hd
      · split at hd
        · rename_i n l hl; exact ⟨_, _, rfl, hl⟩
        · cases hd
      · cases hd
    obtain ⟨n, l, rfl, hl⟩ := key
    obtain ⟨p, kvs, rfl, hp, e1, rd⟩ := dct_at S1 r1 hl
    refine ⟨p, rfl, .inl ⟨kvs, Rd.of e1⟩, ρ1, h1, η, S1, re.mono st1 S, postG.first p1 fun ρ2 H2 h2 k y st2 S2 r2 p2 => ?_⟩
    refine ⟨ρ2, h2, η, S2, (re.mono st1 S).mono st2 S1, postG.first p2 fun ρ3 H3 h3 z w st3 S3 r3 p3 => ?_⟩
    obtain ⟨u, hu, kk⟩ := p3.ofO
    unfold Cd.oDGet2 at hu
    simp only at hu
    split at hu
    · rename_i l3 hl3
      split at hu
      · rename_i hk
        cases hu
        obtain ⟨κ, eκ⟩ := keyOf_some hk
        obtain ⟨p', kvs3, ep, _, e3, rd3⟩ := dct_at S3 ((r1.mono st2 S1).mono st3 S2) hl3
        cases ep
        have ky := key_rv eκ (r2.mono st3 S2)
        subst ky
        refine ⟨_, DGet.k e3, ?_⟩
        have g := rd3.get eκ
        cases eg : Cd.dGet l3 k with
        | some d => rw [eg] at g kk; obtain ⟨v, ev, rv⟩ := g; rw [ev]; exact kk ρ3 H3 v (Step.refl _ _) S3 rv
        | none => rw [eg] at g kk; simp only at g; rw [g]; exact kk ρ3 H3 w (Step.refl _ _) S3 r3
      · cases hu
    · cases hu
  · exact p1.elim
theorem tblGet_some {tbl : List (String × Option String)} {s : List Nat} {r : Option String} (h : Cd.tblGet tbl s = some r) : ∃ k, (k, r) ∈ tbl ∧ Cd.S k = s := by
  unfold Cd.tblGet at h
  cases e : tbl.find? fun p => Cd.S p.1 == s with
  | none => rw [e] at h; cases h
  | some p =>
    rw [e] at h
    cases h
    exact ⟨p.1, List.mem_of_find?_eq_some e, eq_of_beq (List.find?_some (p := fun p : String × Option String => Cd.S p.1 == s) e)⟩
/-- what a written dict holds -/
structure KTab (K : PySem.W.Frag) (w : World) (d : Addr) (tbl : List (String × Option String)) : Prop where
  kd : ∃ es n, KDict K w d es n
  at_ : ∀ k r, (k, r) ∈ tbl → match r with
    | some t => ∃ u, PySem.W.nsIn K d (Str.ofString k) = some (some u) ∧ RelV (.str (Str.ofString t)) u
    | none => PySem.W.nsIn K d (Str.ofString k) = some none
theorem KTab.look {K : PySem.W.Frag} {w : World} {d : Addr} {tbl : List (String × Option String)} (T : KTab K w d tbl) {s : List Nat} {t : String} (h : Cd.tblGet tbl s = some (some t)) :
    ∃ u, PySem.W.nsIn K d (toS s) = some (some u) ∧ RelV (.str (toS (Cd.S t))) u := by
  obtain ⟨k, m, rfl⟩ := tblGet_some h
  have q := T.at_ k _ m
  rw [toS_S, toS_S]
  exact q
theorem KTab.no {K : PySem.W.Frag} {w : World} {d : Addr} {tbl : List (String × Option String)} (T : KTab K w d tbl) {s : List Nat} (h : Cd.tblGet tbl s = some none) : PySem.W.nsIn K d (toS s) = some none := by
  obtain ⟨k, m, rfl⟩ := tblGet_some h
  have q := T.at_ k _ m
  rw [toS_S]
  exact q
theorem tKIn_of {d : Addr} {tbl : List (String × Option String)} (T : KTab X.K X.w d tbl) : ∀ σ H Q, tE X.K ca W (Cd.eUn (Cd.oKIn tbl) ma) σ H Q → tOp (fun x y H Q => ∃ (z : Str) (r : Option Value), x = .str z ∧ y = .ref d ∧ PySem.W.nsIn X.K d z = some r ∧ Q (.bl r.isSome) H) (tE X.K ca W ma) (tC (.ref d)) σ H Q := by
  rintro σ H Q ⟨ρ, h, η, S, re, p⟩
  refine ⟨ρ, h, η, S, re, postG.first p fun ρ1 H1 h1 x xx st1 S1 r1 p1 => ?_⟩
  obtain ⟨u, hu, kk⟩ := p1.ofO
  unfold Cd.oKIn at hu
  split at hu
  · rename_i s
    cases r1
    cases et : Cd.tblGet tbl s with
    | none => rw [et] at hu; cases hu
    | some r =>
      rw [et] at hu
      cases hu
      cases r with
      | none => exact ⟨_, none, rfl, rfl, T.no et, kk ρ1 H1 _ (Step.refl _ _) S1 (.bl _)⟩
      | some t => obtain ⟨u, e1, _⟩ := T.look et; exact ⟨_, some u, rfl, rfl, e1, kk ρ1 H1 _ (Step.refl _ _) S1 (.bl _)⟩
  · cases hu
theorem k_kin {d : Addr} {tbl : List (String × Option String)} {x : Str} {xp : Pos} (T : KTab X.K X.w d tbl) (hm : X.mg x = some (.ref d)) (ha : KE X ca W a ma) (hg : Gl X x := by rfl) (hd : (x == ("__debug__" : Str)) = false := by decide) (hb : behindInMarks .In (.Name x xp) = false := by rfl) :
    KE X ca W (.Compare a [.In] [.Name x xp] pos) (Cd.eUn (Cd.oKIn tbl) ma) := by
  obtain ⟨es, n, D⟩ := T.kd
  exact PE.wk (pe_cmpR (op_in_kd D) ha (pe_glob hg hm (v := .ref d) rfl hd) hb) (tKIn_of T)
theorem kt_kin {d : Addr} {tbl : List (String × Option String)} {x : Str} {xp : Pos} (T : KTab X.K X.w d tbl) (hm : X.mg x = some (.ref d)) (ha : KE X ca W a ma) (hg : Gl X x := by rfl) (hd : (x == ("__debug__" : Str)) = false := by decide) (hb : behindInMarks .In (.Name x xp) = false := by rfl) :
    KT X ca W (.Compare a [.In] [.Name x xp] pos) (Cd.tVal (Cd.eUn (Cd.oKIn tbl) ma)) := by
  obtain ⟨es, n, D⟩ := T.kd
  exact PT.wk (pt_cmpR (op_in_kd D) ha (pe_glob hg hm (v := .ref d) rfl hd) hb) fun σ H Q p => tKIn_of T σ H _ (tB_of σ H Q p)
theorem k_kget {d : Addr} {tbl : List (String × Option String)} {x : Str} {xp : Pos} (T : KTab X.K X.w d tbl) (hm : X.mg x = some (.ref d)) (ha : KE X ca W a ma) (hg : Gl X x := by rfl) (hd : (x == ("__debug__" : Str)) = false := by decide) (hs : PlainIx a := by exact fun _ _ => rfl) :
    KE X ca W (.Subscript (.Name x xp) a pos) (Cd.eUn (Cd.oKGet tbl) ma) := by
  refine PE.wk (pe_ix ix_kdict (pe_glob hg hm (v := .ref d) rfl hd) ha hs) fun σ H Q ⟨ρ, h, η, S, re, p⟩ => ?_
  refine ⟨ρ, h, η, S, re, postG.first p fun ρ1 H1 h1 y yy st1 S1 r1 p1 => ?_⟩
  obtain ⟨u, hu, kk⟩ := p1.ofO
  unfold Cd.oKGet at hu
  split at hu
  · rename_i s
    cases r1
    split at hu
    · rename_i t et
      cases hu
      obtain ⟨es, n, D⟩ := T.kd
      obtain ⟨u, e1, rl⟩ := T.look et
      exact ⟨d, _, .str (toS (Cd.S t)), rfl, rfl, ⟨es, n, u, D.at_, D.lit, e1, rl⟩, kk ρ1 H1 _ (Step.refl _ _) S1 (.str _)⟩
    · cases hu
  · cases hu
theorem mf_upper : MthF X.K Cd.mUpper (fun x xs H Q => ∃ a, x = .str a ∧ xs = [] ∧ a.length ≤ 5592405 ∧ Q (.str (Txt.upper a)) H) := by
  intro ρ h h' H x ds u ox xs Q S r1 r2 e k
  unfold Cd.mUpper at e
  split at e
  · rename_i s
    split at e
    · rename_i hz
      cases e
      cases r1
      cases r2
      refine ⟨_, rfl, rfl, Nat.le_trans (show s.length ≤ 1000000 from hz.2) (by decide), ?_⟩
      have eu : Txt.upper (toS s) = toS (s.map Cd.up1) := by
        rw [PyProof.Rows.upper_ascii (x := toS s) (fun c hc => of_decide_eq_true (List.all_eq_true.mp hz.1 c hc))]
        show (⟨Array.map PyProof.Rows.up1 s.toArray⟩ : Str) = ⟨(s.map Cd.up1).toArray⟩
        rw [List.map_toArray]
        rfl
      rw [eu]
      exact k ρ H _ (Step.refl _ _) S (.str _)
    · cases e
  · cases e
end
end Cb

set_option Elab.async false
set_option linter.all false
set_option maxRecDepth 100000
set_option maxHeartbeats 4000000
/-! CdB15: the bridge: replace, where a token is out. -/
namespace Cb
open PySem PySem.Spec PyProof.Rows L2 TL
/-- a test, one token out -/
def PTT (X : Cx) (e : Expr) (t : TT) : Prop :=
  ∀ (pins : List (Addr × Obj)) (s : Shared) (σ : L2.St) (H : Hp) (Q : Bool → Hp → Prop), 1 ≤ s.toks → Inv X pins σ H s → t σ H Q → wpAny (model X.prog X.w) X.A (isTrue e X.env (eval e X.env)) (TP X pins σ Q) X.xe s
def PWT (X : Cx) (e : Expr) (t : TT) : Prop :=
  ∀ (whole : Sem Value) (pins : List (Addr × Obj)) (s : Shared) (σ : L2.St) (H : Hp) (Q : Bool → Hp → Prop), 1 ≤ s.toks → Inv X pins σ H s → t σ H Q → wpAny (model X.prog X.w) X.A (isTrue e X.env whole) (TP X pins σ Q) X.xe s
abbrev KET (X : Cx) (ca : String → Value) (W : WX) (e : Expr) (m : Cd.EM) : Prop := PET X e (tE X.K ca W m)
abbrev KTT (X : Cx) (ca : String → Value) (W : WX) (e : Expr) (m : Cd.TM) : Prop := PTT X e (tT X.K ca W m)
abbrev KWT (X : Cx) (ca : String → Value) (W : WX) (e : Expr) (m : Cd.TM) : Prop := PWT X e (tT X.K ca W m)
abbrev KAT (X : Cx) (ca : String → Value) (W : WX) (es : List Expr) (m : Cd.AM) : Prop := PAT X es (tA X.K ca W m)
abbrev KST (X : Cx) (ca : String → Value) (W : WX) (st : Stmt) (m : Cd.SM) : Prop := PST X st (tS X.K ca W m)
abbrev KSsT (X : Cx) (ca : String → Value) (W : WX) (st : List Stmt) (m : Cd.SM) : Prop := PSsT X st (tS X.K ca W m)
section
variable {X : Cx} {ca : String → Value} {W : WX} {a b c e o : Expr} {ma mb me mo : Cd.EM} {ms mt : Cd.SM} {st : Stmt} {rest : List Stmt} {pos : Pos}
theorem PET.wk {t t' : TE} (h : PET X e t) (q : ∀ σ H Q, t' σ H Q → t σ H Q) : PET X e t' := fun pins s σ H Q h0 I p => h pins s σ H Q h0 I (q σ H Q p)
theorem PTT.wk {t t' : TT} (h : PTT X e t) (q : ∀ σ H Q, t' σ H Q → t σ H Q) : PTT X e t' := fun pins s σ H Q h0 I p => h pins s σ H Q h0 I (q σ H Q p)
theorem PWT.wk {t t' : TT} (h : PWT X e t) (q : ∀ σ H Q, t' σ H Q → t σ H Q) : PWT X e t' := fun wh pins s σ H Q h0 I p => h wh pins s σ H Q h0 I (q σ H Q p)
theorem PST.wk {t t' : TS} (h : PST X st t) (q : ∀ D σ H, t' D σ H → t D σ H) : PST X st t' := fun pins s σ H D h0 I p => h pins s σ H D h0 I (q D σ H p)
theorem PSsT.wk {ss : List Stmt} {t t' : TS} (h : PSsT X ss t) (q : ∀ D σ H, t' D σ H → t D σ H) : PSsT X ss t' := fun pins s σ H D h0 I p => h pins s σ H D h0 I (q D σ H p)
theorem ket_of (h : KE X ca W e me) : KET X ca W e me := fun pins s σ H Q _ I q => h.run pins s σ H Q I q
theorem kst_of (h : KS X ca W st ms) : KST X ca W st ms := PST.of h
theorem ksst_of {ss : List Stmt} (h : KSs X ca W ss ms) : KSsT X ca W ss ms := PSsT.of h
theorem ksst_cons (h1 : KST X ca W st ms) (h2 : KSsT X ca W rest mt) : KSsT X ca W (st :: rest) (Cd.sSeq ms mt) := by
  refine PSsT.wk (psst_cons h1 h2) fun D σ H ⟨ρ, h, η, S, re, p⟩ => ?_
  exact ⟨ρ, h, η, S, re, postS.seq p fun ρ1 H1 h1 η1 σ1 st1 S1 re1 p1 => ⟨ρ1, h1, η1, S1, re1, p1⟩⟩
/-- a written list whose first item is a text is stored: behind it a token is out -/
theorem pss_lstT {i j : Nat} {x : Str} {c0 : Str} {cpos lpos pos' pos : Pos} {es : List Expr} {ta : TA} {u : TS} (hN : X.N.Nodup) (hi : X.N[i]? = some x) (hx : Loc X.env.scope x) (ha : PA X es ta) (h2 : PSsT X rest u)
    (hsE : starEach (.Constant (.str c0) j cpos :: es) X.env = (false, eval (.Constant (.str c0) j cpos) X.env) :: starEach es X.env)
    (hs : swapsWith (.List (.Constant (.str c0) j cpos :: es) lpos) (some (.Name x pos')) pos.line X.env = pure false) (hf : X.fn x = true ∨ X.env.scope.names.lookup x = some .local) :
    PSs X (.Assign [.Name x pos'] (.List (.Constant (.str c0) j cpos :: es) lpos) pos :: rest) (tSeq (tAsg (tLst (tCons (tC (.str c0)) ta)) (gName i)) u) := by
  refine ⟨fun pins s σ H D I h => ?_⟩
  refine wpAny_execs_cons (wpAny_Assign_Name ?_ hs)
  refine wpAny_List_spliced ?_
  rw [hsE]
  show wpAny _ _ (spliced ((false, eval (.Constant (.str c0) j cpos) X.env) :: backTo lpos (starEach es X.env))) _ _ s
  refine Calls.spliced_cons (Calls.Constant_str ?_)
  refine wpAny_mono (PySem.wpAny_toks (ha.run lpos pins { s with toks := s.toks + 1 } σ H _ (I.tok (s.toks + 1)) h)) (fun us s1 q => ?_) fun _ _ z => z.2
  obtain ⟨hk, xs, H1, I1, r, z, q⟩ := q
  have hk : s.toks + 1 ≤ s1.toks := hk
  have hl : (V.str c0 :: xs).length = (Value.str c0 s.toks :: us).length := by rw [List.length_cons, List.length_cons, r.length]
  refine ⟨by rw [← hl]; exact z, ?_⟩
  have hf1 : H1 s1.heap.objs.size = none := I1.hok.fresh (Nat.le_refl _)
  have I2 := I1.laid (a := s1.heap.objs.size) (o := .lst (V.str c0 :: xs)) (t' := s1.toks) (h' := s1.heap.push { cls := .type "list", data := .seq (Value.str c0 s.toks :: us).toArray 0 }) (fun b u e => Heap.get?_push_of_some _ e) (Nat.le_refl _) ⟨z, (Value.str c0 s.toks :: us), 0, .cons ⟨_, rfl⟩ r, Heap.get?_push_size _ rfl⟩
  refine wpAny_mono (PySem.wpAny_toks (store_ok (v := V.ref s1.heap.objs.size) (u := Value.ref s1.heap.objs.size) (Q := fun _ s2 => Inv X pins (σ.set i (some (V.ref s1.heap.objs.size))) _ s2) I2 hN hi hx rfl (fun _ I3 => I3) hf)) (fun _ s2 q2 => ?_) fun _ _ z => z.2
  have hk2 : s1.toks ≤ s2.toks := q2.1
  exact h2 pins s2 _ _ D (by omega) q2.2 (q _ hf1)
theorem tLst_of {mas : Cd.AM} : ∀ σ H Q, tE X.K ca W (Cd.eLst mas) σ H Q → tLst (tA X.K ca W mas) σ H Q := by
  rintro σ H Q ⟨ρ, h, η, S, re, p⟩
  refine ⟨ρ, h, η, S, re, postG.first p fun ρ1 H1 h1 ds xs st1 S1 r1 p1 => ?_⟩
  split at p1
  · rename_i hl
    rw [line_eq, r1.length] at hl
    refine ⟨hl, fun q nq => ?_⟩
    have st := Step.lay (ρ := ρ1) q (.lst xs) nq
    exact p1 _ _ _ st (S1.lay nq ⟨xs, upd_same, r1.mono st S1⟩) (.ref (by rw [← S1.len, List.getElem?_append_right (Nat.le_refl _), Nat.sub_self]; rfl))
  · exact p1.elim
theorem tC_of {c0 : String} : ∀ σ H Q, tE X.K ca W (Cd.eC (.str (Cd.S c0))) σ H Q → tC (.str (Str.ofString c0)) σ H Q := by
  rintro σ H Q ⟨ρ, h, η, S, re, p⟩
  refine p ρ H _ (Step.refl _ _) S ?_
  rw [← toS_S c0]
  exact .str _
/-- the same, as a reading: the list is written out, the name stored -/
theorem kss_lstT {i : Nat} {x : Str} {c0 : String} {j : Nat} {cpos lpos pos' pos : Pos} {es : List Expr} {mas : Cd.AM} (hN : X.N.Nodup) (ha : KA X ca W es mas) (h2 : KSsT X ca W rest mt) (hi : X.N[i]? = some x := by rfl) (hx : Loc X.env.scope x := by first | exact .inl rfl | exact .inr rfl)
    (hsE : starEach (.Constant (.str (Str.ofString c0)) j cpos :: es) X.env = (false, eval (.Constant (.str (Str.ofString c0)) j cpos) X.env) :: starEach es X.env := by rfl)
    (hs : swapsWith (.List (.Constant (.str (Str.ofString c0)) j cpos :: es) lpos) (some (.Name x pos')) pos.line X.env = pure false := by rfl) (hf : X.fn x = true ∨ X.env.scope.names.lookup x = some .local := by first | exact .inl rfl | exact .inr rfl | assumption) :
    KSs X ca W (.Assign [.Name x pos'] (.List (.Constant (.str (Str.ofString c0)) j cpos :: es) lpos) pos :: rest) (Cd.sSeq (Cd.sSet i (Cd.eLst (Cd.aCons (Cd.eC (.str (Cd.S c0))) mas))) mt) := by
  refine PSs.wk (pss_lstT hN hi hx ha h2 hsE hs hf) fun D σ H ⟨ρ, h, η, S, re, p⟩ => ?_
  have s1 : tS X.K ca W (Cd.sSet i (Cd.eLst (Cd.aCons (Cd.eC (.str (Cd.S c0))) mas))) { D with nx := tS X.K ca W mt D } σ H := ⟨ρ, h, η, S, re, postS.seq p fun ρ1 H1 h1 η1 σ1 st1 S1 re1 p1 => ⟨ρ1, h1, η1, S1, re1, p1⟩⟩
  obtain ⟨ρ, h, η, S, re, p⟩ := s1
  have s2 : tE X.K ca W (Cd.eLst (Cd.aCons (Cd.eC (.str (Cd.S c0))) mas)) σ H (fun x H1 => gName i x σ H1 ({ D with nx := tS X.K ca W mt D } : Ends).nx) := ⟨ρ, h, η, S, re, postS.first S re p fun ρ1 H1 h1 v x st1 S1 r1 re1 p1 => p1 ρ1 H1 _ (Step.refl _ _) S1 (re1.set r1 i)⟩
  obtain ⟨ρ, h, η, S, re, p⟩ := tLst_of _ _ _ s2
  exact tC_of σ H (fun x H1 => tA X.K ca W mas σ H1 fun xs H2 => (x :: xs).length ≤ sizeLine ∧ ∀ q, H2 q = none → gName i (.ref q) σ (upd H2 q (.lst (x :: xs))) ({ D with nx := tS X.K ca W mt D } : Ends).nx) ⟨ρ, h, η, S, re, postG.first p fun ρ1 H1 h1 d x st1 S1 r1 p1 => ⟨ρ1, h1, η, S1, re.mono st1 S, postG.first p1 fun ρ2 H2 h2 ds xs st2 S2 r2 p2 => p2 ρ2 H2 _ (Step.refl _ _) S2 (.cons (r1.mono st2 S1) r2)⟩⟩
/-- for, one token out, its body too -/
theorem pst_forT {tg iter : Expr} {body : List Stmt} {wi : TI} {g : TG} {tb : TS} {pos : Pos} (hp : PassesOwn (model X.prog X.w) X.A X.env X.xe) (hc : X.calm = true) (hi : PI X tg iter wi) (hg : PG X tg g) (hb : PSsT X body tb)
    (hs : ∀ x, foldedSetIterable iter X.env x = pure x := by intro _; rfl) : PST X (.For tg iter body [] pos) (tFor wi g tb) := by
  intro pins s σ H D h0 I h
  refine wpAny_For (wpAny_mono (PySem.wpAny_toks (hi.run pins s σ H _ I h)) (fun v s1 h1 => ?_) fun _ _ z => z.2) hs
  obtain ⟨k1, h1⟩ := h1
  refine wpAny_mono (PySem.wpAny_toks h1) (fun itv s2 h2 => ?_) fun _ _ z => z.2
  obtain ⟨k2, h2⟩ := h2
  obtain ⟨it, fp, tn, J, H2, e, I2, T, st2, f2, W, ⟨m0, w0⟩, turn⟩ := h2
  subst e
  have stat : ∀ {H' : Hp}, (∀ b ∈ fp, H' b = none) → ∀ b ∈ fp, FpOk X pins H' b := fun hn b hb => ⟨hn b hb, (f2 b hb).2⟩
  refine codeAny_forLoop_any (fun n s' => ∃ i σ' H', 1 ≤ s'.toks ∧ Inv X pins σ' H' s' ∧ tn i s'.heap ∧ (∀ b ∈ fp, H' b = none) ∧ W i n σ' H') ?_ m0 ⟨0, σ, H2, Nat.le_trans h0 (Nat.le_trans k1 k2), I2, st2, fun b hb => (f2 b hb).1, w0⟩
  rintro n s3 ⟨i, σ3, H3, t3, I3, st3, fr3, w3⟩
  rcases turn i n σ3 H3 w3 with ⟨stop, qn⟩ | ⟨go, N, hN, step⟩
  · refine wpAny_passesOwn hp (thn (T.done X rfl rfl rfl hc i pins s3 σ3 H3 X.xe I3 (stat fr3) st3 stop) fun r s4 ⟨hr, I4⟩ => ?_)
    subst hr
    exact wpAny_execs_nil ⟨σ3, H3, I4, qn⟩
  · refine wpAny_passesOwn hp (wpAny_mono (PySem.wpAny_toks (T.item X rfl rfl rfl hc i pins s3 σ3 H3 X.xe I3 (stat fr3) st3 go)) (fun r s4 q4 => ?_) fun _ _ z => z.2)
    obtain ⟨k4, u, hr, h4⟩ := q4
    subst hr
    refine wpAny_passesOwn hp (wpAny_mono (PySem.wpAny_toks h4) (fun _ s5 q5 => ?_) fun _ _ z => z.2)
    obtain ⟨k5, x, H5, I5, r5, y5, st5, fr5⟩ := q5
    have I5' := I5.pinned (stat fr5) (T.obj _ _ st5)
    refine wpAny_passesOwn hp (wpAny_mono (PySem.wpAny_toks (hg.run _ s5 σ3 H5 x u _ I5' r5 (step x H5 y5))) (fun _ s6 q6 => ?_) fun _ _ z => z.2)
    obtain ⟨k6, σ6, H6, I6, q6⟩ := q6
    have t6 : 1 ≤ s6.toks := Nat.le_trans t3 (Nat.le_trans k4 (Nat.le_trans k5 k6))
    refine wpAny_passesOwn hp (wpAny_mono (PySem.wpAny_toks (hb _ s6 σ6 H6 _ t6 I6 q6)) (fun f s7 q7 => ?_) fun _ _ z => z.2)
    obtain ⟨k7, q7⟩ := q7
    have t7 : 1 ≤ s7.toks := Nat.le_trans t6 k7
    have again : ∀ {σ7 : L2.St} {H7 : Hp}, Inv X (pins ++ pinsAt fp s5.heap) σ7 H7 s7 → N σ7 H7 → ∃ m, m < n ∧ ∃ i σ' H', 1 ≤ s7.toks ∧ Inv X pins σ' H' s7 ∧ tn i s7.heap ∧ (∀ b ∈ fp, H' b = none) ∧ W i m σ' H' := fun {σ7 H7} I7 n7 => by
      obtain ⟨m', hm, w7⟩ := hN σ7 H7 n7
      refine ⟨m', hm, i + 1, σ7, H7, t7, I7.unpinned, T.keep _ _ _ st5 fun b hb o e => (I7.pin (b, o) (List.mem_append_right _ (List.mem_append_right _ (mem_pinsAt hb e)))).1, fun b hb => ?_, w7⟩
      obtain ⟨o, e, d⟩ := T.obj _ _ st5 b hb
      exact (I7.pin (b, o) (List.mem_append_right _ (List.mem_append_right _ (mem_pinsAt hb e)))).2.1
    cases f with
    | next => obtain ⟨σ7, H7, I7, n7⟩ := q7; exact again I7 n7
    | cont => obtain ⟨σ7, H7, I7, n7⟩ := q7; exact again I7 n7
    | brk => obtain ⟨σ7, H7, I7, q7⟩ := q7; exact ⟨σ7, H7, I7.unpinned, q7⟩
    | ret v => obtain ⟨x7, σ7, H7, I7, r7, q7⟩ := q7; exact ⟨x7, σ7, H7, I7.unpinned, r7, q7⟩
theorem kst_for {tg iter : Expr} {body : List Stmt} {mi : Cd.IM} {g : Cd.GM} (hp : PassesOwn (model X.prog X.w) X.A X.env X.xe) (hc : X.calm = true) (hi : KI X ca W tg iter mi) (hg : KG X tg g) (hb : KSsT X ca W body ms)
    (hs : ∀ x, foldedSetIterable iter X.env x = pure x := by intro _; rfl) : KST X ca W (.For tg iter body [] pos) (Cd.sFor mi g ms) := by
  refine PST.wk (pst_forT hp hc hi hg hb hs) fun D σ H ⟨ρ, h, η, S, re, p⟩ => ?_
  refine ⟨ρ, h, η, S, re, ?_⟩
  unfold Cd.sFor at p
  cases em : mi η h with
  | ok q h' =>
    rw [em] at p
    exact fun ρ' H' J st S' F => forL_post (fun _ _ _ _ x => x) (fun _ _ _ x => x) F S' (re.mono st S) (postS.mono st p)
  | exc e h' =>
    rw [em] at p
    exact fun ρ' H' cls d st S' q => p ρ' H' cls d σ st S' (re.mono st S) q
  | stuck => rw [em] at p; exact p.elim
theorem ptt_cmpR {op : CmpOp} {r : R2} {ta tb : TE} (ho : OpR X (compareOp op) r) (ha : PET X a ta) (hb : PE X b tb) (hm : behindInMarks op b = false) : PTT X (.Compare a [op] [b] pos) (tTest (tOp r ta tb)) := by
  intro pins s σ H Q h0 I h
  refine wpAny_isTrue_Compare1 (thn (ha pins s σ H _ h0 I h) fun v s1 ⟨x, H1, I1, r1, q1⟩ => thn (hb.run pins s1 σ H1 _ I1 q1) fun u s2 ⟨y, H2, I2, r2, q2⟩ =>
    thn (ho pins s2 σ H2 x y v u _ I2 r1 r2 q2) fun c s3 ⟨z, H3, I3, r3, k, e, q3⟩ => ?_) hm
  subst e
  cases r3
  exact wpAny_truthy_bool ⟨H3, I3, q3⟩
theorem ktt_cmp {op : CmpOp} {f : Cd.Hep → Cd.Val → Cd.Val → Option Cd.Val} {r : R2} (ho : OpR X (compareOp op) r) (hf : BinF X.K f r) (ha : KET X ca W a ma) (hb : KE X ca W b mb) (hm : behindInMarks op b = false) :
    KTT X ca W (.Compare a [op] [b] pos) (Cd.tVal (Cd.eBin f ma mb)) :=
  PTT.wk (ptt_cmpR ho ha hb hm) fun σ H Q p => by
    obtain ⟨ρ, h, η, S, re, p⟩ := tB_of σ H Q p
    exact tOp_of hf σ H _ ⟨ρ, h, η, S, re, p⟩
theorem pwt_and {tA tB' : TT} {rest : List Expr} (ha : PTT X a tA) (hb : PW X (.BoolOp .And (b :: rest) pos) tB') : PWT X (.BoolOp .And (a :: b :: rest) pos) (L2.tAnd tA tB') := by
  intro wh pins s σ H Q h0 I h
  refine isTrue_and (thn (ha pins s σ H _ h0 I h) fun c s1 ⟨H1, I1, q1⟩ => ?_)
  cases c with
  | true => exact hb.run wh pins s1 σ H1 Q I1 q1
  | false => exact ⟨H1, I1, q1⟩
theorem kwt_and {ta tb : Cd.TM} {rest : List Expr} (ha : KTT X ca W a ta) (hb : KW X ca W (.BoolOp .And (b :: rest) pos) tb) : KWT X ca W (.BoolOp .And (a :: b :: rest) pos) (Cd.tAnd ta tb) := by
  refine PWT.wk (pwt_and ha hb) fun σ H Q ⟨ρ, h, η, S, re, p⟩ => ?_
  refine ⟨ρ, h, η, S, re, postG.first p fun ρ1 H1 h1 k x st1 S1 r1 p1 => ?_⟩
  cases (show k = x from r1)
  cases k with
  | true => exact ⟨ρ1, h1, η, S1, re.mono st1 S, p1⟩
  | false => exact p1 ρ1 H1 false (Step.refl _ _) S1 rfl
theorem ktt_pw {m : Cd.TM} (h : KWT X ca W e m) : KTT X ca W e m := fun pins s σ H Q h0 I q => h _ pins s σ H Q h0 I q
theorem pst_ifT {sa sb : List Stmt} {tc : TT} {t u : TS} (hc : PTT X c tc) (ha : PSs X sa t) (hb : PSs X sb u) : PST X (.If c sa sb pos) (tIfS tc t u) := by
  intro pins s σ H D h0 I h
  refine wpAny_If (thn (hc pins s σ H _ h0 I h) fun d s1 ⟨H1, I1, q1⟩ => ?_)
  cases d with
  | true => exact ha.run pins s1 σ H1 D I1 q1
  | false => exact hb.run pins s1 σ H1 D I1 q1
theorem kst_if {sa sb : List Stmt} {tc : Cd.TM} (hc : KTT X ca W c tc) (ha : KSs X ca W sa ms) (hb : KSs X ca W sb mt) : KST X ca W (.If c sa sb pos) (Cd.sIf tc ms mt) := by
  refine PST.wk (pst_ifT hc ha hb) fun D σ H ⟨ρ, h, η, S, re, p⟩ => ?_
  refine ⟨ρ, h, η, S, re, postS.first S re p fun ρ1 H1 h1 k x st1 S1 r1 re1 p1 => ?_⟩
  cases (show k = x from r1)
  cases k with
  | true => exact ⟨ρ1, h1, η, S1, re1, p1⟩
  | false => exact ⟨ρ1, h1, η, S1, re1, p1⟩
/-- len(e), one token out -/
theorem pet_callB {id : String} {r : List V → Hp → VK → Prop} {t : TA} {x : Str} {p : Pos} {es : List Expr} (hc : CallR X (.builtin id) r) (hg : Gl X x) (hm : X.mg x = none) (hv : bootBuiltins x = some (.builtin id)) (ha : PAT X (e :: es) t) (hn : x ≠ "__name__" := by decide) (hdb : (x == ("__debug__" : Str)) = false := by decide)
    (he : starEach (e :: es) X.env = (false, eval e X.env) :: starEach es X.env := by rfl) (hpl : (backTo pos (starEach es X.env)).any (·.1) = false := by rfl) : PET X (.Call (.Name x p) (e :: es) [] pos) (tCB r t) := by
  intro pins s σ H Q h0 I h
  refine wpAny_Call_Name_kw (ld_blt I hg hm hv ?_ hn hdb)
  exact PyProof.Rows.callWith_builtin1 (thn (ha pos pins s σ H _ h0 I h) fun us s1 ⟨vs, H1, I1, r1, q1⟩ => hc pins s1 σ H1 vs us Q I1 r1 q1) he hpl
theorem kat_one (ha : KET X ca W a ma) (hs : starEach [a] X.env = (false, eval a X.env) :: starEach [] X.env := by rfl) : KAT X ca W [a] (Cd.aCons ma Cd.aNil) := by
  intro pos pins s σ H Q h0 I ⟨ρ, h, η, S, re, p⟩
  exact pat_cons ha pat_nil hs pos pins s σ H Q h0 I ⟨ρ, h, η, S, re, postG.first p fun ρ1 H1 h1 d x st1 S1 r1 p1 => p1 ρ1 H1 _ (Step.refl _ _) S1 (.cons r1 .nil)⟩
theorem ket_callB {id : String} {F : Cd.BFn} {r : List V → Hp → VK → Prop} {x : Str} {p : Pos} {es : List Expr} {mas : Cd.AM} (hc : CallR X (.builtin id) r) (hf : BFnF X.K F r) (hm : X.mg x = none) (ha : KAT X ca W (e :: es) mas) (hg : Gl X x := by rfl) (hv : bootBuiltins x = some (.builtin id) := by rfl) (hn : x ≠ "__name__" := by decide) (hdb : (x == ("__debug__" : Str)) = false := by decide)
    (he : starEach (e :: es) X.env = (false, eval e X.env) :: starEach es X.env := by rfl) (hpl : (backTo pos (starEach es X.env)).any (·.1) = false := by rfl) : KET X ca W (.Call (.Name x p) (e :: es) [] pos) (Cd.eCallB F mas) :=
  PET.wk (pet_callB hc hg hm hv ha hn hdb he hpl) (tCB_of hf)
theorem repl_eq (c : Nat) (hc : c < 256) (z s : List Nat) : Txt.replace (toS s) (toS [c]) (toS z) = toS (Cd.joinL z (Cd.cutAt c [] s)) := by
  have e : (Txt.split (toS s) (toS [c])).map tl = Cd.cutAt c [] s := by
    rw [split_spl _ _ (by show [c] ≠ []; simp) (kind_ok (by show (([c] : List Nat).toArray.all fun x => decide (x < 256)) = true; simp [hc]))]
    exact cutAt_spl c s []
  have e2 : Txt.split (toS s) (toS [c]) = (Cd.cutAt c [] s).map toS := map_tl_inj (by
    rw [e, List.map_map]
    exact (List.map_id' (Cd.cutAt c [] s)).symm)
  rw [show toS [c] = (⟨#[c]⟩ : Str) from rfl, PySem.StrLaws.replace_one]
  rw [show (⟨#[c]⟩ : Str) = toS [c] from rfl, e2]
  refine ext_tl ?_
  rw [tl_join, tl_toS, tl_toS, List.map_map, show (tl ∘ toS) = id from rfl, List.map_id, joinL_eq]
theorem tRepl_of {c : Nat} {z : List Nat} : ∀ σ H Q, tE X.K ca W (Cd.eRepl c z mo) σ H Q → CwR.tReplC (tE X.K ca W mo) (toS [c]) (toS z) σ H Q := by
  rintro σ H Q ⟨ρ, h, η, S, re, p⟩
  refine ⟨ρ, h, η, S, re, postG.first p fun ρ1 H1 h1 d x st1 S1 r1 p1 => ?_⟩
  cases d with
  | str s =>
    simp only at p1
    split at p1
    · rename_i hz
      cases r1
      obtain ⟨h1, h2⟩ := hz
      rw [Cd.line_is] at h2
      refine ⟨_, rfl, ?_, ?_⟩
      · show s.length + (s.length + 1) * z.length ≤ 16777216
        omega
      · rw [repl_eq c h1]
        exact p1 ρ1 H1 _ (Step.refl _ _) S1 (.str _)
    · exact p1.elim
  | _ => exact p1.elim
/-- e.replace(..), one token out -/
theorem ket_repl {y z : String} {c : Nat} {j k : Nat} {c0 c1 apos pos : Pos} (ho : KET X ca W o mo) (hc : Cd.S y = [c]) (hyz : (Str.ofString y == Str.ofString z) = false)
    (hst : starEach [.Constant (.str (Str.ofString y)) j c0, .Constant (.str (Str.ofString z)) k c1] X.env = [(false, eval (.Constant (.str (Str.ofString y)) j c0) X.env), (false, eval (.Constant (.str (Str.ofString z)) k c1) X.env)] := by rfl)
    (hbase : attributeBase o "replace" X.env (eval o X.env) = eval o X.env := by rfl) (hline : (apos.endLine == pos.line) = true := by rfl) :
    KET X ca W (.Call (.Attribute o "replace" apos) [.Constant (.str (Str.ofString y)) j c0, .Constant (.str (Str.ofString z)) k c1] [] pos) (Cd.eRepl c (Cd.S z) mo) := by
  refine PET.wk (CwR.pet_replT ho hyz hst hbase hline) fun σ H Q q => ?_
  have := tRepl_of σ H Q q
  rw [toS_S, ← hc, toS_S] at this
  exact this
end
end Cb

set_option maxRecDepth 100000
/-! CdCore2: more readings: find, lstrip. -/
namespace Cd
open Classical
noncomputable section
/-- the first place of a sign from a place on, or -1 -/
def findFrom (c k : Nat) (s : List Nat) : Int := if c ∈ s.drop k then ((k + ((s.drop k).takeWhile fun d => !(d == c)).length : Nat) : Int) else -1
def mFind3 : Val → BFn := fun x vs h => match x, vs with
  | .str s, [.str [c], .int i] => if 0 ≤ i ∧ i.toNat ≤ s.length then some (.int (findFrom c i.toNat s), h) else none
  | _, _ => none
/-- without the signs of a set at the beginning -/
def mLstrip : Val → BFn := fun x vs h => match x, vs with
  | .str s, [.str t] => if szOk s.length then some (.str (s.dropWhile fun c => t.contains c), h) else none
  | _, _ => none
end
end Cd

set_option Elab.async false
set_option linter.all false
set_option maxRecDepth 100000
set_option maxHeartbeats 4000000
/-! CdB16: the bridge: find from a place, lstrip. -/
namespace Cb
open PySem PySem.Spec PyProof.Rows L2 TL
section
variable {X : Cx} {K : PySem.W.Frag} {ca : String → Value} {W : WX}
theorem occ_stop (s sub : Str) (hi : Nat) : ∀ (l : List Nat) (st : Array Nat × Nat), 1 ≤ st.fst.size → (forIn l st (StrLaws.occBody s sub hi 1)).run.fst = st.fst
  | [], st, h => rfl
  | a :: l, st, h => by
    rw [List.forIn_cons]
    unfold StrLaws.occBody
    rw [if_neg (fun q => by have := q.1.1.1; omega)]
    exact occ_stop s sub hi l _ h
theorem occ_first (s sub : Str) (hi : Nat) : ∀ (l : List Nat) (free : Nat), (∀ i ∈ l, free ≤ i) →
    (forIn l ((#[] : Array Nat), free) (StrLaws.occBody s sub hi 1)).run.fst.toList = (l.find? fun i => decide (i + sub.length ≤ hi ∧ Builtin.Str.subAt s sub i = true)).toList
  | [], free, _ => by simp
  | a :: l, free, hf => by
    rw [List.forIn_cons]
    unfold StrLaws.occBody
    by_cases hc : a + sub.length ≤ hi ∧ Builtin.Str.subAt s sub a = true
    · have c1 : (((#[] : Array Nat), free).fst.size < 1 ∧ ((#[] : Array Nat), free).snd ≤ a) ∧ a + sub.length ≤ hi := ⟨⟨by simp, hf a List.mem_cons_self⟩, hc.1⟩
      rw [if_pos ⟨c1, hc.2⟩, List.find?_cons_of_pos (by simp [hc])]
      have := occ_stop s sub hi l (((#[] : Array Nat)).push a, a + sub.length) (by simp)
      show ((forIn l _ (StrLaws.occBody s sub hi 1)).run.fst).toList = _
      rw [this]
      rfl
    · have c2 : ¬ (((((#[] : Array Nat), free).fst.size < 1 ∧ ((#[] : Array Nat), free).snd ≤ a) ∧ a + sub.length ≤ hi) ∧ Builtin.Str.subAt s sub a = true) := fun h => hc ⟨h.1.2, h.2⟩
      rw [if_neg c2, List.find?_cons_of_neg (by simp; exact fun q => by cases e : Builtin.Str.subAt s sub a with | false => rfl | true => exact absurd ⟨q, e⟩ hc)]
      exact occ_first s sub hi l free fun i hi' => hf i (List.mem_cons_of_mem _ hi')
theorem find_range (s : List Nat) (c : Nat) : ∀ (t : List Nat) (k : Nat), s.drop k = t →
    (List.range' k (t.length + 1)).find? (fun i => decide (s[i]? = some c)) = if c ∈ t then some (k + (t.takeWhile fun d => !(d == c)).length) else none
  | [], k, e => by
    have q : s[k]? = none := List.getElem?_eq_none (List.drop_eq_nil_iff.mp e)
    simp [List.range', q]
  | a :: r, k, e => by
    have q : s[k]? = some a := by
      have : (s.drop k)[0]? = some a := by rw [e]; rfl
      rw [List.getElem?_drop] at this
      exact this
    have e2 : s.drop (k + 1) = r := by rw [← List.drop_drop, e]; rfl
    have ih := find_range s c r (k + 1) e2
    rw [List.length_cons, List.range'_succ]
    by_cases z : a = c
    · subst z
      rw [List.find?_cons_of_pos (by simp [q])]
      simp
    · rw [List.find?_cons_of_neg (by simp [q, z]), ih]
      have z2 : ¬ c = a := fun h => z h.symm
      by_cases m : c ∈ r
      · simp [m, z, z2]
        omega
      · simp [m, z2]
theorem find3_one (s : List Nat) (c : Nat) (i : Int) (h1 : 0 ≤ i) (h2 : i.toNat ≤ s.length) : Txt.find3 (toS s) (toS [c]) i = Cd.findFrom c i.toNat s := by
  unfold Txt.find3
  have ef : PySem.fromIndex (toS s).length i = i.toNat := by
    unfold PySem.fromIndex
    rw [if_neg (by omega)]
    omega
  rw [ef]
  have eo : Builtin.Str.occurrences (toS s) (toS [c]) i.toNat (toS s).length 1 = (if c ∈ s.drop i.toNat then some (i.toNat + ((s.drop i.toNat).takeWhile fun d => !(d == c)).length) else none).toList := by
    rw [StrLaws.occ_eq, occ_first _ _ _ _ _ (fun j hj => (List.mem_range'_1.mp hj).1)]
    rw [← find_range s c (s.drop i.toNat) i.toNat rfl]
    have el : (toS s).length + 1 - i.toNat = (s.drop i.toNat).length + 1 := by
      rw [List.length_drop]
      show s.length + 1 - _ = _
      omega
    rw [el]
    congr 1
    refine congrArg (fun f => List.find? f _) (funext fun j => ?_)
    exact decide_eq_decide.mpr (StrLaws.subAt_one (toS s) c j)
  rw [eo]
  unfold Cd.findFrom
  by_cases m : c ∈ s.drop i.toNat
  · rw [if_pos m, if_pos m]; rfl
  · rw [if_neg m, if_neg m]; rfl
theorem mf_find3 : MthF K Cd.mFind3 (fun x xs H Q => ∃ (a b : Str) (i : Int), x = .str a ∧ xs = [.str b, .int i] ∧ Q (.int (Txt.find3 a b i)) H) := by
  intro ρ h h' H x ds u ox xs Q S r1 r2 e k
  unfold Cd.mFind3 at e
  split at e
  · rename_i s c i
    split at e
    · rename_i hz
      cases e
      cases r1
      cases r2 with
      | cons ra rb =>
        obtain ⟨y, rfl, ry⟩ := one_rv rb
        cases ra
        cases ry
        refine ⟨_, _, _, rfl, rfl, ?_⟩
        rw [find3_one s c i hz.1 hz.2]
        exact k ρ H _ (Step.refl _ _) S (.int _)
    · cases e
  · cases e
theorem mf_lstrip : MthF K Cd.mLstrip (fun x xs H Q => ∃ a b, x = .str a ∧ xs = [.str b] ∧ a.length ≤ sizeLine ∧ Q (.str (Txt.lstripChars a b)) H) := by
  intro ρ h h' H x ds u ox xs Q S r1 r2 e k
  unfold Cd.mLstrip at e
  split at e
  · rename_i s t
    split at e
    · rename_i hz
      cases e
      cases r1
      obtain ⟨y, rfl, ry⟩ := one_rv r2
      cases ry
      have hz : s.length ≤ Cd.line := hz
      rw [Cd.line_is] at hz
      refine ⟨_, _, rfl, rfl, by rw [sizeLine_eq]; exact hz, ?_⟩
      have el : Txt.lstripChars (toS s) (toS t) = toS (s.dropWhile fun c => t.contains c) := by
        rw [Txt.lstripChars, PyProof.Rows.stripBy_eq]
        refine ext_tl ?_
        unfold PySem.stripLo PySem.stripHi
        simp only [if_true, Bool.false_eq_true, if_false]
        have : tl (Builtin.Str.strSub (toS s) (s.takeWhile fun c => t.contains c).length s.length) = s.dropWhile fun c => t.contains c := by
          rw [show tl (Builtin.Str.strSub (toS s) (s.takeWhile fun c => t.contains c).length s.length) = ((s.toArray.extract (s.takeWhile fun c => t.contains c).length s.length)).toList from rfl]
          rw [Array.toList_extract]
          simp only [List.extract_eq_take_drop]
          have hd := List.takeWhile_append_dropWhile (p := fun c => t.contains c) (l := s)
          have hd2 : s.drop (s.takeWhile fun c => t.contains c).length = s.dropWhile fun c => t.contains c := by
            conv => lhs; rw [show s.drop (s.takeWhile fun c => t.contains c).length = (s.takeWhile (fun c => t.contains c) ++ s.dropWhile fun c => t.contains c).drop (s.takeWhile fun c => t.contains c).length by rw [hd]]
            exact List.drop_left
          rw [hd2]
          refine List.take_of_length_le ?_
          have := congrArg List.length hd
          rw [List.length_append] at this
          omega
        have hc : (toS t).cps.contains = fun c => t.contains c := by
          funext c
          show t.toArray.contains c = t.contains c
          simp
        rw [hc]
        exact this
      rw [el]
      exact k ρ H _ (Step.refl _ _) S (.str _)
    · cases e
  · cases e
end
end Cb

set_option maxRecDepth 100000
/-! CdCore3: more readings: f-strings, dicts of numbers, data in a list, chains of comparisons. -/
namespace Cd
open Classical
noncomputable section
/-- {x} of an f-string -/
def eFmt (m : EM) : EM := fun η h => (m η h).bind fun x h1 => match x with
  | .str s => if szOk s.length then .ok (.str s) h1 else .stuck
  | .int i => if strOk i then .ok (.str (S (toString i))) h1 else .stuck
  | _ => .stuck
def jsL : List EM → List Nat → EM
  | [], acc => fun _ h => .ok (.str acc) h
  | m :: ms, acc => fun η h => (m η h).bind fun x h1 => match x with
    | .str y => if szOk (acc.length + y.length) then jsL ms (acc ++ y) η h1 else .stuck
    | _ => .stuck
def eJs (ms : List EM) : EM := jsL ms []
/-- a written dict of texts to numbers -/
def eDInt (l : List (String × Int)) : EM := fun _ h => .ok (.ref h.length) (h ++ [.dct (l.map fun p => (.str (S p.1), .int p.2))])
/-- x in l, not in, by data -/
def oInD (h : Hep) (x y : Val) : Option Val := match rsl h 40 x, rsl h 40 y with
  | some d, some (.lst ds) => some (.bl (ds.any fun z => z.eqv d))
  | _, _ => none
def oNinD (h : Hep) (x y : Val) : Option Val := match rsl h 40 x, rsl h 40 y with
  | some d, some (.lst ds) => some (.bl (!ds.any fun z => z.eqv d))
  | _, _ => none
/-- a f b g c -/
def eChain (f g : Hep → Val → Val → Option Val) (a b c : EM) : EM := fun η h => (a η h).bind fun x h1 => (b η h1).bind fun y h2 => (ofO (f h2 x y) h2).bind fun z h3 => match z with
  | .bl true => (c η h3).bind fun w h4 => ofO (g h4 y w) h4
  | .bl false => .ok (.bl false) h3
  | _ => .stuck
/-- +, of tuples too where the left one may be empty -/
def oAddW (_ : Hep) : Val → Val → Option Val
  | .int i, .int j => some (.int (i + j))
  | .str s, .str t => if szOk (s.length + t.length) then some (.str (s ++ t)) else none
  | .tup l, .tup m => if szOk (l.length + m.length) then some (.tup (l ++ m)) else none
  | _, _ => none
/-- zip of two texts -/
def zipS (s t : List Nat) : List Val := (s.zip t).map fun p => .tup [.str [p.1], .str [p.2]]
def fZipS (_ : Hep) : List Val → Option (List Val × (Hep → Bool))
  | [.str s, .str t] => some (zipS s t, fun _ => true)
  | _ => none
/-- x is True, x is False -/
def isB : Val → Bool → Bool
  | .bl k, b => k == b
  | _, _ => false
def oIsB (_ : Hep) (x y : Val) : Option Val := match y with | .bl b => some (.bl (isB x b)) | _ => none
/-- a, b = x, y: the stores from the last one on -/
def sSwp (i j : Nat) (e : EM) : SM := fun η h => (e η h).thn η fun v h1 => match v with
  | .tup [x, y] => .nx ((η.set j (some y)).set i (some x)) h1
  | _ => .stuck
end
end Cd

set_option Elab.async false
set_option linter.all false
set_option maxRecDepth 100000
set_option maxHeartbeats 4000000
/-! CdB17: the bridge: f-strings, dicts of numbers, data in a list, chains of comparisons. -/
namespace Cb
open PySem PySem.Spec PyProof.Rows L2 TL
theorem room65 {k : Nat} {A : Around} (r : Room k A) : A.units + 65 < cLine := by
  have := r.un
  omega
section
variable {X : Cx} {K : PySem.W.Frag} {ca : String → Value} {W : WX} {a b c e : Expr} {ma mb mc me : Cd.EM} {pos : Pos}
theorem k_fmt (he : KE X ca W e me) : KE X ca W (.FormattedValue e (-1) none pos) (Cd.eFmt me) := by
  refine PE.wk (pe_fmt he) fun σ H Q ⟨ρ, h, η, S, re, p⟩ => ?_
  refine ⟨ρ, h, η, S, re, postG.first p fun ρ1 H1 h1 d x st1 S1 r1 p1 => ?_⟩
  cases r1 with
  | str s =>
    simp only at p1
    split at p1
    · rename_i hz
      have hz : s.length ≤ Cd.line := hz
      rw [Cd.line_is] at hz
      exact .inl ⟨_, rfl, by rw [sizeLine_eq]; exact hz, p1 ρ1 H1 _ (Step.refl _ _) S1 (.str _)⟩
    · exact p1.elim
  | int i =>
    simp only at p1
    split at p1
    · rename_i hz
      refine .inr ⟨i, rfl, hz, p1 ρ1 H1 _ (Step.refl _ _) S1 ?_⟩
      have q := RV.str (K := X.K) (ρ := ρ1) (H := H1) (Cd.S (toString i))
      rw [toS_S] at q
      exact q
    · exact p1.elim
  | _ => exact p1.elim
theorem tJs_of {ρ0 : List Addr} : ∀ (ms : List Cd.EM) (acc : List Nat) (σ : L2.St) (H : Hp) (Q : VK), tE X.K ca W (Cd.jsL ms acc) σ H Q → tJs (ms.map (tE X.K ca W)) (toS acc) σ H fun out H1 => Q (.str out) H1
  | [], acc, σ, H, Q, ⟨ρ, h, η, S, re, p⟩ => p ρ H _ (Step.refl _ _) S (.str _)
  | m :: ms, acc, σ, H, Q, ⟨ρ, h, η, S, re, p⟩ => by
    refine ⟨ρ, h, η, S, re, postG.first p fun ρ1 H1 h1 d x st1 S1 r1 p1 => ?_⟩
    cases r1 with
    | str y =>
      simp only at p1
      split at p1
      · rename_i hz
        have hz : acc.length + y.length ≤ Cd.line := hz
        rw [Cd.line_is] at hz
        refine ⟨toS y, rfl, ?_, ?_⟩
        · rw [← toS_app, sizeLine_eq]
          show (acc ++ y).length ≤ _
          rw [List.length_append]; exact hz
        · rw [← toS_app]
          exact tJs_of (ρ0 := ρ0) ms (acc ++ y) σ H1 Q ⟨ρ1, h1, η, S1, re.mono st1 S, p1⟩
      · exact p1.elim
    | _ => exact p1.elim
theorem kj_nil : PJ X [] (([] : List Cd.EM).map (tE X.K ca W)) := .nil
theorem kj_cons {es : List Expr} {ms : List Cd.EM} (h : KE X ca W e me) (r : PJ X es (ms.map (tE X.K ca W))) : PJ X (e :: es) ((me :: ms).map (tE X.K ca W)) := .cons h r
theorem k_js {v1 v2 : Expr} {rest : List Expr} {ms : List Cd.EM} (h : PJ X (v1 :: v2 :: rest) (ms.map (tE X.K ca W))) : KE X ca W (.JoinedStr (v1 :: v2 :: rest) pos) (Cd.eJs ms) :=
  PE.wk (pe_joined h) fun σ H Q q => tJs_of (ρ0 := []) ms [] σ H Q q
theorem pps_int {k : String} {i : Int} {j1 : Nat} {ks : List (Option Expr)} {vs : List Expr} {v : Expr} {p1 : Pos} {l : List (String × Int)} (hv : PE X v (tC (.int i))) (h : PPs X pos ks vs (l.map fun p => (tC (.str (toS (Cd.S p.1))), tC (.int p.2)))) :
    PPs X pos (some (.Constant (.str (Str.ofString k)) j1 p1) :: ks) (v :: vs) (((k, i) :: l).map fun p => (tC (.str (toS (Cd.S p.1))), tC (.int p.2))) := by
  rw [List.map_cons]
  refine pps_cons ?_ hv h
  rw [← toS_S]; exact pe_str
theorem tPairs_int {σ : L2.St} {H : Hp} {Q : List (V × V) → Hp → Prop} : ∀ (l : List (String × Int)) (pre : List (V × V)), Q (pre ++ l.map fun p => (V.str (toS (Cd.S p.1)), V.int p.2)) H →
    tPairs (l.map fun p => (tC (.str (toS (Cd.S p.1))), tC (.int p.2))) σ H fun ps H2 => Q (pre ++ ps) H2
  | [], pre, q => q
  | p :: l, pre, q => by
    show tPairs (l.map _) σ H fun ps H3 => Q (pre ++ (V.str (toS (Cd.S p.1)), V.int p.2) :: ps) H3
    have := tPairs_int (σ := σ) (H := H) (Q := Q) l (pre ++ [(V.str (toS (Cd.S p.1)), V.int p.2)]) (by rw [List.append_assoc]; exact q)
    simpa using this
theorem k_dint {l : List (String × Int)} {keys : List (Option Expr)} {values : List Expr} (h : PPs X pos keys values (l.map fun p => (tC (.str (toS (Cd.S p.1))), tC (.int p.2))))
    (hall : keys.all (·.isSome) = true) (hl : keys.length = values.length) (h0 : keys ≠ []) (h15 : keys.length ≤ 15) (l15 : l.length ≤ 15) (hnd : l.Pairwise (fun a b => Cd.S a.1 ≠ Cd.S b.1)) : KE X ca W (.Dict keys values pos) (Cd.eDInt l) := by
  refine PE.wk (pe_disp h hall hl h0 h15) fun σ H Q ⟨ρ, hh, η, S, re, p⟩ => ?_
  intro q hq
  refine tPairs_int (Q := fun ps H2 => H2 q = some (.dK []) ∧ ∃ kvs : List (Key × V), ps = kvs.map (fun kv => (kV kv.1, kv.2)) ∧ kvs.length ≤ 15 ∧ Q (.ref q) (upd H2 q (.dK (mergeK [] kvs)))) l [] ?_
  refine ⟨upd_same, l.map fun p => (.inr (toS (Cd.S p.1)), .int p.2), by rw [List.map_map]; rfl, by rw [List.length_map]; exact l15, ?_⟩
  rw [upd_upd, mergeK_new _ [] (by
    rw [List.nil_append, List.pairwise_map]
    exact hnd.imp fun {a b} n z => n (toS_inj.mp (Sum.inr.inj z))), List.nil_append]
  have rd : ∀ l : List (String × Int), RD X.K (ρ ++ [q]) (upd H q (.dK (l.map fun p => (.inr (toS (Cd.S p.1)), .int p.2)))) (l.map fun p => (.str (Cd.S p.1), .int p.2)) (l.map fun p => (.inr (toS (Cd.S p.1)), .int p.2)) := by
    intro l
    generalize upd H q _ = H'
    induction l with
    | nil => exact .nil
    | cons p l ih => exact .cons rfl (.int _) ih
  exact p (ρ ++ [q]) _ (.ref q) (Step.lay q _ hq) (S.lay hq ⟨_, upd_same, rd l⟩) (.ref (by rw [← S.len, List.getElem?_append_right (Nat.le_refl _), Nat.sub_self]; rfl))
theorem toPs_any (d : Cd.Dat) : ∀ ds : List Cd.Dat, ((toPs ds).any fun z => PyData.eqv z (toP d)) = ds.any fun z => z.eqv d
  | [] => rfl
  | t :: ds => by rw [toPs, List.any_cons, List.any_cons, toP_eqv, toPs_any d ds]
theorem bf_inD : BinF K Cd.oInD (rInD K) := by
  intro ρ h H d e u x y Q S r1 r2 hu k
  unfold Cd.oInD at hu
  split at hu
  · rename_i t1 ds e1 e2
    cases hu
    obtain ⟨a, b, c⟩ := rsl_dp S _ _ _ _ r1 e1
    obtain ⟨a', b', c'⟩ := rsl_dp S _ _ _ _ r2 e2
    refine ⟨_, toPs ds, a, a', shaped_of b c, shaped_of b' c', ?_⟩
    rw [toPs_any]
    exact k ρ H _ (Step.refl _ _) S (.bl _)
  · cases hu
theorem bf_ninD : BinF K Cd.oNinD (rNotInD K) := by
  intro ρ h H d e u x y Q S r1 r2 hu k
  unfold Cd.oNinD at hu
  split at hu
  · rename_i t1 ds e1 e2
    cases hu
    obtain ⟨a, b, c⟩ := rsl_dp S _ _ _ _ r1 e1
    obtain ⟨a', b', c'⟩ := rsl_dp S _ _ _ _ r2 e2
    refine ⟨_, toPs ds, a, a', shaped_of b c, shaped_of b' c', ?_⟩
    rw [toPs_any]
    exact k ρ H _ (Step.refl _ _) S (.bl _)
  · cases hu
theorem k_chain {op op' : CmpOp} {f g : Cd.Hep → Cd.Val → Cd.Val → Option Cd.Val} {r r' : R2} (ho : OpR X (compareOp op) r) (ho' : OpR X (compareOp op') r') (hf : BinF X.K f r) (hg : BinF X.K g r') (ha : KE X ca W a ma) (hb : KE X ca W b mb) (hc : KE X ca W c mc)
    (hm : lastMarks [op, op'] [b, c] = false := by with_unfolding_all rfl) : KE X ca W (.Compare a [op, op'] [b, c] pos) (Cd.eChain f g ma mb mc) := by
  refine PE.wk (pe_chain ho ho' ha hb hc hm) fun σ H Q ⟨ρ, h, η, S, re, p⟩ => ?_
  refine ⟨ρ, h, η, S, re, postG.first p fun ρ1 H1 h1 d x st1 S1 r1 p1 => ?_⟩
  refine ⟨ρ1, h1, η, S1, re.mono st1 S, postG.first p1 fun ρ2 H2 h2 e y st2 S2 r2 p2 => ?_⟩
  cases eu : f h2 d e with
  | none => rw [eu] at p2; exact p2.elim
  | some u =>
    rw [eu] at p2
    refine hf ρ2 h2 H2 d e u x y _ S2 (r1.mono st2 S1) r2 eu fun ρ3 H3 w st3 S3 r3 => ?_
    cases r3 with
    | bl k =>
      refine ⟨k, rfl, ?_⟩
      cases k with
      | false =>
        rw [if_neg (by decide)]
        exact p2 ρ3 H3 _ st3 S3 (.bl _)
      | true =>
        rw [if_pos rfl]
        have p2 : postG X.K ca W (RV X.K) ρ2 H2 σ ((mc η h2).bind fun w h4 => Cd.ofO (g h4 e w) h4) Q := p2
        have re3 := ((re.mono st1 S).mono st2 S1).mono st3 S2
        refine ⟨ρ3, h2, η, S3, re3, postG.first (postG.mono st3 p2) fun ρ4 H4 h4 v z st4 S4 r4 p4 => ?_⟩
        obtain ⟨u4, e4, k4⟩ := p4.ofO
        exact hg ρ4 h4 H4 e v u4 y z Q S4 ((r2.mono st3 S2).mono st4 S3) r4 e4 k4
    | _ => exact p2.elim

theorem ps_swp {x y : Str} {i j k : Nat} {te : TE} {p1 p2 tpos : Pos} (hc : X.calm = true) (hN : X.N.Nodup) (he : PE X e te) (hi : X.N[i]? = some x) (hj : X.N[j]? = some y) (hx : Loc X.env.scope x) (hy : Loc X.env.scope y)
    (hfx : X.fn x = true ∨ X.env.scope.names.lookup x = some .local) (hfy : X.fn y = true ∨ X.env.scope.names.lookup y = some .local)
    (hs : swapsWithSole [.Tuple [.Name x p1, .Name y p2] k tpos] e pos.line X.env = pure false) (hw : swappedStores [.Tuple [.Name x p1, .Name y p2] k tpos] e X.env = pure (some [x, y])) :
    PS X (.Assign [.Tuple [.Name x p1, .Name y p2] k tpos] e pos) (fun D σ H => te σ H fun v H1 => ∃ a vx vy, v = .ref a ∧ SqT X.K H1 a [vx, vy] ∧ D.nx ((σ.set j (some vy)).set i (some vx)) H1) := by
  refine ⟨fun pins s σ H D I h => ?_⟩
  refine Assign_Tuple_swapped (thn (he.run pins s σ H _ I h) fun u s1 ⟨v, H1, I1, r1, a, vx, vy, e1, hq, q⟩ => ?_) hs hw
  subst e1
  cases r1
  obtain ⟨its, rv, ht, hz⟩ := I1.tuple hq
  cases rv with
  | cons ra rb =>
    cases rb with
    | cons rb rc =>
      cases rc
      rename_i ux uy
      refine unpackItems_tuple (items := #[ux, uy]) (I1.ok.hd hc) ht fun h' hx2 => ?_
      have I2 : Inv X pins σ H1 { s1 with heap := h' } := I1.kept (t' := s1.toks) fun b o e => hx2 b o (Nat.ne_of_lt (Heap.lt_size e)) e
      show wpAny _ _ (assignInOrder [bindName X.env y, bindName X.env x] [uy, ux]) _ _ _
      refine assignInOrder_cons (bindName_ (store_ok I2 hN hj hy rb (fun s3 I3 => ?_) hfy))
      refine assignInOrder_cons (bindName_ (store_ok I3 hN hi hx ra (fun s4 I4 => ?_) hfx))
      exact assignInOrder_nil ⟨_, _, I4, q⟩
theorem ks_swp (i j : Nat) {x y : Str} {k : Nat} {p1 p2 tpos : Pos} (hc : X.calm = true) (hN : X.N.Nodup) (he : KE X ca W e me) (hi : X.N[i]? = some x := by rfl) (hj : X.N[j]? = some y := by rfl)
    (hx : Loc X.env.scope x := by first | exact Or.inl rfl | exact Or.inr rfl) (hy : Loc X.env.scope y := by first | exact Or.inl rfl | exact Or.inr rfl)
    (hfx : X.fn x = true ∨ X.env.scope.names.lookup x = some .local := by first | exact .inl rfl | exact .inr rfl | assumption) (hfy : X.fn y = true ∨ X.env.scope.names.lookup y = some .local := by first | exact .inl rfl | exact .inr rfl | assumption)
    (hs : swapsWithSole [.Tuple [.Name x p1, .Name y p2] k tpos] e pos.line X.env = pure false := by rfl) (hw : swappedStores [.Tuple [.Name x p1, .Name y p2] k tpos] e X.env = pure (some [x, y]) := by rfl) :
    KS X ca W (.Assign [.Tuple [.Name x p1, .Name y p2] k tpos] e pos) (Cd.sSwp i j me) := by
  refine PS.wk (ps_swp hc hN he hi hj hx hy hfx hfy hs hw) fun D σ H ⟨ρ, h, η, S, re, p⟩ => ?_
  refine ⟨ρ, h, η, S, re, postS.first S re p fun ρ1 H1 h1 v xv st1 S1 r1 re1 p1 => ?_⟩
  cases r1 with
  | tup q rs =>
    cases rs with
    | nil => exact p1.elim
    | cons ra rb =>
      cases rb with
      | nil => exact p1.elim
      | cons rb rc =>
        cases rc with
        | nil => exact ⟨_, _, _, rfl, q, p1 ρ1 H1 _ (Step.refl _ _) S1 ((re1.set rb j).set ra i)⟩
        | cons => exact p1.elim
  | _ => exact p1.elim
theorem bf_addW : BinF K Cd.oAddW (fun x y H Q => (rI0 fun i j => .int (i + j)) x y H Q ∨ (fun x y H Q => ∃ i j, x = V.str i ∧ y = V.str j ∧ i.length + j.length ≤ sizeLine ∧ Q (V.str (i ++ j)) H) x y H Q ∨ rCatA K x y H Q) := by
  intro ρ h H d e u x y Q S r1 r2 hu k
  unfold Cd.oAddW at hu
  split at hu
  · cases hu
    cases r1
    cases r2
    exact .inl ⟨_, _, rfl, rfl, k ρ H _ (Step.refl _ _) S (.int _)⟩
  · rename_i s t
    split at hu
    · rename_i hl
      cases hu
      cases r1
      cases r2
      rw [line_eq] at hl
      exact .inr (.inl ⟨_, _, rfl, rfl, hl, by rw [← toS_app]; exact k ρ H _ (Step.refl _ _) S (.str _)⟩)
    · cases hu
  · rename_i l m
    split at hu
    · rename_i hl
      cases hu
      cases r1 with
      | @tup a _ vs q1 t1 =>
        cases r2 with
        | @tup b _ ws q2 t2 =>
          rw [line_eq, t1.length, t2.length] at hl
          refine .inr (.inr ⟨a, b, vs, ws, rfl, rfl, q1, q2, hl, ?_, ?_, ?_⟩)
          · intro z
            subst z
            cases t1
            rw [List.nil_append] at k
            exact k ρ H _ (Step.refl _ _) S (.tup q2 t2)
          · intro _ z
            subst z
            cases t2
            rw [List.append_nil] at k
            exact k ρ H _ (Step.refl _ _) S (.tup q1 t1)
          · intro _ _ p np
            have st := Step.out (ρ := ρ) p (.tup (vs ++ ws)) np
            exact k ρ _ _ st (S.out np) (.tup (SqT.of upd_same) (RVs.append (t1.mono st S) (t2.mono st S)))
    · cases hu
  · cases hu
theorem op_addW : OpR X (binaryOp .Add) (fun x y H Q => (rI0 fun i j => .int (i + j)) x y H Q ∨ (fun x y H Q => ∃ i j, x = V.str i ∧ y = V.str j ∧ i.length + j.length ≤ sizeLine ∧ Q (V.str (i ++ j)) H) x y H Q ∨ rCatA X.K x y H Q) :=
  op_add.or (op_add_str.or op_catA)
end
end Cb

set_option Elab.async false
set_option linter.all false
set_option maxRecDepth 100000
set_option maxHeartbeats 4000000
/-! CdB18: the bridge: zip of two texts. -/
namespace ZT
open PySem
open PySem.Sem (wp)
def isSI (T : String) : Prop := T = "str_ascii_iterator" ∨ T = "str_iterator"
theorem isSI_of (x : Str) : isSI (strIterType x) := by
  unfold strIterType isSI
  split
  · exact .inl rfl
  · exact .inr rfl
section
variable {prog : Program} {w : World} {A : Around} {E : Value → Shared → Prop} {s : Shared}
theorem nextS_item {T : String} (hT : isSI T) {it : Addr} {x : Str} {t : Tok} {i c : Nat} {Q : Value → Shared → Prop} (hit : s.heap.IsStrIter it T x t i) (hx : x.cps[i]? = some c)
    (hQ : ∀ h', h'.IsStrIter it T x t (i + 1) → Heap.SameBut it s.heap h' → Q (.str ⟨#[c]⟩ s.toks) { s with heap := h', toks := s.toks + 1 }) : wpAny (model prog w) A (Builtin.SmallTypes.nextOf (.ref it)) Q E s := by
  rcases hT with rfl | rfl
  · exact wpAny_nextOf_ascii_item hit hx hQ
  · exact wpAny_nextOf_wide_item hit hx hQ
theorem nextS_end {T : String} (hT : isSI T) {it : Addr} {x : Str} {t : Tok} {i : Nat} {Q : Value → Shared → Prop} (hh : A.handled = none) (hit : s.heap.IsStrIter it T x t i) (hx : x.cps[i]? = none)
    (hE : ∀ h' e, Heap.ExtBut it s.heap h' → (∃ o, h'.get? e = some o ∧ o.cls = .type "StopIteration") → E (.ref e) { s with heap := h' }) : wpAny (model prog w) A (Builtin.SmallTypes.nextOf (.ref it)) Q E s := by
  rcases hT with rfl | rfl
  · exact wpAny_nextOf_ascii_end hh hit hx hE
  · exact wpAny_nextOf_wide_end hh hit hx hE
theorem SI_at {h h' : Heap} {a : Addr} {T : String} {x : Str} {t : Tok} {i : Nat} (q : h.IsStrIter a T x t i) (k : ∀ o, h.get? a = some o → h'.get? a = some o) : h'.IsStrIter a T x t i :=
  let ⟨o, ho, r⟩ := q
  ⟨o, k o ho, r⟩
abbrev Apart (z P O i j : Addr) : Prop := ZipApart z P O i j P P
theorem zipS_item {z P O i j : Addr} {k l : Nat} {T U : String} {x y : Str} {tx ty : Tok} {a b : Value} {c d : Nat} {Q : Value → Shared → Prop} (D : Apart z P O i j) (hT : isSI T) (hU : isSI U)
    (hz : IsZip s.heap z P O .none) (hP : IsPair s.heap P (.ref i) (.ref j)) (hO : IsPair s.heap O a b) (h1 : s.heap.IsStrIter i T x tx k) (h2 : s.heap.IsStrIter j U y ty l) (hx : x.cps[k]? = some c) (hy : y.cps[l]? = some d)
    (hQ : ∀ h', IsZip h' z P O (rawInt s.heap.objs.size) → (∃ u v, IsPair h' O u v) → h'.IsStrIter i T x tx (k + 1) → h'.IsStrIter j U y ty (l + 1) → IsPair h' s.heap.objs.size (.str ⟨#[c]⟩ s.toks) (.str ⟨#[d]⟩ (s.toks + 1)) →
      (∀ e o, e ≠ z → e ≠ O → e ≠ i → e ≠ j → s.heap.get? e = some o → h'.get? e = some o) → Q (.ref s.heap.objs.size) { s with heap := h', toks := s.toks + 1 + 1 }) :
    wpAny (model prog w) A (Builtin.«zip.__next__» ⟨[.ref z], []⟩) (fun fin s' => ∃ v, fin = .done (.ret v) ∧ Q v s') E s := by
  show wpAny _ _ (field (.ref z) 2 >>= _) _ _ _
  refine wpAny_bind (wpAny_field hz rfl (x := .bool false) rfl ?_)
  show wpAny _ _ (field (.ref z) 3 >>= _) _ _ _
  refine wpAny_bind (wpAny_field hz rfl (x := .ref P) rfl (wpAny_bind (wpAny_seqItems hP rfl ?_)))
  show wpAny _ _ (Builtin.SmallTypes.ownedTupleIsFree (.ref z) >>= _) _ _ _
  refine wpAny_bind ?_
  unfold Builtin.SmallTypes.ownedTupleIsFree
  refine wpAny_bind (wpAny_field hz rfl (x := .none) rfl (wpAny_pure ?_))
  simp only [if_true]
  refine wpAny_bind (wpAny_rule (wpAny_bind (wpAny_field hz rfl (x := .ref O) rfl ?_)))
  refine wpAny_bind (wpAny_setField_rec hz (by simp) fun g1 z1 e1 => ?_)
  replace z1 : IsZip g1 z P O .ellipsis := z1
  refine wpAny_bind ?_
  simp only [List.zipIdx_cons, List.zipIdx_nil, List.forIn_cons, List.forIn_nil]
  refine wpAny_bind (wpAny_bind (wpAny_onRaise ?_))
  show wpAny _ _ (Builtin.SmallTypes.nextOf (.ref i) >>= _) _ _ _
  refine wpAny_bind (nextS_item hT (h1.extBut e1.extBut D.i1z) hx fun g2 i2 e2 => wpAny_pure ?_)
  have O2 : IsPair g2 O a b := e2.extBut _ _ D.TOi1 (e1.extBut _ _ D.TOz hO)
  refine wpAny_bind (wpAny_seqItems O2 rfl (wpAny_bind (wpAny_updateSeq_pair O2 fun g3 O3 e3 => ?_)))
  replace O3 : IsPair g3 O (.str ⟨#[c]⟩ s.toks) b := O3
  refine wpAny_bind (wpAny_letGo (wpAny_pure ?_))
  refine wpAny_bind (wpAny_bind (wpAny_onRaise ?_))
  show wpAny _ _ (Builtin.SmallTypes.nextOf (.ref j) >>= _) _ _ _
  refine wpAny_bind (nextS_item hU (((h2.extBut e1.extBut D.i2z).extBut e2.extBut D.i12.symm).extBut e3.extBut D.TOi2.symm) hy fun g4 j4 e4 => wpAny_pure ?_)
  have O4 : IsPair g4 O (.str ⟨#[c]⟩ s.toks) b := e4.extBut _ _ D.TOi2 O3
  refine wpAny_bind (wpAny_seqItems O4 rfl (wpAny_bind (wpAny_updateSeq_pair O4 fun g5 O5 e5 => ?_)))
  replace O5 : IsPair g5 O (.str ⟨#[c]⟩ s.toks) (.str ⟨#[d]⟩ (s.toks + 1)) := O5
  refine wpAny_bind (wpAny_letGo (wpAny_pure (wpAny_pure ?_)))
  refine wpAny_bind (wpAny_seqItems O5 rfl (wpAny_bind (wpAny_newTuple ?_)))
  have sz : g5.objs.size = s.heap.objs.size := by rw [e5.1, e4.1, e3.1, e2.1, e1.1]
  have z5 : IsZip g5 z P O .ellipsis := e5.extBut _ _ D.TOz.symm (e4.extBut _ _ D.i2z.symm (e3.extBut _ _ D.TOz.symm (e2.extBut _ _ D.i1z.symm z1)))
  have kp : ∀ e o, e ≠ z → e ≠ O → e ≠ i → e ≠ j → s.heap.get? e = some o → g5.get? e = some o := fun e o n1 n2 n3 n4 q =>
    e5.extBut _ _ n2 (e4.extBut _ _ n4 (e3.extBut _ _ n2 (e2.extBut _ _ n3 (e1.extBut _ _ n1 q))))
  have i5 : g5.IsStrIter i T x tx (k + 1) := ((i2.extBut e3.extBut D.TOi1.symm).extBut e4.extBut D.i12).extBut e5.extBut D.TOi1.symm
  have j5 : g5.IsStrIter j U y ty (l + 1) := j4.extBut e5.extBut D.TOi2.symm
  have zl : z < g5.objs.size := Heap.lt_size z5
  show wpAny _ _ (Builtin.SmallTypes.ownedTupleHandOut (.ref z) (.ref g5.objs.size) >>= _) _ _ _
  refine wpAny_bind ?_
  unfold Builtin.SmallTypes.ownedTupleHandOut
  have z6 : IsZip (g5.push { cls := .type "tuple", data := .seq #[.str ⟨#[c]⟩ s.toks, .str ⟨#[d]⟩ (s.toks + 1)] }) z P O .ellipsis := Heap.get?_push_of_some _ z5
  refine wpAny_bind (wpAny_setField_rec z6 (by simp) fun g7 z7 e7 => ?_)
  replace z7 : IsZip g7 z P O (rawInt g5.objs.size) := z7
  refine wpAny_setField_rec z7 (by simp) fun g8 z8 e8 => ?_
  replace z8 : IsZip g8 z P O (rawInt g5.objs.size) := z8
  have up : ∀ e o, e ≠ z → g5.get? e = some o → g8.get? e = some o := fun e o n q => e8.extBut _ _ n (e7.extBut _ _ n (Heap.get?_push_of_some _ q))
  have t8 : IsPair g8 g5.objs.size (.str ⟨#[c]⟩ s.toks) (.str ⟨#[d]⟩ (s.toks + 1)) := e8.extBut _ _ (Nat.ne_of_gt zl) (e7.extBut _ _ (Nat.ne_of_gt zl) (Heap.get?_push_size _ rfl))
  rw [sz] at z8 t8
  refine wpAny_pure ⟨_, rfl, ?_⟩
  show Q (.ref g5.objs.size) _
  rw [sz]
  exact hQ g8 z8 ⟨_, _, up _ _ D.TOz O5⟩ (SI_at i5 fun o q => up _ o D.i1z q) (SI_at j5 fun o q => up _ o D.i2z q) t8 fun e o n1 n2 n3 n4 q => up e o n1 (kp e o n1 n2 n3 n4 q)
theorem zipS_end {z P O i j : Addr} {k l : Nat} {T U : String} {x y : Str} {tx ty : Tok} {a b : Value} {Q : Fin → Shared → Prop} (hh : A.handled = none) (D : Apart z P O i j) (hT : isSI T) (hU : isSI U)
    (hz : IsZip s.heap z P O .none) (hP : IsPair s.heap P (.ref i) (.ref j)) (hO : IsPair s.heap O a b) (h1 : s.heap.IsStrIter i T x tx k) (h2 : s.heap.IsStrIter j U y ty l) (hend : x.cps[k]? = none ∨ y.cps[l]? = none)
    (hE : ∀ h' e tk, (∀ f o, f ≠ z → f ≠ O → f ≠ i → f ≠ j → s.heap.get? f = some o → h'.get? f = some o) → (∃ o, h'.get? e = some o ∧ o.cls = .type "StopIteration") → E (.ref e) { s with heap := h', toks := tk }) :
    wpAny (model prog w) A (Builtin.«zip.__next__» ⟨[.ref z], []⟩) Q E s := by
  show wpAny _ _ (field (.ref z) 2 >>= _) _ _ _
  refine wpAny_bind (wpAny_field hz rfl (x := .bool false) rfl ?_)
  show wpAny _ _ (field (.ref z) 3 >>= _) _ _ _
  refine wpAny_bind (wpAny_field hz rfl (x := .ref P) rfl (wpAny_bind (wpAny_seqItems hP rfl ?_)))
  show wpAny _ _ (Builtin.SmallTypes.ownedTupleIsFree (.ref z) >>= _) _ _ _
  refine wpAny_bind ?_
  unfold Builtin.SmallTypes.ownedTupleIsFree
  refine wpAny_bind (wpAny_field hz rfl (x := .none) rfl (wpAny_pure ?_))
  simp only [if_true]
  refine wpAny_bind (wpAny_rule (wpAny_bind (wpAny_field hz rfl (x := .ref O) rfl ?_)))
  refine wpAny_bind (wpAny_setField_rec hz (by simp) fun g1 z1 e1 => ?_)
  replace z1 : IsZip g1 z P O .ellipsis := z1
  refine wpAny_bind ?_
  simp only [List.zipIdx_cons, List.zipIdx_nil, List.forIn_cons, List.forIn_nil]
  refine wpAny_bind (wpAny_bind (wpAny_onRaise ?_))
  show wpAny _ _ (Builtin.SmallTypes.nextOf (.ref i) >>= _) _ _ _
  cases hx : x.cps[k]? with
  | none =>
    refine wpAny_bind (nextS_end hT hh (h1.extBut e1.extBut D.i1z) hx fun g2 e e2 he => ?_)
    obtain ⟨oe, hoe, hce⟩ := he
    have z2 : IsZip g2 z P O .ellipsis := e2 _ _ D.i1z.symm z1
    have ez : e ≠ z := fun q => by subst q; rw [z2] at hoe; cases hoe; simp at hce
    refine wpAny_setField_rec z2 (by simp) fun g3 _ e3 => hE g3 e s.toks (fun f o n1 _ n3 _ q => e3.extBut _ _ n1 (e2 _ _ n3 (e1.extBut _ _ n1 q))) ⟨oe, e3.extBut _ _ ez hoe, hce⟩
  | some c =>
    have hy : y.cps[l]? = none := by rcases hend with q | q; rw [hx] at q; cases q; exact q
    refine wpAny_bind (nextS_item hT (h1.extBut e1.extBut D.i1z) hx fun g2 i2 e2 => wpAny_pure ?_)
    have O2 : IsPair g2 O a b := e2.extBut _ _ D.TOi1 (e1.extBut _ _ D.TOz hO)
    refine wpAny_bind (wpAny_seqItems O2 rfl (wpAny_bind (wpAny_updateSeq_pair O2 fun g3 O3 e3 => ?_)))
    refine wpAny_bind (wpAny_letGo (wpAny_pure ?_))
    refine wpAny_bind (wpAny_bind (wpAny_onRaise ?_))
    show wpAny _ _ (Builtin.SmallTypes.nextOf (.ref j) >>= _) _ _ _
    refine wpAny_bind (nextS_end hU hh (((h2.extBut e1.extBut D.i2z).extBut e2.extBut D.i12.symm).extBut e3.extBut D.TOi2.symm) hy fun g4 e e4 he => ?_)
    obtain ⟨oe, hoe, hce⟩ := he
    have z4 : IsZip g4 z P O .ellipsis := e4 _ _ D.i2z.symm (e3.extBut _ _ D.TOz.symm (e2.extBut _ _ D.i1z.symm z1))
    have ez : e ≠ z := fun q => by subst q; rw [z4] at hoe; cases hoe; simp at hce
    refine wpAny_setField_rec z4 (by simp) fun g5 _ e5 => hE g5 e (s.toks + 1) (fun f o n1 n2 n3 n4 q => e5.extBut _ _ n1 (e4 _ _ n4 (e3.extBut _ _ n2 (e2.extBut _ _ n3 (e1.extBut _ _ n1 q))))) ⟨oe, e5.extBut _ _ ez hoe, hce⟩
theorem pyNextS_item {z P O i j : Addr} {k l : Nat} {T U : String} {x y : Str} {tx ty : Tok} {a b : Value} {c d : Nat} {Q : Option Value → Shared → Prop} (D : Apart z P O i j) (hT : isSI T) (hU : isSI U)
    (hz : IsZip s.heap z P O .none) (hP : IsPair s.heap P (.ref i) (.ref j)) (hO : IsPair s.heap O a b) (h1 : s.heap.IsStrIter i T x tx k) (h2 : s.heap.IsStrIter j U y ty l) (hx : x.cps[k]? = some c) (hy : y.cps[l]? = some d)
    (hQ : ∀ h', IsZip h' z P O (rawInt s.heap.objs.size) → (∃ u v, IsPair h' O u v) → h'.IsStrIter i T x tx (k + 1) → h'.IsStrIter j U y ty (l + 1) → IsPair h' s.heap.objs.size (.str ⟨#[c]⟩ s.toks) (.str ⟨#[d]⟩ (s.toks + 1)) →
      (∀ e o, e ≠ z → e ≠ O → e ≠ i → e ≠ j → s.heap.get? e = some o → h'.get? e = some o) → Q (some (.ref s.heap.objs.size)) { s with heap := h', toks := s.toks + 1 + 1 }) :
    wpAny (model prog w) A (pyNext (.ref z)) Q E s := by
  have ht : s.TypeIs (.ref z) "zip" := ⟨_, hz, rfl⟩
  unfold pyNext
  exact wpAny_bind (wpAny_attempt (wpAny_callSpecial?_slot (name := Str.ofString "__next__") ht F.slot_zip_next (wpAny_call_entry F.slot_zip_next ht F.entry_zip_next
    (zipS_item D hT hU hz hP hO h1 h2 hx hy fun h' a1 a2 a3 a4 a5 a6 => wpAny_pure (hQ h' a1 a2 a3 a4 a5 a6)) (F.args_zip_next_1 _))))
theorem pyNextS_end {z P O i j : Addr} {k l : Nat} {T U : String} {x y : Str} {tx ty : Tok} {a b : Value} {Q : Option Value → Shared → Prop} (hh : A.handled = none) (D : Apart z P O i j) (hT : isSI T) (hU : isSI U)
    (hz : IsZip s.heap z P O .none) (hP : IsPair s.heap P (.ref i) (.ref j)) (hO : IsPair s.heap O a b) (h1 : s.heap.IsStrIter i T x tx k) (h2 : s.heap.IsStrIter j U y ty l) (hend : x.cps[k]? = none ∨ y.cps[l]? = none)
    (hQ : ∀ h' tk, (∀ f o, f ≠ z → f ≠ O → f ≠ i → f ≠ j → s.heap.get? f = some o → h'.get? f = some o) → Q none { s with heap := h', toks := tk }) : wpAny (model prog w) A (pyNext (.ref z)) Q E s := by
  have ht : s.TypeIs (.ref z) "zip" := ⟨_, hz, rfl⟩
  unfold pyNext
  refine wpAny_bind (wpAny_attempt (wpAny_callSpecial?_slot (name := Str.ofString "__next__") ht F.slot_zip_next (wpAny_call_entry F.slot_zip_next ht F.entry_zip_next
    (zipS_end hh D hT hU hz hP hO h1 h2 hend fun h' e tk hk he => ?_) (F.args_zip_next_1 _))))
  obtain ⟨o, ho, hc⟩ := he
  exact wpAny_bind (wpAny_isInstance (T := "StopIteration") (b := true) ⟨o, ho, hc⟩ isSubtype_stop (wpAny_pure (hQ _ _ hk)))
end
abbrev siO (x : Str) (t : Tok) : Obj := { cls := .type (strIterType x), data := .fields #[.str x t, .int 0 0] }
abbrev g1 (h : Heap) (x : Str) (t : Tok) : Heap := h.push (siO x t)
abbrev g2 (h : Heap) (x y : Str) (t u : Tok) : Heap := (g1 h x t).push (siO y u)
abbrev g3 (h : Heap) (x y : Str) (t u : Tok) : Heap := (g2 h x y t u).push { cls := .type "tuple", data := .seq #[.ref h.objs.size, .ref (g1 h x t).objs.size] }
abbrev g4 (h : Heap) (x y : Str) (t u : Tok) : Heap := (g3 h x y t u).push { cls := .type "tuple", data := .seq #[.none, .none] }
abbrev g5 (h : Heap) (x y : Str) (t u : Tok) : Heap := (g4 h x y t u).push { cls := .type "zip", data := .fields #[.none, .bool false, .bool false, .ref (g2 h x y t u).objs.size, .ref (g3 h x y t u).objs.size] }
theorem meets_zipS (x y : Str) (t u : Tok) : Meets (Builtin.«zip.__new__» ⟨[.type "zip", .str x t, .str y u], []⟩) (fun _ R s => True ∧ R (.ok (.ret (.ref (g4 s.heap x y t u).objs.size))) { s with heap := g5 s.heap x y t u }) :=
  .of_wp fun prog w A R s hyp => by
    obtain ⟨hp, g, d, tk, os⟩ := s
    obtain ⟨_, hyp⟩ := hyp
    have hsub := sub_zip
    wp_walk using wpAny_pyIter_strU
    exact ⟨_, rfl, hyp⟩
section
variable {prog : Program} {w : World} {A : Around} {E : Value → Shared → Prop} {s : Shared}
theorem call_zipS {x y : Str} {t u : Tok} {Q : Value → Shared → Prop}
    (hQ : ∀ h', IsZip h' (s.heap.objs.size + 4) (s.heap.objs.size + 2) (s.heap.objs.size + 3) .none → IsPair h' (s.heap.objs.size + 2) (.ref s.heap.objs.size) (.ref (s.heap.objs.size + 1)) → IsPair h' (s.heap.objs.size + 3) .none .none →
      h'.IsStrIter s.heap.objs.size (strIterType x) x t 0 → h'.IsStrIter (s.heap.objs.size + 1) (strIterType y) y u 0 → (∀ c o, s.heap.get? c = some o → h'.get? c = some o) → Q (.ref (s.heap.objs.size + 4)) { s with heap := h' }) :
    wpAny (model prog w) A (call (.type "zip") [.str x t, .str y u]) Q E s := by
  refine callType_new F.called_zip (by decide) (F.typeCall_zip_2 _ _) (F.newCall_zip_2 _ _) (fun obj => F.args_object_init_3 obj _ _) F.entry_zip_new (meets_zipS x y t u) ⟨trivial, ?_⟩
  have z1 : (g1 s.heap x t).objs.size = s.heap.objs.size + 1 := Heap.size_push ..
  have z2 : (g2 s.heap x y t u).objs.size = s.heap.objs.size + 2 := by rw [Heap.size_push, z1]
  have z3 : (g3 s.heap x y t u).objs.size = s.heap.objs.size + 3 := by rw [Heap.size_push, z2]
  have z4 : (g4 s.heap x y t u).objs.size = s.heap.objs.size + 4 := by rw [Heap.size_push, z3]
  have q5 : (g5 s.heap x y t u).get? (g4 s.heap x y t u).objs.size = some _ := Heap.get?_push_size _ rfl
  have q4 : (g5 s.heap x y t u).get? (g3 s.heap x y t u).objs.size = some _ := Heap.get?_push_of_some _ (Heap.get?_push_size _ rfl)
  have q3 : (g5 s.heap x y t u).get? (g2 s.heap x y t u).objs.size = some _ := Heap.get?_push_of_some _ (Heap.get?_push_of_some _ (Heap.get?_push_size _ rfl))
  have q2 : (g5 s.heap x y t u).get? (g1 s.heap x t).objs.size = some _ := Heap.get?_push_of_some _ (Heap.get?_push_of_some _ (Heap.get?_push_of_some _ (Heap.get?_push_size _ rfl)))
  have q1 : (g5 s.heap x y t u).get? s.heap.objs.size = some _ := Heap.get?_push_of_some _ (Heap.get?_push_of_some _ (Heap.get?_push_of_some _ (Heap.get?_push_of_some _ (Heap.get?_push_size _ rfl))))
  show _ ∧ _
  rw [z2, z3, z4] at q5
  rw [z1, z2] at q3
  rw [z3] at q4
  rw [z1] at q2
  rw [z4]
  exact ⟨⟨_, q5, rfl⟩, hQ _ q5 q3 q4 ⟨_, q1, rfl, rfl⟩ ⟨_, q2, rfl, rfl⟩ fun c o e =>
    Heap.get?_push_of_some _ (Heap.get?_push_of_some _ (Heap.get?_push_of_some _ (Heap.get?_push_of_some _ (Heap.get?_push_of_some _ e))))⟩
end
end ZT
namespace Cb
open PySem PySem.Spec PyProof.Rows L2 TL ZT
def ItZ (x y : Str) : It :=
  ⟨fun i H => ∃ c d, x.cps[i]? = some c ∧ y.cps[i]? = some d,
    fun i H v H' => ∃ T c d, v = .ref T ∧ H T = none ∧ H' = upd H T (.tup [.str ⟨#[c]⟩, .str ⟨#[d]⟩]) ∧ x.cps[i]? = some c ∧ y.cps[i]? = some d,
    fun i H => x.cps[i]? = none ∨ y.cps[i]? = none⟩
theorem turn_zipS {P : Program} {w : World} {K : PySem.W.Frag} {elts : List Expr} {kk : Nat} {tpos : Pos} {x y : Str} {tx ty : Tok} {z Pa O i1 i2 : Addr} (D : Apart z Pa O i1 i2) :
    Turn P w K (.Tuple elts kk tpos) (ItZ x y) [z, Pa, O, i1, i2] z (fun i h => IsZip h z Pa O .none ∧ IsPair h Pa (.ref i1) (.ref i2) ∧ (∃ u v, IsPair h O u v) ∧ h.IsStrIter i1 (strIterType x) x tx i ∧ h.IsStrIter i2 (strIterType y) y ty i) where
  mem := by simp
  obj := fun i h st c hc => by
    obtain ⟨hz, hP, ⟨u, v, hO⟩, ⟨o1, e1, _, d1⟩, ⟨o2, e2, _, d2⟩⟩ := st
    have e' : c = z ∨ c = Pa ∨ c = O ∨ c = i1 ∨ c = i2 := by simpa using hc
    rcases e' with rfl | rfl | rfl | rfl | rfl
    · exact ⟨_, hz, fun v q => nomatch q⟩
    · exact ⟨_, hP, fun v q => nomatch q⟩
    · exact ⟨_, hO, fun v q => nomatch q⟩
    · exact ⟨o1, e1, fun v q => by rw [d1] at q; cases q⟩
    · exact ⟨o2, e2, fun v q => by rw [d2] at q; cases q⟩
  keep := fun i h h' st k => by
    obtain ⟨hz, hP, ⟨u, v, hO⟩, h1, h2⟩ := st
    exact ⟨k z (by simp) _ hz, k Pa (by simp) _ hP, ⟨u, v, k O (by simp) _ hO⟩, SI_at h1 fun o q => k i1 (by simp) o q, SI_at h2 fun o q => k i2 (by simp) o q⟩
  item := by
    intro X hP' hw hK hc i pins s σ H E I hf st hg
    subst hP' hw hK
    obtain ⟨hz, hP, ⟨u0, v0, hO⟩, h1, h2⟩ := st
    obtain ⟨c, d, hx, hy⟩ := hg
    have hzl : z < s.heap.objs.size := Heap.lt_size hz
    refine pyNextS_item D (isSI_of x) (isSI_of y) hz hP hO h1 h2 hx hy fun h' z' O' a1 a2 hT hk => ?_
    obtain ⟨uu, vv, O'⟩ := O'
    refine ⟨_, rfl, wpAny_letOwnedTupleGo_zip (s := { s with heap := h', toks := s.toks + 1 + 1 }) z' fun h'' z'' sb => ?_⟩
    have hT2 : h''.get? s.heap.objs.size = some { cls := .type "tuple", data := .seq #[.str ⟨#[c]⟩ s.toks, .str ⟨#[d]⟩ (s.toks + 1)] } := (sb.2 _ (Nat.ne_of_gt hzl)).trans hT
    have new : ObjOk X.prog X.w (upd H s.heap.objs.size (.tup [.str ⟨#[c]⟩, .str ⟨#[d]⟩])) h'' s.heap.objs.size (.tup [.str ⟨#[c]⟩, .str ⟨#[d]⟩]) :=
      ⟨by show 2 ≤ sizeLine; decide, [.str ⟨#[c]⟩ s.toks, .str ⟨#[d]⟩ (s.toks + 1)], .cons ⟨_, rfl⟩ (.cons ⟨_, rfl⟩ .nil), ⟨_, hT2, rfl, _, rfl⟩⟩
    have I1 : Inv X pins σ (upd H s.heap.objs.size (.tup [.str ⟨#[c]⟩, .str ⟨#[d]⟩])) { s with heap := h'', toks := s.toks + 1 + 1 } :=
      I.turnedNew (t' := s.toks + 1 + 1) (ch := [z, Pa, O, i1, i2]) (fun e o hb q => (sb.2 e (fun q' => hb (by simp [q']))).trans (hk e o (fun q' => hb (by simp [q'])) (fun q' => hb (by simp [q'])) (fun q' => hb (by simp [q'])) (fun q' => hb (by simp [q'])) q)) hf (Nat.le_refl _) new
    refine ⟨.ref s.heap.objs.size, _, I1, rfl, ⟨_, c, d, rfl, I.hok.fresh (Nat.le_refl _), rfl, hx, hy⟩, ⟨z'', ?_, ⟨uu, vv, ?_⟩, ?_, ?_⟩, fun e hem => ?_⟩
    · exact (sb.2 _ D.TIz).trans (hk _ _ D.TIz D.TITO D.TIi1 D.TIi2 hP)
    · exact (sb.2 _ D.TOz).trans O'
    · exact SI_at a1 fun o q => (sb.2 _ D.i1z).trans q
    · exact SI_at a2 fun o q => (sb.2 _ D.i2z).trans q
    · have hlt : e < s.heap.objs.size := by
        have e' : e = z ∨ e = Pa ∨ e = O ∨ e = i1 ∨ e = i2 := by simpa using hem
        rcases e' with rfl | rfl | rfl | rfl | rfl
        · exact hzl
        · exact Heap.lt_size hP
        · exact Heap.lt_size hO
        · obtain ⟨_, e1, _⟩ := h1; exact Heap.lt_size e1
        · obtain ⟨_, e2, _⟩ := h2; exact Heap.lt_size e2
      rw [upd_ne (Nat.ne_of_lt hlt)]
      exact (hf e hem).1
  done := by
    intro X hP' hw hK hc i pins s σ H E I hf st hg
    subst hP' hw hK
    obtain ⟨hz, hP, ⟨u0, v0, hO⟩, h1, h2⟩ := st
    exact pyNextS_end (I.ok.hd hc) D (isSI_of x) (isSI_of y) hz hP hO h1 h2 hg fun h' tk hk => ⟨rfl, I.turnedL (t' := tk) (ch := [z, Pa, O, i1, i2]) (fun e o hb q =>
      hk e o (fun q' => hb (by simp [q'])) (fun q' => hb (by simp [q'])) (fun q' => hb (by simp [q'])) (fun q' => hb (by simp [q'])) q) hf⟩
  self := fun A i s Q E st h => wpAny_pyIter_zip st.1 h
def iZipS (ta : TA) : TI := fun σ H R => ta σ H fun vs H1 => ∃ x y, vs = [.str x, .str y] ∧ R (ItZ x y) H1
theorem pi_zipS {X : Cx} {e e2 : Expr} {ta : TA} {p pos tpos : Pos} {elts : List Expr} {kk : Nat} (hg : Gl X "zip") (hm : X.mg "zip" = none) (ha : PA X [e, e2] ta)
    (hs : starEach [e, e2] X.env = (false, eval e X.env) :: starEach [e2] X.env) (hpl : (backTo pos (starEach [e2] X.env)).any (·.1) = false) :
    PI X (.Tuple elts kk tpos) (.Call (.Name "zip" p) [e, e2] [] pos) (iZipS ta) := by
  refine ⟨fun pins s σ H R I h => ?_⟩
  refine Call_ (ld_blt I hg hm PyProof.Rows.boot_zip (PyProof.Rows.callWith_type1 (thn (ha.run pos pins s σ H _ I h) fun us s1 ⟨vs, H1, I1, r1, q1⟩ => ?_) hs hpl))
  obtain ⟨x, y, ex, q⟩ := q1
  subst ex
  cases r1 with
  | cons ra rb =>
    cases rb with
    | cons rb rc =>
      cases rc
      obtain ⟨tx, rfl⟩ := ra
      obtain ⟨ty, rfl⟩ := rb
      refine call_zipS fun h' hz hP hO h1 h2 hk => wpAny_pyIter_zip hz ?_
      have I2 : Inv X pins σ H1 { s1 with heap := h' } := I1.kept (t' := s1.toks) hk
      have D : Apart (s1.heap.objs.size + 4) (s1.heap.objs.size + 2) (s1.heap.objs.size + 3) s1.heap.objs.size (s1.heap.objs.size + 1) := by
        constructor <;> (intro q; have q : @Eq Nat _ _ := q; omega)
      refine ⟨s1.heap.objs.size + 4, [s1.heap.objs.size + 4, s1.heap.objs.size + 2, s1.heap.objs.size + 3, s1.heap.objs.size, s1.heap.objs.size + 1], _, _, H1, rfl, I2, turn_zipS D, ⟨hz, hP, ⟨_, _, hO⟩, h1, h2⟩, fun c hcm => ?_, q⟩
      have hle : s1.heap.objs.size ≤ c := by
        have e' : c = s1.heap.objs.size + 4 ∨ c = s1.heap.objs.size + 2 ∨ c = s1.heap.objs.size + 3 ∨ c = s1.heap.objs.size ∨ c = s1.heap.objs.size + 1 := by simpa using hcm
        rcases e' with q | q | q | q | q <;> (rw [q]; omega)
      exact I1.fpOk hle (I1.hok.fresh hle)
section
variable {X : Cx} {K : PySem.W.Frag} {ca : String → Value} {W : WX} {a b : Expr} {pos : Pos}
theorem zipS_get {s t : List Nat} {i : Nat} {d : Cd.Val} (e : (Cd.zipS s t)[i]? = some d) : ∃ c f, s[i]? = some c ∧ t[i]? = some f ∧ d = .tup [.str [c], .str [f]] := by
  unfold Cd.zipS at e
  rw [List.getElem?_map] at e
  cases q : (s.zip t)[i]? with
  | none => rw [q] at e; cases e
  | some p =>
    rw [q] at e
    cases e
    have := List.getElem?_zip_eq_some.mp q
    exact ⟨p.1, p.2, this.1, this.2, rfl⟩
theorem zipS_len (s t : List Nat) : (Cd.zipS s t).length = min s.length t.length := by
  unfold Cd.zipS
  rw [List.length_map, List.length_zip]
theorem itf_zipS {ρ : List Addr} {H : Hp} (s t : List Nat) : ItF K (ItZ (toS s) (toS t)) (Cd.zipS s t) (fun _ => true) ρ H where
  go := fun ρ1 H1 h1 i st S1 c hi => by
    rw [zipS_len] at hi
    have h1 : i < s.length := by omega
    have h2 : i < t.length := by omega
    exact ⟨s[i], t[i], by show s.toArray[i]? = _; rw [List.getElem?_toArray, List.getElem?_eq_getElem h1], by show t.toArray[i]? = _; rw [List.getElem?_toArray, List.getElem?_eq_getElem h2]⟩
  stop := fun ρ1 H1 h1 i st S1 c hi => by
    rw [zipS_len] at hi
    by_cases q : i < s.length
    · refine .inr ?_
      show t.toArray[i]? = none
      rw [List.getElem?_toArray, List.getElem?_eq_none (by omega)]
    · refine .inl ?_
      show s.toArray[i]? = none
      rw [List.getElem?_toArray, List.getElem?_eq_none (by omega)]
  yld := fun ρ1 H1 h1 i d x H' st S1 c hd y => by
    obtain ⟨T, c1, d1, rfl, nT, rfl, hx, hy⟩ := y
    obtain ⟨c2, d2, e1, e2, rfl⟩ := zipS_get hd
    have hx : s.toArray[i]? = some c1 := hx
    have hy : t.toArray[i]? = some d1 := hy
    rw [List.getElem?_toArray, e1] at hx
    rw [List.getElem?_toArray, e2] at hy
    cases hx
    cases hy
    have s2 := Step.out (ρ := ρ1) T (.tup [.str ⟨#[c1]⟩, .str ⟨#[d1]⟩]) nT
    exact ⟨s2, S1.out nT, .tup (SqT.of upd_same) (.cons (.str [c1]) (.cons (.str [d1]) .nil))⟩
theorem ki_zipS {p tpos : Pos} {elts : List Expr} {kk : Nat} {mas : Cd.AM} (hm : X.mg "zip" = none) (ha : KA X ca W [a, b] mas) (hg : Gl X "zip" := by rfl) (hs : starEach [a, b] X.env = (false, eval a X.env) :: starEach [b] X.env := by rfl)
    (hpl : (backTo pos (starEach [b] X.env)).any (·.1) = false := by rfl) : KI X ca W (.Tuple elts kk tpos) (.Call (.Name "zip" p) [a, b] [] pos) (Cd.iArgs Cd.fZipS mas) := by
  refine PI.wk (pi_zipS hg hm ha hs hpl) fun σ H R ⟨ρ, h, η, S, re, pp⟩ => ?_
  refine ⟨ρ, h, η, S, re, ?_⟩
  unfold Cd.iArgs at pp
  cases em : mas η h with
  | stuck => rw [em] at pp; exact pp.elim
  | exc _ _ => rw [em] at pp; exact pp
  | ok vs h1 =>
    rw [em] at pp
    simp only [Cd.Res.bind_ok] at pp
    intro ρ1 H1 xs st1 S1 r1
    cases ef : Cd.fZipS h1 vs with
    | none => rw [ef] at pp; exact pp.elim
    | some qq =>
      rw [ef] at pp
      unfold Cd.fZipS at ef
      split at ef
      · rename_i s t
        cases ef
        cases r1 with
        | cons ra rb =>
          obtain ⟨y, rfl, ry⟩ := one_rv rb
          cases ra
          cases ry
          exact ⟨_, _, rfl, pp ρ1 H1 _ st1 S1 (itf_zipS s t)⟩
      · cases ef
end
end Cb

set_option Elab.async false
set_option linter.all false
set_option maxRecDepth 100000
set_option maxHeartbeats 4000000
/-! CdB19: the bridge: replace behind a join; is True. -/
namespace Cb
open PySem PySem.Spec PyProof.Rows L2 TL
/-- an expression behind which a token is out -/
def PEO (X : Cx) (e : Expr) (te : TE) : Prop :=
  ∀ (pins : List (Addr × Obj)) (s : Shared) (σ : L2.St) (H : Hp) (Q : VK), Inv X pins σ H s → te σ H Q → wpAny (model X.prog X.w) X.A (eval e X.env) (fun v s1 => 1 ≤ s1.toks ∧ EP X pins σ Q v s1) X.xe s
section
variable {X : Cx} {K : PySem.W.Frag} {ca : String → Value} {W : WX} {a b e o : Expr} {ma mb mo : Cd.EM} {mas : Cd.AM} {es : List Expr} {pos : Pos} {te to : TE} {ta : TA}
theorem PEO.pe (h : PEO X e te) : PE X e te := ⟨fun pins s σ H Q I q => wpAny_mono (h pins s σ H Q I q) (fun _ _ z => z.2) fun _ _ z => z⟩
theorem PEO.wk {t t' : TE} (h : PEO X e t) (q : ∀ σ H Q, t' σ H Q → t σ H Q) : PEO X e t' := fun pins s σ H Q I p => h pins s σ H Q I (q σ H Q p)
/-- a method of a written text: the text's token is out -/
theorem peo_bm {T id : String} {name : Str} {c0 : Str} {j : Nat} {cp apos : Pos} {r : V → List V → Hp → VK → Prop} (pa : PlainAttrs T) (slot : Slot T name id) (hty : typeOf (.builtin id) = pure (.type "method_descriptor")) (hm : MtR X id r) (ha : PA X (e :: es) ta)
    (hbase : attributeBase (.Constant (.str c0) j cp) name X.env (eval (.Constant (.str c0) j cp) X.env) = eval (.Constant (.str c0) j cp) X.env)
    (hfew : ((backTo pos (starEach (e :: es) X.env)).all (fun x => !x.1) && (backToKw pos (keywordEach [] X.env)).all (fun x => x.1.isSome) && decide ((e :: es).length + ([] : List Keyword).length + (if ([] : List Keyword).isEmpty then 0 else 1) < 30)) = true)
    (hline : (apos.endLine == pos.line) = true) (hs : starEach (e :: es) X.env = (false, eval e X.env) :: starEach es X.env) (hplain : (backTo pos (starEach es X.env)).any (·.1) = false) :
    PEO X (.Call (.Attribute (.Constant (.str c0) j cp) name apos) (e :: es) [] pos) (tBM X.K T r (tC (.str c0)) ta) := by
  intro pins s σ H Q I q
  refine wpAny_Call_method_late hbase hfew hline rfl (Calls.Constant_str ?_)
  obtain ⟨ty, q1⟩ := q
  have I1 : Inv X pins σ H { s with toks := s.toks + 1 } := I.tok (s.toks + 1)
  have rv : RelV (V.str c0) (Value.str c0 s.toks) := ⟨_, rfl⟩
  obtain ⟨h1, h2⟩ := tyV_is I1 rv ty
  refine ⟨T, id, pa, slot, hty, h1, h2, ?_⟩
  have hA := ha.run pos pins { s with toks := s.toks + 1 } σ H _ I1 q1
  rw [hs] at hA ⊢
  refine wpAny_mono (PySem.wpAny_toks (Q := EP X pins σ Q) (E := X.xe) ?_) (fun v s1 z => ⟨?_, z.2⟩) fun _ _ z => z.2
  · refine Calls.callWith_builtin (by show (false || (backTo pos (starEach es X.env)).any (·.1)) = false; rw [hplain] <;> rfl) (Calls.evalArgs_plain ?_)
    exact thn hA fun us s2 ⟨vs, H2, I2, r2, q2⟩ => hm pins s2 σ H2 _ vs _ us Q I2 rv r2 q2
  · have z1 : s.toks + 1 ≤ s1.toks := z.1
    omega
abbrev KEO (X : Cx) (ca : String → Value) (W : WX) (e : Expr) (m : Cd.EM) : Prop := PEO X e (tE X.K ca W m)
theorem k_keo (h : KEO X ca W e ma) : KE X ca W e ma := h.pe
/-- c0.join(e) -/
theorem keo_join {c0 : String} {j : Nat} {cp apos : Pos} (ha : KA X ca W [e] mas)
    (hbase : attributeBase (.Constant (.str (Str.ofString c0)) j cp) "join" X.env (eval (.Constant (.str (Str.ofString c0)) j cp) X.env) = eval (.Constant (.str (Str.ofString c0)) j cp) X.env := by rfl)
    (hfew : ((backTo pos (starEach [e] X.env)).all (fun x => !x.1) && (backToKw pos (keywordEach [] X.env)).all (fun x => x.1.isSome) && decide ([e].length + ([] : List Keyword).length + (if ([] : List Keyword).isEmpty then 0 else 1) < 30)) = true := by rfl)
    (hline : (apos.endLine == pos.line) = true := by rfl) (hs : starEach [e] X.env = (false, eval e X.env) :: starEach [] X.env := by rfl) (hplain : (backTo pos (starEach [] X.env)).any (·.1) = false := by rfl) :
    KEO X ca W (.Call (.Attribute (.Constant (.str (Str.ofString c0)) j cp) "join" apos) [e] [] pos) (Cd.eMth "str" Cd.mJoin (Cd.eC (.str (Cd.S c0))) mas) := by
  refine PEO.wk (peo_bm PySem.F.plainAttrs_str PySem.F.slot_str_join PySem.F.type_str_join mt_join ha hbase hfew hline hs hplain) fun σ H Q q => ?_
  obtain ⟨ρ, h, η, S, re, p⟩ := tBM_of (mo := Cd.eC (.str (Cd.S c0))) (.inl rfl) mf_join σ H Q q
  have := p ρ H (V.str (toS (Cd.S c0))) (Step.refl _ _) S (.str _)
  rw [toS_S] at this
  exact this
theorem peo_repl {y z : Str} {j k : Nat} {c0 c1 apos : Pos} (ho : PEO X o to) (hyz : (y == z) = false)
    (hst : starEach [.Constant (.str y) j c0, .Constant (.str z) k c1] X.env = [(false, eval (.Constant (.str y) j c0) X.env), (false, eval (.Constant (.str z) k c1) X.env)])
    (hbase : attributeBase o "replace" X.env (eval o X.env) = eval o X.env) (hline : (apos.endLine == pos.line) = true) :
    PEO X (.Call (.Attribute o "replace" apos) [.Constant (.str y) j c0, .Constant (.str z) k c1] [] pos) (CwR.tReplC to y z) := by
  intro pins s σ H Q I h
  refine PySem.Call_method2 hbase hst hline (wpAny_mono (ho pins s σ H _ I h) (fun v s1 q => ?_) fun _ _ z => z)
  obtain ⟨hk, v', H1, I1, r1, x, e1, hb, q⟩ := q
  subst e1
  obtain ⟨tx, e2⟩ := r1
  subst e2
  refine ⟨"str", _, PySem.F.plainAttrs_str, PySem.F.slot_str_replace, PySem.F.type_str_replace, typeIs_str _ _ _, (fun _ e => nomatch e), ?_⟩
  refine wpAny_mono (PySem.wpAny_toks (Q := EP X pins σ Q) (E := X.xe) ?_) (fun v s2 w => ⟨?_, w.2⟩) fun _ _ w => w.2
  · refine Calls.callWith_builtin rfl (Calls.evalArgs_plain (Calls.spliced_cons (Calls.Constant_str (Calls.spliced_cons (Calls.Constant_str (Calls.spliced_nil ?_))))))
    exact PySem.SC.replace (by show s1.toks ≠ 0; omega) (by show s1.toks + 1 ≠ 0; omega) (by show s1.toks ≠ s1.toks + 1; omega) hyz hb fun t' k => ⟨.str (Txt.replace x y z), H1, I1.tok k, ⟨t', rfl⟩, q⟩
  · have w1 : s1.toks ≤ s2.toks := w.1
    omega
theorem keo_repl {y z : String} {c : Nat} {j k : Nat} {c0 c1 apos : Pos} (ho : KEO X ca W o mo) (hc : Cd.S y = [c]) (hyz : (Str.ofString y == Str.ofString z) = false)
    (hst : starEach [.Constant (.str (Str.ofString y)) j c0, .Constant (.str (Str.ofString z)) k c1] X.env = [(false, eval (.Constant (.str (Str.ofString y)) j c0) X.env), (false, eval (.Constant (.str (Str.ofString z)) k c1) X.env)] := by rfl)
    (hbase : attributeBase o "replace" X.env (eval o X.env) = eval o X.env := by rfl) (hline : (apos.endLine == pos.line) = true := by rfl) :
    KEO X ca W (.Call (.Attribute o "replace" apos) [.Constant (.str (Str.ofString y)) j c0, .Constant (.str (Str.ofString z)) k c1] [] pos) (Cd.eRepl c (Cd.S z) mo) := by
  refine PEO.wk (peo_repl ho hyz hst hbase hline) fun σ H Q q => ?_
  have := tRepl_of σ H Q q
  rw [toS_S, ← hc, toS_S] at this
  exact this
/-! ### is True -/
theorem op_isB : OpR X (compareOp .Is) (fun x y H Q => ∃ k, y = V.bl k ∧ Q (.bl (decide (x = .bl k))) H) := by
  intro pins s σ H x y v u Q I rx ry h
  obtain ⟨k, rfl, q⟩ := h
  cases (show u = Value.bool k from ry)
  have off : x ≠ .bl k → plainIs v (.bool k) = true → v ≠ .bool k → wpAny (model X.prog X.w) X.A (compareOp .Is v (.bool k)) (EP X pins σ Q) X.xe s := fun n p ne =>
    wpAny_is_other p ne ⟨.bl false, H, I, rfl, by simpa [n] using q⟩
  cases x with
  | bl j =>
    cases (show v = Value.bool j from rx)
    by_cases e : j = k
    · subst e
      exact wpAny_is_self rfl ⟨.bl true, H, I, rfl, by simpa using q⟩
    · exact off (fun z => e (V.bl.inj z)) rfl (fun z => e (Value.bool.inj z))
  | ref c => cases rx; exact off (fun z => by cases z) rfl (fun z => by cases z)
  | non => cases rx; exact off (fun z => by cases z) rfl (fun z => by cases z)
  | int i => obtain ⟨t, rfl⟩ := rx; exact off (fun z => by cases z) rfl (fun z => by cases z)
  | str i => obtain ⟨t, rfl⟩ := rx; exact off (fun z => by cases z) rfl (fun z => by cases z)
  | byt i => obtain ⟨t, rfl⟩ := rx; exact off (fun z => by cases z) rfl (fun z => by cases z)
  | flt i => obtain ⟨t, rfl⟩ := rx; exact off (fun z => by cases z) rfl (fun z => by cases z)
  | ty n => cases rx; exact off (fun z => by cases z) rfl (fun z => by cases z)
theorem bf_isB : BinF K Cd.oIsB (fun x y H Q => ∃ k, y = V.bl k ∧ Q (.bl (decide (x = .bl k))) H) := by
  intro ρ h H d e u x y Q S r1 r2 hu k
  unfold Cd.oIsB at hu
  split at hu
  · rename_i b
    cases hu
    cases r2
    refine ⟨b, rfl, ?_⟩
    have ev : decide (x = V.bl b) = Cd.isB d b := by
      cases r1 with
      | bl j =>
        show decide (V.bl j = V.bl b) = (j == b)
        by_cases e : j = b
        · subst e; simp
        · rw [decide_eq_false (fun z => e (V.bl.inj z))]
          exact (beq_false_of_ne e).symm
      | _ => exact decide_eq_false (fun z => by cases z)
    rw [ev]
    exact k ρ H _ (Step.refl _ _) S (.bl _)
  · cases hu
end
end Cb

set_option maxRecDepth 100000
/-! CdCore4: behind a call what no one holds any more is dropped; what is only read from there on is locked. -/
namespace Cd
open Classical
noncomputable section
mutual
/-- the places within a value told anew -/
def mapR (f : Nat → Option Val) : Val → Option Val
  | .tup l => (mapRs f l).map .tup
  | .fl l => (mapRs f l).map .fl
  | .ref n => f n
  | .non => some .non
  | .bl b => some (.bl b)
  | .int i => some (.int i)
  | .str s => some (.str s)
  | .exo a => some (.exo a)
def mapRs (f : Nat → Option Val) : List Val → Option (List Val)
  | [] => some []
  | v :: l => match mapR f v with
    | some w => (mapRs f l).map (w :: ·)
    | none => none
end
/-- places below k stay; a list from k on (but t) is locked, at most d deep -/
def fz (h : Hep) (k t : Nat) : Nat → Nat → Option Val
  | 0, n => if n < k then some (.ref n) else none
  | d + 1, n => if n < k then some (.ref n) else if n = t then none else match h[n]? with
    | some (.lst l) => (mapRs (fz h k t d) l).map .fl
    | _ => none
def mapP (f : Nat → Option Val) {α : Type} : List (α × Val) → Option (List (α × Val))
  | [] => some []
  | (x, v) :: l => match mapR f v with
    | some w => (mapP f l).map ((x, w) :: ·)
    | none => none
def mapO (f : Nat → Option Val) : Obj → Option Obj
  | .lst l => (mapRs f l).map .lst
  | .dct l => (mapP f l).map .dct
  | .ins c fs => (mapP f fs).map (.ins c)
mutual
/-- all places within are below k -/
def bndV (k : Nat) : Val → Bool
  | .tup l => bndVs k l
  | .fl l => bndVs k l
  | .ref n => decide (n < k)
  | .non => true
  | .bl _ => true
  | .int _ => true
  | .str _ => true
  | .exo _ => true
def bndVs (k : Nat) : List Val → Bool
  | [] => true
  | v :: l => bndV k v && bndVs k l
end
def bndO (k : Nat) : Obj → Bool
  | .lst l => bndVs k l
  | .dct l => bndVs k (l.map (·.2))
  | .ins _ fs => bndVs k (fs.map (·.2))
/-- the old places do not lead to new ones -/
def cutOk (h h1 : Hep) : Prop := h.length ≤ h1.length ∧ ∀ n, n < h.length → h1[n]? = h[n]? ∨ ∃ o, h1[n]? = some o ∧ bndO h.length o = true
def gcTop (e : Nat) (k : Nat) (v : Val) (h1 : Hep) : Res Val := match v with
  | .ref n => match h1[n]? with
    | some o => match mapO (fz h1 k n e) o with
      | some o' => if k ≤ n then .ok (.ref k) (h1.take k ++ [o']) else .ok v h1
      | none => .ok v h1
    | none => .ok v h1
  | _ => .ok v h1
def gc (d e : Nat) (h : Hep) : Res Val → Res Val
  | .ok v h1 => if cutOk h h1 then match mapR (fz h1 h.length h1.length d) v with
      | some w => .ok w (h1.take h.length)
      | none => gcTop e h.length v h1
    else .ok v h1
  | .exc x h1 => if cutOk h h1 ∧ bndVs 0 x.args = true then .exc x (h1.take h.length) else .exc x h1
  | .stuck => .stuck
def gcF (d e : Nat) (F : Fn) : Fn := fun vs h => gc d e h (F vs h)
def eGc (d e : Nat) (m : EM) : EM := fun η h => gc d e h (m η h)
/-- list + list, of lists that are only read too -/
def oCatW (h : Hep) (x y : Val) : Option (Val × Hep) := match itsL h x, itsL h y with
  | some l, some k => if szOk (l.length + k.length) then some (.ref h.length, h ++ [.lst (l ++ k)]) else none
  | _, _ => none
def eCatW (a b : EM) : EM := fun η h => (a η h).bind fun x h1 => (b η h1).bind fun y h2 => match oCatW h2 x y with | some (v, h3) => .ok v h3 | none => .stuck
/-- the one, or else the other -/
def bOr (F G : BFn) : BFn := fun vs h => match F vs h with | some r => some r | none => G vs h
def bIntA : BFn := bOr bInt bIntS
/-- an operator that may make a list -/
def eOp (f : Hep → Val → Val → Option (Val × Hep)) (a b : EM) : EM := fun η h => (a η h).bind fun x h1 => (b η h1).bind fun y h2 => match f h2 x y with | some (v, h3) => .ok v h3 | none => .stuck
/-- +, of numbers, texts, tuples, lists -/
def oPlus (h : Hep) (x y : Val) : Option (Val × Hep) := match oAddW h x y with
  | some v => some (v, h)
  | none => oCatW h x y
/-- a written list of constants that is only read -/
def eKl (l : List Val) : EM := fun _ h => .ok (.fl l) h
def oNotB (_ : Hep) (x y : Val) : Option Val := match y with | .bl b => some (.bl (!isB x b)) | _ => none
/-- list * int -/
def oRepL (h : Hep) (x y : Val) : Option (Val × Hep) := match x, y with
  | .ref n, .int i => match h[n]? with
    | some (.lst l) => if repOk l.length i then some (.ref h.length, h ++ [.lst (List.replicate i.toNat l).flatten]) else none
    | _ => none
  | _, _ => none
/-- *, of numbers, a text and a number, a list and a number -/
def oTimes (h : Hep) (x y : Val) : Option (Val × Hep) := match oMulS h x y with
  | some v => some (v, h)
  | none => oRepL h x y
end
end Cd

set_option Elab.async false
set_option linter.all false
set_option maxRecDepth 100000
set_option maxHeartbeats 4000000
/-! CdB20: the bridge: what is dropped and locked behind a call. -/
namespace Cb
open PySem PySem.Spec PyProof.Rows L2
open Classical
/-- the lists at S are locked -/
noncomputable def frzH (S : Addr → Prop) (H : Hp) (f : Addr → Obj) : Hp := fun a => if S a then (match H a with | some (.lst xs) => some (.frz (f a) (.lst xs)) | o => o) else H a
section
variable {S : Addr → Prop} {H H1 : Hp} {f : Addr → Obj} {a : Addr}
theorem frzH_not (h : ¬ S a) : frzH S H f a = H a := if_neg h
theorem frzH_lst (h : S a) {xs : List V} (e : H a = some (.lst xs)) : frzH S H f a = some (.frz (f a) (.lst xs)) := by unfold frzH; rw [if_pos h, e]
theorem frzH_of {o : Option HO} (e : H a = o) (n : ∀ xs, o ≠ some (.lst xs)) : frzH S H f a = o := by
  unfold frzH
  split
  · rw [e]
    cases o with
    | none => rfl
    | some u =>
      cases u with
      | lst xs => exact absurd rfl (n xs)
      | _ => rfl
  · exact e
theorem frzH_none : frzH S H f a = none ↔ H a = none := by
  constructor
  · intro e
    unfold frzH at e
    split at e
    · split at e
      · cases e
      · exact e
    · exact e
  · exact fun e => frzH_of e (fun xs z => by cases z)
/-- what is locked is what stood there -/
theorem frzH_cases (a : Addr) : frzH S H f a = H a ∨ ∃ xs, H a = some (.lst xs) ∧ frzH S H f a = some (.frz (f a) (.lst xs)) := by
  by_cases h : S a
  · cases e : H a with
    | none => exact .inl (frzH_of e (fun xs z => by cases z))
    | some o =>
      cases o with
      | lst xs => exact .inr ⟨xs, rfl, frzH_lst h e⟩
      | _ => exact .inl (frzH_of e (fun xs z => by cases z))
  · exact .inl (frzH_not h)
theorem HOk.frz {P : Program} {w : World} {h : Heap} (ok : HOk P w H h) (hf : ∀ a o, h.get? a = some o → f a = o) : HOk P w (frzH S H f) h := fun a o e => by
  have st : ∀ o, ObjOk P w H h a o → ObjOk P w (frzH S H f) h a o := fun o x => x.stay (fun b u _ q => q) (fun b q => frzH_of q (fun xs z => by cases z)) fun b xs q => frzH_of q (fun xs z => by cases z)
  rcases frzH_cases (S := S) (H := H) (f := f) a with q | ⟨xs, q1, q2⟩
  · rw [q] at e
    exact st o (ok a o e)
  · rw [q2] at e
    cases e
    have := ok a _ q1
    obtain ⟨z, its, n, r, g⟩ := id this
    refine ⟨?_, st _ this⟩
    rw [hf a _ g]
    exact g
theorem Un.frz {fs ex : List Addr} {h h' : Heap} (u : Un fs ex H H1 h h') : Un fs ex H (frzH S H1 f) h h' where
  keep := u.keep
  slot := u.slot
  free := fun b o q n hx => frzH_none.mpr (u.free b o q n hx)
  there := u.there
  tups := fun b xs q => frzH_of (u.tups b xs q) (fun xs z => by cases z)
  frzs := fun b o v q => frzH_of (u.frzs b o v q) (fun xs z => by cases z)
  tbls := fun b ps q => by
    obtain ⟨more, e⟩ := u.tbls b ps q
    exact ⟨more, frzH_of e (fun xs z => by cases z)⟩
/-- what a heap holds at an address -/
noncomputable def obAt (h : Heap) (a : Addr) : Obj := (h.get? a).getD { cls := .none, data := .fields #[] }
theorem obAt_of {h : Heap} {o : Obj} (e : h.get? a = some o) : obAt h a = o := by unfold obAt; rw [e]; rfl
/-- the wish behind which lists may be locked -/
def QFz (Q : VK) : VK := fun v H1 => ∃ S, ∀ f, Q v (frzH S H1 f)
theorem CE.frz {outer : List Env} {P : Program} {w : World} {s s' : Shared} {Q : VK} {u : Value} (c : CE outer P w H s (QFz Q) u s') : CE outer P w H s Q u s' := by
  obtain ⟨v, H', os, ag, un, ok, r, S, q⟩ := c
  exact ⟨v, frzH S H' (obAt s'.heap), os, ag, Un.frz un, HOk.frz ok (fun a o e => obAt_of e), r, q _⟩
theorem FnOk.frz {P : Program} {w : World} {K : PySem.W.Frag} {mg : Str → Option Value} {base : Heap} {CX : CXT} {k : Nat} {f : Addr} {fd : FuncData} {ps : List Str} {sp : Sp} (F : FnOk P w K mg base CX k f fd ps sp) :
    FnOk P w K mg base CX k f fd ps (fun vs H Q E => sp vs H (QFz Q) E) where
  len := fun vs H Q E h => F.len vs H _ E h
  run := fun A outer s H args us vs Q E hr he hb hv h => by
    refine codeAny_mono (F.run A outer s H args us vs _ E hr he hb hv h) fun r s' hq => ?_
    cases r with
    | error e => exact hq
    | ok o =>
      cases o with
      | ret u => exact CE.frz hq
      | _ => exact hq
theorem PE.frz {X : Cx} {e : Expr} {te : TE} (h : PE X e te) : PE X e (fun σ H Q => te σ H (QFz Q)) := ⟨fun pins s σ H Q I q =>
  wpAny_mono (h.run pins s σ H _ I q) (fun v s1 z => by
    obtain ⟨x, H1, I1, r, S, p⟩ := z
    exact ⟨x, frzH S H1 (obAt s1.heap), I1.un (h' := s1.heap) (t' := s1.toks) (Un.frz Un.refl) (HOk.frz I1.hok (fun a o e => obAt_of e)), r, p _⟩) fun _ _ z => z⟩
end
section
variable {K : PySem.W.Frag} {ρ ρ' ρ2 : List Addr} {H H' H2 : Hp} {h h1 : Cd.Hep}
theorem SqT.frz {S : Addr → Prop} {f : Addr → Obj} {a : Addr} {vs : List V} (q : SqT K H a vs) : SqT K (frzH S H f) a vs := by
  rcases q with (q | ⟨o, q⟩) | q
  · exact .inl (.inl (frzH_of q (fun xs z => by cases z)))
  · exact .inl (.inr ⟨o, frzH_of q (fun xs z => by cases z)⟩)
  · exact .inr q
theorem FzL.frz {S : Addr → Prop} {f : Addr → Obj} {a : Addr} {vs : List V} (q : FzL K H a vs) : FzL K (frzH S H f) a vs := by
  rcases q with ⟨o, q⟩ | q
  · exact .inl ⟨o, frzH_of q (fun xs z => by cases z)⟩
  · exact .inr q
mutual
theorem RV.bnd : ∀ {d : Cd.Val} {v : V}, RV K ρ H d v → Cd.bndV ρ.length d = true
  | _, _, .non => rfl
  | _, _, .bl b => rfl
  | _, _, .int i => rfl
  | _, _, .str s => rfl
  | _, _, .tup h r => by unfold Cd.bndV; exact RVs.bnd r
  | _, _, .fl h r => by unfold Cd.bndV; exact RVs.bnd r
  | _, _, .ref h => by unfold Cd.bndV; exact decide_eq_true (List.getElem?_eq_some_iff.mp h).1
  | _, _, .exo a => rfl
theorem RVs.bnd : ∀ {ds : List Cd.Val} {vs : List V}, RVs K ρ H ds vs → Cd.bndVs ρ.length ds = true
  | _, _, .nil => rfl
  | _, _, .cons h t => by unfold Cd.bndVs; rw [RV.bnd h, RVs.bnd t]; rfl
end
theorem RD.bnd {l : List (Cd.Val × Cd.Val)} {kvs : List (Key × V)} (r : RD K ρ H l kvs) : Cd.bndVs ρ.length (l.map (·.2)) = true := by
  induction r with
  | nil => rfl
  | cons e r t ih => rw [List.map_cons]; unfold Cd.bndVs; rw [RV.bnd r, ih]; rfl
theorem RF.bnd {l : List (String × Cd.Val)} {kvs : List (Str × V)} (r : RF K ρ H l kvs) : Cd.bndVs ρ.length (l.map (·.2)) = true := by
  induction r with
  | nil => rfl
  | cons r t ih => rw [List.map_cons]; unfold Cd.bndVs; rw [RV.bnd r, ih]; rfl
theorem RO.bnd {o : Cd.Obj} {a : Addr} (r : RO K ρ H o a) : Cd.bndO ρ.length o = true := by
  cases o with
  | lst l => obtain ⟨vs, _, q⟩ := r; exact RVs.bnd q
  | dct l => obtain ⟨vs, _, q⟩ := r; exact RD.bnd q
  | ins c fs => obtain ⟨C, dx, vs, _, _, q⟩ := r; exact RF.bnd q
section
variable {k t : Nat} {f : Addr → Obj}
/-- the places that are locked -/
def lockS (ρ' : List Addr) (k t : Nat) (a : Addr) : Prop := ∃ n, k ≤ n ∧ n ≠ t ∧ ρ'[n]? = some a
theorem lockS_not (nd : ρ'.Nodup) {n : Nat} {a : Addr} (e : ρ'[n]? = some a) (h : n < k ∨ n = t) : ¬ lockS ρ' k t a := by
  rintro ⟨m, h1, h2, h3⟩
  obtain ⟨l1, e1⟩ := List.getElem?_eq_some_iff.mp e
  obtain ⟨l2, e2⟩ := List.getElem?_eq_some_iff.mp h3
  have : n = m := (List.getElem_inj nd).mp (e1.trans e2.symm)
  omega
/-- a value without the new places, behind the cut -/
theorem RV.cut (hρ : ∀ n a, n < k → ρ'[n]? = some a → ρ2[n]? = some a) : ∀ {d : Cd.Val} {v : V}, RV K ρ' H d v → Cd.bndV k d = true → ∀ {S : Addr → Prop}, RV K ρ2 (frzH S H f) d v := by
  intro d v r
  refine RV.rec (motive_1 := fun d v _ => Cd.bndV k d = true → ∀ {S : Addr → Prop}, RV K ρ2 (frzH S H f) d v) (motive_2 := fun ds vs _ => Cd.bndVs k ds = true → ∀ {S : Addr → Prop}, RVs K ρ2 (frzH S H f) ds vs) (fun _ _ => .non) (fun b _ _ => .bl b) (fun i _ _ => .int i) (fun s _ _ => .str s)
    (fun h _ ih b S => .tup (SqT.frz h) (ih (by unfold Cd.bndV at b; exact b))) (fun h _ ih b S => .fl (FzL.frz h) (ih (by unfold Cd.bndV at b; exact b))) (fun h b S => .ref (hρ _ _ (by unfold Cd.bndV at b; exact of_decide_eq_true b) h)) (fun a _ _ => .exo a) (fun _ _ => .nil) (fun _ _ i1 i2 b S => ?_) r
  unfold Cd.bndVs at b
  rw [Bool.and_eq_true] at b
  exact .cons (i1 b.1) (i2 b.2)
theorem RVs.cut (hρ : ∀ n a, n < k → ρ'[n]? = some a → ρ2[n]? = some a) : ∀ {ds : List Cd.Val} {vs : List V}, RVs K ρ' H ds vs → Cd.bndVs k ds = true → ∀ {S : Addr → Prop}, RVs K ρ2 (frzH S H f) ds vs
  | _, _, .nil, _, _ => .nil
  | _, _, .cons h t, b, S => by
    unfold Cd.bndVs at b
    rw [Bool.and_eq_true] at b
    exact .cons (RV.cut hρ h b.1) (RVs.cut hρ t b.2)
theorem RD.cut (hρ : ∀ n a, n < k → ρ'[n]? = some a → ρ2[n]? = some a) {l : List (Cd.Val × Cd.Val)} {kvs : List (Key × V)} (r : RD K ρ' H l kvs) : Cd.bndVs k (l.map (·.2)) = true → ∀ {S : Addr → Prop}, RD K ρ2 (frzH S H f) l kvs := by
  induction r with
  | nil => exact fun _ _ => .nil
  | cons e r t ih =>
    intro b S
    rw [List.map_cons] at b
    unfold Cd.bndVs at b
    rw [Bool.and_eq_true] at b
    exact .cons e (RV.cut hρ r b.1) (ih b.2)
theorem RF.cut (hρ : ∀ n a, n < k → ρ'[n]? = some a → ρ2[n]? = some a) {l : List (String × Cd.Val)} {kvs : List (Str × V)} (r : RF K ρ' H l kvs) : Cd.bndVs k (l.map (·.2)) = true → ∀ {S : Addr → Prop}, RF K ρ2 (frzH S H f) l kvs := by
  induction r with
  | nil => exact fun _ _ => .nil
  | cons r t ih =>
    intro b S
    rw [List.map_cons] at b
    unfold Cd.bndVs at b
    rw [Bool.and_eq_true] at b
    exact .cons (RV.cut hρ r b.1) (ih b.2)
theorem RO.cut (hρ : ∀ n a, n < k → ρ'[n]? = some a → ρ2[n]? = some a) {o : Cd.Obj} {a : Addr} (r : RO K ρ' H o a) (b : Cd.bndO k o = true) {S : Addr → Prop} (ns : ¬ S a) : RO K ρ2 (frzH S H f) o a := by
  cases o with
  | lst l => obtain ⟨vs, e, q⟩ := r; exact ⟨vs, by rw [frzH_not ns]; exact e, RVs.cut hρ q b⟩
  | dct l => obtain ⟨vs, e, q⟩ := r; exact ⟨vs, by rw [frzH_not ns]; exact e, RD.cut hρ q b⟩
  | ins c fs => obtain ⟨C, dx, vs, e, cn, q⟩ := r; exact ⟨C, dx, vs, by rw [frzH_not ns]; exact e, cn, RF.cut hρ q b⟩
/-- a value whose places are told anew -/
theorem RV.mapR {g : Nat → Option Cd.Val} {S : Addr → Prop} (hg : ∀ n a w, ρ'[n]? = some a → g n = some w → RV K ρ2 (frzH S H f) w (.ref a)) {d : Cd.Val} {v : V} (r : RV K ρ' H d v) : ∀ {w}, Cd.mapR g d = some w → RV K ρ2 (frzH S H f) w v := by
  refine RV.rec (motive_1 := fun d v _ => ∀ {w}, Cd.mapR g d = some w → RV K ρ2 (frzH S H f) w v) (motive_2 := fun ds vs _ => ∀ {ws}, Cd.mapRs g ds = some ws → RVs K ρ2 (frzH S H f) ws vs) ?_ ?_ ?_ ?_ ?_ ?_ ?_ ?_ ?_ ?_ r
  · intro w e; cases e; exact .non
  · intro b w e; cases e; exact .bl b
  · intro b w e; cases e; exact .int b
  · intro b w e; cases e; exact .str b
  · intro a ds vs h _ ih w e
    unfold Cd.mapR at e
    cases q : Cd.mapRs g ds with
    | none => rw [q] at e; cases e
    | some ws => rw [q] at e; cases e; exact .tup (SqT.frz h) (ih q)
  · intro a ds vs h _ ih w e
    unfold Cd.mapR at e
    cases q : Cd.mapRs g ds with
    | none => rw [q] at e; cases e
    | some ws => rw [q] at e; cases e; exact .fl (FzL.frz h) (ih q)
  · intro n a h w e
    exact hg n a w h (by unfold Cd.mapR at e; exact e)
  · intro a w e; cases e; exact .exo a
  · intro ws e; cases e; exact .nil
  · intro d v ds vs h t i1 i2 ws e
    unfold Cd.mapRs at e
    cases q : Cd.mapR g d with
    | none => rw [q] at e; cases e
    | some w =>
      rw [q] at e
      simp only at e
      cases q2 : Cd.mapRs g ds with
      | none => rw [q2] at e; cases e
      | some ws' => rw [q2] at e; cases e; exact .cons (i1 q) (i2 q2)
theorem RVs.mapR {g : Nat → Option Cd.Val} {S : Addr → Prop} (hg : ∀ n a w, ρ'[n]? = some a → g n = some w → RV K ρ2 (frzH S H f) w (.ref a)) : ∀ {ds : List Cd.Val} {vs : List V}, RVs K ρ' H ds vs → ∀ {ws}, Cd.mapRs g ds = some ws → RVs K ρ2 (frzH S H f) ws vs
  | _, _, .nil, ws, e => by cases e; exact .nil
  | _, _, @RVs.cons _ _ _ d v ds vs h t, ws, e => by
    unfold Cd.mapRs at e
    cases q : Cd.mapR g d with
    | none => rw [q] at e; cases e
    | some w =>
      rw [q] at e
      simp only at e
      cases q2 : Cd.mapRs g ds with
      | none => rw [q2] at e; cases e
      | some ws' => rw [q2] at e; cases e; exact .cons (RV.mapR hg h q) (RVs.mapR hg t q2)
theorem RD.mapR {g : Nat → Option Cd.Val} {S : Addr → Prop} (hg : ∀ n a w, ρ'[n]? = some a → g n = some w → RV K ρ2 (frzH S H f) w (.ref a)) {l : List (Cd.Val × Cd.Val)} {kvs : List (Key × V)} (r : RD K ρ' H l kvs) : ∀ {l'}, Cd.mapP g l = some l' → RD K ρ2 (frzH S H f) l' kvs := by
  induction r with
  | nil => intro l' e; cases e; exact .nil
  | @cons k d κ v l kvs ek r t ih =>
    intro l' e
    unfold Cd.mapP at e
    cases q : Cd.mapR g d with
    | none => rw [q] at e; cases e
    | some w =>
      rw [q] at e
      simp only at e
      cases q2 : Cd.mapP g l with
      | none => rw [q2] at e; cases e
      | some ws' => rw [q2] at e; cases e; exact .cons ek (RV.mapR hg r q) (ih q2)
theorem RF.mapR {g : Nat → Option Cd.Val} {S : Addr → Prop} (hg : ∀ n a w, ρ'[n]? = some a → g n = some w → RV K ρ2 (frzH S H f) w (.ref a)) {l : List (String × Cd.Val)} {kvs : List (Str × V)} (r : RF K ρ' H l kvs) : ∀ {l'}, Cd.mapP g l = some l' → RF K ρ2 (frzH S H f) l' kvs := by
  induction r with
  | nil => intro l' e; cases e; exact .nil
  | @cons k d v l kvs r t ih =>
    intro l' e
    unfold Cd.mapP at e
    cases q : Cd.mapR g d with
    | none => rw [q] at e; cases e
    | some w =>
      rw [q] at e
      simp only at e
      cases q2 : Cd.mapP g l with
      | none => rw [q2] at e; cases e
      | some ws' => rw [q2] at e; cases e; exact .cons (RV.mapR hg r q) (ih q2)
theorem fz_rv (Si : Sim K ρ' h1 H) (hρ : ∀ n a, n < k → ρ'[n]? = some a → ρ2[n]? = some a) : ∀ (d n : Nat) (a : Addr) (w : Cd.Val), ρ'[n]? = some a → Cd.fz h1 k t d n = some w → RV K ρ2 (frzH (lockS ρ' k t) H f) w (.ref a)
  | 0, n, a, w, ha, e => by
    unfold Cd.fz at e
    split at e
    · rename_i hn; cases e; exact .ref (hρ n a hn ha)
    · cases e
  | d + 1, n, a, w, ha, e => by
    unfold Cd.fz at e
    split at e
    · rename_i hn; cases e; exact .ref (hρ n a hn ha)
    · rename_i hn
      split at e
      · cases e
      · rename_i ht
        split at e
        · rename_i l hl
          obtain ⟨vs, e1, rs⟩ := Si.obj n _ a hl ha
          cases q : Cd.mapRs (Cd.fz h1 k t d) l with
          | none => rw [q] at e; cases e
          | some ws =>
            rw [q] at e; cases e
            refine .fl (.inl ⟨_, frzH_lst ⟨n, by omega, ht, ha⟩ e1⟩) (RVs.mapR (fun m b u hb eu => fz_rv Si hρ d m b u hb eu) rs q)
        · cases e
/-- the old places behind the cut -/
theorem Sim.cut {S : Addr → Prop} (S0 : Sim K ρ h H) (st : Step ρ H ρ' H') (S1 : Sim K ρ' h1 H') (c : Cd.cutOk h h1) (ns : ∀ n a, n < h.length → ρ'[n]? = some a → ¬ S a) : Sim K ρ (h1.take h.length) (frzH S H' f) := by
  have hρ : ∀ n a, n < h.length → ρ'[n]? = some a → ρ[n]? = some a := fun n a hn e => by
    obtain ⟨x, hx⟩ := st.pre
    rw [← hx, List.getElem?_append_left (by rw [S0.len]; exact hn)] at e
    exact e
  refine ⟨by rw [List.length_take, S0.len, Nat.min_eq_left c.1], S0.nd, fun n o a hn ha => ?_⟩
  have nl : n < h.length := by rw [← S0.len]; exact (List.getElem?_eq_some_iff.mp ha).1
  rw [List.getElem?_take, if_pos nl] at hn
  have ha' := st.ix ha
  have r := S1.obj n o a hn ha'
  refine RO.cut hρ r ?_ (ns n a nl ha')
  rcases c.2 n nl with q | ⟨o', q, b⟩
  · rw [q] at hn
    have := RO.bnd (S0.obj n o a hn ha)
    rw [S0.len] at this
    exact this
  · rw [hn] at q; cases q; exact b
theorem Step.cut {S : Addr → Prop} (st : Step ρ H ρ' H') (hS : ∀ a, S a → a ∈ ρ') : Step ρ H ρ (frzH S H' f) := by
  refine ⟨List.prefix_rfl, fun a o na e => ?_, fun a m n => absurd m n⟩
  have := st.fr a o na e
  rw [frzH_not]
  · exact this
  · intro sa
    rw [st.new a (hS a sa) na] at e
    cases e
theorem lockS_mem {a : Addr} (z : lockS ρ' k t a) : a ∈ ρ' := by
  obtain ⟨n, _, _, e⟩ := z
  exact List.mem_iff_getElem?.mpr ⟨n, e⟩
end
theorem frzH_no {f : Addr → Obj} : frzH (fun _ => False) H f = H := by
  funext a
  exact frzH_not (fun z => z)
theorem QFz.of {Q : VK} {v : V} (q : Q v H) : QFz Q v H := ⟨fun _ => False, fun f => by rw [frzH_no]; exact q⟩
theorem gc_core (S0 : Sim K ρ h H) {d e : Nat} {v w : Cd.Val} {h2 : Cd.Hep} (eg : Cd.gc d e h (.ok v h1) = .ok w h2) {ρ' : List Addr} {H' : Hp} (st : Step ρ H ρ' H') (S1 : Sim K ρ' h1 H') :
    ∃ S ρ2, ∀ f, Step ρ H ρ2 (frzH S H' f) ∧ Sim K ρ2 h2 (frzH S H' f) ∧ (∀ x, RV K ρ' H' v x → RV K ρ2 (frzH S H' f) w x) ∧ ∀ u a b, RV K ρ H u a → RV K ρ' H' u b → RV K ρ2 (frzH S H' f) u b := by
  have triv : ∀ f, Step ρ H ρ' (frzH (fun _ => False) H' f) ∧ Sim K ρ' h1 (frzH (fun _ => False) H' f) ∧ (∀ x, RV K ρ' H' v x → RV K ρ' (frzH (fun _ => False) H' f) v x) ∧ ∀ u a b, RV K ρ H u a → RV K ρ' H' u b → RV K ρ' (frzH (fun _ => False) H' f) u b := fun f => by
    rw [frzH_no]
    exact ⟨st, S1, fun _ q => q, fun _ _ _ _ q => q⟩
  unfold Cd.gc at eg
  simp only at eg
  split at eg
  · rename_i c
    have hρ : ∀ n a, n < h.length → ρ'[n]? = some a → ρ[n]? = some a := fun n a hn e => by
      obtain ⟨x, hx⟩ := st.pre
      rw [← hx, List.getElem?_append_left (by rw [S0.len]; exact hn)] at e
      exact e
    split at eg
    · rename_i w' em
      cases eg
      refine ⟨lockS ρ' h.length h1.length, ρ, fun f => ⟨st.cut fun a z => lockS_mem z, Sim.cut S0 st S1 c fun n a hn ha => lockS_not S1.nd ha (.inl hn), fun x r => ?_, fun u a b q1 q2 => RV.cut hρ q2 (by have := RV.bnd q1; rw [S0.len] at this; exact this)⟩⟩
      exact RV.mapR (fun n a u ha eu => fz_rv S1 hρ d n a u ha eu) r em
    · unfold Cd.gcTop at eg
      split at eg
      · rename_i n _
        split at eg
        · rename_i o ho
          split at eg
          · rename_i o' eo
            split at eg
            · rename_i hk
              cases eg
              obtain ⟨a, ha⟩ : ∃ a, ρ'[n]? = some a := ⟨_, List.getElem?_eq_getElem (by rw [S1.len]; exact (List.getElem?_eq_some_iff.mp ho).1)⟩
              · 
                have ns : ∀ m b, m < h.length → ρ'[m]? = some b → ¬ lockS ρ' h.length n b := fun m b hm hb => lockS_not S1.nd hb (.inl hm)
                have na : ¬ lockS ρ' h.length n a := lockS_not S1.nd ha (.inr rfl)
                have nm : a ∉ ρ := fun m => by
                  obtain ⟨i, hi⟩ := List.mem_iff_getElem?.mp m
                  have h1' := st.ix hi
                  have il : i < h.length := by rw [← S0.len]; exact (List.getElem?_eq_some_iff.mp hi).1
                  obtain ⟨l1, e1⟩ := List.getElem?_eq_some_iff.mp h1'
                  obtain ⟨l2, e2⟩ := List.getElem?_eq_some_iff.mp ha
                  have : i = n := (List.getElem_inj S1.nd).mp (e1.trans e2.symm)
                  omega
                have hρ2 : ∀ m b, m < h.length → ρ'[m]? = some b → (ρ ++ [a])[m]? = some b := fun m b hm hb => by
                  rw [List.getElem?_append_left (by rw [S0.len]; exact hm)]
                  exact hρ m b hm hb
                refine ⟨lockS ρ' h.length n, ρ ++ [a], fun f => ⟨?_, ?_, fun x r => ?_, fun u a b q1 q2 => RV.cut hρ2 q2 (by have := RV.bnd q1; rw [S0.len] at this; exact this)⟩⟩
                · have s2 := st.cut (f := f) (S := lockS ρ' h.length n) fun a z => lockS_mem z
                  refine ⟨⟨[a], rfl⟩, s2.fr, fun b m n => ?_⟩
                  rcases List.mem_append.mp m with m | m
                  · exact absurd m n
                  · rw [List.mem_singleton.mp m]
                    exact st.new a (List.mem_iff_getElem?.mpr ⟨_, ha⟩) nm
                · have Sc := Sim.cut (f := f) S0 st S1 c ns
                  refine ⟨by rw [List.length_append, List.length_append, Sc.len]; rfl, List.nodup_append.mpr ⟨S0.nd, by simp, fun b hb c hc => by
                    rw [List.mem_singleton.mp hc]
                    rintro rfl
                    exact nm hb⟩, fun m u b hm hb => ?_⟩
                  have kl : (h1.take h.length).length = h.length := by rw [List.length_take, Nat.min_eq_left c.1]
                  by_cases hl : m < h.length
                  · rw [List.getElem?_append_left (by rw [kl]; exact hl)] at hm
                    rw [List.getElem?_append_left (by rw [S0.len]; exact hl)] at hb
                    have q := Sc.obj m u b hm hb
                    have up : ∀ {d : Cd.Val} {v : V}, RV K ρ (frzH (lockS ρ' h.length n) H' f) d v → RV K (ρ ++ [a]) (frzH (lockS ρ' h.length n) H' f) d v := fun q => Sim.place.rv_more q
                    have ups : ∀ {d : List Cd.Val} {v : List V}, RVs K ρ (frzH (lockS ρ' h.length n) H' f) d v → RVs K (ρ ++ [a]) (frzH (lockS ρ' h.length n) H' f) d v := fun q => Sim.place.rvs_more q
                    cases u with
                    | lst l => obtain ⟨vs, e1, rs⟩ := q; exact ⟨vs, e1, ups rs⟩
                    | dct l =>
                      obtain ⟨vs, e1, rs⟩ := q
                      refine ⟨vs, e1, ?_⟩
                      clear e1 hm
                      induction rs with
                      | nil => exact .nil
                      | cons e r t ih => exact .cons e (up r) ih
                    | ins c fs =>
                      obtain ⟨C, dx, vs, e1, cn, rs⟩ := q
                      refine ⟨C, dx, vs, e1, cn, ?_⟩
                      clear e1 hm
                      induction rs with
                      | nil => exact .nil
                      | cons r t ih => exact .cons (up r) ih
                  · have em : m = h.length := by
                      have := (List.getElem?_eq_some_iff.mp hm).1
                      rw [List.length_append, kl] at this
                      simp at this
                      omega
                    subst em
                    rw [List.getElem?_append_right (by rw [kl]; exact Nat.le_refl _), kl, Nat.sub_self] at hm
                    rw [List.getElem?_append_right (by rw [S0.len]; exact Nat.le_refl _), S0.len, Nat.sub_self] at hb
                    cases hm
                    cases hb
                    have q := S1.obj n o a ho ha
                    have hg : ∀ m b u, ρ'[m]? = some b → Cd.fz h1 h.length n e m = some u → RV K (ρ ++ [a]) (frzH (lockS ρ' h.length n) H' f) u (.ref b) := fun m b u hb eu => fz_rv S1 hρ2 e m b u hb eu
                    cases o with
                    | lst l =>
                      obtain ⟨vs, e1, rs⟩ := q
                      simp only [Cd.mapO] at eo
                      cases q2 : Cd.mapRs (Cd.fz h1 h.length n e) l with
                      | none => rw [q2] at eo; cases eo
                      | some ws => rw [q2] at eo; cases eo; exact ⟨vs, by rw [frzH_not na]; exact e1, RVs.mapR hg rs q2⟩
                    | dct l =>
                      obtain ⟨vs, e1, rs⟩ := q
                      simp only [Cd.mapO] at eo
                      cases q2 : Cd.mapP (Cd.fz h1 h.length n e) l with
                      | none => rw [q2] at eo; cases eo
                      | some ws => rw [q2] at eo; cases eo; exact ⟨vs, by rw [frzH_not na]; exact e1, RD.mapR hg rs q2⟩
                    | ins c fs =>
                      obtain ⟨C, dx, vs, e1, cn, rs⟩ := q
                      simp only [Cd.mapO] at eo
                      cases q2 : Cd.mapP (Cd.fz h1 h.length n e) fs with
                      | none => rw [q2] at eo; cases eo
                      | some ws => rw [q2] at eo; cases eo; exact ⟨C, dx, vs, by rw [frzH_not na]; exact e1, cn, RF.mapR hg rs q2⟩
                · cases r with
                  | ref hb =>
                    rw [ha] at hb
                    cases hb
                    exact .ref (by rw [List.getElem?_append_right (by rw [S0.len]; exact Nat.le_refl _), S0.len, Nat.sub_self]; rfl)
            · cases eg; exact ⟨_, _, triv⟩
          · cases eg; exact ⟨_, _, triv⟩
        · cases eg; exact ⟨_, _, triv⟩
      · cases eg; exact ⟨_, _, triv⟩
  · cases eg; exact ⟨_, _, triv⟩
theorem gc_ok (S0 : Sim K ρ h H) {d e : Nat} {v w : Cd.Val} {h2 : Cd.Hep} (eg : Cd.gc d e h (.ok v h1) = .ok w h2) {Q : VK} (p : ∀ ρ' H' x, Step ρ H ρ' H' → Sim K ρ' h2 H' → RV K ρ' H' w x → Q x H') :
    ∀ ρ' H' x, Step ρ H ρ' H' → Sim K ρ' h1 H' → RV K ρ' H' v x → QFz Q x H' := by
  intro ρ' H' x st S1 r
  obtain ⟨S, ρ2, q⟩ := gc_core S0 eg st S1
  exact ⟨S, fun f => p ρ2 _ x (q f).1 (q f).2.1 ((q f).2.2.1 x r)⟩
theorem gc_excore (S0 : Sim K ρ h H) {d e : Nat} {x y : Cd.Exc} {h2 : Cd.Hep} (eg : Cd.gc d e h (.exc x h1) = .exc y h2) {ρ' : List Addr} {H' : Hp} (st : Step ρ H ρ' H') (S1 : Sim K ρ' h1 H') :
    ∃ ρ2, Step ρ H ρ2 H' ∧ Sim K ρ2 h2 H' ∧ (∀ ca cls dx, RX K ca ρ' H' x cls dx → RX K ca ρ2 H' y cls dx) ∧ ∀ u a b, RV K ρ H u a → RV K ρ' H' u b → RV K ρ2 H' u b := by
  unfold Cd.gc at eg
  simp only at eg
  split at eg
  · rename_i c
    cases eg
    have s2 := st.cut (f := fun _ => { cls := .none, data := .fields #[] }) (S := fun _ => False) fun a z => z.elim
    have Sc := Sim.cut (f := fun _ => { cls := .none, data := .fields #[] }) (S := fun _ => False) S0 st S1 c.1 (fun n a hn ha z => z)
    rw [frzH_no] at s2 Sc
    have hρ : ∀ n a, n < h.length → ρ'[n]? = some a → ρ[n]? = some a := fun n a hn e => by
      obtain ⟨x, hx⟩ := st.pre
      rw [← hx, List.getElem?_append_left (by rw [S0.len]; exact hn)] at e
      exact e
    refine ⟨ρ, s2, Sc, fun ca cls dx r => ⟨r.1, ?_⟩, fun u a b q1 q2 => ?_⟩
    · rcases r.2 with q | ⟨a, fs, q1, q2, q3, q4⟩
      · exact .inl q
      · refine .inr ⟨a, fs, q1, q2, q3, ?_⟩
        have := RVs.cut (ρ2 := ρ) (k := 0) (f := fun _ => { cls := .none, data := .fields #[] }) (fun n a hn => absurd hn (Nat.not_lt_zero n)) q4 c.2 (S := fun _ => False)
        rw [frzH_no] at this
        exact this
    · have := RV.cut (ρ2 := ρ) (f := fun _ => { cls := .none, data := .fields #[] }) hρ q2 (by have := RV.bnd q1; rw [S0.len] at this; exact this) (S := fun _ => False)
      rw [frzH_no] at this
      exact this
  · cases eg; exact ⟨ρ', st, S1, fun _ _ _ r => r, fun _ _ _ _ q => q⟩
theorem gc_exc (S0 : Sim K ρ h H) {ca : String → Value} {d e : Nat} {x y : Cd.Exc} {h2 : Cd.Hep} (eg : Cd.gc d e h (.exc x h1) = .exc y h2) {E : Value → Option Addr → Hp → Prop} (p : ∀ ρ' H' cls dx, Step ρ H ρ' H' → Sim K ρ' h2 H' → RX K ca ρ' H' y cls dx → E cls dx H') :
    ∀ ρ' H' cls dx, Step ρ H ρ' H' → Sim K ρ' h1 H' → RX K ca ρ' H' x cls dx → E cls dx H' := by
  intro ρ' H' cls dx st S1 r
  obtain ⟨ρ2, a, b, c, _⟩ := gc_excore S0 eg st S1
  exact p ρ2 H' cls dx a b (c _ _ _ r)
theorem gc_kind {d e : Nat} (r : Cd.Res Cd.Val) : (∃ v h1 w h2, r = .ok v h1 ∧ Cd.gc d e h r = .ok w h2) ∨ (∃ x h1 y h2, r = .exc x h1 ∧ Cd.gc d e h r = .exc y h2) ∨ r = .stuck := by
  cases r with
  | ok v h1 =>
    refine .inl ⟨v, h1, ?_⟩
    unfold Cd.gc Cd.gcTop
    simp only
    split
    · split
      · exact ⟨_, _, by trivial, rfl⟩
      · split
        · split
          · split
            · split
              · exact ⟨_, _, by trivial, rfl⟩
              · exact ⟨_, _, by trivial, rfl⟩
            · exact ⟨_, _, by trivial, rfl⟩
          · exact ⟨_, _, by trivial, rfl⟩
        · exact ⟨_, _, by trivial, rfl⟩
    · exact ⟨_, _, by trivial, rfl⟩
  | exc x h1 =>
    refine .inr (.inl ⟨x, h1, ?_⟩)
    unfold Cd.gc
    simp only
    split
    · exact ⟨_, _, by trivial, rfl⟩
    · exact ⟨_, _, by trivial, rfl⟩
  | stuck => exact .inr (.inr rfl)
/-- a def's promise with what is dropped behind it -/
theorem fn_gc {P : Program} {w : World} {K : PySem.W.Frag} {mg : Str → Option Value} {base : Heap} {ca : String → Value} {CX : CXT} {k n : Nat} {f : Addr} {fd : FuncData} {ps : List Str} {F : Cd.Fn} (d e : Nat)
    (G : FnOk P w K mg base CX k f fd ps (spF K ca n F)) : FnOk P w K mg base CX k f fd ps (spF K ca n (Cd.gcF d e F)) := by
  refine FnOk.imp (FnOk.frz G) fun vs H Q E ⟨hl, ρ, h, ds, Si, r, p⟩ => ⟨hl, ρ, h, ds, Si, r, ?_⟩
  unfold Cd.gcF at p
  rcases gc_kind (h := h) (d := d) (e := e) (F ds h) with ⟨v, h1, w, h2, e1, e2⟩ | ⟨v, h1, w, h2, e1, e2⟩ | e1
  · rw [e2] at p
    rw [e1] at e2 ⊢
    exact gc_ok Si e2 p
  · rw [e2] at p
    rw [e1] at e2 ⊢
    exact gc_exc Si e2 p
  · rw [e1] at p; exact p.elim
/-- an expression with what is dropped behind it -/
theorem k_gc {X : Cx} {ca : String → Value} {W : WX} {e : Expr} {m : Cd.EM} (d e' : Nat) (G : KE X ca W e m) : KE X ca W e (Cd.eGc d e' m) := by
  refine PE.wk (PE.frz G) fun σ H Q ⟨ρ, h, η, S, re, p⟩ => ⟨ρ, h, η, S, re, ?_⟩
  unfold Cd.eGc at p
  rcases gc_kind (h := h) (d := d) (e := e') (m η h) with ⟨v, h1, w, h2, e1, e2⟩ | ⟨v, h1, w, h2, e1, e2⟩ | e1
  · rw [e2] at p
    rw [e1] at e2 ⊢
    exact gc_ok S e2 p
  · rw [e2] at p
    rw [e1] at e2 ⊢
    exact gc_exc (E := fun cls dx H' => W cls dx σ H') S e2 p
  · rw [e1] at p; exact p.elim
/-- a statement behind which lists may be locked -/
def DFz (D : Ends) : Ends := { D with nx := fun σ H => ∃ S, ∀ f, D.nx σ (frzH S H f) }
theorem PS.frz {X : Cx} {st : Stmt} {t : TS} (h : PS X st t) : PS X st (fun D σ H => t (DFz D) σ H) := ⟨fun pins s σ H D I q =>
  wpAny_mono (h.run pins s σ H _ I q) (fun v s1 z => by
    cases v with
    | next =>
      obtain ⟨σ', H1, I1, S, p⟩ := z
      exact ⟨σ', frzH S H1 (obAt s1.heap), I1.un (h' := s1.heap) (t' := s1.toks) (Un.frz Un.refl) (HOk.frz I1.hok (fun a o e => obAt_of e)), p _⟩
    | _ => exact z) fun _ _ z => z⟩
/-- x = e with what is dropped behind it -/
theorem ks_gcSet {X : Cx} {ca : String → Value} {W : WX} {st : Stmt} {i : Nat} {m : Cd.EM} (d e' : Nat) (G : KS X ca W st (Cd.sSet i m)) : KS X ca W st (Cd.sSet i (Cd.eGc d e' m)) := by
  refine PS.wk (PS.frz G) fun D σ H ⟨ρ, h, η, S, re, p⟩ => ⟨ρ, h, η, S, re, ?_⟩
  unfold Cd.sSet at p ⊢
  unfold Cd.eGc at p
  rcases gc_kind (h := h) (d := d) (e := e') (m η h) with ⟨v, h1, w, h2, e1, e2⟩ | ⟨v, h1, w, h2, e1, e2⟩ | e1
  · rw [e2] at p
    rw [e1] at e2 ⊢
    intro ρ' H' σ' st S1 re'
    obtain ⟨S2, ρ2, q⟩ := gc_core S e2 st S1
    refine ⟨S2, fun f => p ρ2 _ σ' (q f).1 (q f).2.1 ⟨by rw [List.length_set, ← re'.len, List.length_set], fun j u eu => ?_⟩⟩
    by_cases ej : j = i
    · subst ej
      have hi : j < η.length := by
        have := (List.getElem?_eq_some_iff.mp eu).1
        rwa [List.length_set] at this
      obtain ⟨x, ex, rx⟩ := re'.at_ j v (by rw [List.getElem?_set_self hi])
      rw [List.getElem?_set_self hi] at eu
      cases eu
      exact ⟨x, ex, (q f).2.2.1 x rx⟩
    · rw [List.getElem?_set_ne (Ne.symm ej)] at eu
      obtain ⟨a, _, ra⟩ := re.at_ j u eu
      obtain ⟨b, eb, rb⟩ := re'.at_ j u (by rw [List.getElem?_set_ne (Ne.symm ej)]; exact eu)
      exact ⟨b, eb, (q f).2.2.2 u a b ra rb⟩
  · rw [e2] at p
    rw [e1] at e2 ⊢
    intro ρ' H' cls dx σ' st S1 re' rx
    obtain ⟨ρ2, s2, S2, cx, cv⟩ := gc_excore S e2 st S1
    refine p ρ2 H' cls dx σ' s2 S2 ⟨re'.len, fun j u eu => ?_⟩ (cx _ _ _ rx)
    obtain ⟨a, _, ra⟩ := re.at_ j u eu
    obtain ⟨b, eb, rb⟩ := re'.at_ j u eu
    exact ⟨b, eb, cv u a b ra rb⟩
  · rw [e1] at p; exact p.elim
theorem SqL.ob {X : Cx} {pins : List (Addr × Obj)} {σ : L2.St} {H : Hp} {s : Shared} {a : Addr} {xs : List V} (I : Inv X pins σ H s) (q : SqL X.K H a xs) :
    ∃ (its : List Value) (n : Nat) (dd : Option Addr) (sl : Array (Option Value)), s.heap.get? a = some { cls := .type "list", dict := dd, data := .seq its.toArray n, slots := sl } ∧ Vals xs its ∧ xs.length = its.length := by
  rcases q with q | ⟨o, its, n, q1, q2, q3, q4, q5, q6⟩
  · obtain ⟨z, its, n, r, e⟩ := Rd.ok q I.hok
    exact ⟨its, n, _, _, e, r, r.length⟩
  · have e := I.kIn _ _ q1
    obtain ⟨cls, dd, data, sl⟩ := o
    simp only at q2 q3 q4
    subst q2 q4
    exact ⟨its.toList, n, dd, sl, by simpa using e, q6, q6.length⟩
def rCatW (K : PySem.W.Frag) : R2 := fun x y H Q => ∃ l b xs zs, x = .ref l ∧ y = .ref b ∧ SqL K H l xs ∧ SqL K H b zs ∧ xs.length + zs.length ≤ sizeLine ∧ ∀ p, H p = none → Q (.ref p) (upd H p (.lst (xs ++ zs)))
theorem op_catW {X : Cx} : OpR X (binaryOp .Add) (rCatW X.K) := by
  intro pins s σ H x y v u Q I rx ry h
  obtain ⟨l, b, xs, zs, rfl, rfl, hH, hB, hz, q⟩ := h
  cases rx
  cases ry
  obtain ⟨its, n, dd, sl, e, r, hl⟩ := SqL.ob I hH
  obtain ⟨its2, n2, dd2, sl2, e2, r2, hl2⟩ := SqL.ob I hB
  refine concat_meets ⟨_, e, rfl⟩ ⟨_, e2, rfl⟩ noFill_list_add seq_list_add PySem.F.slot_list_add PySem.F.entry_list_add (PySem.F.args_list_add_2 _ _) (list_addW l b its.toArray its2.toArray n n2 dd dd2 sl sl2 (by rw [List.size_toArray, List.size_toArray]; omega)) ⟨e, e2, ?_⟩
  have ea : its.toArray ++ its2.toArray = (its ++ its2).toArray := by simp
  rw [ea]
  exact ⟨.ref _, _, I.lnew (t' := s.toks) (r.append r2) (by rw [List.length_append]; omega), rfl, q _ I.fresh⟩
theorem k_catW {X : Cx} {ca : String → Value} {W : WX} {a b : Expr} {ma mb : Cd.EM} {pos : Pos} (ha : KE X ca W a ma) (hb : KE X ca W b mb) : KE X ca W (.BinOp a .Add b pos) (Cd.eCatW ma mb) := by
  refine PE.wk (pe_op op_catW ha hb) fun σ H Q ⟨ρ, h, η, S, re, p⟩ => ?_
  refine ⟨ρ, h, η, S, re, postG.first p fun ρ1 H1 h1 d x st1 S1 r1 p1 => ?_⟩
  refine ⟨ρ1, h1, η, S1, re.mono st1 S, postG.first p1 fun ρ2 H2 h2 e y st2 S2 r2 p2 => ?_⟩
  have r1 := r1.mono st2 S1
  cases eo : Cd.oCatW h2 d e with
  | none => rw [eo] at p2; exact p2.elim
  | some w =>
    obtain ⟨v, h3⟩ := w
    rw [eo] at p2
    unfold Cd.oCatW at eo
    split at eo
    · rename_i l k hl hk
      split at eo
      · rename_i hz
        cases eo
        obtain ⟨a1, vs, rfl, sq, rs⟩ := seq_of S2 r1 hl
        obtain ⟨b1, ws, rfl, sq2, ss⟩ := seq_of S2 r2 hk
        rw [line_eq, rs.length, ss.length] at hz
        exact ⟨_, _, vs, ws, rfl, rfl, sq, sq2, hz, lay_k S2 (rs.append ss) p2⟩
      · cases eo
    · cases eo
theorem BFnF.or {K : PySem.W.Frag} {F G : Cd.BFn} {r1 r2 : List V → Hp → VK → Prop} (h1 : BFnF K F r1) (h2 : BFnF K G r2) : BFnF K (Cd.bOr F G) (fun xs H Q => r1 xs H Q ∨ r2 xs H Q) := by
  intro ρ h h' H ds u xs Q S r e k
  unfold Cd.bOr at e
  cases ef : F ds h with
  | some q => rw [ef] at e; cases e; exact .inl (h1 ρ h h' H ds u xs Q S r ef k)
  | none => rw [ef] at e; exact .inr (h2 ρ h h' H ds u xs Q S r e k)
/-- what an operator's reading must be worth, that may make a list -/
def BinG (K : PySem.W.Frag) (f : Cd.Hep → Cd.Val → Cd.Val → Option (Cd.Val × Cd.Hep)) (r : R2) : Prop := ∀ (ρ : List Addr) (h h' : Cd.Hep) (H : Hp) (d e u : Cd.Val) (x y : V) (Q : VK), Sim K ρ h H → RV K ρ H d x → RV K ρ H e y → f h d e = some (u, h') →
  (∀ ρ' H' w, Step ρ H ρ' H' → Sim K ρ' h' H' → RV K ρ' H' u w → Q w H') → r x y H Q
theorem k_op {X : Cx} {ca : String → Value} {W : WX} {a b : Expr} {ma mb : Cd.EM} {pos : Pos} {op : Operator} {f : Cd.Hep → Cd.Val → Cd.Val → Option (Cd.Val × Cd.Hep)} {r : R2} (ho : OpR X (binaryOp op) r) (hf : BinG X.K f r) (ha : KE X ca W a ma) (hb : KE X ca W b mb) :
    KE X ca W (.BinOp a op b pos) (Cd.eOp f ma mb) := by
  refine PE.wk (pe_op ho ha hb) fun σ H Q ⟨ρ, h, η, S, re, p⟩ => ?_
  refine ⟨ρ, h, η, S, re, postG.first p fun ρ1 H1 h1 d x st1 S1 r1 p1 => ?_⟩
  refine ⟨ρ1, h1, η, S1, re.mono st1 S, postG.first p1 fun ρ2 H2 h2 e y st2 S2 r2 p2 => ?_⟩
  cases eo : f h2 d e with
  | none => rw [eo] at p2; exact p2.elim
  | some w =>
    obtain ⟨v, h3⟩ := w
    rw [eo] at p2
    exact hf ρ2 h2 h3 H2 d e v x y Q S2 (r1.mono st2 S1) r2 eo p2
theorem bg_of {K : PySem.W.Frag} {f : Cd.Hep → Cd.Val → Cd.Val → Option Cd.Val} {g : Cd.Hep → Cd.Val → Cd.Val → Option (Cd.Val × Cd.Hep)} {r1 r2 : R2} (h1 : BinF K f r1) (h2 : BinG K g r2) :
    BinG K (fun h x y => match f h x y with | some v => some (v, h) | none => g h x y) (fun x y H Q => r1 x y H Q ∨ r2 x y H Q) := by
  intro ρ h h' H d e u x y Q S q1 q2 eo k
  simp only at eo
  cases ef : f h d e with
  | some v => rw [ef] at eo; cases eo; exact .inl (h1 ρ h H d e u x y Q S q1 q2 ef k)
  | none => rw [ef] at eo; exact .inr (h2 ρ h h' H d e u x y Q S q1 q2 eo k)
theorem bg_cat {K : PySem.W.Frag} : BinG K Cd.oCatW (rCatW K) := by
  intro ρ h h' H d e u x y Q S r1 r2 eo k
  unfold Cd.oCatW at eo
  split at eo
  · rename_i l m hl hm
    split at eo
    · rename_i hz
      cases eo
      obtain ⟨a1, vs, rfl, sq, rs⟩ := seq_of S r1 hl
      obtain ⟨b1, ws, rfl, sq2, ss⟩ := seq_of S r2 hm
      rw [line_eq, rs.length, ss.length] at hz
      exact ⟨_, _, vs, ws, rfl, rfl, sq, sq2, hz, lay_k S (rs.append ss) k⟩
    · cases eo
  · cases eo
theorem bg_plus {K : PySem.W.Frag} : BinG K Cd.oPlus (fun x y H Q => ((rI0 fun i j => .int (i + j)) x y H Q ∨ (fun x y H Q => ∃ i j, x = V.str i ∧ y = V.str j ∧ i.length + j.length ≤ sizeLine ∧ Q (V.str (i ++ j)) H) x y H Q ∨ rCatA K x y H Q) ∨ rCatW K x y H Q) := bg_of bf_addW bg_cat
theorem op_plus {X : Cx} : OpR X (binaryOp .Add) (fun x y H Q => ((rI0 fun i j => .int (i + j)) x y H Q ∨ (fun x y H Q => ∃ i j, x = V.str i ∧ y = V.str j ∧ i.length + j.length ≤ sizeLine ∧ Q (V.str (i ++ j)) H) x y H Q ∨ rCatA X.K x y H Q) ∨ rCatW X.K x y H Q) := op_addW.or op_catW
mutual
theorem bndV_up {k m : Nat} (hk : k ≤ m) : ∀ v : Cd.Val, Cd.bndV k v = true → Cd.bndV m v = true
  | .non, _ => rfl
  | .bl _, _ => rfl
  | .int _, _ => rfl
  | .str _, _ => rfl
  | .exo _, _ => rfl
  | .tup l, b => by unfold Cd.bndV at *; exact bndVs_up hk l b
  | .fl l, b => by unfold Cd.bndV at *; exact bndVs_up hk l b
  | .ref n, b => by unfold Cd.bndV at *; exact decide_eq_true (Nat.lt_of_lt_of_le (of_decide_eq_true b) hk)
theorem bndVs_up {k m : Nat} (hk : k ≤ m) : ∀ l : List Cd.Val, Cd.bndVs k l = true → Cd.bndVs m l = true
  | [], _ => rfl
  | v :: l, b => by
    unfold Cd.bndVs at *
    rw [Bool.and_eq_true] at *
    exact ⟨bndV_up hk v b.1, bndVs_up hk l b.2⟩
end
mutual
theorem mapR_bnd {f : Nat → Option Cd.Val} : ∀ v : Cd.Val, Cd.bndV 0 v = true → Cd.mapR f v = some v
  | .non, _ => rfl
  | .bl _, _ => rfl
  | .int _, _ => rfl
  | .str _, _ => rfl
  | .exo _, _ => rfl
  | .tup l, b => by unfold Cd.bndV at b; rw [Cd.mapR, mapRs_bnd l b]; rfl
  | .fl l, b => by unfold Cd.bndV at b; rw [Cd.mapR, mapRs_bnd l b]; rfl
  | .ref n, b => by unfold Cd.bndV at b; exact absurd (of_decide_eq_true b) (Nat.not_lt_zero n)
theorem mapRs_bnd {f : Nat → Option Cd.Val} : ∀ l : List Cd.Val, Cd.bndVs 0 l = true → Cd.mapRs f l = some l
  | [], _ => rfl
  | v :: l, b => by
    unfold Cd.bndVs at b
    rw [Bool.and_eq_true] at b
    rw [Cd.mapRs, mapR_bnd v b.1, mapRs_bnd l b.2]
    rfl
end
theorem k_kl {X : Cx} {ca : String → Value} {W : WX} {e : Expr} {a : Cd.AM} {l : List Cd.Val} (G : KE X ca W e (Cd.eLst a)) (ha : ∀ η h, a η h = .ok l h) (sz : l.length ≤ 1000) (b : Cd.bndVs 0 l = true) : KE X ca W e (Cd.eKl l) := by
  have q : Cd.eGc 4 4 (Cd.eLst a) = Cd.eKl l := by
    funext η h
    have z : Cd.szOk l.length := by rw [line_eq, sizeLine_eq]; omega
    unfold Cd.eGc Cd.eLst
    rw [ha]
    simp only [Cd.Res.bind_ok]
    rw [if_pos z]
    unfold Cd.gc
    simp only
    have c : Cd.cutOk h (h ++ [.lst l]) := ⟨by rw [List.length_append]; omega, fun n hn => .inl (List.getElem?_append_left hn)⟩
    have e1 : (h ++ [Cd.Obj.lst l])[h.length]? = some (.lst l) := by rw [List.getElem?_append_right (Nat.le_refl _), Nat.sub_self]; rfl
    have nl : h.length ≠ (h ++ [Cd.Obj.lst l]).length := by rw [List.length_append]; simp
    rw [if_pos c, Cd.mapR, Cd.fz, if_neg (Nat.lt_irrefl _), if_neg nl, e1]
    simp only [mapRs_bnd l b, Option.map_some, List.take_left]
    rfl
  rw [← q]
  exact k_gc 4 4 G
end
end Cb

set_option Elab.async false
set_option linter.all false
set_option maxRecDepth 100000
set_option maxHeartbeats 4000000
/-! CdB21: the bridge: is not True, list * int. -/
namespace Cb
open PySem PySem.Spec PyProof.Rows L2 TL
section
variable {X : Cx} {K : PySem.W.Frag}
theorem op_notB : OpR X (compareOp .IsNot) (fun x y H Q => ∃ k, y = V.bl k ∧ Q (.bl (!decide (x = .bl k))) H) := by
  intro pins s σ H x y v u Q I rx ry h
  obtain ⟨k, rfl, q⟩ := h
  cases (show u = Value.bool k from ry)
  have off : x ≠ .bl k → plainIs v (.bool k) = true → v ≠ .bool k → wpAny (model X.prog X.w) X.A (compareOp .IsNot v (.bool k)) (EP X pins σ Q) X.xe s := fun n p ne =>
    wpAny_isNot_other p ne ⟨.bl true, H, I, rfl, by simpa [n] using q⟩
  cases x with
  | bl j =>
    cases (show v = Value.bool j from rx)
    by_cases e : j = k
    · subst e
      exact wpAny_isNot_self rfl ⟨.bl false, H, I, rfl, by simpa using q⟩
    · exact off (fun z => e (V.bl.inj z)) rfl (fun z => e (Value.bool.inj z))
  | ref c => cases rx; exact off (fun z => by cases z) rfl (fun z => by cases z)
  | non => cases rx; exact off (fun z => by cases z) rfl (fun z => by cases z)
  | int i => obtain ⟨t, rfl⟩ := rx; exact off (fun z => by cases z) rfl (fun z => by cases z)
  | str i => obtain ⟨t, rfl⟩ := rx; exact off (fun z => by cases z) rfl (fun z => by cases z)
  | byt i => obtain ⟨t, rfl⟩ := rx; exact off (fun z => by cases z) rfl (fun z => by cases z)
  | flt i => obtain ⟨t, rfl⟩ := rx; exact off (fun z => by cases z) rfl (fun z => by cases z)
  | ty n => cases rx; exact off (fun z => by cases z) rfl (fun z => by cases z)
theorem bf_notB : BinF K Cd.oNotB (fun x y H Q => ∃ k, y = V.bl k ∧ Q (.bl (!decide (x = .bl k))) H) := by
  intro ρ h H d e u x y Q S r1 r2 hu k
  unfold Cd.oNotB at hu
  split at hu
  · rename_i b
    cases hu
    cases r2
    refine ⟨b, rfl, ?_⟩
    have ev : decide (x = V.bl b) = Cd.isB d b := by
      cases r1 with
      | bl j =>
        show decide (V.bl j = V.bl b) = (j == b)
        by_cases e : j = b
        · subst e; simp
        · rw [decide_eq_false (fun z => e (V.bl.inj z))]
          exact (beq_false_of_ne e).symm
      | _ => exact decide_eq_false (fun z => by cases z)
    rw [ev]
    exact k ρ H _ (Step.refl _ _) S (.bl _)
  · cases hu
theorem RVs.flat {ρ : List Addr} {H : Hp} {ds : List Cd.Val} {vs : List V} (r : RVs K ρ H ds vs) : ∀ n : Nat, RVs K ρ H (List.replicate n ds).flatten (List.replicate n vs).flatten
  | 0 => .nil
  | n + 1 => by
    rw [List.replicate_succ, List.replicate_succ, List.flatten_cons, List.flatten_cons]
    exact r.append (RVs.flat r n)
theorem bg_rep : BinG K Cd.oRepL rRep := by
  intro ρ h h' H d e u x y Q S r1 r2 eo k
  unfold Cd.oRepL at eo
  split at eo
  · rename_i n i
    split at eo
    · rename_i l hl
      split at eo
      · rename_i hz
        cases eo
        cases r1 with
        | ref q1 =>
          cases r2
          obtain ⟨vs, e1, rs⟩ := S.obj _ _ _ hl q1
          obtain ⟨z1, z2, z3⟩ := hz
          rw [Cd.line_is] at z2
          refine ⟨_, _, vs, rfl, rfl, e1, by omega, by omega, ?_, lay_k S (rs.flat _) k⟩
          rw [← rs.length, sizeLine_eq, ← Cd.line_is]
          exact z3
      · cases eo
    · cases eo
  · cases eo
theorem bg_times : BinG K Cd.oTimes (fun x y H Q => ((rI CMulA fun i j => .int (i * j)) x y H Q ∨ (fun x y H Q => ∃ a i, x = V.str a ∧ y = V.int i ∧ MulOk a i ∧ Q (V.str (Txt.mul a i)) H) x y H Q) ∨ rRep x y H Q) := bg_of bf_mulS bg_rep
theorem op_times : OpR X (binaryOp .Mult) (fun x y H Q => ((rI CMulA fun i j => .int (i * j)) x y H Q ∨ (fun x y H Q => ∃ a i, x = V.str a ∧ y = V.int i ∧ MulOk a i ∧ Q (V.str (Txt.mul a i)) H) x y H Q) ∨ rRep x y H Q) := op_mulS.or op_rep
end
end Cb

set_option maxRecDepth 100000
/-! CdCore5: ljust, comprehensions of dicts, sum, index, pop at a place, the sorted keys of a dict. -/
namespace Cd
open Classical
noncomputable section
def mLjust : Val → BFn := fun x vs h => match x, vs with
  | .str s, [.int i] => if padOk i then some (.str (s ++ List.replicate (i.toNat - s.length) 32), h) else none
  | _, _ => none
def compD (g : GM) (chk : Hep → Bool) (c : TM) (ek ev : EM) (η : Env) : List Val → List (Val × Val) → Hep → Res (List (Val × Val))
  | [], acc, h => if chk h then .ok acc h else .stuck
  | x :: xs, acc, h => if chk h then
      match g x η with
      | some η1 => match c η1 h with
        | .ok k h1 => if k then
            match ek η1 h1 with
            | .ok y h2 => match ev η1 h2 with
              | .ok z h3 => if isKey y = true ∧ szOk (acc.length + 1) then compD g chk c ek ev η xs (dPut acc y z) h3 else .stuck
              | _ => .stuck
            | _ => .stuck
          else compD g chk c ek ev η xs acc h1
        | _ => .stuck
      | none => .stuck
    else .stuck
/-- {k: v for .. in .. if ..} -/
def eDComp (vs : List Nat) (it : IM) (g : GM) (c : TM) (ek ev : EM) : EM := fun η h => (it η h).bind fun p h1 => (compD g p.2 c ek ev (wipe η vs) p.1 [] h1).bind fun kvs h2 => .ok (.ref h2.length) (h2 ++ [.dct kvs])
/-- the numbers, all -/
def intsV : List Val → Option (List Int)
  | [] => some []
  | .int i :: l => (intsV l).map (i :: ·)
  | _ :: _ => none
/-- sum of a list or tuple of ints -/
def bSum : BFn := fun vs h => match vs with
  | [x] => match itsL h x with
    | some l => match intsV l with
      | some ns => some (.int ns.sum, h)
      | none => none
    | none => none
  | _ => none
/-! ### instances -/
def lookF : List (String × Val) → String → Option Val
  | [], _ => none
  | (k, v) :: l, f => if k = f then some v else lookF l f
def putF : List (String × Val) → String → Val → List (String × Val)
  | [], f, v => [(f, v)]
  | (k, w) :: l, f, v => if k = f then (k, v) :: l else (k, w) :: putF l f v
/-- x.f, x an instance of one of these classes -/
def oFld (cs : List String) (f : String) (h : Hep) (x : Val) : Option Val := match x with
  | .ref n => match h[n]? with
    | some (.ins c fs) => if c ∈ cs then lookF fs f else none
    | _ => none
  | _ => none
def setF (cs : List String) (f : String) (h : Hep) (x v : Val) : Option Hep := match x with
  | .ref n => match h[n]? with
    | some (.ins c fs) => if c ∈ cs ∧ fs.length < 1000 then some (h.set n (.ins c (putF fs f v))) else none
    | _ => none
  | _ => none
/-- x.f = e -/
def sSetFld (cs : List String) (f : String) (o e : EM) : SM := fun η h => (e η h).thn η fun v h1 => (o η h1).thn η fun x h2 => match setF cs f h2 x v with
  | some h3 => .nx η h3
  | none => .stuck
/-- the instance at a value, of this class, that hides no method m -/
def isIns (c m : String) (h : Hep) (x : Val) : Prop := ∃ n fs, x = .ref n ∧ h[n]? = some (.ins c fs) ∧ lookF fs m = none
/-- o.m(..) -/
def eMeth (c m : String) (F : Fn) (o : EM) (as : AM) : EM := fun η h => (o η h).bind fun x h1 => if isIns c m h1 x then (as η h1).bind fun vs h2 => F (x :: vs) h2 else .stuck
def made (n : Nat) : Res Val → Res Val
  | .ok .non h => .ok (.ref n) h
  | .ok _ _ => .stuck
  | .exc e h => .exc e h
  | .stuck => .stuck
/-- C(..) -/
def eMake (c : String) (F : Fn) (as : AM) : EM := fun η h => (as η h).bind fun vs h1 => made h1.length (F (.ref h1.length :: vs) (h1 ++ [.ins c []]))
/-- list of a text -/
def bListS : BFn := fun vs h => match vs with
  | [.str s] => if szOk s.length then some (.ref h.length, h ++ [.lst (s.map fun c => .str [c])]) else none
  | _ => none
def bListA : BFn := bOr bList bListS
/-- enumerate of a text -/
def enumS (s : List Nat) : List Val := s.zipIdx.map fun p => .tup [.int (p.2 : Nat), .str [p.1]]
def fEnumS (_ : Hep) : List Val → Option (List Val × (Hep → Bool))
  | [.str s] => some (enumS s, fun _ => true)
  | _ => none
/-- the keys of a dict, all numbers -/
def keysI : List (Val × Val) → Option (List Int)
  | [] => some []
  | (.int i, _) :: l => (keysI l).map (i :: ·)
  | _ :: _ => none
/-- sorted of a dict of numbers -/
def bSortD : BFn := fun vs h => match vs with
  | [.ref n] => match h[n]? with
    | some (.dct l) => match keysI l with
      | some ks => if szOk ks.length then some (.ref h.length, h ++ [.lst ((srtI ks).map .int)]) else none
      | none => none
    | _ => none
  | _ => none
def bSortA : BFn := bOr bSortI bSortD
end
end Cd

set_option Elab.async false
set_option linter.all false
set_option maxRecDepth 100000
set_option maxHeartbeats 4000000
/-! CdB22: the bridge: ljust, comprehensions of dicts, sum. -/
namespace Cb
open PySem PySem.Spec PyProof.Rows L2 TL
section
variable {K : PySem.W.Frag}
theorem ljust_eq (s : List Nat) (i : Int) : Txt.ljust (toS s) i = toS (s ++ List.replicate (i.toNat - s.length) 32) := by
  refine ext_tl ?_
  unfold Txt.ljust
  by_cases q : i ≤ s.length
  · rw [if_pos (show i ≤ ((toS s).length : Int) from q)]
    have z : i.toNat - s.length = 0 := by omega
    rw [z]
    simp
  · rw [if_neg (show ¬ i ≤ ((toS s).length : Int) from q)]
    show tl (Builtin.Str.padded (toS s) 0 (i.toNat - s.length) 32) = _
    simp [tl, Builtin.Str.padded, toS]
theorem mf_ljust : MthF K Cd.mLjust (fun x xs H Q => ∃ (a : Str) (i : Int), x = .str a ∧ xs = [.int i] ∧ PadOk i = true ∧ Q (.str (Txt.ljust a i)) H) := by
  intro ρ h h' H x ds u ox xs Q S r1 r2 e k
  unfold Cd.mLjust at e
  split at e
  · rename_i s i
    split at e
    · rename_i hi
      cases e
      cases r1
      obtain ⟨y, rfl, ry⟩ := one_rv r2
      cases ry
      obtain ⟨h1, h2⟩ := hi
      rw [Cd.line_is] at h1
      refine ⟨_, i, rfl, rfl, ?_, ?_⟩
      · unfold PadOk fitsSsize Builtin.Str.tooLong
        rw [sizeLine_eq]
        simp
        omega
      · rw [ljust_eq]
        exact k ρ H _ (Step.refl _ _) S (.str _)
    · cases e
  · cases e
end
section
variable {K : PySem.W.Frag} {D : Addr} {acc acc' : List (Key × V)} {ρ ρ' : List Addr} {H H' : Hp} {h h' : Cd.Hep}
theorem sqT_appK (hD : H D = some (.dK acc)) {a : Addr} {vs : List V} (q : SqT K H a vs) : SqT K (upd H D (.dK acc')) a vs := by
  rcases q with (q | ⟨o, q⟩) | q
  · have n : a ≠ D := fun z => by rw [z, hD] at q; cases q
    exact .inl (.inl (by rw [upd_ne n]; exact q))
  · have n : a ≠ D := fun z => by rw [z, hD] at q; cases q
    exact .inl (.inr ⟨o, by rw [upd_ne n]; exact q⟩)
  · exact .inr q
theorem fzL_appK (hD : H D = some (.dK acc)) {a : Addr} {vs : List V} (q : FzL K H a vs) : FzL K (upd H D (.dK acc')) a vs := by
  rcases q with ⟨o, q⟩ | q
  · have n : a ≠ D := fun z => by rw [z, hD] at q; cases q
    exact .inl ⟨o, by rw [upd_ne n]; exact q⟩
  · exact .inr q
mutual
theorem RV.appK (hD : H D = some (.dK acc)) : ∀ {d : Cd.Val} {v : V}, RV K ρ H d v → RV K ρ (upd H D (.dK acc')) d v
  | _, _, .non => .non
  | _, _, .bl b => .bl b
  | _, _, .int i => .int i
  | _, _, .str s => .str s
  | _, _, .tup h r => .tup (sqT_appK hD h) (RVs.appK hD r)
  | _, _, .fl h r => .fl (fzL_appK hD h) (RVs.appK hD r)
  | _, _, .ref h => .ref h
  | _, _, .exo a => .exo a
theorem RVs.appK (hD : H D = some (.dK acc)) : ∀ {ds : List Cd.Val} {vs : List V}, RVs K ρ H ds vs → RVs K ρ (upd H D (.dK acc')) ds vs
  | _, _, .nil => .nil
  | _, _, .cons h t => .cons (RV.appK hD h) (RVs.appK hD t)
end
theorem RD.appK {l : List (Cd.Val × Cd.Val)} {kvs : List (Key × V)} (hD : H D = some (.dK acc)) (r : RD K ρ H l kvs) : RD K ρ (L2.upd H D (.dK acc')) l kvs := by
  induction r with
  | nil => exact .nil
  | cons e r t ih => exact .cons e (RV.appK hD r) ih
theorem RF.appK {l : List (String × Cd.Val)} {kvs : List (Str × V)} (hD : H D = some (.dK acc)) (r : RF K ρ H l kvs) : RF K ρ (upd H D (.dK acc')) l kvs := by
  induction r with
  | nil => exact .nil
  | cons r t ih => exact .cons (RV.appK hD r) ih
theorem Sim.appK (S : Sim K ρ h H) (hD : H D = some (.dK acc)) (nD : D ∉ ρ) : Sim K ρ h (upd H D (.dK acc')) := by
  refine ⟨S.len, S.nd, fun i o a hi ha => ?_⟩
  have q := S.obj i o a hi ha
  have n : a ≠ D := fun z => nD (z ▸ List.mem_iff_getElem?.mpr ⟨i, ha⟩)
  cases o with
  | lst l =>
    obtain ⟨vs, e1, rs⟩ := q
    exact ⟨vs, by rw [upd_ne n]; exact e1, RVs.appK hD rs⟩
  | dct l =>
    obtain ⟨vs, e1, rs⟩ := q
    exact ⟨vs, by rw [upd_ne n]; exact e1, RD.appK hD rs⟩
  | ins c fs =>
    obtain ⟨C, dx, vs, e1, cn, rs⟩ := q
    exact ⟨C, dx, vs, by rw [upd_ne n]; exact e1, cn, RF.appK hD rs⟩
theorem RE.appK {η : Cd.Env} {σ : L2.St} (r : RE K ρ H η σ) (hD : H D = some (.dK acc)) : RE K ρ (upd H D (.dK acc')) η σ := ⟨r.len, fun i d e => by
  obtain ⟨v, h1, h2⟩ := r.at_ i d e
  exact ⟨v, h1, RV.appK hD h2⟩⟩
/-- the dict becomes a place -/
theorem Sim.placeK {kvs : List (Key × V)} {ds : List (Cd.Val × Cd.Val)} (S : Sim K ρ h H) (hD : H D = some (.dK kvs)) (nD : D ∉ ρ) (r : RD K ρ H ds kvs) : Sim K (ρ ++ [D]) (h ++ [.dct ds]) H := by
  have up : ∀ {d : Cd.Val} {v : V}, RV K ρ H d v → RV K (ρ ++ [D]) H d v := fun q => Sim.place.rv_more q
  have ups : ∀ {ds : List Cd.Val} {vs : List V}, RVs K ρ H ds vs → RVs K (ρ ++ [D]) H ds vs := fun q => Sim.place.rvs_more q
  have upd' : ∀ {l : List (Cd.Val × Cd.Val)} {vs : List (Key × V)}, RD K ρ H l vs → RD K (ρ ++ [D]) H l vs := by
    intro l vs rs
    induction rs with
    | nil => exact .nil
    | cons e r t ih => exact .cons e (up r) ih
  refine ⟨by rw [List.length_append, List.length_append, S.len]; rfl, List.nodup_append.mpr ⟨S.nd, by simp, fun a ha b hb => by
    rw [List.mem_singleton.mp hb]
    rintro rfl
    exact nD ha⟩, fun i w a hi ha => ?_⟩
  by_cases hl : i < h.length
  · rw [List.getElem?_append_left hl] at hi
    rw [List.getElem?_append_left (by rw [S.len]; exact hl)] at ha
    have q := S.obj i w a hi ha
    cases w with
    | lst l => obtain ⟨vs, e1, rs⟩ := q; exact ⟨vs, e1, ups rs⟩
    | dct l => obtain ⟨vs, e1, rs⟩ := q; exact ⟨vs, e1, upd' rs⟩
    | ins c fs =>
      obtain ⟨C, dx, vs, e1, cn, rs⟩ := q
      refine ⟨C, dx, vs, e1, cn, ?_⟩
      clear e1 hi
      induction rs with
      | nil => exact .nil
      | cons r t ih => exact .cons (up r) ih
  · have e : i = h.length := by
      have := (List.getElem?_eq_some_iff.mp hi).1
      rw [List.length_append] at this
      simp at this
      omega
    subst e
    rw [List.getElem?_append_right (Nat.le_refl _), Nat.sub_self] at hi
    rw [List.getElem?_append_right (by rw [S.len]; exact Nat.le_refl _), S.len, Nat.sub_self] at ha
    cases hi
    cases ha
    exact ⟨kvs, hD, upd' r⟩
end
section
variable {X : Cx} {ca : String → Value} {W : WX}
theorem compD_noexc {g : Cd.GM} {chk : Cd.Hep → Bool} {c : Cd.TM} {ek ev : Cd.EM} {η : Cd.Env} : ∀ {xs : List Cd.Val} {acc : List (Cd.Val × Cd.Val)} {h : Cd.Hep} {ex : Cd.Exc} {h2 : Cd.Hep}, Cd.compD g chk c ek ev η xs acc h = .exc ex h2 → False
  | [], acc, h, ex, h2, q => by
    rw [Cd.compD] at q
    split at q <;> cases q
  | x :: xs, acc, h, ex, h2, q => by
    rw [Cd.compD] at q
    split at q
    · split at q
      · split at q
        · split at q
          · split at q
            · split at q
              · split at q
                · exact compD_noexc q
                · cases q
              · cases q
            · cases q
          · exact compD_noexc q
        · cases q
      · cases q
    · cases q
theorem compD_post {K : PySem.W.Frag} {g : Cd.GM} {gt : TG} {tc : Cd.TM} {tt : TT} {mk mv : Cd.EM} {tk tv : TE} {vs : List Nat} (hg : OwnG K vs g gt) (ht : ∀ σ H Q, tT K ca W0 tc σ H Q → tt σ H Q) (hek : ∀ σ H Q, tE K ca W0 mk σ H Q → tk σ H Q) (hev : ∀ σ H Q, tE K ca W0 mv σ H Q → tv σ H Q) {J : It} {ds : List Cd.Val} {chk : Cd.Hep → Bool} {ρ0 : List Addr} {H0 : Hp} {h0 : Cd.Hep} {η : Cd.Env} {σ : L2.St} {Q : VK} {D : Addr}
    (F : ItF K J ds chk ρ0 H0) (S : Sim K ρ0 h0 H0) (re : RE K ρ0 H0 η σ) (nD : H0 D = none)
    (p : ∃ ys h', Cd.compD g chk tc mk mv (Cd.wipe η vs) ds [] h0 = .ok ys h' ∧ ∀ ρ' H' x, Step ρ0 H0 ρ' H' → Sim K ρ' (h' ++ [.dct ys]) H' → RV K ρ' H' (.ref h'.length) x → Q x H') (hv : L2.wipe (L2.wipe σ vs) vs = L2.wipe σ vs) :
    ∃ Wv : Nat → Nat → Hp → Prop, (∃ m, Wv 0 m (upd H0 D (.dK []))) ∧ ∀ i m H, Wv i m H →
      (J.stop i H ∧ Q (.ref D) H) ∨ (J.go i H ∧ ∃ Nx : Hp → Prop, (∀ H', Nx H' → ∃ m', m' < m ∧ Wv (i + 1) m' H') ∧ ∀ x H', J.yld i H x H' → gt x (L2.wipe σ vs) H' fun σ2 H2 => L2.wipe σ2 vs = L2.wipe σ vs ∧ tt σ2 H2 fun b H3 =>
        if b = true then tk σ2 H3 fun y H4 => tv σ2 H4 fun z H5 => ∃ kvs k, y = kV k ∧ H5 D = some (.dK kvs) ∧ kvs.length < sizeLine ∧ Nx (upd H5 D (.dK (putK kvs k z))) else Nx H3) := by
  obtain ⟨ys, hE, ey, k⟩ := p
  refine ⟨fun i m H => (m + i = ds.length + 1 ∧ i ≤ ds.length) ∧ ∃ ρ h accd acc, StepD D ρ0 (upd H0 D (.dK [])) ρ H ∧ Sim K ρ h H ∧ H D = some (.dK acc) ∧ D ∉ ρ ∧ RE K ρ H (Cd.wipe η vs) (L2.wipe σ vs) ∧ RD K ρ H accd acc ∧ Cd.compD g chk tc mk mv (Cd.wipe η vs) (ds.drop i) accd h = .ok ys hE,
    ⟨ds.length + 1, ⟨rfl, Nat.zero_le _⟩, ρ0, h0, [], [], ⟨List.prefix_rfl, fun a o _ _ e => e, fun _ m n => absurd m n⟩, S.out nD, upd_same, fun m => S.some_of m nD, (re.wipe vs).mono (Step.out D _ nD) S, .nil, ey⟩, ?_⟩
  rintro i m H ⟨⟨em, eil⟩, ρ, h, accd, acc, st, Si, hD, nDρ, rw_, racc, er⟩
  have st0 : Step ρ0 H0 ρ H := by
    refine ⟨st.pre, fun a o n e => ?_, fun a m n => ?_⟩
    · have ne : a ≠ D := fun z => by rw [z, nD] at e; cases e
      exact st.fr a o n ne (by rw [upd_ne ne]; exact e)
    · have ne : a ≠ D := fun z => nDρ (z ▸ m)
      have := st.new a m n
      rwa [upd_ne ne] at this
  by_cases hi : i < ds.length
  · rw [List.drop_eq_getElem_cons hi, Cd.compD] at er
    split at er
    · rename_i hc
      refine .inr ⟨F.go ρ H h i st0 Si hc hi, fun H' => ∃ ρ h accd acc, StepD D ρ0 (upd H0 D (.dK [])) ρ H' ∧ Sim K ρ h H' ∧ H' D = some (.dK acc) ∧ D ∉ ρ ∧ RE K ρ H' (Cd.wipe η vs) (L2.wipe σ vs) ∧ RD K ρ H' accd acc ∧ Cd.compD g chk tc mk mv (Cd.wipe η vs) (ds.drop (i + 1)) accd h = .ok ys hE,
        fun H' w => ⟨m - 1, by omega, ⟨by omega, by omega⟩, w⟩, fun x H' y => ?_⟩
      obtain ⟨st1, S1, r1⟩ := F.yld ρ H h i ds[i] x H' st0 Si hc (List.getElem?_eq_getElem hi) y
      have keepD : ∀ {ρa ρb : List Addr} {Ha Hb : Hp} {ac : List (Key × V)}, Step ρa Ha ρb Hb → D ∉ ρa → Ha D = some (.dK ac) → Hb D = some (.dK ac) ∧ D ∉ ρb := fun s n e => ⟨s.fr D _ n e, fun mm => by
        have := s.new D mm n
        rw [this] at e; cases e⟩
      have dne : (upd H0 D (.dK [])) D ≠ none := by rw [upd_same]; exact fun z => nomatch z
      have ne_of_not : ∀ {ρb : List Addr}, D ∉ ρb → ∀ z, z ∈ ρb → z ≠ D := fun n z m e => n (e ▸ m)
      obtain ⟨hD1, nD1⟩ := keepD st1 nDρ hD
      cases eg : g ds[i] (Cd.wipe η vs) with
      | none => rw [eg] at er; cases er
      | some η1 =>
        rw [eg] at er
        simp only at er
        refine hg ρ h H' (Cd.wipe η vs) η1 (L2.wipe σ vs) ds[i] x _ S1 (rw_.mono st1 Si) r1 eg fun σ2 re2 hw => ⟨hw hv, ?_⟩
        refine ht _ _ _ ⟨ρ, h, η1, S1, re2, ?_⟩
        cases ec : tc η1 h with
        | stuck => rw [ec] at er; cases er
        | exc _ _ => rw [ec] at er; cases er
        | ok kk h1 =>
          rw [ec] at er
          simp only at er
          intro ρ2 H2 b st2 S2 rb
          cases (show kk = b from rb)
          obtain ⟨hD2, nD2⟩ := keepD st2 nD1 hD1
          have sD2 : StepD D ρ0 (upd H0 D (.dK [])) ρ2 H2 := (st.trans (st1.trans st2).toD dne (ne_of_not nD2))
          cases kk with
          | false =>
            simp only [Bool.false_eq_true, if_false] at er ⊢
            exact ⟨ρ2, h1, accd, acc, sD2, S2, hD2, nD2, (rw_.mono st1 Si).mono st2 S1, (racc.mono st1 Si).mono st2 S1, er⟩
          | true =>
            simp only [if_true] at er ⊢
            refine hek _ _ _ ⟨ρ2, h1, η1, S2, re2.mono st2 S1, ?_⟩
            cases ee : mk η1 h1 with
            | stuck => rw [ee] at er; cases er
            | exc _ _ => rw [ee] at er; cases er
            | ok y1 h2 =>
              rw [ee] at er
              simp only at er
              intro ρ3 H3 yv st3 S3 ry
              obtain ⟨hD3, nD3⟩ := keepD st3 nD2 hD2
              refine hev _ _ _ ⟨ρ3, h2, η1, S3, (re2.mono st2 S1).mono st3 S2, ?_⟩
              cases ev : mv η1 h2 with
              | stuck => rw [ev] at er; cases er
              | exc _ _ => rw [ev] at er; cases er
              | ok z1 h3 =>
                rw [ev] at er
                simp only at er
                intro ρ4 H4 zv st4 S4 rz
                obtain ⟨hD4, nD4⟩ := keepD st4 nD3 hD3
                split at er
                · rename_i hk
                  obtain ⟨hk, hz⟩ := hk
                  obtain ⟨κ, eκ⟩ := keyOf_some hk
                  have racc4 := (((racc.mono st1 Si).mono st2 S1).mono st3 S2).mono st4 S3
                  have sD4 : StepD D ρ0 (upd H0 D (.dK [])) ρ4 H4 := st.trans (((st1.trans st2).trans st3).trans st4).toD dne (ne_of_not nD4)
                  refine ⟨acc, κ, key_rv eκ (ry.mono st4 S3), hD4, ?_, ρ4, h3, Cd.dPut accd y1 z1, putK acc κ zv, ?_, S4.appK hD4 nD4, upd_same, nD4, ((((rw_.mono st1 Si).mono st2 S1).mono st3 S2).mono st4 S3).appK hD4, RD.appK hD4 (racc4.put eκ rz), er⟩
                  · rw [line_eq, racc.length] at hz
                    omega
                  · exact ⟨sD4.pre, fun a o n ne e => by rw [upd_ne ne]; exact sD4.fr a o n ne e, sD4.new⟩
                · cases er
    · cases er
  · rw [List.drop_eq_nil_of_le (by omega), Cd.compD] at er
    split at er
    · rename_i hc
      cases er
      refine .inl ⟨F.stop ρ H _ i st0 Si hc (by omega), k (ρ ++ [D]) H _ ?_ (Si.placeK hD nDρ racc) (.ref ?_)⟩
      · refine ⟨st0.pre.trans ⟨[D], rfl⟩, st0.fr, fun a m n => ?_⟩
        rcases List.mem_append.mp m with m | m
        · exact st0.new a m n
        · rw [List.mem_singleton.mp m]; exact nD
      · rw [← Si.len, List.getElem?_append_right (Nat.le_refl _), Nat.sub_self]; rfl
    · cases er
theorem tDc_of {mi : Cd.IM} {g : Cd.GM} {gt : TG} {tc : Cd.TM} {tt : TT} {mk mv : Cd.EM} {tk tv : TE} {vs : List Nat} (hg : OwnG X.K vs g gt) (ht : ∀ σ H Q, tT X.K ca W0 tc σ H Q → tt σ H Q) (hek : ∀ σ H Q, tE X.K ca W0 mk σ H Q → tk σ H Q) (hev : ∀ σ H Q, tE X.K ca W0 mv σ H Q → tv σ H Q) (hv : ∀ σ : L2.St, L2.wipe (L2.wipe σ vs) vs = L2.wipe σ vs) :
    ∀ σ H Q, tE X.K ca W (Cd.eDComp vs mi g tc mk mv) σ H Q → tDc (tI X.K ca W mi) gt tt tk tv vs σ H Q := by
  rintro σ H Q ⟨ρ, h, η, S, re, p⟩
  refine ⟨ρ, h, η, S, re, ?_⟩
  unfold Cd.eDComp at p
  cases em : mi η h with
  | stuck => rw [em] at p; exact p.elim
  | exc e h' => rw [em] at p; exact p
  | ok q h1 =>
    rw [em] at p
    simp only [Cd.Res.bind_ok] at p
    intro ρ1 H1 J st1 S1 F D nD
    refine compD_post hg ht hek hev F S1 (re.mono st1 S) nD ?_ (hv σ)
    cases el : Cd.compD g q.2 tc mk mv (Cd.wipe η vs) q.1 [] h1 with
    | stuck => rw [el] at p; exact p.elim
    | exc e h2 => exact (compD_noexc el).elim
    | ok ys h2 =>
      rw [el] at p
      simp only [Cd.Res.bind_ok] at p
      exact ⟨ys, h2, rfl, fun ρ' H' x st S' r => p ρ' H' x (st1.trans st) S' r⟩
variable {pos p2 : Pos} {kx vx iter : Expr} {ifs : List Expr} {scope : Scope} {mi : Cd.IM} {tc : Cd.TM} {mk mv : Cd.EM}
/-- {kx: vx for x in iter if ..}, x in slot i -/
theorem k_dc1 (i : Nat) {x : Str} (hc : X.calm = true) (hN : X.N.Nodup) (hi : KI X ca W (.Name x p2) iter mi) (ok : blkC X.N X.env.scope scope [(x, i)] = true)
    (ht : ∀ (s : Shared) (H : Hp) (C : Addr) (cl : List (Str × Addr)) (fp : List Addr), PTs (X.blk s H scope (compEnvC scope cl C X.env) fp) ifs (tT X.K ca W0 tc))
    (hk : ∀ (s : Shared) (H : Hp) (C : Addr) (cl : List (Str × Addr)) (fp : List Addr), KE (X.blk s H scope (compEnvC scope cl C X.env) fp) ca W0 kx mk)
    (hv : ∀ (s : Shared) (H : Hp) (C : Addr) (cl : List (Str × Addr)) (fp : List Addr), KE (X.blk s H scope (compEnvC scope cl C X.env) fp) ca W0 vx mv)
    (hg : ∀ (s : Shared) (H : Hp) (C : Addr) (cl : List (Str × Addr)) (fp : List Addr), PG (X.blk s H scope (compEnvC scope cl C X.env) fp) (.Name x p2) (gName i)) (hs : ∀ x, foldedSetIterable iter X.env x = pure x := by intro _; rfl) :
    KE X ca W (.DictComp kx vx [⟨.Name x p2, iter, ifs, 0⟩] scope pos) (Cd.eDComp [i] mi (Cd.gNam i) tc mk mv) :=
  PE.wk (pe_dc (tk := tE X.K ca W0 mk) (tv := tE X.K ca W0 mv) (own := [(x, i)]) hc hN hi (blkOk_by ok) hg ht hk hv hs) (tDc_of (own_name i) (fun _ _ _ q => q) (fun _ _ _ q => q) (fun _ _ _ q => q) (wipe_one i))
theorem k_dc2n (i j : Nat) (ne : i ≠ j) {x y : Str} {px py : Pos} {kk : Nat} (hc : X.calm = true) (hN : X.N.Nodup) (hi : KI X ca W (.Tuple [.Name x px, .Name y py] kk p2) iter mi) (ok : blkC X.N X.env.scope scope [(x, i), (y, j)] = true)
    (ht : ∀ (s : Shared) (H : Hp) (C : Addr) (cl : List (Str × Addr)) (fp : List Addr), PTs (X.blk s H scope (compEnvC scope cl C X.env) fp) ifs (tT X.K ca W0 tc))
    (hk : ∀ (s : Shared) (H : Hp) (C : Addr) (cl : List (Str × Addr)) (fp : List Addr), KE (X.blk s H scope (compEnvC scope cl C X.env) fp) ca W0 kx mk)
    (hv : ∀ (s : Shared) (H : Hp) (C : Addr) (cl : List (Str × Addr)) (fp : List Addr), KE (X.blk s H scope (compEnvC scope cl C X.env) fp) ca W0 vx mv)
    (hg : ∀ (s : Shared) (H : Hp) (C : Addr) (cl : List (Str × Addr)) (fp : List Addr), PG (X.blk s H scope (compEnvC scope cl C X.env) fp) (.Tuple [.Name x px, .Name y py] kk p2) (gTup X.K 2 (gCons (gName i) (gCons (gName j) gNil)))) (hs : ∀ x, foldedSetIterable iter X.env x = pure x := by intro _; rfl) :
    KE X ca W (.DictComp kx vx [⟨.Tuple [.Name x px, .Name y py] kk p2, iter, ifs, 0⟩] scope pos) (Cd.eDComp [i, j] mi (Cd.gTpl (Cd.gsCons (Cd.gNam i) (Cd.gsCons (Cd.gNam j) Cd.gsNil))) tc mk mv) :=
  PE.wk (pe_dc (tk := tE X.K ca W0 mk) (tv := tE X.K ca W0 mv) (own := [(x, i), (y, j)]) hc hN hi (blkOk_by ok) hg ht hk hv hs) (tDc_of (own_two i j ne) (fun _ _ _ q => q) (fun _ _ _ q => q) (fun _ _ _ q => q) (wipe_two i j ne))
end
section
variable {K : PySem.W.Frag}
theorem intsV_rv {ρ : List Addr} {H : Hp} : ∀ {l : List Cd.Val} {ns : List Int} {vs : List V}, Cd.intsV l = some ns → RVs K ρ H l vs → vs = ns.map V.int
  | [], ns, vs, e, r => by cases e; cases r; rfl
  | .int i :: l, ns, vs, e, r => by
    cases r with
    | cons r1 rs =>
      unfold Cd.intsV at e
      cases eq : Cd.intsV l with
      | none => rw [eq] at e; cases e
      | some m =>
        rw [eq] at e
        cases e
        cases r1
        rw [intsV_rv eq rs]
        rfl
  | .non :: _, _, _, e, _ => by cases e
  | .bl _ :: _, _, _, e, _ => by cases e
  | .str _ :: _, _, _, e, _ => by cases e
  | .tup _ :: _, _, _, e, _ => by cases e
  | .fl _ :: _, _, _, e, _ => by cases e
  | .ref _ :: _, _, _, e, _ => by cases e
  | .exo _ :: _, _, _, e, _ => by cases e
theorem bf_sum : BFnF K Cd.bSum (rSum K) := by
  intro ρ h h' H ds u xs Q S r e k
  unfold Cd.bSum at e
  split at e
  · rename_i v
    cases el : Cd.itsL h v with
    | none => rw [el] at e; cases e
    | some m =>
      rw [el] at e
      simp only at e
      cases en : Cd.intsV m with
      | none => rw [en] at e; cases e
      | some ns =>
        rw [en] at e
        cases e
        obtain ⟨x, rfl, r0⟩ := one_rv r
        obtain ⟨a, vs, rfl, sq, rs⟩ := seq_of S r0 el
        have ev := intsV_rv en rs
        subst ev
        exact ⟨a, ns, rfl, sq, k ρ H _ (Step.refl _ _) S (.int _)⟩
  · cases e
end
end Cb

set_option Elab.async false
set_option linter.all false
set_option maxRecDepth 100000
set_option maxHeartbeats 4000000
/-! CdB23: the bridge: instances: made, their fields, their methods. -/
namespace Cb
open PySem PySem.Spec PyProof.Rows L2
theorem ofString_inj {a b : String} (h : Str.ofString a = Str.ofString b) : a = b := by
  rw [PySem.Str.ofString_eq_toList, PySem.Str.ofString_eq_toList] at h
  have h1 : List.map Char.toNat a.toList = List.map Char.toNat b.toList := by
    have := congrArg (fun s : Str => s.cps.toList) h
    simpa using this
  have inj : ∀ c d : Char, c.toNat = d.toNat → c = d := fun c d e => Char.toNat_inj.mp e
  have h2 : a.toList = b.toList := by
    generalize a.toList = l at h1
    generalize b.toList = m at h1
    induction l generalizing m with
    | nil => cases m with | nil => rfl | cons _ _ => simp at h1
    | cons c l ih => cases m with
      | nil => simp at h1
      | cons d m =>
        rw [List.map_cons, List.map_cons, List.cons.injEq] at h1
        rw [inj _ _ h1.1, ih _ h1.2]
  exact String.toList_inj.mp h2
section
variable {K : PySem.W.Frag} {ρ : List Addr} {H : Hp}
theorem RF.look {l : List (String × Cd.Val)} {kvs : List (Str × V)} (r : RF K ρ H l kvs) (f : String) : match Cd.lookF l f with | some d => ∃ v, kvs.lookup (Str.ofString f) = some v ∧ RV K ρ H d v | none => kvs.lookup (Str.ofString f) = none := by
  induction r with
  | nil => rfl
  | @cons k d v l kvs r t ih =>
    unfold Cd.lookF
    by_cases q : k = f
    · subst q
      rw [if_pos rfl]
      exact ⟨v, by rw [List.lookup_cons, beq_self_eq_true], r⟩
    · rw [if_neg q]
      have n : (Str.ofString f == Str.ofString k) = false := beq_false_of_ne fun z => q (ofString_inj z).symm
      rw [List.lookup_cons, n]
      exact ih
theorem RF.put {l : List (String × Cd.Val)} {kvs : List (Str × V)} (r : RF K ρ H l kvs) (f : String) {d : Cd.Val} {v : V} (rv : RV K ρ H d v) : RF K ρ H (Cd.putF l f d) (L2.putF (Str.ofString f) v kvs) := by
  induction r with
  | nil => exact .cons rv .nil
  | @cons k d' v' l kvs r t ih =>
    unfold Cd.putF
    rw [L2.putF.eq_2]
    by_cases q : k = f
    · subst q
      rw [if_pos rfl, if_pos rfl]
      exact .cons rv t
    · rw [if_neg q, if_neg (fun z => q (ofString_inj z))]
      exact .cons r ih
theorem RF.length {l : List (String × Cd.Val)} {kvs : List (Str × V)} (r : RF K ρ H l kvs) : l.length = kvs.length := by
  induction r with
  | nil => rfl
  | cons r t ih => rw [List.length_cons, List.length_cons, ih]
end
/-- what is known of a class and a field -/
structure FldC (K : PySem.W.Frag) (c : String) (f : Str) : Prop where
  mk' ::
  at_ : ∃ C, CN K c C ∧ Cls K C ∧ NoAttr K C f
theorem FldC.of {K : PySem.W.Frag} {c : String} {C : Addr} {f : Str} (cn : CN K c C) (cl : Cls K C) (na : NoAttr K C f) : FldC K c f := ⟨C, cn, cl, na⟩
theorem CN.uniq {K : PySem.W.Frag} {c : String} {C D : Addr} (h : CN K c C) (g : CN K c D) : C = D := by
  unfold CN at h g
  rw [h] at g
  cases g
  rfl
def FldCs (K : PySem.W.Frag) (cs : List String) (f : Str) : Prop := ∀ c ∈ cs, FldC K c f
theorem fldCs_nil {K : PySem.W.Frag} {f : Str} : FldCs K [] f := fun _ h => by cases h
theorem fldCs_cons {K : PySem.W.Frag} {c : String} {cs : List String} {f : Str} (h : FldC K c f) (t : FldCs K cs f) : FldCs K (c :: cs) f := fun d m => by
  rcases List.mem_cons.mp m with rfl | m
  · exact h
  · exact t d m
section
variable {X : Cx} {ca : String → Value} {W : WX} {o e : Expr} {mo me : Cd.EM} {pos p2 : Pos}
theorem k_fld {cs : List String} {f : String} (ho : KE X ca W o mo) (hc : FldCs X.K cs (Str.ofString f)) (hb : attributeBase o (Str.ofString f) X.env (eval o X.env) = eval o X.env := by rfl) : KE X ca W (.Attribute o (Str.ofString f) pos) (Cd.eUn (Cd.oFld cs f) mo) := by
  refine PE.wk (pe_fld ho hb) fun σ H Q ⟨ρ, h, η, S, re, p⟩ => ?_
  refine ⟨ρ, h, η, S, re, ?_⟩
  refine postG.first p fun ρ1 H1 h1 x ox st1 S1 r1 p1 => ?_
  obtain ⟨v, eo, kk⟩ := p1.ofO
  unfold Cd.oFld at eo
  split at eo
  · split at eo
    · rename_i c fs hl
      split at eo
      · rename_i hm
        cases r1 with
        | @ref _ a q =>
          obtain ⟨C, dx, kvs, e1, cn, rf⟩ := S1.obj _ _ _ hl q
          obtain ⟨C', cn', cl, na⟩ := (hc c hm).at_
          have := cn.uniq cn'
          subst this
          have lk := rf.look f
          rw [eo] at lk
          obtain ⟨w, e2, rw_⟩ := lk
          exact ⟨a, C, dx, kvs, w, rfl, e1, cl, na, e2, kk ρ1 H1 w (Step.refl _ _) S1 rw_⟩
      · cases eo
    · cases eo
  · cases eo
theorem ks_setFld {cs : List String} {f : String} (he : KE X ca W e me) (ho : KE X ca W o mo) (hc : FldCs X.K cs (Str.ofString f)) (hs : swapsWith e (some (.Attribute o (Str.ofString f) p2)) pos.line X.env = pure false := by rfl) : KS X ca W (.Assign [.Attribute o (Str.ofString f) p2] e pos) (Cd.sSetFld cs f mo me) := by
  refine PS.wk (ps_fld ho he hs) fun D σ H ⟨ρ, h, η, S, re, p⟩ => ?_
  refine ⟨ρ, h, η, S, re, postS.first S re p fun ρ1 H1 h1 v vv st1 S1 r1 re1 p1 => ?_⟩
  refine ⟨ρ1, h1, η, S1, re1, postS.first S1 re1 p1 fun ρ2 H2 h2 x ox st2 S2 r2 re2 p2 => ?_⟩
  cases es : Cd.setF cs f h2 x v with
  | none => rw [es] at p2; exact p2.elim
  | some h3 =>
    rw [es] at p2
    unfold Cd.setF at es
    split at es
    · split at es
      · rename_i c fs hl
        split at es
        · rename_i hm
          cases es
          cases r2 with
          | @ref _ a q =>
            obtain ⟨C, dx, kvs, e1, cn, rf⟩ := S2.obj _ _ _ hl q
            obtain ⟨C', cn', cl, na⟩ := (hc c hm.1).at_
            have := cn.uniq cn'
            subst this
            have st : Step ρ2 H2 ρ2 (upd H2 a (.ins C dx (L2.putF (Str.ofString f) vv kvs))) := Step.put q
            refine ⟨a, C, dx, kvs, rfl, e1, cl, na, by rw [← rf.length]; exact hm.2, p2 ρ2 _ σ st (S2.put q ⟨C, dx, _, upd_same, cn, (rf.put f (r1.mono st2 S1)).mono st S2⟩) (re2.mono st S2)⟩
        · cases es
      · cases es
    · cases es
/-- a method's call, exceptions as they are taken here -/
theorem pe_methSt {CX : CXT} {k : Nat} {f C : Addr} {fd : FuncData} {ps : List Str} {sp : Sp} {E : L2.St → XK} {m : Str} {apos : Pos} {es : List Expr} {ta : TE} {t : TA} {pl : Sem Bool}
    (he : PE X o ta) (c : Cls X.K C) (hm : Meth X.K C m f) (F : FnOk X.prog X.w X.K X.mg X.base CX k f fd ps sp) (hr : Room k X.A) (hb : Binds X.K fd ps []) (hx : ∀ σ, PassesAt CX X σ (E σ)) (ha : PA X (e :: es) t)
    (hst : starEach (e :: es) X.env = (false, eval e X.env) :: starEach es X.env) (hpl : ((backTo pos (starEach es X.env)).any fun x => x.1) = false)
    (ht : eval (.Call (.Attribute o m apos) (e :: es) [] pos) X.env = (do
      let ov ← eval o X.env
      standAt apos.atName
      let x ← holding [ov] (getMethod ov m pl)
      match x with
      | (f, first) => callWith pos f first (backTo pos (starEach (e :: es) X.env)) (backToKw pos (keywordEach [] X.env)))) :
    PE X (.Call (.Attribute o m apos) (e :: es) [] pos) (fun σ H Q => ta σ H fun x H1 => ∃ a dx fs, x = .ref a ∧ H1 a = some (.ins C dx fs) ∧ fs.lookup m = none ∧ t σ H1 fun vs H2 => sp (x :: vs) H2 Q (E σ)) :=
  ⟨fun pins s σ H Q I h => PySem.W.methodCall_KW (thn (he.run pins s σ H (fun x H1 => ∃ a dx fs, x = .ref a ∧ H1 a = some (.ins C dx fs) ∧ fs.lookup m = none ∧ t σ H1 fun vs H2 => sp (x :: vs) H2 Q (E σ)) I h) fun u s1 hx1 => by
    obtain ⟨x, H1, I1, rx, a, dx, fs, ex, ea, l, q⟩ := hx1
    subst ex
    have rx : u = .ref a := rx
    subst rx
    exact getmeth_ok I1 ea c hm l (PySem.W.callWith_K I.ok.mod.kin hm.kp (thn (ha.run pos pins s1 σ H1 (fun vs H2 => sp (.ref a :: vs) H2 Q (E σ)) I1 q) fun us s2 hy => by
      obtain ⟨vs, H2, I2, r, q2⟩ := hy
      exact ⟨I2.kIn, run_fnS F hr hb (hx σ) I2 (.cons (show RelV (V.ref a) (Value.ref a) from rfl) r) q2⟩) hst hpl)) ht⟩
theorem pe_methSt0 {CX : CXT} {k : Nat} {f C : Addr} {fd : FuncData} {ps : List Str} {sp : Sp} {E : L2.St → XK} {m : Str} {apos : Pos} {ta : TE} {pl : Sem Bool}
    (he : PE X o ta) (c : Cls X.K C) (hm : Meth X.K C m f) (F : FnOk X.prog X.w X.K X.mg X.base CX k f fd ps sp) (hr : Room k X.A) (hb : Binds X.K fd ps []) (hx : ∀ σ, PassesAt CX X σ (E σ))
    (ht : eval (.Call (.Attribute o m apos) [] [] pos) X.env = (do
      let ov ← eval o X.env
      standAt apos.atName
      let x ← holding [ov] (getMethod ov m pl)
      match x with
      | (f, first) => callWith pos f first (backTo pos (starEach [] X.env)) (backToKw pos (keywordEach [] X.env)))) :
    PE X (.Call (.Attribute o m apos) [] [] pos) (fun σ H Q => ta σ H fun x H1 => ∃ a dx fs, x = .ref a ∧ H1 a = some (.ins C dx fs) ∧ fs.lookup m = none ∧ sp [x] H1 Q (E σ)) :=
  ⟨fun pins s σ H Q I h => PySem.W.methodCall_KW (thn (he.run pins s σ H (fun x H1 => ∃ a dx fs, x = .ref a ∧ H1 a = some (.ins C dx fs) ∧ fs.lookup m = none ∧ sp [x] H1 Q (E σ)) I h) fun u s1 hx1 => by
    obtain ⟨x, H1, I1, rx, a, dx, fs, ex, ea, l, q⟩ := hx1
    subst ex
    have rx : u = .ref a := rx
    subst rx
    exact getmeth_ok I1 ea c hm l (PySem.W.callWith_K0 I1.kIn hm.kp (run_fnS F hr hb (hx σ) I1 (.cons (show RelV (V.ref a) (Value.ref a) from rfl) .nil) q))) ht⟩
/-- what is known of a class and a method -/
theorem tMeth_of {c m : String} {C : Addr} {n : Nat} {F : Cd.Fn} {mas : Cd.AM} (cn : CN X.K c C) (hn : ∀ η h vs h', mas η h = .ok vs h' → vs.length + 1 = n) : ∀ σ H Q, tE X.K ca W (Cd.eMeth c m F mo mas) σ H Q → tE X.K ca W mo σ H fun x H1 => ∃ a dx fs, x = .ref a ∧ H1 a = some (.ins C dx fs) ∧ fs.lookup (Str.ofString m) = none ∧ tA X.K ca W mas σ H1 fun vs H2 => spF X.K ca n F (x :: vs) H2 Q (WE W σ) := by
  rintro σ H Q ⟨ρ, h, η, S, re, p⟩
  refine ⟨ρ, h, η, S, re, postG.first p fun ρ1 H1 h1 x ox st1 S1 r1 p1 => ?_⟩
  by_cases q : Cd.isIns c m h1 x
  · rw [if_pos q] at p1
    obtain ⟨i, fs, rfl, hl, ln⟩ := q
    cases r1 with
    | @ref _ a hq =>
      obtain ⟨C', dx, kvs, e1, cn', rf⟩ := S1.obj _ _ _ hl hq
      have := cn'.uniq cn
      subst this
      have lk := rf.look m
      rw [ln] at lk
      refine ⟨a, dx, kvs, rfl, e1, lk, ρ1, h1, η, S1, re.mono st1 S, ?_⟩
      cases em : mas η h1 with
      | stuck => rw [em] at p1; exact p1.elim
      | exc e h' => rw [em] at p1; exact p1
      | ok ds h2 =>
        rw [em] at p1
        simp only [Cd.Res.bind_ok] at p1
        intro ρ2 H2 xs st2 S2 r2
        refine ⟨by rw [List.length_cons, ← r2.length, hn _ _ _ _ em], ρ2, h2, .ref i :: ds, S2, .cons (.ref (st2.ix hq)) r2, ?_⟩
        cases eF : F (.ref i :: ds) h2 with
        | stuck => rw [eF] at p1; exact p1.elim
        | ok v h3 => rw [eF] at p1; exact fun ρ3 H3 x st3 S3 r3 => p1 ρ3 H3 x (st2.trans st3) S3 r3
        | exc ex h3 => rw [eF] at p1; exact fun ρ3 H3 cls d st3 S3 r3 => p1 ρ3 H3 cls d (st2.trans st3) S3 r3
  · rw [if_neg q] at p1
    exact p1.elim
theorem k_meth {k n : Nat} {f C : Addr} {fd : FuncData} {ps : List Str} {F : Cd.Fn} {c m : String} {apos : Pos} {es : List Expr} {mas : Cd.AM} {pl : Sem Bool} (G : FnOk X.prog X.w X.K X.mg X.base (L2.CX X.prog X.w) k f fd ps (spF X.K ca n F)) (tk : Takes X W) (hr : Room k X.A) (cn : CN X.K c C) (cl : Cls X.K C) (hm : Meth X.K C (Str.ofString m) f) (hb : Binds X.K fd ps [])
    (hn : n = (e :: es).length + 1) (ho : KE X ca W o mo) (ha : KA X ca W (e :: es) mas) (hal : ∀ η h vs h', mas η h = .ok vs h' → vs.length = (e :: es).length)
    (ht : eval (.Call (.Attribute o (Str.ofString m) apos) (e :: es) [] pos) X.env = (do
      let ov ← eval o X.env
      standAt apos.atName
      let x ← holding [ov] (getMethod ov (Str.ofString m) pl)
      match x with
      | (f, first) => callWith pos f first (backTo pos (starEach (e :: es) X.env)) (backToKw pos (keywordEach [] X.env))))
    (he : starEach (e :: es) X.env = (false, eval e X.env) :: starEach es X.env := by rfl) (hpl : ((backTo pos (starEach es X.env)).any fun x => x.1) = false := by rfl) :
    KE X ca W (.Call (.Attribute o (Str.ofString m) apos) (e :: es) [] pos) (Cd.eMeth c m F mo mas) :=
  PE.wk (pe_methSt (E := fun σ => WE W σ) ho cl hm G hr hb (fun σ => passAt tk σ) ha he hpl ht) (tMeth_of cn (fun η h vs h' q => by rw [hal _ _ _ _ q, hn]))
theorem k_meth0 {k n : Nat} {f C : Addr} {fd : FuncData} {ps : List Str} {F : Cd.Fn} {c m : String} {apos : Pos} {pl : Sem Bool} (G : FnOk X.prog X.w X.K X.mg X.base (L2.CX X.prog X.w) k f fd ps (spF X.K ca n F)) (tk : Takes X W) (hr : Room k X.A) (cn : CN X.K c C) (cl : Cls X.K C) (hm : Meth X.K C (Str.ofString m) f) (hb : Binds X.K fd ps [])
    (hn : n = 1) (ho : KE X ca W o mo)
    (ht : eval (.Call (.Attribute o (Str.ofString m) apos) [] [] pos) X.env = (do
      let ov ← eval o X.env
      standAt apos.atName
      let x ← holding [ov] (getMethod ov (Str.ofString m) pl)
      match x with
      | (f, first) => callWith pos f first (backTo pos (starEach [] X.env)) (backToKw pos (keywordEach [] X.env)))) :
    KE X ca W (.Call (.Attribute o (Str.ofString m) apos) [] [] pos) (Cd.eMeth c m F mo Cd.aNil) := by
  refine PE.wk (pe_methSt0 (E := fun σ => WE W σ) ho cl hm G hr hb (fun σ => passAt tk σ) ht) fun σ H Q q => ?_
  obtain ⟨ρ, h, η, S, re, p⟩ := tMeth_of (n := n) cn (fun η h vs h' q => by cases q; exact hn.symm) σ H Q q
  refine ⟨ρ, h, η, S, re, ?_⟩
  have up : ∀ x H1, (∃ a dx fs, x = V.ref a ∧ H1 a = some (HO.ins C dx fs) ∧ List.lookup (Str.ofString m) fs = none ∧ tA X.K ca W Cd.aNil σ H1 fun vs H2 => spF X.K ca n F (x :: vs) H2 Q (WE W σ)) → (∃ a dx fs, x = V.ref a ∧ H1 a = some (HO.ins C dx fs) ∧ List.lookup (Str.ofString m) fs = none ∧ spF X.K ca n F [x] H1 Q (WE W σ)) := by
    rintro x H1 ⟨a, dx, fs, h1, h2, h3, ρ', h', η', S', re', p'⟩
    exact ⟨a, dx, fs, h1, h2, h3, p' ρ' H1 [] (Step.refl _ _) S' .nil⟩
  exact postG.imp p up
/-- a new instance, exceptions of __init__ as they are taken here -/
theorem run_makeS {CX : CXT} {k : Nat} {f C : Addr} {fd : FuncData} {ps : List Str} {sp : Sp} {E : XK} {pins : List (Addr × Obj)} {σ : L2.St} {H : Hp} {s : Shared} {Q : VK} {us : List Value} {vs : List V}
    (M : Mk X.K C f) (F : FnOk X.prog X.w X.K X.mg X.base CX k f fd ps sp) (hr : Room (k + 1) X.A) (hb : Binds X.K fd ps []) (hx : PassesAt CX X σ E) (I : Inv X pins σ H s) (r : Vals vs us)
    (h : ∀ (x dx : Addr), H x = none → H dx = none → dx ≠ x → sp (.ref x :: vs) (upd (upd H dx (.own x)) x (.ins C dx [])) (fun v H2 => v = .non ∧ Q (.ref x) H2) E) :
    wpAny (model X.prog X.w) X.A (call (.ref C) us) (EP X pins σ Q) X.xe s := by
  have hq := h (s.heap.objs.size + 1) s.heap.objs.size (I.hok.fresh (Nat.le_succ _)) (I.hok.fresh (Nat.le_refl _)) (Nat.ne_of_lt (Nat.lt_succ_self _))
  have I2 := Inv.made (C := C) I
  have r2 : Vals (V.ref (s.heap.objs.size + 1) :: vs) (Value.ref (s.heap.objs.size + 1) :: us) := .cons (show RelV (V.ref _) (Value.ref _) from rfl) r
  have hl : (Value.ref (s.heap.objs.size + 1) :: us ++ []).length = ps.length := by
    rw [List.append_nil, ← r2.length]
    exact F.len _ _ _ _ hq
  have hbb := hb ⟨(s.heap.push PySem.W.emptyDict).push (PySem.W.instObj C s.heap.objs.size), s.gens, s.drawn, s.toks, s.os⟩ (.ref (s.heap.objs.size + 1) :: us) I2.kIn hl
  rw [List.append_nil] at hbb
  refine wpAny_call (make_map I.kIn M.makes M.init (beq_iff_eq.mp M.fn) (codeAny_mono (F.run (X.A.under (.builtin "type.__call__" { pos := .ref C :: us })) X.stack _ _ { pos := .ref (s.heap.objs.size + 1) :: us } _ _ _ E (hr.make C us []) (I2.env0.make C us []) hbb r2 hq) fun r s' hq' => ?_))
  cases r with
  | error e => exact hx pins _ _ e s' I2 hq'
  | ok fl =>
    cases fl with
    | ret u =>
      obtain ⟨v, H', I3, rv, ev, q3⟩ := I2.after hq'
      subst ev
      exact ⟨rv, .ref (s.heap.objs.size + 1), H', I3, (show RelV (V.ref _) (Value.ref _) from rfl), q3⟩
    | _ => exact hq'.elim
theorem pe_makeSt {CX : CXT} {k : Nat} {f C : Addr} {fd : FuncData} {ps : List Str} {sp : Sp} {E : L2.St → XK} {x : Str} {p : Pos} {es : List Expr} {t : TA}
    (M : Mk X.K C f) (F : FnOk X.prog X.w X.K X.mg X.base CX k f fd ps sp) (hr : Room (k + 1) X.A) (hg : Gl X x) (hm : X.mg x = some (.ref C)) (hb : Binds X.K fd ps []) (hx : ∀ σ, PassesAt CX X σ (E σ)) (ha : PA X (e :: es) t)
    (hdb : (x == ("__debug__" : Str)) = false) (he : starEach (e :: es) X.env = (false, eval e X.env) :: starEach es X.env) (hpl : ((backTo pos (starEach es X.env)).any fun x => x.1) = false) :
    PE X (.Call (.Name x p) (e :: es) [] pos) (fun σ H Q => t σ H fun vs H1 => ∀ (x dx : Addr), H1 x = none → H1 dx = none → dx ≠ x → sp (.ref x :: vs) (upd (upd H1 dx (.own x)) x (.ins C dx [])) (fun v H2 => v = .non ∧ Q (.ref x) H2) (E σ)) :=
  ⟨fun pins s σ H Q I h => wpAny_Call_Name_kw (ld_glob I hg hm (PySem.W.callWith_K I.ok.mod.kin M.kp (thn (ha.run pos pins s σ H (fun vs H1 => ∀ (x dx : Addr), H1 x = none → H1 dx = none → dx ≠ x → sp (.ref x :: vs) (upd (upd H1 dx (.own x)) x (.ins C dx [])) (fun v H2 => v = .non ∧ Q (.ref x) H2) (E σ)) I h) fun us s2 hy => by
      obtain ⟨vs, H2, I2, r, q2⟩ := hy
      exact ⟨I2.kIn, run_makeS M F hr hb (hx σ) I2 r q2⟩) he hpl) hdb)⟩
theorem pe_makeSt0 {CX : CXT} {k : Nat} {f C : Addr} {fd : FuncData} {ps : List Str} {sp : Sp} {E : L2.St → XK} {x : Str} {p : Pos}
    (M : Mk X.K C f) (F : FnOk X.prog X.w X.K X.mg X.base CX k f fd ps sp) (hr : Room (k + 1) X.A) (hg : Gl X x) (hm : X.mg x = some (.ref C)) (hb : Binds X.K fd ps []) (hx : ∀ σ, PassesAt CX X σ (E σ))
    (hdb : (x == ("__debug__" : Str)) = false) :
    PE X (.Call (.Name x p) [] [] pos) (fun σ H Q => ∀ (x dx : Addr), H x = none → H dx = none → dx ≠ x → sp [.ref x] (upd (upd H dx (.own x)) x (.ins C dx [])) (fun v H2 => v = .non ∧ Q (.ref x) H2) (E σ)) :=
  ⟨fun pins s σ H Q I h => wpAny_Call_Name_kw (ld_glob I hg hm (PySem.W.callWith_K0 I.kIn M.kp (run_makeS M F hr hb (hx σ) I .nil h)) hdb)⟩
theorem make_sp {c : String} {C : Addr} {n : Nat} {F : Cd.Fn} {ρ1 : List Addr} {h1 : Cd.Hep} {H1 : Hp} {ds : List Cd.Val} {xs : List V} {σ : L2.St} {Q : VK} (cn : CN X.K c C) (S1 : Sim X.K ρ1 h1 H1) (r1 : RVs X.K ρ1 H1 ds xs) (hn : n = xs.length + 1)
    (p : postG X.K ca W (RV X.K) ρ1 H1 σ (Cd.made h1.length (F (.ref h1.length :: ds) (h1 ++ [.ins c []]))) Q) :
    ∀ (x dx : Addr), H1 x = none → H1 dx = none → dx ≠ x → spF X.K ca n F (.ref x :: xs) (upd (upd H1 dx (.own x)) x (.ins C dx [])) (fun v H2 => v = .non ∧ Q (.ref x) H2) (WE W σ) := by
  intro x dx hx hdx ne
  have S2 := S1.out (o := .own x) hdx
  have st2 : Step ρ1 H1 ρ1 (upd H1 dx (.own x)) := Step.out dx _ hdx
  have hx2 : (upd H1 dx (HO.own x)) x = none := by rw [upd_ne (Ne.symm ne)]; exact hx
  have S3 := S2.lay (o := .ins C dx []) (u := .ins c []) hx2 ⟨C, dx, [], upd_same, cn, .nil⟩
  have st3 : Step ρ1 H1 (ρ1 ++ [x]) (upd (upd H1 dx (.own x)) x (.ins C dx [])) := st2.trans (Step.lay x _ hx2)
  have ix : (ρ1 ++ [x])[h1.length]? = some x := by rw [← S1.len, List.getElem?_append_right (Nat.le_refl _), Nat.sub_self]; rfl
  refine ⟨by rw [List.length_cons, hn], ρ1 ++ [x], h1 ++ [.ins c []], .ref h1.length :: ds, S3, .cons (.ref ix) (r1.mono st3 S1), ?_⟩
  cases eF : F (.ref h1.length :: ds) (h1 ++ [.ins c []]) with
  | stuck => rw [eF] at p; exact p.elim
  | ok v h2 =>
    rw [eF] at p
    intro ρ' H' w st S' rw_
    cases v with
    | non =>
      cases rw_
      exact ⟨rfl, p ρ' H' (.ref x) (st3.trans st) S' (.ref (st.ix ix))⟩
    | _ => exact p.elim
  | exc ex h2 =>
    rw [eF] at p
    exact fun ρ' H' cls d st S' r => p ρ' H' cls d (st3.trans st) S' r
theorem k_make {k n : Nat} {f C : Addr} {fd : FuncData} {ps : List Str} {F : Cd.Fn} {c : String} {x : Str} {p : Pos} {es : List Expr} {mas : Cd.AM} (G : FnOk X.prog X.w X.K X.mg X.base (L2.CX X.prog X.w) k f fd ps (spF X.K ca n F)) (tk : Takes X W) (hr : Room (k + 1) X.A) (cn : CN X.K c C) (M : Mk X.K C f) (hg : Gl X x) (hm : X.mg x = some (.ref C)) (hb : Binds X.K fd ps [])
    (hn : n = (e :: es).length + 1) (ha : KA X ca W (e :: es) mas) (hal : ∀ η h vs h', mas η h = .ok vs h' → vs.length = (e :: es).length) (hdb : (x == ("__debug__" : Str)) = false := by decide)
    (he : starEach (e :: es) X.env = (false, eval e X.env) :: starEach es X.env := by rfl) (hpl : ((backTo pos (starEach es X.env)).any fun x => x.1) = false := by rfl) : KE X ca W (.Call (.Name x p) (e :: es) [] pos) (Cd.eMake c F mas) := by
  refine PE.wk (pe_makeSt (E := fun σ => WE W σ) M G hr hg hm hb (fun σ => passAt tk σ) ha hdb he hpl) fun σ H Q ⟨ρ, h, η, S, re, q⟩ => ?_
  refine ⟨ρ, h, η, S, re, ?_⟩
  unfold Cd.eMake at q
  cases em : mas η h with
  | stuck => rw [em] at q; exact q.elim
  | exc e h' => rw [em] at q; exact q
  | ok ds h1 =>
    rw [em] at q
    simp only [Cd.Res.bind_ok] at q
    intro ρ1 H1 xs st1 S1 r1
    exact make_sp cn S1 r1 (by rw [← r1.length, hal _ _ _ _ em, hn]) (postG.mono st1 q)
theorem k_make0 {k n : Nat} {f C : Addr} {fd : FuncData} {ps : List Str} {F : Cd.Fn} {c : String} {x : Str} {p : Pos} (G : FnOk X.prog X.w X.K X.mg X.base (L2.CX X.prog X.w) k f fd ps (spF X.K ca n F)) (tk : Takes X W) (hr : Room (k + 1) X.A) (cn : CN X.K c C) (M : Mk X.K C f) (hg : Gl X x) (hm : X.mg x = some (.ref C)) (hb : Binds X.K fd ps [])
    (hn : n = 1) (hdb : (x == ("__debug__" : Str)) = false := by decide) : KE X ca W (.Call (.Name x p) [] [] pos) (Cd.eMake c F Cd.aNil) := by
  refine PE.wk (pe_makeSt0 (E := fun σ => WE W σ) M G hr hg hm hb (fun σ => passAt tk σ) hdb) fun σ H Q ⟨ρ, h, η, S, re, q⟩ => ?_
  exact make_sp cn S .nil hn q
end
section
variable {X : Cx}
theorem call_listS (hc : X.calm = true) : CallR X (.type "list") (fun xs H Q => ∃ s : List Nat, xs = [.str (toS s)] ∧ s.length ≤ sizeLine ∧ ∀ l : Addr, H l = none → Q (.ref l) (upd H l (.lst (s.map fun c => V.str (toS [c]))))) := by
  intro pins sh σ H xs us Q I r ⟨s, e, hz, q⟩
  subst e
  obtain ⟨u, rfl, rx⟩ := vals1 r
  obtain ⟨t, rfl⟩ := rx
  refine PySem.call_list_str (I.ok.hd hc) (toS s) t (fun h' tk acc c kp e it => ?_) hz
  obtain ⟨sz, at_⟩ := it
  have vals : Vals (s.map fun c => V.str (toS [c])) acc.toList := by
    have key : ∀ (l : List Nat) (as : List Value), as.length = l.length → (∀ (j : Nat) (v : Value), as[j]? = some v → ∃ c u, l[j]? = some c ∧ v = .str ⟨#[c]⟩ u) → Vals (l.map fun c => V.str (toS [c])) as := by
      intro l
      induction l with
      | nil => intro as hl _; cases as with | nil => exact .nil | cons _ _ => simp at hl
      | cons c l ih =>
        intro as hl ha
        cases as with
        | nil => simp at hl
        | cons a as =>
          obtain ⟨c', u, e1, e2⟩ := ha 0 a rfl
          cases e1
          exact .cons ⟨u, e2⟩ (ih as (by simpa using hl) fun j v hj => ha (j + 1) v hj)
    refine key s acc.toList (by rw [Array.length_toList, sz]; rfl) fun j v hj => ?_
    obtain ⟨c, u, e1, e2⟩ := at_ j v (by rw [← Array.getElem?_toList]; exact hj)
    exact ⟨c, u, by rw [← e1]; simp [toS], e2⟩
  exact ⟨.ref sh.heap.objs.size, upd H sh.heap.objs.size (.lst (s.map fun c => V.str (toS [c]))), I.laid kp (Nat.le_refl _) ⟨by rw [List.length_map]; exact hz, acc.toList, c, vals, e⟩, (show RelV (V.ref _) (Value.ref _) from rfl), q _ (I.hok.fresh (Nat.le_refl _))⟩
end
section
variable {K : PySem.W.Frag}
theorem rvs_chs {ρ : List Addr} {H : Hp} : ∀ l : List Nat, RVs K ρ H (l.map fun c => .str [c]) (l.map fun c => V.str (toS [c]))
  | [] => .nil
  | c :: l => .cons (.str [c]) (rvs_chs l)
theorem bf_listS : BFnF K Cd.bListS (fun xs H Q => ∃ s : List Nat, xs = [.str (toS s)] ∧ s.length ≤ sizeLine ∧ ∀ l : Addr, H l = none → Q (.ref l) (upd H l (.lst (s.map fun c => V.str (toS [c]))))) := by
  intro ρ h h' H ds u xs Q S r e k
  unfold Cd.bListS at e
  split at e
  · rename_i s
    split at e
    · rename_i hz
      cases e
      obtain ⟨x, rfl, r0⟩ := one_rv r
      cases r0
      rw [line_eq] at hz
      exact ⟨s, rfl, hz, fun p np => lay_k S (rvs_chs s) k p np⟩
    · cases e
  · cases e
end
end Cb

set_option Elab.async false
set_option linter.all false
set_option maxRecDepth 100000
set_option maxHeartbeats 4000000
/-! CdB24: the bridge: enumerate of a text. -/
namespace Cb
open PySem PySem.Spec PyProof.Rows L2 TL ZT
def ItE (x : Str) : It :=
  ⟨fun i H => i < x.cps.size,
    fun i H v H' => ∃ T c, v = .ref T ∧ H T = none ∧ H' = upd H T (.tup [.int i, .str ⟨#[c]⟩]) ∧ x.cps[i]? = some c,
    fun i H => i = x.cps.size⟩
theorem turn_enumS {P : Program} {w : World} {K : PySem.W.Frag} {elts : List Expr} {kk : Nat} {tpos : Pos} {x : Str} {tx : Tok} (e it : Addr) (ne : e ≠ it) :
    Turn P w K (.Tuple elts kk tpos) (ItE x) [e, it] e (fun i h => (∃ old, IsEnum h e it i old) ∧ h.IsStrIter it (strIterType x) x tx i) where
  mem := by simp
  obj := fun i h st c hc => by
    obtain ⟨⟨old, he⟩, ⟨o1, e1, _, d1⟩⟩ := st
    have e' : c = e ∨ c = it := by simpa using hc
    rcases e' with rfl | rfl
    · exact ⟨_, he, fun v q => nomatch q⟩
    · exact ⟨o1, e1, fun v q => by rw [d1] at q; cases q⟩
  keep := fun i h h' st k => by
    obtain ⟨⟨old, he⟩, h1⟩ := st
    exact ⟨⟨old, k e (by simp) _ he⟩, SI_at h1 fun o q => k it (by simp) o q⟩
  item := by
    intro X hP' hw hK hc i pins s σ H E I hf st hg
    subst hP' hw hK
    obtain ⟨⟨old, he⟩, h1⟩ := st
    have hel : e < s.heap.objs.size := Heap.lt_size he
    have hil : it < s.heap.objs.size := by obtain ⟨_, e1, _⟩ := h1; exact Heap.lt_size e1
    refine wpAny_pyNext_enum_itemD (Draws.text (A := X.A.in1) (I.ok.hd hc) it x tx) he h1 hg ne (by simpa using ne) fun u h' tk hP ho h2 hT hsz hk => ?_
    obtain ⟨c, t, hx, rfl⟩ := hP
    refine ⟨_, rfl, wpAny_letOwnedTupleGo_enum (s := { s with heap := h', toks := tk + 1 }) ho fun h'' he' sb => ?_⟩
    have hT2 : h''.get? s.heap.objs.size = some { cls := .type "tuple", data := .seq #[.int i tk, .str ⟨#[c]⟩ t] } := (sb.2 _ (Nat.ne_of_gt hel)).trans hT
    have new : ObjOk X.prog X.w (upd H s.heap.objs.size (.tup [.int i, .str ⟨#[c]⟩])) h'' s.heap.objs.size (.tup [.int i, .str ⟨#[c]⟩]) :=
      ⟨by show 2 ≤ sizeLine; decide, [.int i tk, .str ⟨#[c]⟩ t], .cons ⟨_, rfl⟩ (.cons ⟨_, rfl⟩ .nil), ⟨_, hT2, rfl, _, rfl⟩⟩
    have I1 : Inv X pins σ (upd H s.heap.objs.size (.tup [.int i, .str ⟨#[c]⟩])) { s with heap := h'', toks := tk + 1 } :=
      I.turnedNew (t' := tk + 1) (ch := [e, it]) (fun b ob hb q => (sb.2 b (fun q' => hb (by simp [q']))).trans (hk b ob (fun q' => hb (by simp [q'])) (fun q' => hb (by simp [q'])) q)) hf (Nat.le_refl _) new
    have hsz2 : h'.objs.size = s.heap.objs.size + 1 := hsz
    refine ⟨.ref s.heap.objs.size, _, I1, rfl, ⟨_, c, rfl, I.hok.fresh (Nat.le_refl _), rfl, hx⟩, ⟨⟨_, by
      have := he'
      rw [show ((i + 1 : Nat) : Int) = (i : Int) + 1 by omega]
      exact this⟩, SI_at h2 fun o q => (sb.2 _ (Ne.symm ne)).trans q⟩, fun b hb => ?_⟩
    have hlt : b < s.heap.objs.size := by
      have e' : b = e ∨ b = it := by simpa using hb
      rcases e' with rfl | rfl
      · exact hel
      · exact hil
    rw [upd_ne (Nat.ne_of_lt hlt)]
    exact (hf b hb).1
  done := by
    intro X hP' hw hK hc i pins s σ H E I hf st hg
    subst hP' hw hK
    obtain ⟨⟨old, he⟩, h1⟩ := st
    have hg : i = x.cps.size := hg
    subst hg
    exact wpAny_pyNext_enum_endD (Draws.text (A := X.A.in1) (I.ok.hd hc) it x tx) he h1 fun h' eb => ⟨rfl, I.turnedL (t' := s.toks) (ch := [e, it]) (fun b o hb q => eb b o (fun q' => hb (by simp [q'])) q) hf⟩
  self := fun A i s Q E st h => by
    obtain ⟨⟨old, he⟩, _⟩ := st
    exact wpAny_pyIter_enum he h
def iEnumS (ta : TA) : TI := fun σ H R => ta σ H fun vs H1 => ∃ x, vs = [.str x] ∧ R (ItE x) H1
theorem pi_enumS {X : Cx} {e : Expr} {ta : TA} {p pos tpos : Pos} {elts : List Expr} {kk : Nat} (hg : Gl X "enumerate") (hm : X.mg "enumerate" = none) (ha : PA X [e] ta)
    (hs : starEach [e] X.env = [(false, eval e X.env)]) :
    PI X (.Tuple elts kk tpos) (.Call (.Name "enumerate" p) [e] [] pos) (iEnumS ta) := by
  refine ⟨fun pins s σ H R I h => ?_⟩
  refine Call_ (ld_blt I hg hm PyProof.Rows.boot_enumerate (PyProof.Rows.callWith_type1 (thn (ha.run pos pins s σ H _ I h) fun us s1 ⟨vs, H1, I1, r1, q1⟩ => ?_) hs (by rfl)))
  obtain ⟨x, ex, q⟩ := q1
  subst ex
  cases r1 with
  | cons ra rb =>
    cases rb
    obtain ⟨tx, rfl⟩ := ra
    refine call_enumerate_str fun h' he hit hsz hk => wpAny_pyIter_enum he ?_
    have I2 : Inv X pins σ H1 { s1 with heap := h' } := I1.kept (t' := s1.toks) hk
    refine ⟨s1.heap.objs.size + 1, [s1.heap.objs.size + 1, s1.heap.objs.size], _, _, H1, rfl, I2, turn_enumS (x := x) (tx := tx) _ _ (Nat.succ_ne_self _), ⟨⟨_, he⟩, hit⟩, fun c hcm => ?_, q⟩
    have hle : s1.heap.objs.size ≤ c := by
      have e' : c = s1.heap.objs.size + 1 ∨ c = s1.heap.objs.size := by simpa using hcm
      rcases e' with q | q <;> (rw [q]; omega)
    exact I1.fpOk hle (I1.hok.fresh hle)
section
variable {X : Cx} {K : PySem.W.Frag} {ca : String → Value} {W : WX} {a b : Expr} {pos : Pos}
theorem enumS_len (s : List Nat) : (Cd.enumS s).length = s.length := by
  unfold Cd.enumS
  rw [List.length_map, List.length_zipIdx]
theorem enumS_get {s : List Nat} {i : Nat} {d : Cd.Val} (e : (Cd.enumS s)[i]? = some d) : ∃ c, s[i]? = some c ∧ d = .tup [.int i, .str [c]] := by
  unfold Cd.enumS at e
  rw [List.getElem?_map, List.getElem?_zipIdx] at e
  cases q : s[i]? with
  | none => rw [q] at e; cases e
  | some c =>
    rw [q] at e
    cases e
    exact ⟨c, rfl, by simp⟩
theorem itf_enumS {ρ : List Addr} {H : Hp} (s : List Nat) : ItF K (ItE (toS s)) (Cd.enumS s) (fun _ => true) ρ H where
  go := fun ρ1 H1 h1 i st S1 c hi => by
    rw [enumS_len] at hi
    exact hi
  stop := fun ρ1 H1 h1 i st S1 c hi => by
    rw [enumS_len] at hi
    exact hi
  yld := fun ρ1 H1 h1 i d x H' st S1 c hd y => by
    obtain ⟨T, c1, rfl, nT, rfl, hx⟩ := y
    obtain ⟨c2, e1, rfl⟩ := enumS_get hd
    have hx : s.toArray[i]? = some c1 := hx
    rw [List.getElem?_toArray, e1] at hx
    cases hx
    have s2 := Step.out (ρ := ρ1) T (.tup [.int i, .str ⟨#[c1]⟩]) nT
    exact ⟨s2, S1.out nT, .tup (SqT.of upd_same) (.cons (.int i) (.cons (.str [c1]) .nil))⟩
theorem ki_enumS {p tpos : Pos} {elts : List Expr} {kk : Nat} {mas : Cd.AM} (hm : X.mg "enumerate" = none) (ha : KA X ca W [a] mas) (hg : Gl X "enumerate" := by rfl) (hs : starEach [a] X.env = [(false, eval a X.env)] := by rfl) :
    KI X ca W (.Tuple elts kk tpos) (.Call (.Name "enumerate" p) [a] [] pos) (Cd.iArgs Cd.fEnumS mas) := by
  refine PI.wk (pi_enumS hg hm ha hs) fun σ H R ⟨ρ, h, η, S, re, pp⟩ => ?_
  refine ⟨ρ, h, η, S, re, ?_⟩
  unfold Cd.iArgs at pp
  cases em : mas η h with
  | stuck => rw [em] at pp; exact pp.elim
  | exc _ _ => rw [em] at pp; exact pp
  | ok vs h1 =>
    rw [em] at pp
    simp only [Cd.Res.bind_ok] at pp
    intro ρ1 H1 xs st1 S1 r1
    cases ef : Cd.fEnumS h1 vs with
    | none => rw [ef] at pp; exact pp.elim
    | some qq =>
      rw [ef] at pp
      unfold Cd.fEnumS at ef
      split at ef
      · rename_i s
        cases ef
        obtain ⟨y, rfl, ry⟩ := one_rv r1
        cases ry
        exact ⟨_, rfl, pp ρ1 H1 _ st1 S1 (itf_enumS s)⟩
      · cases ef
end
end Cb

set_option Elab.async false
set_option linter.all false
set_option maxRecDepth 100000
set_option maxHeartbeats 4000000
/-! CdB25: the bridge: sorted of a dict of numbers, of any length. -/
namespace Cb
open PySem PySem.Spec PyProof.Rows L2 TL
theorem call_sortedDA {X : Cx} (hcalm : X.calm = true) : CallR X (.builtin "sorted") (fun xs H Q => ∃ a kvs ks, xs = [.ref a] ∧ Rd H a (.dK kvs) ∧ kvs.map (·.1) = ks.map (Sum.inl : Int → Key) ∧ ks.length ≤ sizeLine ∧ ∀ (ys : List Int) (p : Addr), ys.Perm ks → ys.Pairwise (· ≤ ·) → H p = none → Q (.ref p) (upd H p (.lst (ys.map V.int)))) := by
  intro pins s σ H xs us Q I r ⟨a, kvs, ks, e, hd, hks, hz, q⟩
  subst e
  obtain ⟨u, rfl, rx⟩ := vals1 r
  have rx : u = .ref a := rx
  subst rx
  obtain ⟨z, lo, vs, rel, dd⟩ := dk_rd I.hok hd
  obtain ⟨ep, hat⟩ := dd.dictAt
  have hkeys : vs.map (·.1) = ks.map (Sum.inl : Int → Key) := rel.keys.symm.trans hks
  have hl : vs.length = ks.length := by
    have := congrArg List.length hkeys
    simpa using this
  refine Calls.call_function_entry kind_sorted plain_sorted entry_sorted (args_sorted1 (.ref a)) ?_
  show wpAny _ _ (Builtin.sorted ⟨[.ref a], []⟩) _ _ s
  refine wpAny_bind (wpAny_pure (wpAny_bind (PySem.W.kdu_collect (PySem.W.kdl_dict lo) (I.ok.hd hcalm) hat (by rw [hl]; exact hz) fun h' tk acc hk hacc => ?_)))
  have hal : acc.toList.length = ks.length := by rw [Array.length_toList, hacc.1, hl]
  have hS : IntsAre acc.toList ks := by
    refine ints_each hal fun j v e => ?_
    obtain ⟨k, x, e1, e2⟩ := hacc.2 j v (by rw [← Array.getElem?_toList]; exact e)
    have e3 : (vs.map (·.1))[j]? = some k := by rw [List.getElem?_map, e1]; rfl
    rw [hkeys, List.getElem?_map] at e3
    cases e4 : ks[j]? with
    | none => rw [e4] at e3; cases e3
    | some y =>
      rw [e4] at e3
      have e5 := Option.some.inj e3
      subst e5
      rcases keyIs_shape (show keyIs (.inl y) v = true from e2) with ⟨i, t, ek, ev⟩ | ⟨z, t, ek, ev⟩
      · cases ek
        exact ⟨y, t, rfl, ev⟩
      · cases ek
  have I1 : Inv X pins σ H { s with heap := h', toks := tk } := I.kept hk
  refine wpAny_bind (wpAny_newList ?_)
  have hoL : (h'.push (seqObj "list" acc.toList.toArray 0)).get? h'.objs.size = some (seqObj "list" acc.toList.toArray 0) := Heap.get?_push_size h' rfl
  refine wpAny_bind (wpAny_holding (wpAny_call_entry slot_list_sort ⟨seqObj "list" acc.toList.toArray 0, hoL, rfl⟩ entry_list_sort (list_sort_treeAny hoL hS (by rw [hal]; exact hz) fun out ys g1 g2 g3 => ⟨.none, rfl, ?_⟩)))
  obtain ⟨e', he'⟩ := sortedHeap_at hoL
  have hlen : (ys.map V.int).length ≤ sizeLine := by rw [List.length_map, g2.length_eq]; exact hz
  refine wpAny_pure ⟨_, rfl, .ref h'.objs.size, upd H h'.objs.size (.lst (ys.map V.int)), I1.laid (fun b u e => ?_) (Nat.le_refl _) ⟨hlen, out.toList, e', vals_of_ints g1, ?_⟩, rfl, q ys h'.objs.size g2 g3 (I1.hok.fresh (Nat.le_refl _))⟩
  · have hb : b < h'.objs.size := Heap.lt_size e
    rw [sortedHeap_old (Nat.ne_of_lt hb) (by rw [size_push']; exact Nat.lt_succ_of_lt hb)]
    exact Heap.get?_push_of_some _ e
  · rw [Array.toArray_toList]
    exact he'
theorem keysI_rv {K : PySem.W.Frag} {ρ : List Addr} {H : Hp} : ∀ {l : List (Cd.Val × Cd.Val)} {ks : List Int} {kvs : List (Key × V)}, Cd.keysI l = some ks → RD K ρ H l kvs → kvs.map (·.1) = ks.map (Sum.inl : Int → Key) := by
  intro l ks kvs e r
  induction r generalizing ks with
  | nil => cases e; rfl
  | @cons k d κ v l kvs ek r t ih =>
    cases k with
    | int i =>
      unfold Cd.keysI at e
      cases eq : Cd.keysI l with
      | none => rw [eq] at e; cases e
      | some m =>
        rw [eq] at e
        cases e
        cases ek
        rw [List.map_cons, List.map_cons, ih eq]
    | _ => cases e
theorem bf_sortD {K : PySem.W.Frag} : BFnF K Cd.bSortD (fun xs H Q => ∃ a kvs ks, xs = [.ref a] ∧ Rd H a (.dK kvs) ∧ kvs.map (·.1) = ks.map (Sum.inl : Int → Key) ∧ ks.length ≤ sizeLine ∧ ∀ (ys : List Int) (p : Addr), ys.Perm ks → ys.Pairwise (· ≤ ·) → H p = none → Q (.ref p) (upd H p (.lst (ys.map V.int)))) := by
  intro ρ h h' H ds u xs Q S r e k
  unfold Cd.bSortD at e
  split at e
  · rename_i n
    split at e
    · rename_i l hl
      split at e
      · rename_i ks hk
        split at e
        · rename_i hz
          cases e
          obtain ⟨x, rfl, r0⟩ := one_rv r
          cases r0 with
          | @ref _ a q =>
            obtain ⟨kvs, e1, rd⟩ := S.obj _ _ _ hl q
            rw [line_eq] at hz
            refine ⟨a, kvs, ks, rfl, .inl e1, keysI_rv hk rd, hz, fun ys p hp hw np => ?_⟩
            have en : ys = Cd.srtI ks := List.Perm.eq_of_pairwise (fun a b _ _ h1 h2 => Int.le_antisymm h1 h2) hw (srtI_pw ks) (hp.trans (srtI_perm ks).symm)
            subst en
            exact lay_k S (rvs_ints2 _) k p np
        · cases e
      · cases e
    · cases e
  · cases e
end Cb

set_option maxRecDepth 100000
/-! CdCore6: list.index, list.pop(i). -/
namespace Cd
open Classical
noncomputable section
/-- the first place of a flat value -/
def idxF (v : Val) : List Val → Option Nat
  | [] => none
  | w :: l => if eqF w v then some 0 else (idxF v l).map (· + 1)
def mIndex : Val → BFn := fun x vs h => match vs with
  | [v] => match itsL h x with
    | some l => if flat v && l.all flat then (idxF v l).map fun j => (.int (j : Nat), h) else none
    | none => none
  | _ => none
def popIx (n : Nat) (i : Int) : Option Nat := if -(2 ^ 62) ≤ i ∧ i < 2 ^ 62 then ixN n i else none
def mPopAt : Val → BFn := fun x vs h => match x, vs with
  | .ref n, [.int i] => match h[n]? with
    | some (.lst l) => match popIx l.length i with
      | some j => match l[j]? with
        | some v => some (v, h.set n (.lst (l.eraseIdx j)))
        | none => none
      | none => none
    | _ => none
  | _, _ => none
end
end Cd

set_option Elab.async false
set_option linter.all false
set_option maxRecDepth 100000
set_option maxHeartbeats 4000000
/-! CdB26: the bridge: list.index, list.pop(i). -/
namespace Cb
open PySem PySem.Spec PyProof.Rows L2
section
variable {X : Cx} {K : PySem.W.Frag}
theorem idxF_of {ρ : List Addr} {H : Hp} {d : Cd.Val} {x : V} (r : RV K ρ H d x) : ∀ {ds : List Cd.Val} {vs : List V} {j : Nat}, RVs K ρ H ds vs → Cd.idxF d ds = some j → ∃ z, vs[j]? = some z ∧ eqV z x = true ∧ ∀ (m : Nat) (z' : V), m < j → vs[m]? = some z' → eqV z' x = false
  | _, _, _, .nil, e => by cases e
  | d0 :: ds, v0 :: vs, j, .cons h t, e => by
    unfold Cd.idxF at e
    by_cases q : Cd.eqF d0 d = true
    · rw [if_pos q] at e
      cases e
      exact ⟨v0, rfl, by rw [eqF_of h r]; exact q, fun m z' hm => absurd hm (Nat.not_lt_zero m)⟩
    · rw [if_neg q] at e
      cases ej : Cd.idxF d ds with
      | none => rw [ej] at e; cases e
      | some i =>
        rw [ej] at e
        cases e
        obtain ⟨z, e1, e2, e3⟩ := idxF_of r t ej
        refine ⟨z, by rw [List.getElem?_cons_succ]; exact e1, e2, fun m z' hm hz => ?_⟩
        cases m with
        | zero =>
          rw [List.getElem?_cons_zero] at hz
          cases hz
          rw [eqF_of h r]
          exact eq_false_of_ne_true q
        | succ m =>
          rw [List.getElem?_cons_succ] at hz
          exact e3 m z' (Nat.lt_of_succ_lt_succ hm) hz
theorem mf_index : MthF K Cd.mIndex (rIndex K) := by
  intro ρ h h' H x ds u ox xs Q S r1 r2 e k
  unfold Cd.mIndex at e
  split at e
  · rename_i v
    obtain ⟨y, rfl, ry⟩ := one_rv r2
    split at e
    · rename_i l hl
      split at e
      · rename_i hf
        rw [Bool.and_eq_true] at hf
        cases ej : Cd.idxF v l with
        | none => rw [ej] at e; cases e
        | some j =>
          rw [ej] at e
          cases e
          obtain ⟨a, vs, rfl, q, rs⟩ := seq_of S r1 hl
          obtain ⟨z, e1, e2, e3⟩ := idxF_of ry rs ej
          exact ⟨a, vs, y, j, z, rfl, rfl, q, by rw [flat_of ry]; exact hf.1, by rw [flats_of rs]; exact hf.2, e1, e2, e3, k ρ H _ (Step.refl _ _) S (.int _)⟩
      · cases e
    · cases e
  · cases e
theorem RVs.eraseIdx {ρ : List Addr} {H : Hp} : ∀ {ds : List Cd.Val} {vs : List V} (i : Nat), RVs K ρ H ds vs → RVs K ρ H (ds.eraseIdx i) (vs.eraseIdx i)
  | _, _, _, .nil => .nil
  | _, _, 0, .cons _ t => t
  | _, _, i + 1, .cons q t => .cons q (RVs.eraseIdx i t)
theorem seqIx_of {i : Int} {n j : Nat} (e : Cd.popIx n i = some j) : -2 ^ 63 ≤ i ∧ i < 2 ^ 63 ∧ PySem.seqIndex? i n = some j := by
  unfold Cd.popIx at e
  split at e
  · rename_i q
    refine ⟨by omega, by omega, ?_⟩
    unfold Cd.ixN at e
    unfold PySem.seqIndex?
    by_cases h0 : 0 ≤ i
    · rw [if_pos h0] at e
      split at e
      · rename_i h1
        cases e
        have : ¬ i < 0 := by omega
        simp only [if_neg this, decide_eq_true h0, decide_eq_true h1, Bool.and_self, if_true]
      · cases e
    · rw [if_neg h0] at e
      split at e
      · rename_i h1
        cases e
        have z : i < 0 := by omega
        have h2 : 0 ≤ i + (n : Int) := by omega
        have h3 : i + (n : Int) < (n : Int) := by omega
        simp only [if_pos z, decide_eq_true h2, decide_eq_true h3, Bool.and_self, if_true]
      · cases e
  · cases e
theorem mf_popAt : MthF K Cd.mPopAt rPopAt := by
  intro ρ h h' H x ds u ox xs Q S r1 r2 e k
  unfold Cd.mPopAt at e
  split at e
  · rename_i n i
    split at e
    · rename_i l hl
      split at e
      · rename_i j hj
        split at e
        · rename_i v hv
          cases e
          obtain ⟨y, rfl, ry⟩ := one_rv r2
          cases ry
          cases r1 with
          | ref q =>
            obtain ⟨vs, e1, rs⟩ := S.obj _ _ _ hl q
            obtain ⟨y, e2, ry⟩ := rs.get hv
            rw [rs.length] at hj
            obtain ⟨g1, g2, g3⟩ := seqIx_of hj
            have st := Step.put (ρ := ρ) (H := H) (o := .lst (vs.eraseIdx j)) q
            exact ⟨_, vs, _, j, y, rfl, rfl, e1, g1, g2, g3, e2, k ρ _ _ st (S.put q ⟨_, upd_same, (rs.eraseIdx j).mono st S⟩) (ry.mono st S)⟩
        · cases e
      · cases e
    · cases e
  · cases e
end
end Cb

set_option Elab.async false
set_option linter.all false
set_option maxRecDepth 100000
set_option maxHeartbeats 4000000
/-! CdB27: the bridge: comprehensions over any target of names and tuples. -/
namespace Cb
open PySem PySem.Spec PyProof.Rows L2
theorem wipe_get (σ : L2.St) : ∀ (vs : List Nat) (i : Nat), (L2.wipe σ vs)[i]? = if i ∈ vs then (σ[i]?).map (fun _ => none) else σ[i]?
  | [], i => by rw [if_neg List.not_mem_nil]; rfl
  | v :: vs, i => by
    show ((L2.wipe σ vs).set v none)[i]? = _
    by_cases e : v = i
    · subst e
      rw [if_pos List.mem_cons_self, List.getElem?_set]
      have ih := wipe_get σ vs v
      rw [if_pos rfl]
      by_cases l : v < (L2.wipe σ vs).length
      · rw [if_pos l]
        rw [List.getElem?_eq_getElem l] at ih
        split at ih
        · cases q : σ[v]? with
          | none => rw [q] at ih; cases ih
          | some x => rfl
        · rw [← ih]; rfl
      · rw [if_neg l]
        rw [List.getElem?_eq_none (by omega)] at ih
        split at ih
        · cases q : σ[v]? with
          | none => rfl
          | some x => rw [q] at ih; cases ih
        · rw [← ih]; rfl
    · rw [List.getElem?_set_ne e, wipe_get σ vs i]
      by_cases m : i ∈ vs
      · rw [if_pos m, if_pos (List.mem_cons_of_mem _ m)]
      · rw [if_neg m, if_neg (fun z => by
          rcases List.mem_cons.mp z with z | z
          · exact e z.symm
          · exact m z)]
theorem wipe_any (vs : List Nat) (σ : L2.St) : L2.wipe (L2.wipe σ vs) vs = L2.wipe σ vs := by
  refine List.ext_getElem? fun i => ?_
  rw [wipe_get (L2.wipe σ vs) vs i, wipe_get σ vs i]
  split
  · cases σ[i]? <;> rfl
  · rfl
def OwnGs (K : PySem.W.Frag) (vs : List Nat) (g : Cd.GMs) (gt : TGs) : Prop := ∀ (ρ : List Addr) (h : Cd.Hep) (H : Hp) (η η' : Cd.Env) (σ : L2.St) (ds : List Cd.Val) (xs : List V) (Q : L2.St → Hp → Prop), Sim K ρ h H → RE K ρ H η σ → RVs K ρ H ds xs → g ds η = some η' →
  (∀ σ', RE K ρ H η' σ' → (L2.wipe σ vs = σ → L2.wipe σ' vs = σ) → Q σ' H) → gt xs σ H Q
theorem own_nil {K : PySem.W.Frag} : OwnGs K [] Cd.gsNil gNil := by
  intro ρ h H η η' σ ds xs Q S re r e k
  cases r with
  | nil => cases e; exact ⟨rfl, k σ re fun hw => hw⟩
  | cons _ _ => cases e
theorem own_cons {K : PySem.W.Frag} {vs ws : List Nat} {g : Cd.GM} {gt : TG} {gs : Cd.GMs} {gts : TGs} (h1 : OwnG K vs g gt) (h2 : OwnGs K ws gs gts) (dj : ∀ i ∈ vs, i ∉ ws) : OwnGs K (vs ++ ws) (Cd.gsCons g gs) (gCons gt gts) := by
  intro ρ h H η η' σ ds xs Q S re r e k
  cases r with
  | nil => cases e
  | @cons d v ds xs r1 r2 =>
    simp only [Cd.gsCons] at e
    cases eg : g d η with
    | none => rw [eg] at e; cases e
    | some η1 =>
      rw [eg] at e
      refine ⟨v, xs, rfl, h1 ρ h H η η1 σ d v _ S re r1 eg fun σ1 re1 w1 => h2 ρ h H η1 η' σ1 ds xs _ S re1 r2 e fun σ2 re2 w2 => k σ2 re2 fun hw => ?_⟩
      have g0 : ∀ i, σ[i]? = if i ∈ vs ++ ws then (σ[i]?).map (fun _ => none) else σ[i]? := fun i => by
        have := wipe_get σ (vs ++ ws) i
        rw [hw] at this; exact this
      have hv : L2.wipe σ vs = σ := List.ext_getElem? fun i => by
        rw [wipe_get]
        by_cases m : i ∈ vs
        · rw [if_pos m]
          have := g0 i
          rw [if_pos (List.mem_append_left _ m)] at this
          exact this.symm
        · rw [if_neg m]
      have e1 := w1 hv
      have g1 : ∀ i, σ[i]? = if i ∈ vs then (σ1[i]?).map (fun _ => none) else σ1[i]? := fun i => by
        have := wipe_get σ1 vs i
        rw [e1] at this; exact this
      have hw1 : L2.wipe σ1 ws = σ1 := List.ext_getElem? fun i => by
        rw [wipe_get]
        by_cases m : i ∈ ws
        · rw [if_pos m]
          have a := g0 i
          rw [if_pos (List.mem_append_right _ m)] at a
          have b := g1 i
          rw [if_neg (fun z => dj i z m)] at b
          rw [← b]; exact a.symm
        · rw [if_neg m]
      have e2 := w2 hw1
      refine List.ext_getElem? fun i => ?_
      rw [wipe_get]
      have g2 : σ1[i]? = if i ∈ ws then (σ2[i]?).map (fun _ => none) else σ2[i]? := by
        have := wipe_get σ2 ws i
        rw [e2] at this; exact this
      have g1 := g1 i
      by_cases m : i ∈ vs
      · rw [if_pos m] at g1
        rw [if_pos (List.mem_append_left _ m), g1, g2]
        split
        · rw [Option.map_map]; rfl
        · rfl
      · rw [if_neg m] at g1
        rw [g1, g2]
        by_cases m2 : i ∈ ws
        · rw [if_pos m2, if_pos (List.mem_append_right _ m2)]
        · rw [if_neg m2, if_neg (fun z => by
            rcases List.mem_append.mp z with z | z
            · exact m z
            · exact m2 z)]
theorem own_tup {K : PySem.W.Frag} {vs : List Nat} {gs : Cd.GMs} {gts : TGs} {n : Nat} (h1 : OwnGs K vs gs gts) (hl : ∀ ds η η', gs ds η = some η' → ds.length = n) : OwnG K vs (Cd.gTpl gs) (gTup K n gts) := by
  intro ρ h H η η' σ d x Q S re r e k
  cases r with
  | tup q rs => exact ⟨_, _, rfl, q, by rw [← rs.length]; exact hl _ _ _ e, h1 ρ h H η η' σ _ _ Q S re rs e k⟩
  | _ => cases e
section
variable {X : Cx} {ca : String → Value} {W : WX}
variable {pos : Pos} {tg elt kx vx iter : Expr} {ifs : List Expr} {scope : Scope} {mi : Cd.IM} {tc : Cd.TM} {me mk mv : Cd.EM} {g : Cd.GM} {gt : TG}
theorem k_lcG (own : List (Str × Nat)) (hc : X.calm = true) (hN : X.N.Nodup) (hi : KI X ca W tg iter mi) (ok : blkC X.N X.env.scope scope own = true)
    (ht : ∀ (s : Shared) (H : Hp) (C : Addr) (cl : List (Str × Addr)) (fp : List Addr), PTs (X.blk s H scope (compEnvC scope cl C X.env) fp) ifs (tT X.K ca W0 tc))
    (he : ∀ (s : Shared) (H : Hp) (C : Addr) (cl : List (Str × Addr)) (fp : List Addr), KE (X.blk s H scope (compEnvC scope cl C X.env) fp) ca W0 elt me)
    (hg : ∀ (s : Shared) (H : Hp) (C : Addr) (cl : List (Str × Addr)) (fp : List Addr), PG (X.blk s H scope (compEnvC scope cl C X.env) fp) tg gt) (ho : OwnG X.K (own.map (·.2)) g gt) (hs : ∀ x, foldedSetIterable iter X.env x = pure x := by intro _; rfl) :
    KE X ca W (.ListComp elt [⟨tg, iter, ifs, 0⟩] scope pos) (Cd.eComp (own.map (·.2)) mi g tc me) :=
  PE.wk (pe_lc (te := tE X.K ca W0 me) (own := own) hc hN hi (blkOk_by ok) hg ht he hs) (tLc_of ho (fun _ _ _ q => q) (fun _ _ _ q => q) (wipe_any _))
theorem ks_setLcG (k : Nat) (own : List (Str × Nat)) {z : Str} {pz spos : Pos} (hc : X.calm = true) (hN : X.N.Nodup) (hi : KI X ca W tg iter mi) (ok : blkC X.N X.env.scope scope own = true)
    (hsw : swapsWith (.ListComp elt [⟨tg, iter, ifs, 0⟩] scope pos) (some (.Name z pz)) spos.line X.env = pure true)
    (ht : ∀ (s : Shared) (H : Hp) (C : Addr) (cl : List (Str × Addr)) (fp : List Addr), PTs (X.blk s H scope (compEnvC scope cl C X.env) fp) ifs (tT X.K ca W0 tc))
    (he : ∀ (s : Shared) (H : Hp) (C : Addr) (cl : List (Str × Addr)) (fp : List Addr), KE (X.blk s H scope (compEnvC scope cl C X.env) fp) ca W0 elt me)
    (hg : ∀ (s : Shared) (H : Hp) (C : Addr) (cl : List (Str × Addr)) (fp : List Addr), PG (X.blk s H scope (compEnvC scope cl C X.env) fp) tg gt) (ho : OwnG X.K (own.map (·.2)) g gt)
    (hy : X.N[k]? = some z := by rfl) (hyl : X.env.scope.names.lookup z = some .local := by rfl) (hs : ∀ x, foldedSetIterable iter X.env x = pure x := by intro _; rfl) :
    KS X ca W (.Assign [.Name z pz] (.ListComp elt [⟨tg, iter, ifs, 0⟩] scope pos) spos) (Cd.sSet k (Cd.eComp (own.map (·.2)) mi g tc me)) := by
  refine PS.wk (ps_setLc (te := tE X.K ca W0 me) (i := k) (own := own) hc hN hy hyl hsw hi (blkOk_by ok) hg ht he hs) fun D σ H ⟨ρ, h, η, S, re, p⟩ => ?_
  refine tLc_of ho (fun _ _ _ q => q) (fun _ _ _ q => q) (wipe_any _) σ H _ ⟨ρ, h, η, S, re, postS.first S re p fun ρ1 H1 h1 v x st1 S1 r1 re1 p1 => ?_⟩
  exact p1 ρ1 H1 _ (Step.refl _ _) S1 (re1.set r1 k)
theorem k_dcG (own : List (Str × Nat)) (hc : X.calm = true) (hN : X.N.Nodup) (hi : KI X ca W tg iter mi) (ok : blkC X.N X.env.scope scope own = true)
    (ht : ∀ (s : Shared) (H : Hp) (C : Addr) (cl : List (Str × Addr)) (fp : List Addr), PTs (X.blk s H scope (compEnvC scope cl C X.env) fp) ifs (tT X.K ca W0 tc))
    (hk : ∀ (s : Shared) (H : Hp) (C : Addr) (cl : List (Str × Addr)) (fp : List Addr), KE (X.blk s H scope (compEnvC scope cl C X.env) fp) ca W0 kx mk)
    (hv : ∀ (s : Shared) (H : Hp) (C : Addr) (cl : List (Str × Addr)) (fp : List Addr), KE (X.blk s H scope (compEnvC scope cl C X.env) fp) ca W0 vx mv)
    (hg : ∀ (s : Shared) (H : Hp) (C : Addr) (cl : List (Str × Addr)) (fp : List Addr), PG (X.blk s H scope (compEnvC scope cl C X.env) fp) tg gt) (ho : OwnG X.K (own.map (·.2)) g gt) (hs : ∀ x, foldedSetIterable iter X.env x = pure x := by intro _; rfl) :
    KE X ca W (.DictComp kx vx [⟨tg, iter, ifs, 0⟩] scope pos) (Cd.eDComp (own.map (·.2)) mi g tc mk mv) :=
  PE.wk (pe_dc (tk := tE X.K ca W0 mk) (tv := tE X.K ca W0 mv) (own := own) hc hN hi (blkOk_by ok) hg ht hk hv hs) (tDc_of ho (fun _ _ _ q => q) (fun _ _ _ q => q) (fun _ _ _ q => q) (wipe_any _))
theorem sw_trueD {kx vx : Expr} {gs : List Comprehension} {scope : Scope} {pos py : Pos} {y : Str} {l : Nat} {env : Env} (h1 : env.scope.kind = .function) (h2 : env.scope.names.lookup y = some .local) (h3 : (py.line == pos.line) = true)
    (h4 : (scope.names.any fun (n, k) => n == y && (k == .local || k == .cell)) = false) : swapsWith (.DictComp kx vx gs scope pos) (some (.Name y py)) l env = pure true :=
  show swapsWith (.ListComp kx gs scope pos) (some (.Name y py)) l env = pure true from sw_true h1 h2 h3 h4
/-- y = {k: v for .. in iter if ..} -/
theorem ps_setDc {i : Nat} {y : Str} {py spos : Pos} {own : List (Str × Nat)} {wi : TI} {tt : TT} {tk tv : TE} (hc : X.calm = true) (hN : X.N.Nodup) (hy : X.N[i]? = some y) (hyl : X.env.scope.names.lookup y = some .local)
    (hsw : swapsWith (.DictComp kx vx [⟨tg, iter, ifs, 0⟩] scope pos) (some (.Name y py)) spos.line X.env = pure true) (hi : PI X tg iter wi) (ok : BlkOk X.N X.env.scope scope own)
    (hg : ∀ (s : Shared) (H : Hp) (C : Addr) (cl : List (Str × Addr)) (fp : List Addr), PG (X.blk s H scope (compEnvC scope cl C X.env) fp) tg gt)
    (ht : ∀ (s : Shared) (H : Hp) (C : Addr) (cl : List (Str × Addr)) (fp : List Addr), PTs (X.blk s H scope (compEnvC scope cl C X.env) fp) ifs tt)
    (hk : ∀ (s : Shared) (H : Hp) (C : Addr) (cl : List (Str × Addr)) (fp : List Addr), PE (X.blk s H scope (compEnvC scope cl C X.env) fp) kx tk)
    (hv : ∀ (s : Shared) (H : Hp) (C : Addr) (cl : List (Str × Addr)) (fp : List Addr), PE (X.blk s H scope (compEnvC scope cl C X.env) fp) vx tv) (hs : ∀ x, foldedSetIterable iter X.env x = pure x) :
    PS X (.Assign [.Name y py] (.DictComp kx vx [⟨tg, iter, ifs, 0⟩] scope pos) spos) (tAsg (tDc wi gt tt tk tv (own.map (·.2))) (gName i)) := by
  refine ⟨fun pins s σ H D I h => ?_⟩
  rw [exec_Assign_Name_used y py _ spos hsw]
  refine wpAny_bind (wpAny_standAt (wpAny_bind ?_))
  show wpAny (model X.prog X.w) X.A (evalThenUse (.DictComp kx vx [⟨tg, iter, ifs, 0⟩] scope pos) X.env _) _ _ _
  refine wpAny_bind (thn (dc_core hc hN I hi ok hg ht hk hv hs h fun L C s' m H' I' q hn f => ?_) fun x s' hq => wpAny_pure (wpAny_pure hq))
  refine wpAny_assign_Name (store_ok2 (v := V.ref L) I' hN hy (Or.inl hyl) rfl (fun s2 I2 x => ?_) (Or.inr hyl))
  obtain ⟨a, sb, ha⟩ := x
  obtain ⟨f0, f1, f2, f3, f4, f5⟩ := f
  have haC : C ≠ a := by
    rcases ha with z | z
    · rw [z]; exact f1
    · exact fun e => f4 y a z e.symm
  exact ⟨m, Heap.Ns.sameBut hn sb haC, fun h3 sb3 => ⟨σ.set i (some (.ref L)), H', I2.turned (fun b o hb e => (sb3.right b hb).trans e) f0 f1 f3 f4 f5, q⟩⟩
theorem ks_setDcG (k : Nat) (own : List (Str × Nat)) {z : Str} {pz spos : Pos} (hc : X.calm = true) (hN : X.N.Nodup) (hi : KI X ca W tg iter mi) (ok : blkC X.N X.env.scope scope own = true)
    (hsw : swapsWith (.DictComp kx vx [⟨tg, iter, ifs, 0⟩] scope pos) (some (.Name z pz)) spos.line X.env = pure true)
    (ht : ∀ (s : Shared) (H : Hp) (C : Addr) (cl : List (Str × Addr)) (fp : List Addr), PTs (X.blk s H scope (compEnvC scope cl C X.env) fp) ifs (tT X.K ca W0 tc))
    (hk : ∀ (s : Shared) (H : Hp) (C : Addr) (cl : List (Str × Addr)) (fp : List Addr), KE (X.blk s H scope (compEnvC scope cl C X.env) fp) ca W0 kx mk)
    (hv : ∀ (s : Shared) (H : Hp) (C : Addr) (cl : List (Str × Addr)) (fp : List Addr), KE (X.blk s H scope (compEnvC scope cl C X.env) fp) ca W0 vx mv)
    (hg : ∀ (s : Shared) (H : Hp) (C : Addr) (cl : List (Str × Addr)) (fp : List Addr), PG (X.blk s H scope (compEnvC scope cl C X.env) fp) tg gt) (ho : OwnG X.K (own.map (·.2)) g gt)
    (hy : X.N[k]? = some z := by rfl) (hyl : X.env.scope.names.lookup z = some .local := by rfl) (hs : ∀ x, foldedSetIterable iter X.env x = pure x := by intro _; rfl) :
    KS X ca W (.Assign [.Name z pz] (.DictComp kx vx [⟨tg, iter, ifs, 0⟩] scope pos) spos) (Cd.sSet k (Cd.eDComp (own.map (·.2)) mi g tc mk mv)) := by
  refine PS.wk (ps_setDc (tk := tE X.K ca W0 mk) (tv := tE X.K ca W0 mv) (i := k) (own := own) hc hN hy hyl hsw hi (blkOk_by ok) hg ht hk hv hs) fun D σ H ⟨ρ, h, η, S, re, p⟩ => ?_
  refine tDc_of ho (fun _ _ _ q => q) (fun _ _ _ q => q) (fun _ _ _ q => q) (wipe_any _) σ H _ ⟨ρ, h, η, S, re, postS.first S re p fun ρ1 H1 h1 v x st1 S1 r1 re1 p1 => ?_⟩
  exact p1 ρ1 H1 _ (Step.refl _ _) S1 (re1.set r1 k)
end
end Cb

set_option maxRecDepth 100000
/-! CdLib: how the combinators reckon; loops by what holds of them. -/
namespace Cd
open Classical
@[simp] theorem szOk_iff {n : Nat} : szOk n ↔ n ≤ 16777216 := by
  unfold szOk
  rw [line_is]
@[simp] theorem get_0 {α : Type} (a : α) (l : List α) : (a :: l)[0]? = some a := id rfl
@[simp] theorem get_S {α : Type} (a : α) (l : List α) (i : Nat) : (a :: l)[i + 1]? = l[i]? := id rfl
@[simp] theorem eVar_eq (i : Nat) (η : Env) (h : Hep) : eVar i η h = ofO (η[i]?).join h := by
  unfold eVar
  cases e : η[i]? with
  | none => rfl
  | some o => cases o <;> rfl
@[simp] theorem eC_eq (v : Val) (η : Env) (h : Hep) : eC v η h = .ok v h := id rfl
@[simp] theorem eBin_eq (f : Hep → Val → Val → Option Val) (a b : EM) (η : Env) (h : Hep) : eBin f a b η h = (a η h).bind fun x h1 => (b η h1).bind fun y h2 => ofO (f h2 x y) h2 := id rfl
@[simp] theorem eUn_eq (f : Hep → Val → Option Val) (a : EM) (η : Env) (h : Hep) : eUn f a η h = (a η h).bind fun x h1 => ofO (f h1 x) h1 := id rfl
@[simp] theorem aNil_eq (η : Env) (h : Hep) : aNil η h = .ok [] h := id rfl
@[simp] theorem aCons_eq (a : EM) (r : AM) (η : Env) (h : Hep) : aCons a r η h = (a η h).bind fun x h1 => (r η h1).bind fun xs h2 => .ok (x :: xs) h2 := id rfl
@[simp] theorem eTup_eq (a : AM) (η : Env) (h : Hep) : eTup a η h = (a η h).bind fun xs h1 => if szOk xs.length then .ok (.tup xs) h1 else .stuck := id rfl
@[simp] theorem eLst_eq (a : AM) (η : Env) (h : Hep) : eLst a η h = (a η h).bind fun xs h1 => if szOk xs.length then .ok (.ref h1.length) (h1 ++ [.lst xs]) else .stuck := id rfl
@[simp] theorem eCall_eq (F : Fn) (a : AM) (η : Env) (h : Hep) : eCall F a η h = (a η h).bind fun xs h1 => F xs h1 := id rfl
@[simp] theorem eIf_eq (c : TM) (a b : EM) (η : Env) (h : Hep) : eIf c a b η h = (c η h).bind fun k h1 => if k then a η h1 else b η h1 := id rfl
@[simp] theorem eAnd_eq (a b : EM) (η : Env) (h : Hep) : eAnd a b η h = (a η h).bind fun x h1 => match x with | .bl true => b η h1 | .bl false => .ok (.bl false) h1 | _ => .stuck := id rfl
@[simp] theorem eOr_eq (a b : EM) (η : Env) (h : Hep) : eOr a b η h = (a η h).bind fun x h1 => match x with | .bl true => .ok (.bl true) h1 | .bl false => b η h1 | _ => .stuck := id rfl
@[simp] theorem eNot_eq (a : EM) (η : Env) (h : Hep) : eNot a η h = (a η h).bind fun x h1 => match x with | .bl k => .ok (.bl (!k)) h1 | _ => .stuck := id rfl
@[simp] theorem tVal_eq (a : EM) (η : Env) (h : Hep) : tVal a η h = (a η h).bind fun x h1 => match x with | .bl k => .ok k h1 | _ => .stuck := id rfl
@[simp] theorem tAnd_eq (a b : TM) (η : Env) (h : Hep) : tAnd a b η h = (a η h).bind fun k h1 => if k then b η h1 else .ok false h1 := id rfl
@[simp] theorem tOr_eq (a b : TM) (η : Env) (h : Hep) : tOr a b η h = (a η h).bind fun k h1 => if k then .ok true h1 else b η h1 := id rfl
@[simp] theorem tNot_eq (a : TM) (η : Env) (h : Hep) : tNot a η h = (a η h).bind fun k h1 => .ok (!k) h1 := id rfl
@[simp] theorem tTru_eq (a : EM) (η : Env) (h : Hep) : tTru a η h = (a η h).bind fun x h1 => ofO (truth h1 x) h1 := id rfl
@[simp] theorem truth_bl (h : Hep) (k : Bool) : truth h (.bl k) = some k := id rfl
@[simp] theorem truth_non (h : Hep) : truth h .non = some false := id rfl
@[simp] theorem truth_int (h : Hep) (i : Int) : truth h (.int i) = some (i != 0) := id rfl
@[simp] theorem truth_tup (h : Hep) (l : List Val) : truth h (.tup l) = some (!l.isEmpty) := id rfl
@[simp] theorem sNop_eq (η : Env) (h : Hep) : sNop η h = .nx η h := id rfl
@[simp] theorem sBrk_eq (η : Env) (h : Hep) : sBrk η h = .brk η h := id rfl
@[simp] theorem sCont_eq (η : Env) (h : Hep) : sCont η h = .cont η h := id rfl
@[simp] theorem sSeq_eq (a b : SM) (η : Env) (h : Hep) : sSeq a b η h = (a η h).bind fun η1 h1 => b η1 h1 := id rfl
@[simp] theorem sSet_eq (i : Nat) (e : EM) (η : Env) (h : Hep) : sSet i e η h = (e η h).thn η fun v h1 => .nx (η.set i (some v)) h1 := id rfl
@[simp] theorem sExpr_eq (e : EM) (η : Env) (h : Hep) : sExpr e η h = (e η h).thn η fun _ h1 => .nx η h1 := id rfl
@[simp] theorem sRet_eq (e : EM) (η : Env) (h : Hep) : sRet e η h = (e η h).thn η fun v h1 => .ret v h1 := id rfl
@[simp] theorem sRetN_eq (η : Env) (h : Hep) : sRetN η h = .ret .non h := id rfl
@[simp] theorem sIf_eq (c : TM) (a b : SM) (η : Env) (h : Hep) : sIf c a b η h = (c η h).thn η fun k h1 => if k then a η h1 else b η h1 := id rfl
@[simp] theorem sAug_eq (i : Nat) (f : Hep → Val → Val → Option Val) (e : EM) (η : Env) (h : Hep) : sAug i f e η h = (ofO (η[i]?).join h).thn η fun x h => (e η h).thn η fun y h1 => (ofO (f h1 x y) h1).thn η fun z h2 => .nx (η.set i (some z)) h2 := by
  unfold sAug
  cases e : η[i]? with
  | none => rfl
  | some o => cases o <;> rfl
@[simp] theorem sAsg_eq (g : GM) (e : EM) (η : Env) (h : Hep) : sAsg g e η h = (e η h).thn η fun v h1 => match g v η with | some η1 => .nx η1 h1 | none => .stuck := id rfl
@[simp] theorem gNam_eq (i : Nat) (v : Val) (η : Env) : gNam i v η = some (η.set i (some v)) := id rfl
@[simp] theorem gsNil_eq (η : Env) : gsNil [] η = some η := id rfl
@[simp] theorem gsCons_eq (g : GM) (r : GMs) (v : Val) (t : List Val) (η : Env) : gsCons g r (v :: t) η = (g v η).bind fun η1 => r t η1 := id rfl
@[simp] theorem gTpl_eq (gs : GMs) (l : List Val) (η : Env) : gTpl gs (.tup l) η = gs l η := id rfl
@[simp] theorem sFor_eq (it : IM) (g : GM) (b : SM) (η : Env) (h : Hep) : sFor it g b η h = (it η h).thn η fun p h1 => forL g p.2 b p.1 η h1 := id rfl
@[simp] theorem iArgs_eq (f : Hep → List Val → Option (List Val × (Hep → Bool))) (a : AM) (η : Env) (h : Hep) : iArgs f a η h = (a η h).bind fun vs h1 => ofO (f h1 vs) h1 := id rfl
@[simp] theorem iVal_eq (e : EM) (η : Env) (h : Hep) : iVal e η h = (e η h).bind fun v h1 => ofO (items h1 v) h1 := id rfl
@[simp] theorem items_tup (h : Hep) (l : List Val) : items h (.tup l) = some (l, fun _ => true) := id rfl
@[simp] theorem items_fl (h : Hep) (l : List Val) : items h (.fl l) = some (l, fun _ => true) := id rfl
@[simp] theorem items_str (h : Hep) (s : List Nat) : items h (.str s) = some (s.map fun c => .str [c], fun _ => true) := id rfl
@[simp] theorem eCallB_eq (F : BFn) (a : AM) (η : Env) (h : Hep) : eCallB F a η h = (a η h).bind fun xs h1 => match F xs h1 with | some (v, h2) => .ok v h2 | none => .stuck := id rfl
/-! operators -/
@[simp] theorem oAdd_int (h : Hep) (i j : Int) : oAdd h (.int i) (.int j) = some (.int (i + j)) := id rfl
@[simp] theorem oSub_int (h : Hep) (i j : Int) : oSub h (.int i) (.int j) = some (.int (i - j)) := id rfl
theorem oMul_int {h : Hep} {i j : Int} (m : mulOk i j) : oMul h (.int i) (.int j) = some (.int (i * j)) := by show (if _ then _ else _) = _; rw [if_pos m]
theorem oDiv_int {h : Hep} {i j : Int} (m : divOk j) : oDiv h (.int i) (.int j) = some (.int (i / j)) := by show (if _ then _ else _) = _; rw [if_pos m]
theorem oMod_int {h : Hep} {i j : Int} (m : 0 < j) : oMod h (.int i) (.int j) = some (.int (i % j)) := by show (if mdOk j then _ else _) = _; rw [if_pos (show mdOk j from m)]
theorem oPow_int {h : Hep} {i j : Int} (m : powOk i j) : oPow h (.int i) (.int j) = some (.int (i ^ j.toNat)) := by show (if _ then _ else _) = _; rw [if_pos m]
@[simp] theorem oNeg_int (h : Hep) (i : Int) : oNeg h (.int i) = some (.int (-i)) := id rfl
@[simp] theorem oLt_int (h : Hep) (i j : Int) : oLt h (.int i) (.int j) = some (.bl (decide (i < j))) := id rfl
@[simp] theorem oLe_int (h : Hep) (i j : Int) : oLe h (.int i) (.int j) = some (.bl (decide (i ≤ j))) := id rfl
@[simp] theorem oGt_int (h : Hep) (i j : Int) : oGt h (.int i) (.int j) = some (.bl (decide (j < i))) := id rfl
@[simp] theorem oGe_int (h : Hep) (i j : Int) : oGe h (.int i) (.int j) = some (.bl (decide (j ≤ i))) := id rfl
@[simp] theorem oEq_int (h : Hep) (i j : Int) : oEq h (.int i) (.int j) = some (.bl (i == j)) := id rfl
@[simp] theorem oEq_str (h : Hep) (i j : List Nat) : oEq h (.str i) (.str j) = some (.bl (i == j)) := id rfl
@[simp] theorem oEq_bl (h : Hep) (i j : Bool) : oEq h (.bl i) (.bl j) = some (.bl (i == j)) := id rfl
@[simp] theorem oNe_int (h : Hep) (i j : Int) : oNe h (.int i) (.int j) = some (.bl (!(i == j))) := id rfl
@[simp] theorem oNe_str (h : Hep) (i j : List Nat) : oNe h (.str i) (.str j) = some (.bl (!(i == j))) := id rfl
@[simp] theorem oNe_bl (h : Hep) (i j : Bool) : oNe h (.bl i) (.bl j) = some (.bl (!(i == j))) := id rfl
theorem oEq_of {h : Hep} {a b : Val} {k : Bool} (e : vEq h a b = some k) : oEq h a b = some (.bl k) := by unfold oEq; rw [e]; rfl
theorem oNe_of {h : Hep} {a b : Val} {k : Bool} (e : vEq h a b = some k) : oNe h a b = some (.bl (!k)) := by unfold oNe; rw [e]; rfl
@[simp] theorem oIsN_eq (h : Hep) (a : Val) : oIsN h a .non = some (.bl (isNon a)) := id rfl
@[simp] theorem oNotN_eq (h : Hep) (a : Val) : oNotN h a .non = some (.bl (!isNon a)) := id rfl
@[simp] theorem oIdx_tup (h : Hep) (l : List Val) (i : Int) : oIdx h (.tup l) (.int i) = atI l i := id rfl
@[simp] theorem oIdx_fl (h : Hep) (l : List Val) (i : Int) : oIdx h (.fl l) (.int i) = atI l i := id rfl
theorem oIdx_ref {h : Hep} {n : Nat} {l : List Val} {i : Int} (e : h[n]? = some (.lst l)) : oIdx h (.ref n) (.int i) = atI l i := by
  show (match h[n]? with | some (.lst l) => atI l i | _ => none) = _
  rw [e]
@[simp] theorem get_new {α : Type} (h : List α) (x : α) : (h ++ [x])[h.length]? = some x := by
  rw [List.getElem?_append_right (Nat.le_refl _), Nat.sub_self]; rfl
@[simp] theorem oIdx_new (h : Hep) (l : List Val) (i : Int) : oIdx (h ++ [.lst l]) (.ref h.length) (.int i) = atI l i := oIdx_ref (get_new _ _)
theorem atI_nat {α : Type} {xs : List α} {j : Nat} (h : j < xs.length) : atI xs (j : Int) = xs[j]? := by
  unfold atI ixN
  rw [if_pos (by omega), if_pos (by omega)]
  simp
theorem atI_of {α : Type} {xs : List α} {i : Int} {v : α} (h0 : 0 ≤ i) (h : xs[i.toNat]? = some v) : atI xs i = some v := by
  have hl : i.toNat < xs.length := (List.getElem?_eq_some_iff.mp h).1
  unfold atI ixN
  rw [if_pos h0, if_pos (by omega)]
  exact h
@[simp] theorem atI_zero {α : Type} (x : α) (xs : List α) : atI (x :: xs) 0 = some x := atI_of (by decide) rfl
@[simp] theorem atI_one {α : Type} (x y : α) (xs : List α) : atI (x :: y :: xs) 1 = some y := atI_of (by decide) rfl
@[simp] theorem atI_two {α : Type} (x y z : α) (xs : List α) : atI (x :: y :: z :: xs) 2 = some z := atI_of (by decide) rfl
@[simp] theorem atI_three {α : Type} (x y z u : α) (xs : List α) : atI (x :: y :: z :: u :: xs) 3 = some u := atI_of (by decide) rfl
@[simp] theorem atI_four {α : Type} (x y z u w : α) (xs : List α) : atI (x :: y :: z :: u :: w :: xs) 4 = some w := atI_of (by decide) rfl
/-! built-ins -/
@[simp] theorem bLen_tup (l : List Val) (h : Hep) : bLen [.tup l] h = some (.int l.length, h) := id rfl
@[simp] theorem bLen_fl (l : List Val) (h : Hep) : bLen [.fl l] h = some (.int l.length, h) := id rfl
theorem bLen_str {s : List Nat} {h : Hep} (l : s.length ≤ 16777216) : bLen [.str s] h = some (.int s.length, h) := by show (if szOk s.length then _ else _) = _; rw [if_pos (szOk_iff.mpr l)]
theorem bLen_ref {h : Hep} {n : Nat} {l : List Val} (e : h[n]? = some (.lst l)) : bLen [.ref n] h = some (.int l.length, h) := by
  show (match h[n]? with | some (.lst l) => some (Val.int l.length, h) | _ => none) = _
  rw [e]
@[simp] theorem bAbs_int (i : Int) (h : Hep) : bAbs [.int i] h = some (.int (if i < 0 then -i else i), h) := id rfl
@[simp] theorem bMax2_int (i j : Int) (h : Hep) : bMax2 [.int i, .int j] h = some (.int (if j > i then j else i), h) := id rfl
@[simp] theorem bMin2_int (i j : Int) (h : Hep) : bMin2 [.int i, .int j] h = some (.int (if j < i then j else i), h) := id rfl
@[simp] theorem bInt_int (i : Int) (h : Hep) : bInt [.int i] h = some (.int i, h) := id rfl
@[simp] theorem bInt_bl (k : Bool) (h : Hep) : bInt [.bl k] h = some (.int (if k then 1 else 0), h) := id rfl
@[simp] theorem typ_int (h : Hep) (i : Int) : typ h (.int i) = some "int" := id rfl
@[simp] theorem typ_bl (h : Hep) (i : Bool) : typ h (.bl i) = some "bool" := id rfl
@[simp] theorem typ_str (h : Hep) (i : List Nat) : typ h (.str i) = some "str" := id rfl
@[simp] theorem typ_tup (h : Hep) (i : List Val) : typ h (.tup i) = some "tuple" := id rfl
@[simp] theorem typ_fl (h : Hep) (i : List Val) : typ h (.fl i) = some "list" := id rfl
@[simp] theorem typ_non (h : Hep) : typ h .non = some "NoneType" := id rfl
@[simp] theorem oIsi_eq (n : String) (h : Hep) (v : Val) : oIsi n h v = (typ h v).map fun t => .bl (isT t n) := id rfl
theorem mulOk_l {i j : Int} (h1 : -(2 ^ 64) < i) (h2 : i < 2 ^ 64) : mulOk i j := .inl ⟨h1, h2⟩
theorem mulOk_r {i j : Int} (h1 : -(2 ^ 64) < j) (h2 : j < 2 ^ 64) : mulOk i j := .inr (.inl ⟨h1, h2⟩)
theorem log2_lt {n k : Nat} (hk : 0 < k) (h : n < 2 ^ k) : n.log2 < k := by
  by_cases e : n = 0
  · subst e; exact hk
  · exact (Nat.log2_lt e).mpr h
theorem mulOk_b {i j : Int} {a b : Nat} (ha : i.natAbs < 2 ^ a) (hb : j.natAbs < 2 ^ b) (h0 : 0 < a) (h1 : 0 < b) (h : a + b ≤ 1000000) : mulOk i j := by
  have h2 := log2_lt h0 ha
  have h3 := log2_lt h1 hb
  exact .inr (.inr (by omega))
theorem divOk_b {j : Int} {b : Nat} (h0 : 0 < j) (hb : j.natAbs < 2 ^ b) (h1 : 0 < b) (h : b ≤ 9000) : divOk j := by
  have h3 := log2_lt h1 hb
  exact ⟨h0, by omega⟩
@[simp] theorem oMul_l {h : Hep} {i j : Int} (h1 : -(2 ^ 64) < i) (h2 : i < 2 ^ 64) : oMul h (.int i) (.int j) = some (.int (i * j)) := oMul_int (mulOk_l h1 h2)
@[simp] theorem oMul_r {h : Hep} {i j : Int} (h1 : -(2 ^ 64) < j) (h2 : j < 2 ^ 64) : oMul h (.int i) (.int j) = some (.int (i * j)) := oMul_int (mulOk_r h1 h2)
@[simp] theorem oDiv_s {h : Hep} {i j : Int} (h1 : 0 < j) (h2 : j < 2 ^ 64) : oDiv h (.int i) (.int j) = some (.int (i / j)) := oDiv_int (divOk_b (b := 64) h1 (by omega) (by decide) (by decide))
@[simp] theorem oMod_s {h : Hep} {i j : Int} (h1 : 0 < j) : oMod h (.int i) (.int j) = some (.int (i % j)) := oMod_int h1
@[simp] theorem oPow_s {h : Hep} {i j : Int} (h0 : 0 ≤ j) (h1 : j ≤ 1000000) (h2 : -1000 < i) (h3 : i < 1000) : oPow h (.int i) (.int j) = some (.int (i ^ j.toNat)) := oPow_int ⟨h0, h1, by omega⟩
@[simp] theorem fRng1_s {h : Hep} {j : Int} (h1 : -(2 ^ 62) ≤ j) (h2 : j < 2 ^ 62) : fRng1 h [.int j] = some (rng 0 j.toNat, fun _ => true) := by
  show (if i62 j then _ else _) = _
  rw [if_pos ⟨h1, h2⟩]
@[simp] theorem forL_nil (g : GM) (chk : Hep → Bool) (b : SM) (η : Env) (h : Hep) : forL g chk b [] η h = if chk h then .nx η h else .stuck := id rfl
@[simp] theorem forL_cons (g : GM) (chk : Hep → Bool) (b : SM) (x : Val) (xs : List Val) (η : Env) (h : Hep) : forL g chk b (x :: xs) η h = if chk h then
      match g x η with
      | some η1 => match b η1 h with
        | .nx η' h' => forL g chk b xs η' h'
        | .cont η' h' => forL g chk b xs η' h'
        | .brk η' h' => .nx η' h'
        | r => r
      | none => .stuck
    else .stuck := rfl
/-- what is wanted behind a turn -/
def SR.turn (P : Env → Hep → Prop) (Q : SR → Prop) : SR → Prop
  | .nx η h => P η h
  | .cont η h => P η h
  | .brk η h => Q (.nx η h)
  | .ret v h => Q (.ret v h)
  | .exc e η h => Q (.exc e η h)
  | .stuck => Q .stuck
@[simp] theorem SR.turn_nx (P : Env → Hep → Prop) (Q : SR → Prop) (η : Env) (h : Hep) : (SR.nx η h).turn P Q = P η h := id rfl
@[simp] theorem SR.turn_cont (P : Env → Hep → Prop) (Q : SR → Prop) (η : Env) (h : Hep) : (SR.cont η h).turn P Q = P η h := id rfl
@[simp] theorem SR.turn_brk (P : Env → Hep → Prop) (Q : SR → Prop) (η : Env) (h : Hep) : (SR.brk η h).turn P Q = Q (.nx η h) := id rfl
@[simp] theorem SR.turn_ret (P : Env → Hep → Prop) (Q : SR → Prop) (v : Val) (h : Hep) : (SR.ret v h).turn P Q = Q (.ret v h) := id rfl
@[simp] theorem SR.turn_exc (P : Env → Hep → Prop) (Q : SR → Prop) (e : Exc) (η : Env) (h : Hep) : (SR.exc e η h).turn P Q = Q (.exc e η h) := id rfl
/-- what a for comes to: P holds ahead of each turn -/
theorem forL_gen {g : GM} {chk : Hep → Bool} {b : SM} (Q : SR → Prop) : ∀ (xs : List Val) (P : Nat → Env → Hep → Prop) (η : Env) (h : Hep), P 0 η h →
    (∀ i x η h, xs[i]? = some x → P i η h → chk h = true ∧ ∃ η1, g x η = some η1 ∧ (b η1 h).turn (P (i + 1)) Q) →
    (∀ η h, P xs.length η h → chk h = true ∧ Q (.nx η h)) → Q (forL g chk b xs η h)
  | [], P, η, h, h0, step, fin => by
    obtain ⟨c, q⟩ := fin η h h0
    rw [forL, if_pos c]; exact q
  | x :: xs, P, η, h, h0, step, fin => by
    obtain ⟨c, η1, e1, q⟩ := step 0 x η h rfl h0
    rw [forL, if_pos c, e1]
    simp only
    have go : ∀ η' h', P 1 η' h' → Q (forL g chk b xs η' h') := fun η' h' p =>
      forL_gen Q xs (fun i => P (i + 1)) η' h' p (fun i x η h e p => step (i + 1) x η h e p) fun η h p => fin η h p
    cases eb : b η1 h with
    | nx η' h' => rw [eb] at q; exact go η' h' q
    | cont η' h' => rw [eb] at q; exact go η' h' q
    | brk η' h' => rw [eb] at q; exact q
    | ret v h' => rw [eb] at q; exact q
    | exc e η' h' => rw [eb] at q; exact q
    | stuck => rw [eb] at q; exact q
theorem rng_get {lo : Int} {n i : Nat} {x : Val} (e : (rng lo n)[i]? = some x) : i < n ∧ x = .int (lo + i) := by
  have hi : i < n := by
    have := (List.getElem?_eq_some_iff.mp e).1
    simpa [rng] using this
  unfold rng at e
  rw [List.getElem?_map, List.getElem?_range hi] at e
  exact ⟨hi, (Option.some.inj e).symm⟩
@[simp] theorem rng_length (lo : Int) (n : Nat) : (rng lo n).length = n := by simp [rng]
theorem fRng1_of {h : Hep} {j : Int} (h1 : -(2 ^ 62) ≤ j) (h2 : j < 2 ^ 62) : fRng1 h [.int j] = some (rng 0 j.toNat, fun _ => true) := by
  show (if i62 j then _ else _) = _
  rw [if_pos ⟨h1, h2⟩]
theorem fRng2_of {h : Hep} {i j : Int} (h1 : -(2 ^ 62) ≤ i) (h2 : i < 2 ^ 62) (h3 : -(2 ^ 62) ≤ j) (h4 : j < 2 ^ 62) : fRng2 h [.int i, .int j] = some (rng i (j - i).toNat, fun _ => true) := by
  show (if i62 i ∧ i62 j then _ else _) = _
  rw [if_pos ⟨⟨h1, h2⟩, h3, h4⟩]
/-- a body's end as the def's -/
def SR.res : SR → Res Val
  | .nx _ h' => .ok .non h'
  | .ret v h' => .ok v h'
  | .exc e _ h' => .exc e h'
  | _ => .stuck
@[simp] theorem SR.res_nx (η : Env) (h : Hep) : (SR.nx η h).res = .ok .non h := id rfl
@[simp] theorem SR.res_ret (v : Val) (h : Hep) : (SR.ret v h).res = .ok v h := id rfl
@[simp] theorem SR.res_exc (e : Exc) (η : Env) (h : Hep) : (SR.exc e η h).res = .exc e h := id rfl
theorem fn_eq {n N : Nat} {b : SM} {vs : List Val} {h : Hep} (e : vs.length = n) : fn n N b vs h = (b (vs.map some ++ List.replicate (N - n) none) h).res := by
  unfold fn
  rw [if_pos e]
  rfl
@[simp] theorem fn_1 (N : Nat) (b : SM) (v : Val) (h : Hep) : fn 1 N b [v] h = (b (some v :: List.replicate (N - 1) none) h).res := id rfl
@[simp] theorem fn_2 (N : Nat) (b : SM) (v1 v2 : Val) (h : Hep) : fn 2 N b [v1, v2] h = (b (some v1 :: some v2 :: List.replicate (N - 2) none) h).res := id rfl
@[simp] theorem fn_3 (N : Nat) (b : SM) (v1 v2 v3 : Val) (h : Hep) : fn 3 N b [v1, v2, v3] h = (b (some v1 :: some v2 :: some v3 :: List.replicate (N - 3) none) h).res := id rfl
@[simp] theorem fn_4 (N : Nat) (b : SM) (v1 v2 v3 v4 : Val) (h : Hep) : fn 4 N b [v1, v2, v3, v4] h = (b (some v1 :: some v2 :: some v3 :: some v4 :: List.replicate (N - 4) none) h).res := id rfl
end Cd

set_option maxRecDepth 100000
/-! CdLib2: how the later combinators reckon -/
namespace Cd
open Classical
@[simp] theorem fn_0 (N : Nat) (b : SM) (h : Hep) : fn 0 N b [] h = (b (List.replicate (N - 0) none) h).res := id rfl
@[simp] theorem fn_5 (N : Nat) (b : SM) (v1 v2 v3 v4 v5 : Val) (h : Hep) : fn 5 N b [v1, v2, v3, v4, v5] h = (b (some v1 :: some v2 :: some v3 :: some v4 :: some v5 :: List.replicate (N - 5) none) h).res := id rfl
@[simp] theorem fn_6 (N : Nat) (b : SM) (v1 v2 v3 v4 v5 v6 : Val) (h : Hep) : fn 6 N b [v1, v2, v3, v4, v5, v6] h = (b (some v1 :: some v2 :: some v3 :: some v4 :: some v5 :: some v6 :: List.replicate (N - 6) none) h).res := id rfl
@[simp] theorem oIAdd_int (h : Hep) (i j : Int) : oIAdd h (.int i) (.int j) = some (.int (i + j)) := id rfl
theorem oIAdd_str {h : Hep} {s t : List Nat} (l : s.length + t.length ≤ 16777216) : oIAdd h (.str s) (.str t) = some (.str (s ++ t)) := by
  show (if szOk _ then _ else _) = _
  rw [if_pos (szOk_iff.mpr l)]
@[simp] theorem sRaise_eq (c : String) (η : Env) (h : Hep) : sRaise c η h = .exc ⟨c, []⟩ η h := id rfl
@[simp] theorem sTry_eq (tbl : List (String × Bool)) (i : Nat) (b : SM) (hd : Exc → Nat → SM) (η : Env) (h : Hep) : sTry tbl i b hd η h = match b η h with
  | .exc x η' h' => match tbl.lookup x.cls with
    | some true => if ∀ a, (hd x a (η'.set i (some (.exo a))) h').forget i = (hd x 0 (η'.set i (some (.exo 0))) h').forget i then (hd x 0 (η'.set i (some (.exo 0))) h').forget i else .stuck
    | some false => .exc x η' h'
    | none => .stuck
  | r => r := id rfl
@[simp] theorem sTryO_eq (tbl : List (String × Bool)) (b : SM) (hd : SM) (η : Env) (h : Hep) : sTryO tbl b hd η h = match b η h with
  | .exc x η' h' => match tbl.lookup x.cls with
    | some true => (hd η' h').quiet
    | some false => .exc x η' h'
    | none => .stuck
  | r => r := id rfl
@[simp] theorem forget_nx (i : Nat) (η : Env) (h : Hep) : (SR.nx η h).forget i = .nx (η.set i none) h := id rfl
@[simp] theorem forget_ret (i : Nat) (v : Val) (h : Hep) : (SR.ret v h).forget i = .ret v h := id rfl
@[simp] theorem quiet_nx (η : Env) (h : Hep) : (SR.nx η h).quiet = .nx η h := id rfl
@[simp] theorem quiet_ret (v : Val) (h : Hep) : (SR.ret v h).quiet = .ret v h := id rfl
@[simp] theorem eIsE_eq (tbl : List (String × Bool)) (x : Exc) (a : Nat) (m : EM) (η : Env) (h : Hep) : eIsE tbl x a m η h = (m η h).bind fun v h1 => match v with
  | .exo b => if b = a then (if x.args = [] then (match tbl.lookup x.cls with | some k => .ok (.bl k) h1 | none => .stuck) else .stuck) else .stuck
  | _ => .stuck := id rfl
@[simp] theorem eMth_eq (T : String) (F : Val → BFn) (o : EM) (a : AM) (η : Env) (h : Hep) : eMth T F o a η h = (o η h).bind fun x h1 => if typ h1 x = some T then (a η h1).bind fun xs h2 => (match F x xs h2 with | some (v, h3) => .ok v h3 | none => .stuck) else .stuck := id rfl
@[simp] theorem eSl_eq (o : EM) (lo hi : PM) (η : Env) (h : Hep) : eSl o lo hi η h = (o η h).bind fun x h1 => (lo η h1).bind fun l h2 => (hi η h2).bind fun u h3 => match oSl h3 x l u with | some (v, h4) => .ok v h4 | none => .stuck := id rfl
@[simp] theorem pNo_eq (η : Env) (h : Hep) : pNo η h = .ok none h := id rfl
@[simp] theorem pSome_eq (e : EM) (η : Env) (h : Hep) : pSome e η h = (e η h).bind fun x h1 => match x with | .int i => .ok (some i) h1 | _ => .stuck := id rfl
@[simp] theorem sSetIx_eq (o i e : EM) (η : Env) (h : Hep) : sSetIx o i e η h = (e η h).thn η fun v h1 => (o η h1).thn η fun x h2 => (i η h2).thn η fun k h3 => match setIx h3 x k v with
  | some h4 => .nx η h4
  | none => .stuck := id rfl
@[simp] theorem eComp_eq (vs : List Nat) (it : IM) (g : GM) (c : TM) (e : EM) (η : Env) (h : Hep) : eComp vs it g c e η h = (it η h).bind fun p h1 => (compL g p.2 c e (wipe η vs) p.1 h1).bind fun ys h2 => if szOk ys.length then .ok (.ref h2.length) (h2 ++ [.lst ys]) else .stuck := id rfl
@[simp] theorem oIn_ch (h : Hep) (c : Nat) (s : List Nat) : oIn h (.str [c]) (.str s) = some (.bl (decide (c ∈ s))) := id rfl
@[simp] theorem oNin_ch (h : Hep) (c : Nat) (s : List Nat) : oNin h (.str [c]) (.str s) = some (.bl (!decide (c ∈ s))) := id rfl
@[simp] theorem bOrd_ch (c : Nat) (h : Hep) : bOrd [.str [c]] h = some (.int c, h) := id rfl
@[simp] theorem oLt_str (h : Hep) (i j : List Nat) : oLt h (.str i) (.str j) = some (.bl (decide (i < j))) := id rfl
@[simp] theorem oGt_str (h : Hep) (i j : List Nat) : oGt h (.str i) (.str j) = some (.bl (decide (j < i))) := id rfl
theorem oAdd_str {h : Hep} {s t : List Nat} (l : s.length + t.length ≤ 16777216) : oAdd h (.str s) (.str t) = some (.str (s ++ t)) := by
  show (if szOk _ then _ else _) = _
  rw [if_pos (szOk_iff.mpr l)]
theorem oIdx_str {h : Hep} {s : List Nat} {i : Int} {c : Nat} (l : s.length ≤ 16777216) (e : atI s i = some c) : oIdx h (.str s) (.int i) = some (.str [c]) := by
  show (if szOk _ then _ else _) = _
  rw [if_pos (szOk_iff.mpr l), e]
  rfl
theorem atI_ex {α : Type} {xs : List α} {i : Int} (h0 : 0 ≤ i) (h1 : i < xs.length) : ∃ c, atI xs i = some c := by
  have : i.toNat < xs.length := by omega
  exact ⟨xs[i.toNat], atI_of h0 (List.getElem?_eq_getElem this)⟩
theorem atI_last {α : Type} {xs : List α} (h1 : 0 < xs.length) : ∃ c, atI xs (-1) = some c := by
  refine ⟨xs[xs.length - 1], ?_⟩
  unfold atI ixN
  rw [if_neg (by decide), if_pos (by omega)]
  show xs[(-1 + (xs.length : Int)).toNat]? = _
  rw [show (-1 + (xs.length : Int)).toNat = xs.length - 1 by omega]
  exact List.getElem?_eq_getElem _
theorem in_tup (h : Hep) (s : List Nat) (l : List Val) (q : l.all flat = true) : oIn h (.str s) (.tup l) = some (.bl (l.any fun y => eqF y (.str s))) := by
  have e : isIn h (.str s) (.tup l) = if flat (.str s) && l.all flat then some (l.any fun y => eqF y (.str s)) else none := by
    cases s with
    | nil => rfl
    | cons c t => cases t <;> rfl
  unfold oIn
  rw [e, q]
  rfl
theorem in_ref (h : Hep) (s : List Nat) (n : Nat) (l : List Val) (e1 : h[n]? = some (.lst l)) (q : l.all flat = true) : oIn h (.str s) (.ref n) = some (.bl (l.any fun y => eqF y (.str s))) := by
  have e : isIn h (.str s) (.ref n) = match seqOf h (.ref n) with | some l => if flat (.str s) && l.all flat then some (l.any fun y => eqF y (.str s)) else none | none => none := by
    cases s with
    | nil => rfl
    | cons c t => cases t <;> rfl
  have e2 : seqOf h (.ref n) = some l := by
    show (match h[n]? with | some (.lst l) => some l | _ => none) = _
    rw [e1]
  unfold oIn
  rw [e, e2]
  show ((if flat (.str s) && l.all flat then some (l.any fun y => eqF y (.str s)) else none).map Val.bl) = _
  rw [q]
  rfl
theorem split_ok {h : Hep} {s : List Nat} {c : Nat} (hc : c < 256) (l : s.length + 2 ≤ 16777216) : mSplit (.str s) [.str [c]] h = some (.ref h.length, h ++ [.lst ((cutAt c [] s).map .str)]) := by
  show (if splitOk _ _ then _ else _) = _
  rw [if_pos ⟨hc, by rw [line_is]; exact l⟩]
theorem oSl_str {h : Hep} {s : List Nat} (l : s.length ≤ 16777216) (lo hi : Option Int) : oSl h (.str s) lo hi = some (.str (cut s lo hi), h) := by
  show (if szOk _ then _ else _) = _
  rw [if_pos (szOk_iff.mpr l)]
theorem cut_len {α : Type} (l : List α) (lo hi : Option Int) : (cut l lo hi).length ≤ l.length := by
  unfold cut
  rw [List.length_take, List.length_drop]
  omega
@[simp] theorem ch_lt (c d : Nat) : ([c] < [d]) ↔ c < d := by
  constructor
  · intro h
    cases h with
    | rel h => exact h
    | cons h => cases h
  · intro h; exact .rel h
/-- a walk along a text that ends at the first sign that is not wanted -/
theorem all_loop (i : Nat) (b : SM) (p : Nat → Bool) (E : Option Val → Env) (hset : ∀ x v, (E x).set i v = E v)
    (hb : ∀ c h, b (E (some (.str [c]))) h = if p c then .nx (E (some (.str [c]))) h else .ret (.bl false) h) : ∀ (s : List Nat) (v : Option Val) (h : Hep),
    (forL (gNam i) (fun _ => true) b (s.map fun c => .str [c]) (E v) h).bind (fun _ h1 => .ret (.bl true) h1) = .ret (.bl (s.all p)) h
  | [], v, h => rfl
  | c :: s, v, h => by
    have ih := all_loop i b p E hset hb s (some (.str [c])) h
    rw [List.map_cons, forL_cons, if_pos rfl, gNam_eq, hset]
    simp only [hb]
    by_cases q : p c = true
    · rw [if_pos q]
      simp only [ih, List.all_cons, q, Bool.true_and]
    · rw [if_neg q]
      have q2 : p c = false := by simpa using q
      simp only [SR.bind_ret, List.all_cons, q2, Bool.false_and]
end Cd

set_option maxRecDepth 100000
/-! CdLib3: how the texts' combinators reckon -/
namespace Cd
open Classical
theorem repOk_iff {n : Nat} {i : Int} : repOk n i ↔ -1000000 < i ∧ i ≤ 16777216 ∧ n * i.toNat ≤ 16777216 := by
  unfold repOk
  rw [line_is]
  exact Iff.rfl
theorem oMulS_str {h : Hep} {s : List Nat} {i : Int} (m : -1000000 < i ∧ i ≤ 16777216 ∧ s.length * i.toNat ≤ 16777216) : oMulS h (.str s) (.int i) = some (.str (repL s i.toNat)) := by
  show (if repOk _ _ then _ else _) = _
  rw [if_pos (repOk_iff.mpr m)]
theorem repL_ch (c n : Nat) : repL [c] n = List.replicate n c := by
  unfold repL
  induction n with
  | zero => rfl
  | succ n ih => rw [List.replicate_succ, List.flatten_cons, ih, List.replicate_succ]; rfl
theorem fRng3_of {h : Hep} {i j c : Int} (h1 : -(2 ^ 40) ≤ i) (h2 : i < 2 ^ 40) (h3 : -(2 ^ 40) ≤ j) (h4 : j < 2 ^ 40) (h5 : 0 < c) (h6 : c < 2 ^ 29) : fRng3 h [.int i, .int j, .int c] = some (rngC i c (stepN i j c), fun _ => true) := by
  show (if _ then _ else _) = _
  rw [if_pos ⟨⟨h1, h2⟩, ⟨h3, h4⟩, h5, h6⟩]
theorem rngC_get {lo c : Int} {n i : Nat} {x : Val} (e : (rngC lo c n)[i]? = some x) : i < n ∧ x = .int (lo + i * c) := by
  have hi : i < n := by
    have := (List.getElem?_eq_some_iff.mp e).1
    simpa [rngC] using this
  unfold rngC at e
  rw [List.getElem?_map, List.getElem?_range hi] at e
  exact ⟨hi, (Option.some.inj e).symm⟩
@[simp] theorem rngC_length (lo c : Int) (n : Nat) : (rngC lo c n).length = n := by simp [rngC]
theorem bStr_of {h : Hep} {i : Int} (m : i.natAbs.log2 < 1920) : bStr [.int i] h = some (.str (S (toString i)), h) := by
  show (if strOk i then _ else _) = _
  rw [if_pos (show strOk i from m)]
theorem mZfill_of {h : Hep} {s : List Nat} {i : Int} (h1 : i ≤ 16777216) (h2 : -1000 < i) : mZfill (.str s) [.int i] h = some (.str (zfillL s i), h) := by
  show (if padOk i then _ else _) = _
  rw [if_pos (show padOk i from ⟨by rw [line_is]; exact h1, h2⟩)]
@[simp] theorem mStarts_eq (h : Hep) (s t : List Nat) : mStarts (.str s) [.str t] h = some (.bl (decide (s.take t.length = t)), h) := id rfl
@[simp] theorem mEnds_eq (h : Hep) (s t : List Nat) : mEnds (.str s) [.str t] h = some (.bl (decide (t.length ≤ s.length) && decide (s.drop (s.length - t.length) = t)), h) := id rfl
theorem strsL_map : ∀ l : List (List Nat), strsL (l.map .str) = some l
  | [] => rfl
  | i :: l => by rw [List.map_cons, strsL, strsL_map l]; rfl
theorem mJoin_ref {h : Hep} {n : Nat} {s : List Nat} {ps : List (List Nat)} (e : h[n]? = some (.lst (ps.map .str))) (z : (ps.map List.length).sum + ps.length * s.length ≤ 16777216) : mJoin (.str s) [.ref n] h = some (.str (joinL s ps), h) := by
  have e2 : seqOf h (.ref n) = some (ps.map .str) := by
    show (match h[n]? with | some (.lst l) => some l | _ => none) = _
    rw [e]
  unfold mJoin
  simp only [e2, Option.bind_some, strsL_map]
  rw [if_pos (show joinOk s ps by unfold joinOk; rw [line_is]; exact z)]
@[simp] theorem eCat_eq (a b : EM) (η : Env) (h : Hep) : eCat a b η h = (a η h).bind fun x h1 => (b η h1).bind fun y h2 => match oCat h2 x y with | some (v, h3) => .ok v h3 | none => .stuck := id rfl
@[simp] theorem eRev_eq (a : EM) (η : Env) (h : Hep) : eRev a η h = (a η h).bind fun x h1 => match itsL h1 x with | some l => .ok (.ref h1.length) (h1 ++ [.lst l.reverse]) | none => .stuck := id rfl
theorem itsL_ref {h : Hep} {n : Nat} {l : List Val} (e : h[n]? = some (.lst l)) : itsL h (.ref n) = some l := by
  show (match h[n]? with | some (.lst l) => some l | _ => none) = _
  rw [e]
theorem oCat_ref {h : Hep} {n m : Nat} {l k : List Val} (e : h[n]? = some (.lst l)) (e2 : h[m]? = some (.lst k)) (z : l.length + k.length ≤ 16777216) : oCat h (.ref n) (.ref m) = some (.ref h.length, h ++ [.lst (l ++ k)]) := by
  unfold oCat
  simp only [e, e2]
  rw [if_pos (szOk_iff.mpr z)]
theorem bIntS_of {h : Hep} {s : List Nat} (h1 : (s.all fun c => decide (48 ≤ c) && decide (c ≤ 57)) = true) (h2 : s ≠ []) (h3 : s.length ≤ 640) : bIntS [.str s] h = some (.int (digV s), h) := by
  show (if digOk s then _ else _) = _
  rw [if_pos (show digOk s from ⟨h1, h2, h3⟩)]
theorem in_refI (h : Hep) (v : Int) (n : Nat) (row : List Int) (e1 : h[n]? = some (.lst (row.map .int))) : oNin h (.int v) (.ref n) = some (.bl (!row.any fun y => y == v)) := by
  have e : isIn h (.int v) (.ref n) = match seqOf h (.ref n) with | some l => if flat (.int v) && l.all flat then some (l.any fun y => eqF y (.int v)) else none | none => none := rfl
  have e2 : seqOf h (.ref n) = some (row.map .int) := by
    show (match h[n]? with | some (.lst l) => some l | _ => none) = _
    rw [e1]
  have f : (row.map Val.int).all flat = true := by simp [flat]
  have g : ((row.map Val.int).any fun y => eqF y (.int v)) = row.any fun y => y == v := by
    rw [List.any_map]; rfl
  unfold oNin
  rw [e, e2]
  show ((if flat (.int v) && (row.map Val.int).all flat then some ((row.map Val.int).any fun y => eqF y (.int v)) else none).map fun k => Val.bl (!k)) = _
  rw [f, g]
  rfl
theorem append_ok {h : Hep} {n : Nat} {l : List Val} (e : h[n]? = some (.lst l)) (z : l.length + 1 ≤ 16777216) (v : Val) : mAppend (.ref n) [v] h = some (.non, h.set n (.lst (l ++ [v]))) := by
  unfold mAppend
  simp only [e]
  rw [if_pos (szOk_iff.mpr z)]
theorem typ_lst {h : Hep} {n : Nat} {l : List Val} (e : h[n]? = some (.lst l)) : typ h (.ref n) = some "list" := by
  show (match h[n]? with | some (.lst _) => some "list" | some (.dct _) => some "dict" | _ => none) = _
  rw [e]
theorem ints_map : ∀ l : List Int, intsL (l.map .int) = some l
  | [] => rfl
  | i :: l => by rw [List.map_cons, intsL, ints_map l]; rfl
theorem sort_ok {h : Hep} {n : Nat} {l : List Int} (e : h[n]? = some (.lst (l.map .int))) : bSortI [.ref n] h = some (.ref h.length, h ++ [.lst ((srtI l).map .int)]) := by
  have e2 : itsL h (.ref n) = some (l.map .int) := by
    show (match h[n]? with | some (.lst l) => some l | _ => none) = _
    rw [e]
  unfold bSortI
  simp only [e2, Option.bind_some, ints_map]
theorem tuple_ok {h : Hep} {n : Nat} {l : List Val} (e : h[n]? = some (.lst l)) : bTuple [.ref n] h = some (.tup l, h) := by
  show (match h[n]? with | some (.lst l) => some (Val.tup l, h) | _ => none) = _
  rw [e]
theorem setIx_ref {h : Hep} {n : Nat} {l : List Val} {k : Int} {j : Nat} {v : Val} (e : h[n]? = some (.lst l)) (q : ixN l.length k = some j) : setIx h (.ref n) (.int k) v = some (h.set n (.lst (l.set j v))) := by
  show (match h[n]? with | some (.lst l) => (match ixN l.length k with | some j => some (h.set n (.lst (l.set j v))) | none => none) | _ => none) = _
  rw [e]
  simp only [q]
/-! dicts -/
@[simp] theorem eDNew_eq (η : Env) (h : Hep) : eDNew η h = .ok (.ref h.length) (h ++ [.dct []]) := id rfl
@[simp] theorem eDTxt_eq (l : List (String × String)) (η : Env) (h : Hep) : eDTxt l η h = .ok (.ref h.length) (h ++ [.dct (l.map fun p => (.str (S p.1), .str (S p.2)))]) := id rfl
@[simp] theorem eDGet2_eq (o k v : EM) (η : Env) (h : Hep) : eDGet2 o k v η h = (o η h).bind fun x h1 => if isDct h1 x then (k η h1).bind fun y h2 => (v η h2).bind fun z h3 => ofO (oDGet2 h3 x y z) h3 else .stuck := id rfl
@[simp] theorem sSetDx_eq (o i e : EM) (η : Env) (h : Hep) : sSetDx o i e η h = (e η h).thn η fun v h1 => (o η h1).thn η fun x h2 => (i η h2).thn η fun k h3 => match setDx h3 x k v with
  | some h4 => .nx η h4
  | none => .stuck := id rfl
@[simp] theorem isKey_int (i : Int) : isKey (.int i) = true := id rfl
@[simp] theorem isKey_str (i : List Nat) : isKey (.str i) = true := id rfl
@[simp] theorem keyEq_int (i j : Int) : keyEq (.int i) (.int j) = (i == j) := id rfl
@[simp] theorem keyEq_str (i j : List Nat) : keyEq (.str i) (.str j) = (i == j) := id rfl
@[simp] theorem dGet_nil (k : Val) : dGet [] k = none := id rfl
@[simp] theorem dGet_cons (p : Val × Val) (l : List (Val × Val)) (k : Val) : dGet (p :: l) k = if keyEq p.1 k then some p.2 else dGet l k := rfl
theorem isDct_ref {h : Hep} {n : Nat} {l : List (Val × Val)} (e : h[n]? = some (.dct l)) : isDct h (.ref n) = true := by
  show (match h[n]? with | some (.dct _) => true | _ => false) = _
  rw [e]
theorem oDGet2_ref {h : Hep} {n : Nat} {l : List (Val × Val)} {k z : Val} (e : h[n]? = some (.dct l)) (hk : isKey k = true) : oDGet2 h (.ref n) k z = some ((dGet l k).getD z) := by
  show (match h[n]? with | some (.dct l) => if isKey k then some ((dGet l k).getD z) else none | _ => none) = _
  rw [e]
  simp only [hk, if_true]
theorem oDIdx_ref {h : Hep} {n : Nat} {l : List (Val × Val)} {k : Val} (e : h[n]? = some (.dct l)) (hk : isKey k = true) : oDIdx h (.ref n) k = dGet l k := by
  show (match h[n]? with | some (.dct l) => if isKey k then dGet l k else none | _ => none) = _
  rw [e]
  simp only [hk, if_true]
theorem oDIn_ref {h : Hep} {n : Nat} {l : List (Val × Val)} {k : Val} (e : h[n]? = some (.dct l)) (hk : isKey k = true) : oDIn h k (.ref n) = some (.bl (dHas l k)) := by
  show (match h[n]? with | some (.dct l) => if isKey k then some (Val.bl (dHas l k)) else none | _ => none) = _
  rw [e]
  simp only [hk, if_true]
theorem oDNin_ref {h : Hep} {n : Nat} {l : List (Val × Val)} {k : Val} (e : h[n]? = some (.dct l)) (hk : isKey k = true) : oDNin h k (.ref n) = some (.bl (!dHas l k)) := by
  show (match h[n]? with | some (.dct l) => if isKey k then some (Val.bl (!dHas l k)) else none | _ => none) = _
  rw [e]
  simp only [hk, if_true]
theorem setDx_ref {h : Hep} {n : Nat} {l : List (Val × Val)} {k v : Val} (e : h[n]? = some (.dct l)) (hk : isKey k = true) (z : l.length + 1 ≤ 16777216) : setDx h (.ref n) k v = some (h.set n (.dct (dPut l k v))) := by
  show (match h[n]? with | some (.dct l) => if isKey k then (if szOk (l.length + 1) then some (h.set n (.dct (dPut l k v))) else none) else none | _ => none) = _
  rw [e]
  simp only [hk, if_true]
  rw [if_pos (szOk_iff.mpr z)]
theorem mUpper_of {h : Hep} {s : List Nat} (h1 : (s.all fun c => decide (c < 128)) = true) (h2 : s.length ≤ 1000000) : mUpper (.str s) [] h = some (.str (s.map up1), h) := by
  show (if upOk s then _ else _) = _
  rw [if_pos (show upOk s from ⟨h1, h2⟩)]
theorem joinL_chars : ∀ l : List Nat, joinL [] (l.map fun c => [c]) = l
  | [] => rfl
  | [c] => rfl
  | c :: d :: l => by
    have := joinL_chars (d :: l)
    rw [List.map_cons] at this
    rw [List.map_cons, List.map_cons, joinL, this]
    rfl
/-- a comprehension whose parts leave the heap -/
theorem compL_pure {g : GM} {e : EM} {η : Env} {h : Hep} {f : Val → Val} : ∀ xs : List Val, (∀ x ∈ xs, ∃ η1, g x η = some η1 ∧ e η1 h = .ok (f x) h) → compL g (fun _ => true) tTrue e η xs h = .ok (xs.map f) h
  | [], _ => rfl
  | x :: xs, q => by
    obtain ⟨η1, e1, e2⟩ := q x List.mem_cons_self
    have ih := compL_pure (f := f) xs fun y hy => q y (List.mem_cons_of_mem _ hy)
    rw [compL, if_pos rfl, e1]
    show (match e η1 h with | .ok y h2 => _ | _ => _) = _
    rw [e2]
    simp only [ih, Res.bind_ok, List.map_cons]
/-- with a condition, over what must stand -/
theorem compL_if {g : GM} {chk : Hep → Bool} {c : TM} {e : EM} {η : Env} {h : Hep} {f : Val → Val} {k : Val → Bool} (hc : chk h = true) : ∀ xs : List Val, (∀ x ∈ xs, ∃ η1, g x η = some η1 ∧ c η1 h = .ok (k x) h ∧ e η1 h = .ok (f x) h) → compL g chk c e η xs h = .ok ((xs.filter k).map f) h
  | [], _ => by rw [compL, if_pos hc]; rfl
  | x :: xs, q => by
    obtain ⟨η1, e1, e3, e2⟩ := q x List.mem_cons_self
    have ih := compL_if (f := f) (k := k) hc xs fun y hy => q y (List.mem_cons_of_mem _ hy)
    rw [compL, if_pos hc, e1]
    simp only [e3]
    cases kx : k x with
    | true => simp only [if_true, e2, ih, Res.bind_ok, List.filter_cons, kx, List.map_cons]
    | false => simp only [Bool.false_eq_true, if_false, ih, List.filter_cons, kx]
/-- [[] for _ in ..] -/
theorem compL_new {g : GM} {η : Env} (hg : ∀ x, ∃ η1, g x η = some η1) : ∀ (xs : List Val) (h : Hep), compL g (fun _ => true) tTrue (eLst aNil) η xs h = .ok ((List.range xs.length).map fun i => .ref (h.length + i)) (h ++ List.replicate xs.length (.lst []))
  | [], h => by simp [compL]
  | x :: xs, h => by
    obtain ⟨η1, e1⟩ := hg x
    have ih := compL_new hg xs (h ++ [.lst []])
    rw [compL, if_pos rfl, e1]
    have e2 : eLst aNil η1 h = .ok (.ref h.length) (h ++ [.lst []]) := by simp
    show (match eLst aNil η1 h with | .ok y h2 => _ | _ => _) = _
    rw [e2]
    simp only [ih, Res.bind_ok, List.length_append, List.length_cons, List.length_nil, List.append_assoc]
    rw [List.range_succ_eq_map, List.map_cons, List.map_map, List.replicate_succ]
    congr 2
    refine List.map_congr_left fun i _ => ?_
    simp only [Function.comp]
    congr 1
    omega
end Cd

set_option maxRecDepth 100000
/-! CdEv: the reckoning of combinators step by step: only what is reached is looked at. -/
namespace Cd
open Classical
noncomputable section
/-- what a step is told with: what lies behind it is not looked at -/
inductive Tag {α : Type _} (a : α) : Type where
  | mk
def bd {α β : Type} (r : Res α) (f : α → Hep → Res β) (_ : Tag f) : Res β := r.bind f
def tn {α : Type} (r : Res α) (η : Env) (f : α → Hep → SR) (_ : Tag f) : SR := r.thn η f
def sb (r : SR) (f : Env → Hep → SR) (_ : Tag f) : SR := r.bind f
theorem bd_ok {α β : Type} (a : α) (h : Hep) (f : α → Hep → Res β) (w : Tag f) : bd (.ok a h) f w = f a h := id rfl
theorem bd_exc {α β : Type} (a : Exc) (h : Hep) (f : α → Hep → Res β) (w : Tag f) : bd (.exc a h) f w = .exc a h := id rfl
theorem tn_ok {α : Type} (a : α) (h : Hep) (η : Env) (f : α → Hep → SR) (w : Tag f) : tn (.ok a h) η f w = f a h := id rfl
theorem tn_exc {α : Type} (a : Exc) (h : Hep) (η : Env) (f : α → Hep → SR) (w : Tag f) : tn (.exc a h) η f w = .exc a η h := id rfl
theorem sb_nx (η : Env) (h : Hep) (f : Env → Hep → SR) (w : Tag f) : sb (.nx η h) f w = f η h := id rfl
theorem sb_brk (η : Env) (h : Hep) (f : Env → Hep → SR) (w : Tag f) : sb (.brk η h) f w = .brk η h := id rfl
theorem sb_cont (η : Env) (h : Hep) (f : Env → Hep → SR) (w : Tag f) : sb (.cont η h) f w = .cont η h := id rfl
theorem sb_ret (v : Val) (h : Hep) (f : Env → Hep → SR) (w : Tag f) : sb (.ret v h) f w = .ret v h := id rfl
theorem sb_exc (e : Exc) (η : Env) (h : Hep) (f : Env → Hep → SR) (w : Tag f) : sb (.exc e η h) f w = .exc e η h := id rfl
/-- a choice by a truth -/
def sel {α : Type} (k : Bool) (a b : α) (_ : Tag (a, b)) : α := if k then a else b
theorem sel_t {α : Type} (a b : α) (w : Tag (a, b)) : sel true a b w = a := id rfl
theorem sel_f {α : Type} (a b : α) (w : Tag (a, b)) : sel false a b w = b := id rfl
theorem sel_not {α : Type} (k : Bool) (a b : α) (w : Tag (a, b)) : sel (!k) a b w = sel k b a .mk := by cases k <;> rfl
theorem sel_same {α : Type} (k : Bool) (a : α) (w : Tag (a, a)) : sel k a a w = a := by cases k <;> rfl
theorem sel_case {α : Type} {P : α → Prop} {k : Bool} {a b : α} {w : Tag (a, b)} (h1 : k = true → P a) (h2 : k = false → P b) : P (sel k a b w) := by
  cases k with
  | true => exact h1 rfl
  | false => exact h2 rfl
/-- what must hold -/
def need {α : Type} (p : Prop) (r : Res α) (_ : Tag r) : Res α := if p then r else .stuck
theorem need_t {α : Type} (r : Res α) (w : Tag r) : need True r w = r := if_pos trivial
theorem need_of {α : Type} {p : Prop} {r : Res α} {w : Tag r} (h : p) : need p r w = r := if_pos h
def tB : Val → Option Bool | .bl k => some k | _ => none
theorem tB_bl (k : Bool) : tB (.bl k) = some k := id rfl
def tI : Val → Option (Option Int) | .int i => some (some i) | _ => none
theorem tI_int (i : Int) : tI (.int i) = some (some i) := id rfl
def ofP (o : Option (Val × Hep)) : Res Val := match o with | some (v, h) => .ok v h | none => .stuck
theorem ofP_some (v : Val) (h : Hep) : ofP (some (v, h)) = .ok v h := id rfl
def asg (o : Option Env) (h : Hep) : SR := match o with | some η => .nx η h | none => .stuck
theorem asg_some (η : Env) (h : Hep) : asg (some η) h = .nx η h := id rfl
def puts (o : Option Hep) (η : Env) : SR := match o with | some h => .nx η h | none => .stuck
theorem puts_some (η : Env) (h : Hep) : puts (some h) η = .nx η h := id rfl
section
variable (η : Env) (h : Hep)
theorem eVar_v (i : Nat) : eVar i η h = ofO (η[i]?).join h := eVar_eq i η h
theorem eBin_v (f : Hep → Val → Val → Option Val) (a b : EM) : eBin f a b η h = bd (a η h) (fun x h1 => bd (b η h1) (fun y h2 => ofO (f h2 x y) h2) .mk) .mk := id rfl
theorem eUn_v (f : Hep → Val → Option Val) (a : EM) : eUn f a η h = bd (a η h) (fun x h1 => ofO (f h1 x) h1) .mk := id rfl
theorem aCons_v (a : EM) (r : AM) : aCons a r η h = bd (a η h) (fun x h1 => bd (r η h1) (fun xs h2 => .ok (x :: xs) h2) .mk) .mk := id rfl
theorem eCall_v (F : Fn) (a : AM) : eCall F a η h = bd (a η h) (fun xs h1 => F xs h1) .mk := id rfl
theorem tNot_v (a : TM) : tNot a η h = bd (a η h) (fun k h1 => .ok (!k) h1) .mk := id rfl
theorem tTru_v (a : EM) : tTru a η h = bd (a η h) (fun x h1 => ofO (truth h1 x) h1) .mk := id rfl
theorem sSeq_v (a b : SM) : sSeq a b η h = sb (a η h) (fun η1 h1 => b η1 h1) .mk := id rfl
theorem sSet_v (i : Nat) (e : EM) : sSet i e η h = tn (e η h) η (fun v h1 => .nx (η.set i (some v)) h1) .mk := id rfl
theorem sExpr_v (e : EM) : sExpr e η h = tn (e η h) η (fun _ h1 => .nx η h1) .mk := id rfl
theorem sRet_v (e : EM) : sRet e η h = tn (e η h) η (fun v h1 => .ret v h1) .mk := id rfl
theorem iVal_v (e : EM) : iVal e η h = bd (e η h) (fun v h1 => ofO (items h1 v) h1) .mk := id rfl
theorem iArgs_v (f : Hep → List Val → Option (List Val × (Hep → Bool))) (a : AM) : iArgs f a η h = bd (a η h) (fun vs h1 => ofO (f h1 vs) h1) .mk := id rfl
/-- loops, told by what they are told with -/
def forT (g : GM) (chk : Hep → Bool) (b : SM) (xs : List Val) (η : Env) (h : Hep) (_ : Tag (g, chk, b)) : SR := forL g chk b xs η h
def compT (g : GM) (chk : Hep → Bool) (c : TM) (e : EM) (η : Env) (xs : List Val) (h : Hep) (_ : Tag (g, chk, c, e)) : Res (List Val) := compL g chk c e η xs h
def whT (c : TM) (b : SM) (η : Env) (h : Hep) (_ : Tag (c, b)) : SR := sWhile c b η h
theorem sFor_v (it : IM) (g : GM) (b : SM) : sFor it g b η h = tn (it η h) η (fun p h1 => forT g p.2 b p.1 η h1 .mk) .mk := id rfl
theorem sWhile_t (c : TM) (b : SM) : sWhile c b η h = whT c b η h .mk := id rfl
theorem eTup_v (a : AM) : eTup a η h = bd (a η h) (fun xs h1 => need (szOk xs.length) (.ok (.tup xs) h1) .mk) .mk := id rfl
theorem eLst_v (a : AM) : eLst a η h = bd (a η h) (fun xs h1 => need (szOk xs.length) (.ok (.ref h1.length) (h1 ++ [.lst xs])) .mk) .mk := id rfl
theorem eIf_v (c : TM) (a b : EM) : eIf c a b η h = bd (c η h) (fun k h1 => sel k (a η h1) (b η h1) .mk) .mk := id rfl
theorem eAnd_v (a b : EM) : eAnd a b η h = bd (a η h) (fun x h1 => bd (ofO (tB x) h1) (fun k h2 => sel k (b η h2) (.ok (.bl false) h2) .mk) .mk) .mk := by
  unfold eAnd
  cases a η h with
  | ok x h1 => cases x <;> try rfl
               rename_i b; cases b <;> rfl
  | _ => rfl
theorem eOr_v (a b : EM) : eOr a b η h = bd (a η h) (fun x h1 => bd (ofO (tB x) h1) (fun k h2 => sel k (.ok (.bl true) h2) (b η h2) .mk) .mk) .mk := by
  unfold eOr
  cases a η h with
  | ok x h1 => cases x <;> try rfl
               rename_i b; cases b <;> rfl
  | _ => rfl
theorem eNot_v (a : EM) : eNot a η h = bd (a η h) (fun x h1 => bd (ofO (tB x) h1) (fun k h2 => .ok (.bl (!k)) h2) .mk) .mk := by
  unfold eNot
  cases a η h with
  | ok x h1 => cases x <;> rfl
  | _ => rfl
theorem tVal_v (a : EM) : tVal a η h = bd (a η h) (fun x h1 => ofO (tB x) h1) .mk := by
  unfold tVal
  cases a η h with
  | ok x h1 => cases x <;> rfl
  | _ => rfl
theorem tAnd_v (a b : TM) : tAnd a b η h = bd (a η h) (fun k h1 => sel k (b η h1) (.ok false h1) .mk) .mk := id rfl
theorem tOr_v (a b : TM) : tOr a b η h = bd (a η h) (fun k h1 => sel k (.ok true h1) (b η h1) .mk) .mk := id rfl
theorem sIf_v (c : TM) (a b : SM) : sIf c a b η h = tn (c η h) η (fun k h1 => sel k (a η h1) (b η h1) .mk) .mk := id rfl
theorem sAsg_v (g : GM) (e : EM) : sAsg g e η h = tn (e η h) η (fun v h1 => asg (g v η) h1) .mk := id rfl
theorem eCallB_v (F : BFn) (a : AM) : eCallB F a η h = bd (a η h) (fun xs h1 => ofP (F xs h1)) .mk := id rfl
theorem eMth_v (T : String) (F : Val → BFn) (o : EM) (a : AM) : eMth T F o a η h = bd (o η h) (fun x h1 => need (typ h1 x = some T) (bd (a η h1) (fun xs h2 => ofP (F x xs h2)) .mk) .mk) .mk := by
  unfold eMth
  cases o η h with
  | ok x h1 =>
    simp only [Res.bind_ok, bd_ok]
    by_cases q : typ h1 x = some T
    · rw [if_pos q, need_of q]; rfl
    · rw [if_neg q]; exact (if_neg q).symm
  | _ => rfl
theorem pSome_v (e : EM) : pSome e η h = bd (e η h) (fun x h1 => ofO (tI x) h1) .mk := by
  unfold pSome
  cases e η h with
  | ok x h1 => cases x <;> rfl
  | _ => rfl
theorem eSl_v (o : EM) (lo hi : PM) : eSl o lo hi η h = bd (o η h) (fun x h1 => bd (lo η h1) (fun l h2 => bd (hi η h2) (fun u h3 => ofP (oSl h3 x l u)) .mk) .mk) .mk := id rfl
theorem eCat_v (a b : EM) : eCat a b η h = bd (a η h) (fun x h1 => bd (b η h1) (fun y h2 => ofP (oCat h2 x y)) .mk) .mk := id rfl
def oRev (h : Hep) (x : Val) : Option (Val × Hep) := (itsL h x).map fun l => (.ref h.length, h ++ [.lst l.reverse])
theorem eRev_v (a : EM) : eRev a η h = bd (a η h) (fun x h1 => ofP (oRev h1 x)) .mk := by
  unfold eRev oRev
  cases a η h with
  | ok x h1 => simp only [Res.bind_ok, bd_ok]; cases itsL h1 x <;> rfl
  | _ => rfl
theorem eComp_v (vs : List Nat) (it : IM) (g : GM) (c : TM) (e : EM) : eComp vs it g c e η h = bd (it η h) (fun p h1 => bd (compT g p.2 c e (wipe η vs) p.1 h1 .mk) (fun ys h2 => need (szOk ys.length) (.ok (.ref h2.length) (h2 ++ [.lst ys])) .mk) .mk) .mk := id rfl
theorem sSetIx_v (o i e : EM) : sSetIx o i e η h = tn (e η h) η (fun v h1 => tn (o η h1) η (fun x h2 => tn (i η h2) η (fun k h3 => puts (setIx h3 x k v) η) .mk) .mk) .mk := id rfl
theorem sSetDx_v (o i e : EM) : sSetDx o i e η h = tn (e η h) η (fun v h1 => tn (o η h1) η (fun x h2 => tn (i η h2) η (fun k h3 => puts (setDx h3 x k v) η) .mk) .mk) .mk := id rfl
theorem sAugIx_v (f : Hep → Val → Val → Option Val) (o i e : EM) : sAugIx f o i e η h = tn (o η h) η (fun x h1 => tn (i η h1) η (fun k h2 => tn (ofO (oIdxL h2 x k) h2) η (fun y h3 => tn (e η h3) η (fun z h4 => tn (ofO (f h4 y z) h4) η (fun v h5 => puts (setIx h5 x k v) η) .mk) .mk) .mk) .mk) .mk := id rfl
theorem sAug_v (i : Nat) (f : Hep → Val → Val → Option Val) (e : EM) : sAug i f e η h = tn (ofO (η[i]?).join h) η (fun x h => tn (e η h) η (fun y h1 => tn (ofO (f h1 x y) h1) η (fun z h2 => .nx (η.set i (some z)) h2) .mk) .mk) .mk := sAug_eq i f e η h
theorem eDGet2_v (o k v : EM) : eDGet2 o k v η h = bd (o η h) (fun x h1 => need (isDct h1 x = true) (bd (k η h1) (fun y h2 => bd (v η h2) (fun z h3 => ofO (oDGet2 h3 x y z) h3) .mk) .mk) .mk) .mk := by
  unfold eDGet2
  cases o η h with
  | ok x h1 =>
    simp only [Res.bind_ok, bd_ok]
    by_cases q : isDct h1 x = true
    · rw [if_pos q, need_of q]; rfl
    · rw [if_neg q]; exact (if_neg q).symm
  | _ => rfl
theorem eDInt_v (l : List (String × Int)) : eDInt l η h = .ok (.ref h.length) (h ++ [.dct (l.map fun p => (.str (S p.1), .int p.2))]) := id rfl
theorem eGc_v (d e : Nat) (m : EM) : eGc d e m η h = gc d e h (m η h) := id rfl
def fmtV (x : Val) : Option Val := match x with
  | .str s => if szOk s.length then some (.str s) else none
  | .int i => if strOk i then some (.str (S (toString i))) else none
  | _ => none
theorem eFmt_v (m : EM) : eFmt m η h = bd (m η h) (fun x h1 => ofO (fmtV x) h1) .mk := by
  unfold eFmt fmtV
  cases m η h with
  | ok x h1 => simp only [Res.bind_ok, bd_ok]; cases x <;> first | rfl | (simp only; split <;> rfl)
  | _ => rfl
def tS' : Val → Option (List Nat) | .str s => some s | _ => none
theorem tS_str (s : List Nat) : tS' (.str s) = some s := id rfl
theorem jsL_nil (acc : List Nat) : jsL [] acc η h = .ok (.str acc) h := id rfl
theorem jsL_cons (m : EM) (ms : List EM) (acc : List Nat) : jsL (m :: ms) acc η h = bd (m η h) (fun x h1 => bd (ofO (tS' x) h1) (fun y h2 => need (szOk (acc.length + y.length)) (jsL ms (acc ++ y) η h2) .mk) .mk) .mk := by
  show (m η h).bind _ = _
  cases m η h with
  | ok x h1 => simp only [Res.bind_ok, bd_ok]; cases x <;> rfl
  | _ => rfl
theorem eJs_v (ms : List EM) : eJs ms η h = jsL ms [] η h := id rfl
theorem eRepl_v (c : Nat) (z : List Nat) (o : EM) : eRepl c z o η h = bd (o η h) (fun x h1 => bd (ofO (tS' x) h1) (fun s h2 => need (replOk c s.length z.length) (.ok (.str (joinL z (cutAt c [] s))) h2) .mk) .mk) .mk := by
  unfold eRepl
  cases o η h with
  | ok x h1 => simp only [Res.bind_ok, bd_ok]; cases x <;> rfl
  | _ => rfl
theorem eChain_v (f g : Hep → Val → Val → Option Val) (a b c : EM) : eChain f g a b c η h = bd (a η h) (fun x h1 => bd (b η h1) (fun y h2 => bd (ofO (f h2 x y) h2) (fun z h3 => bd (ofO (tB z) h3) (fun k h3 => sel k (bd (c η h3) (fun w h4 => ofO (g h4 y w) h4) .mk) (.ok (.bl false) h3) .mk) .mk) .mk) .mk) .mk := by
  unfold eChain
  cases a η h with
  | ok x h1 =>
    simp only [Res.bind_ok, bd_ok]
    cases b η h1 with
    | ok y h2 =>
      simp only [Res.bind_ok, bd_ok]
      cases f h2 x y with
      | none => rfl
      | some z => cases z <;> try rfl
                  rename_i k; cases k <;> rfl
    | _ => rfl
  | _ => rfl
def swp (i j : Nat) (v : Val) (η : Env) : Option Env := match v with | .tup [x, y] => some ((η.set j (some y)).set i (some x)) | _ => none
theorem swp_tup (i j : Nat) (x y : Val) (η : Env) : swp i j (.tup [x, y]) η = some ((η.set j (some y)).set i (some x)) := id rfl
theorem sSwp_v (i j : Nat) (e : EM) : sSwp i j e η h = tn (e η h) η (fun v h1 => asg (swp i j v η) h1) .mk := by
  unfold sSwp
  cases e η h with
  | ok v h1 =>
    simp only [Res.thn_ok, tn_ok]
    cases v <;> try rfl
    rename_i l
    rcases l with _ | ⟨x, _ | ⟨y, _ | ⟨z, t⟩⟩⟩ <;> rfl
  | _ => rfl
/-- a suite behind try -/
def tryR (tbl : List (String × Bool)) (i : Nat) (hd : Exc → Nat → SM) (_ : Tag hd) : SR → SR
  | .exc x η' h' => match tbl.lookup x.cls with
    | some true => if ∀ a, (hd x a (η'.set i (some (.exo a))) h').forget i = (hd x 0 (η'.set i (some (.exo 0))) h').forget i then (hd x 0 (η'.set i (some (.exo 0))) h').forget i else .stuck
    | some false => .exc x η' h'
    | none => .stuck
  | r => r
theorem sTry_v (tbl : List (String × Bool)) (i : Nat) (b : SM) (hd : Exc → Nat → SM) : sTry tbl i b hd η h = tryR tbl i hd .mk (b η h) := by
  unfold sTry tryR
  rfl
theorem tryR_nx (tbl : List (String × Bool)) (i : Nat) (hd : Exc → Nat → SM) (w : Tag hd) : tryR tbl i hd w (.nx η h) = .nx η h := id rfl
theorem tryR_ret (tbl : List (String × Bool)) (i : Nat) (hd : Exc → Nat → SM) (w : Tag hd) (v : Val) : tryR tbl i hd w (.ret v h) = .ret v h := id rfl
theorem tryR_brk (tbl : List (String × Bool)) (i : Nat) (hd : Exc → Nat → SM) (w : Tag hd) : tryR tbl i hd w (.brk η h) = .brk η h := id rfl
theorem tryR_cont (tbl : List (String × Bool)) (i : Nat) (hd : Exc → Nat → SM) (w : Tag hd) : tryR tbl i hd w (.cont η h) = .cont η h := id rfl
theorem tryR_hit {tbl : List (String × Bool)} {i : Nat} {hd : Exc → Nat → SM} {x : Exc} {r : SR} {w : Tag hd} (e : tbl.lookup x.cls = some true) (q : ∀ a, (hd x a (η.set i (some (.exo a))) h).forget i = r) : tryR tbl i hd w (.exc x η h) = r := by
  unfold tryR
  simp only [e]
  rw [if_pos (fun a => by rw [q a, q 0]), q 0]
theorem tryR_miss {tbl : List (String × Bool)} {i : Nat} {hd : Exc → Nat → SM} {x : Exc} {w : Tag hd} (e : tbl.lookup x.cls = some false) : tryR tbl i hd w (.exc x η h) = .exc x η h := by
  unfold tryR
  simp only [e]
def tryO (tbl : List (String × Bool)) (hd : SM) (_ : Tag hd) : SR → SR
  | .exc x η' h' => match tbl.lookup x.cls with
    | some true => (hd η' h').quiet
    | some false => .exc x η' h'
    | none => .stuck
  | r => r
theorem sTryO_v (tbl : List (String × Bool)) (b hd : SM) : sTryO tbl b hd η h = tryO tbl hd .mk (b η h) := by
  unfold sTryO tryO
  rfl
theorem tryO_nx (tbl : List (String × Bool)) (hd : SM) (w : Tag hd) : tryO tbl hd w (.nx η h) = .nx η h := id rfl
theorem tryO_ret (tbl : List (String × Bool)) (hd : SM) (w : Tag hd) (v : Val) : tryO tbl hd w (.ret v h) = .ret v h := id rfl
theorem tryO_hit {tbl : List (String × Bool)} {hd : SM} {x : Exc} {w : Tag hd} (e : tbl.lookup x.cls = some true) : tryO tbl hd w (.exc x η h) = (hd η h).quiet := by
  unfold tryO
  simp only [e]
theorem tryO_miss {tbl : List (String × Bool)} {hd : SM} {x : Exc} {w : Tag hd} (e : tbl.lookup x.cls = some false) : tryO tbl hd w (.exc x η h) = .exc x η h := by
  unfold tryO
  simp only [e]
/-- one turn of a for -/
def SR.go (r : SR) (k : Env → Hep → SR) (_ : Tag k) : SR := match r with
  | .nx η h => k η h
  | .cont η h => k η h
  | .brk η h => .nx η h
  | r => r
theorem go_nx (k : Env → Hep → SR) (w : Tag k) : (SR.nx η h).go k w = k η h := id rfl
theorem go_cont (k : Env → Hep → SR) (w : Tag k) : (SR.cont η h).go k w = k η h := id rfl
theorem go_brk (k : Env → Hep → SR) (w : Tag k) : (SR.brk η h).go k w = .nx η h := id rfl
theorem go_ret (v : Val) (k : Env → Hep → SR) (w : Tag k) : (SR.ret v h).go k w = .ret v h := id rfl
theorem go_exc (e : Exc) (k : Env → Hep → SR) (w : Tag k) : (SR.exc e η h).go k w = .exc e η h := id rfl
theorem forL_v (g : GM) (chk : Hep → Bool) (b : SM) (x : Val) (xs : List Val) (hc : chk h = true) (w : Tag (g, chk, b)) : forT g chk b (x :: xs) η h w = sb (asg (g x η) h) (fun η1 h1 => (b η1 h1).go (fun η2 h2 => forT g chk b xs η2 h2 .mk) .mk) .mk := by
  unfold forT
  rw [forL, if_pos hc]
  cases g x η with
  | none => rfl
  | some η1 =>
    show _ = (b η1 h).go _ .mk
    simp only
    cases e : b η1 h <;> rfl
theorem forL_0 (g : GM) (chk : Hep → Bool) (b : SM) (hc : chk h = true) (w : Tag (g, chk, b)) : forT g chk b [] η h w = .nx η h := by unfold forT; rw [forL, if_pos hc]
theorem sWhile_v (c : TM) (b : SM) (w : Tag (c, b)) : whT c b η h w = tn (c η h) η (fun k h1 => sel k ((b η h1).go (fun η2 h2 => whT c b η2 h2 .mk) .mk) (.nx η h1) .mk) .mk := by
  unfold whT
  rw [sWhile_eq]
  cases c η h with
  | ok k h1 =>
    cases k with
    | false => rfl
    | true =>
      simp only [Res.thn_ok, tn_ok, if_true, sel_t]
      cases e : b η h1 <;> rfl
  | _ => rfl
end
/-! what is dropped -/
mutual
theorem mapR_bnd {f : Nat → Option Val} {k : Nat} (hf : ∀ n, n < k → f n = some (.ref n)) : ∀ v : Val, bndV k v = true → mapR f v = some v
  | .non, _ => rfl
  | .bl _, _ => rfl
  | .int _, _ => rfl
  | .str _, _ => rfl
  | .exo _, _ => rfl
  | .tup l, b => by unfold bndV at b; rw [mapR, mapRs_bnd hf l b]; rfl
  | .fl l, b => by unfold bndV at b; rw [mapR, mapRs_bnd hf l b]; rfl
  | .ref n, b => by unfold bndV at b; rw [mapR]; exact hf n (of_decide_eq_true b)
theorem mapRs_bnd {f : Nat → Option Val} {k : Nat} (hf : ∀ n, n < k → f n = some (.ref n)) : ∀ l : List Val, bndVs k l = true → mapRs f l = some l
  | [], _ => rfl
  | v :: l, b => by
    unfold bndVs at b
    rw [Bool.and_eq_true] at b
    rw [mapRs, mapR_bnd hf v b.1, mapRs_bnd hf l b.2]
    rfl
end
theorem mapP_bnd {α : Type} {f : Nat → Option Val} {k : Nat} (hf : ∀ n, n < k → f n = some (.ref n)) : ∀ l : List (α × Val), bndVs k (l.map (·.2)) = true → mapP f l = some l
  | [], _ => rfl
  | (x, v) :: l, b => by
    rw [List.map_cons] at b
    unfold bndVs at b
    rw [Bool.and_eq_true] at b
    rw [mapP, mapR_bnd hf v b.1, mapP_bnd hf l b.2]
    rfl
theorem mapO_bnd {f : Nat → Option Val} {k : Nat} (hf : ∀ n, n < k → f n = some (.ref n)) : ∀ o : Obj, bndO k o = true → mapO f o = some o
  | .lst l, b => by rw [mapO, mapRs_bnd hf l b]; rfl
  | .dct l, b => by rw [mapO, mapP_bnd hf l b]; rfl
  | .ins c fs, b => by rw [mapO, mapP_bnd hf fs b]; rfl
theorem fz_lt {h : Hep} {k t d n : Nat} (hn : n < k) : fz h k t d n = some (.ref n) := by
  cases d with
  | zero => exact if_pos hn
  | succ d => rw [fz]; exact if_pos hn
theorem cutOk_app (h g : Hep) : cutOk h (h ++ g) := ⟨by rw [List.length_append]; omega, fun n hn => .inl (List.getElem?_append_left hn)⟩
theorem cutOk_set (h g : Hep) (i : Nat) (o : Obj) (b : bndO h.length o = true) : cutOk h (h.set i o ++ g) := by
  refine ⟨by rw [List.length_append, List.length_set]; omega, fun n hn => ?_⟩
  rw [List.getElem?_append_left (by rw [List.length_set]; exact hn)]
  by_cases e : i = n
  · subst e
    exact .inr ⟨o, List.getElem?_set_self hn, b⟩
  · exact .inl (List.getElem?_set_ne e)
theorem take_set_app (h g : Hep) (i : Nat) (o : Obj) : (h.set i o ++ g).take h.length = h.set i o := by
  rw [List.take_left' (by rw [List.length_set])]
/-- new places, none of them told: dropped -/
theorem gc_app (d e : Nat) (h g : Hep) (v : Val) (b : bndV h.length v = true) : gc d e h (.ok v (h ++ g)) = .ok v h := by
  unfold gc
  simp only
  rw [if_pos (cutOk_app h g), mapR_bnd (k := h.length) (fun n hn => fz_lt hn) v b]
  simp only [List.take_left]
theorem gc_set (d e : Nat) (h g : Hep) (i : Nat) (o : Obj) (v : Val) (b : bndV h.length v = true) (bo : bndO h.length o = true) : gc d e h (.ok v (h.set i o ++ g)) = .ok v (h.set i o) := by
  unfold gc
  simp only
  rw [if_pos (cutOk_set h g i o bo), mapR_bnd (k := h.length) (fun n hn => fz_lt hn) v b]
  simp only [take_set_app]
/-- the same heap -/
theorem gc_same (d e : Nat) (h : Hep) (v : Val) (b : bndV h.length v = true) : gc d e h (.ok v h) = .ok v h := by
  have := gc_app d e h [] v b
  rwa [List.append_nil] at this
theorem gc_set0 (d e : Nat) (h : Hep) (i : Nat) (o : Obj) (v : Val) (b : bndV h.length v = true) (bo : bndO h.length o = true) : gc d e h (.ok v (h.set i o)) = .ok v (h.set i o) := by
  have := gc_set d e h [] i o v b bo
  rwa [List.append_nil] at this
/-- a new list is locked -/
theorem gc_lst (d e : Nat) (h g : Hep) (n : Nat) (l : List Val) (hn : h.length ≤ n) (e1 : (h ++ g)[n]? = some (.lst l)) (b : bndVs h.length l = true) : gc (d + 1) e h (.ok (.ref n) (h ++ g)) = .ok (.fl l) h := by
  unfold gc
  simp only
  have nl := (List.getElem?_eq_some_iff.mp e1).1
  rw [if_pos (cutOk_app h g), mapR, fz, if_neg (by omega), if_neg (by omega), e1]
  simp only [mapRs_bnd (k := h.length) (fun n hn => fz_lt hn) l b, Option.map_some, List.take_left]
theorem gc_new (d e : Nat) (h : Hep) (l : List Val) (b : bndVs h.length l = true) : gc (d + 1) e h (.ok (.ref h.length) (h ++ [.lst l])) = .ok (.fl l) h := gc_lst d e h _ _ l (Nat.le_refl _) (get_new _ _) b
/-- a new list of new lists is locked with them -/
theorem gc_lst2 (d e : Nat) (h g : Hep) (n : Nat) (l l' : List Val) (hn : h.length ≤ n) (e1 : (h ++ g)[n]? = some (.lst l)) (b : mapRs (fz (h ++ g) h.length (h ++ g).length d) l = some l') : gc (d + 1) e h (.ok (.ref n) (h ++ g)) = .ok (.fl l') h := by
  unfold gc
  simp only
  have nl := (List.getElem?_eq_some_iff.mp e1).1
  rw [if_pos (cutOk_app h g), mapR, fz, if_neg (by omega), if_neg (by omega), e1]
  simp only [b, Option.map_some, List.take_left]
/-- a new thing stays a place, the first one -/
theorem gc_top (e : Nat) (h g : Hep) (n : Nat) (o : Obj) (hn : h.length ≤ n) (e1 : (h ++ g)[n]? = some o) (b : bndO h.length o = true) (d : Nat) (hd : d = 0 ∨ ∀ l, o ≠ .lst l) : gc d e h (.ok (.ref n) (h ++ g)) = .ok (.ref h.length) (h ++ [o]) := by
  unfold gc
  simp only
  have nl := (List.getElem?_eq_some_iff.mp e1).1
  have em : mapR (fz (h ++ g) h.length (h ++ g).length d) (.ref n) = none := by
    rw [mapR]
    cases d with
    | zero => rw [fz, if_neg (by omega)]
    | succ d =>
      rw [fz, if_neg (by omega), if_neg (by omega), e1]
      cases o with
      | lst l =>
        rcases hd with hd | hd
        · cases hd
        · exact absurd rfl (hd l)
      | _ => rfl
  rw [if_pos (cutOk_app h g), em]
  simp only
  unfold gcTop
  simp only [e1, mapO_bnd (k := h.length) (fun n hn => fz_lt hn) o b, if_pos hn, List.take_left]
theorem gc_topnew (e : Nat) (h : Hep) (o : Obj) (b : bndO h.length o = true) : gc 0 e h (.ok (.ref h.length) (h ++ [o])) = .ok (.ref h.length) (h ++ [o]) := gc_top e h _ _ o (Nat.le_refl _) (get_new _ _) b 0 (.inl rfl)
theorem gc_exc (d e : Nat) (h g : Hep) (x : Exc) (b : bndVs 0 x.args = true) : gc d e h (.exc x (h ++ g)) = .exc x h := by
  unfold gc
  simp only
  rw [if_pos ⟨cutOk_app h g, b⟩, List.take_left]
theorem gc_exc0 (d e : Nat) (h : Hep) (x : Exc) : gc d e h (.exc x h) = .exc x h := by
  unfold gc
  simp only
  split
  · rw [List.take_length]
  · rfl
theorem gcF_v (d e : Nat) (F : Fn) (vs : List Val) (h : Hep) : gcF d e F vs h = gc d e h (F vs h) := id rfl
theorem bndV_non (k : Nat) : bndV k .non = true := id rfl
theorem bndV_bl (k : Nat) (b : Bool) : bndV k (.bl b) = true := id rfl
theorem bndV_int (k : Nat) (b : Int) : bndV k (.int b) = true := id rfl
theorem bndV_str (k : Nat) (b : List Nat) : bndV k (.str b) = true := id rfl
theorem bndV_tup (k : Nat) (l : List Val) : bndV k (.tup l) = bndVs k l := by rw [bndV]
theorem bndV_fl (k : Nat) (l : List Val) : bndV k (.fl l) = bndVs k l := by rw [bndV]
theorem bndV_ref (k n : Nat) : bndV k (.ref n) = decide (n < k) := by rw [bndV]
theorem bndVs_nil (k : Nat) : bndVs k [] = true := id rfl
theorem bndVs_cons (k : Nat) (v : Val) (l : List Val) : bndVs k (v :: l) = (bndV k v && bndVs k l) := by rw [bndVs]
theorem bndVs_app (k : Nat) : ∀ l m : List Val, bndVs k (l ++ m) = (bndVs k l && bndVs k m)
  | [], m => rfl
  | v :: l, m => by rw [List.cons_append, bndVs, bndVs_app k l m, bndVs, Bool.and_assoc]
theorem bndVs_all {k : Nat} : ∀ {l : List Val}, (∀ v ∈ l, bndV k v = true) → bndVs k l = true
  | [], _ => rfl
  | v :: l, h => by rw [bndVs, h v List.mem_cons_self, bndVs_all fun w hw => h w (List.mem_cons_of_mem _ hw)]; rfl
theorem bndVs_mem {k : Nat} : ∀ {l : List Val}, bndVs k l = true → ∀ v ∈ l, bndV k v = true
  | [], _, v, hv => by cases hv
  | w :: l, h, v, hv => by
    rw [bndVs, Bool.and_eq_true] at h
    rcases List.mem_cons.mp hv with rfl | hv
    · exact h.1
    · exact bndVs_mem h.2 v hv
theorem bndVs_map {α : Type} {k : Nat} {f : α → Val} (l : List α) (h : ∀ a, bndV k (f a) = true) : bndVs k (l.map f) = true := bndVs_all fun v hv => by
  obtain ⟨a, _, rfl⟩ := List.mem_map.mp hv
  exact h a
theorem bndVs_int (k : Nat) (l : List Int) : bndVs k (l.map .int) = true := bndVs_map l fun _ => rfl
theorem bndVs_str (k : Nat) (l : List (List Nat)) : bndVs k (l.map .str) = true := bndVs_map l fun _ => rfl
theorem bndO_lst (k : Nat) (l : List Val) : bndO k (.lst l) = bndVs k l := id rfl
/-! heaps -/
theorem get_app {h g : Hep} {n : Nat} {o : Obj} (e : h[n]? = some o) : (h ++ g)[n]? = some o := by
  rw [List.getElem?_append_left (List.getElem?_eq_some_iff.mp e).1]; exact e
theorem set_new (h : Hep) (o u : Obj) : (h ++ [o]).set h.length u = h ++ [u] := by
  rw [List.set_append_right _ _ (Nat.le_refl _), Nat.sub_self]; rfl
theorem get_new2 (h : Hep) (x y : Obj) : (h ++ [x] ++ [y])[h.length]? = some x := get_app (get_new h x)
theorem len_new (h : Hep) (o : Obj) : (h ++ [o]).length = h.length + 1 := by rw [List.length_append]; rfl
/-! small facts -/
theorem szOk_of {n : Nat} (h : n ≤ 16777216) : szOk n = True := eq_true (szOk_iff.mpr h)
theorem beqI_t {a b : Int} (h : a = b) : (a == b) = true := by rw [h]; exact beq_self_eq_true b
theorem beqI_f {a b : Int} (h : a ≠ b) : (a == b) = false := beq_false_of_ne h
theorem append_v {h : Hep} {l : List Val} (v : Val) (z : l.length + 1 ≤ 16777216) : mAppend (.ref h.length) [v] (h ++ [.lst l]) = some (.non, h ++ [.lst (l ++ [v])]) := by
  rw [append_ok (get_new _ _) z, set_new]
theorem typ_new (h : Hep) (l : List Val) : typ (h ++ [.lst l]) (.ref h.length) = some "list" := typ_lst (get_new _ _)
theorem eq_self {α : Type} (a : α) : (a = a) = True := eq_true rfl
theorem fn_7 (N : Nat) (b : SM) (v1 v2 v3 v4 v5 v6 v7 : Val) (h : Hep) : fn 7 N b [v1, v2, v3, v4, v5, v6, v7] h = (b (some v1 :: some v2 :: some v3 :: some v4 :: some v5 :: some v6 :: some v7 :: List.replicate (N - 7) none) h).res := id rfl
/-! what is dropped, by the form of the value -/
def gcX (d e : Nat) (h : Hep) (r : Res Val) : Res Val := gc d e h r
section
variable (d e : Nat) (h g : Hep)
theorem gc_int (i : Int) : gc d e h (.ok (.int i) (h ++ g)) = .ok (.int i) h := gc_app d e h g _ rfl
theorem gc_str (i : List Nat) : gc d e h (.ok (.str i) (h ++ g)) = .ok (.str i) h := gc_app d e h g _ rfl
theorem gc_bl (i : Bool) : gc d e h (.ok (.bl i) (h ++ g)) = .ok (.bl i) h := gc_app d e h g _ rfl
theorem gc_non : gc d e h (.ok .non (h ++ g)) = .ok .non h := gc_app d e h g _ rfl
theorem gc_tup (l : List Val) : gc d e h (.ok (.tup l) (h ++ g)) = sel (bndVs h.length l) (.ok (.tup l) h) (gcX d e h (.ok (.tup l) (h ++ g))) .mk := by
  cases b : bndVs h.length l with
  | true => rw [sel_t]; exact gc_app d e h g _ (by rw [bndV_tup]; exact b)
  | false => rfl
theorem gc_fl (l : List Val) : gc d e h (.ok (.fl l) (h ++ g)) = sel (bndVs h.length l) (.ok (.fl l) h) (gcX d e h (.ok (.fl l) (h ++ g))) .mk := by
  cases b : bndVs h.length l with
  | true => rw [sel_t]; exact gc_app d e h g _ (by rw [bndV_fl]; exact b)
  | false => rfl
theorem gc_int0 (i : Int) : gc d e h (.ok (.int i) h) = .ok (.int i) h := gc_same d e h _ rfl
theorem gc_str0 (i : List Nat) : gc d e h (.ok (.str i) h) = .ok (.str i) h := gc_same d e h _ rfl
theorem gc_bl0 (i : Bool) : gc d e h (.ok (.bl i) h) = .ok (.bl i) h := gc_same d e h _ rfl
theorem gc_non0 : gc d e h (.ok .non h) = .ok .non h := gc_same d e h _ rfl
theorem gc_tup0 (l : List Val) : gc d e h (.ok (.tup l) h) = sel (bndVs h.length l) (.ok (.tup l) h) (gcX d e h (.ok (.tup l) h)) .mk := by
  cases b : bndVs h.length l with
  | true => rw [sel_t]; exact gc_same d e h _ (by rw [bndV_tup]; exact b)
  | false => rfl
theorem gc_fl0 (l : List Val) : gc d e h (.ok (.fl l) h) = sel (bndVs h.length l) (.ok (.fl l) h) (gcX d e h (.ok (.fl l) h)) .mk := by
  cases b : bndVs h.length l with
  | true => rw [sel_t]; exact gc_same d e h _ (by rw [bndV_fl]; exact b)
  | false => rfl
theorem gc_new_v (l : List Val) : gc (d + 1) e h (.ok (.ref h.length) (h ++ [.lst l])) = sel (bndVs h.length l) (.ok (.fl l) h) (gcX (d + 1) e h (.ok (.ref h.length) (h ++ [.lst l]))) .mk := by
  cases b : bndVs h.length l with
  | true => rw [sel_t]; exact gc_new d e h l b
  | false => rfl
theorem gc_exc_v (c : String) (l : List Val) : gc d e h (.exc ⟨c, l⟩ (h ++ g)) = sel (bndVs 0 l) (.exc ⟨c, l⟩ h) (gcX d e h (.exc ⟨c, l⟩ (h ++ g))) .mk := by
  cases b : bndVs 0 l with
  | true => rw [sel_t]; exact gc_exc d e h g _ b
  | false => rfl
end
/-! loops -/
def lastO (w : Option Val) : List Val → Option Val
  | [] => w
  | x :: xs => lastO (some x) xs
/-- a for whose body goes on: by the state -/
theorem forL_fold {σ : Type} {j : Nat} {chk : Hep → Bool} {b : SM} (f : σ → Val → σ) (E : σ → Option Val → Env) (H : σ → Hep) (P : σ → Prop) (hset : ∀ s w v, (E s w).set j v = E s v) (hchk : ∀ s, P s → chk (H s) = true) :
    ∀ (xs : List Val) (s : σ) (w : Option Val), P s → (∀ s x, P s → x ∈ xs → P (f s x) ∧ (b (E s (some x)) (H s) = .nx (E (f s x) (some x)) (H (f s x)) ∨ b (E s (some x)) (H s) = .cont (E (f s x) (some x)) (H (f s x)))) →
    forT (gNam j) chk b xs (E s w) (H s) .mk = .nx (E (xs.foldl f s) (lastO w xs)) (H (xs.foldl f s))
  | [], s, w, p, _ => forL_0 _ _ _ _ _ (hchk s p) _
  | x :: xs, s, w, p, q => by
    obtain ⟨p1, e⟩ := q s x p List.mem_cons_self
    have ih := forL_fold f E H P hset hchk xs (f s x) (some x) p1 fun s y ps hy => q s y ps (List.mem_cons_of_mem _ hy)
    rw [forL_v _ _ _ _ _ _ _ (hchk s p) _, gNam_eq, hset]
    show (b (E s (some x)) (H s)).go _ .mk = _
    rcases e with e | e
    · rw [e]; exact ih
    · rw [e]; exact ih
/-- a for whose body may leave the def: the state, or what is handed back -/
theorem forL_ret {σ : Type} {j : Nat} {chk : Hep → Bool} {b : SM} (f : σ → Val → σ ⊕ Val) (E : σ → Option Val → Env) (H : σ → Hep) (P : σ → Prop) (Q : SR → Prop) (hset : ∀ s w v, (E s w).set j v = E s v) (hchk : ∀ s, P s → chk (H s) = true) :
    ∀ (xs : List Val) (s : σ) (w : Option Val), P s →
    (∀ s x, P s → x ∈ xs → match f s x with
      | .inl s' => P s' ∧ (b (E s (some x)) (H s) = .nx (E s' (some x)) (H s') ∨ b (E s (some x)) (H s) = .cont (E s' (some x)) (H s'))
      | .inr v => b (E s (some x)) (H s) = .ret v (H s) ∧ Q (.ret v (H s))) →
    (∀ s w, P s → Q (.nx (E s w) (H s))) →
    Q (forT (gNam j) chk b xs (E s w) (H s) .mk)
  | [], s, w, p, _, fin => by rw [forL_0 _ _ _ _ _ (hchk s p) _]; exact fin s w p
  | x :: xs, s, w, p, q, fin => by
    have e := q s x p List.mem_cons_self
    rw [forL_v _ _ _ _ _ _ _ (hchk s p) _, gNam_eq, hset]
    show Q ((b (E s (some x)) (H s)).go _ .mk)
    cases ef : f s x with
    | inl s' =>
      rw [ef] at e
      obtain ⟨p1, e⟩ := e
      have ih := forL_ret f E H P Q hset hchk xs s' (some x) p1 (fun s y ps hy => q s y ps (List.mem_cons_of_mem _ hy)) fin
      rcases e with e | e
      · rw [e]; exact ih
      · rw [e]; exact ih
    | inr v =>
      rw [ef] at e
      rw [e.1]; exact e.2
theorem lastO_map {α : Type} (f : α → Val) : ∀ (l : List α) (w : Option Val), lastO w (l.map f) = lastO w (l.map f) := fun _ _ => rfl
/-- a while by a number that falls -/
theorem sWhile_gen {c : TM} {b : SM} {σ : Type} (E : σ → Env) (H : σ → Hep) (P : σ → Prop) (μ : σ → Nat) (Q : σ → SR → Prop)
    (step : ∀ s, P s → (∃ s', c (E s) (H s) = .ok true (H s) ∧ P s' ∧ μ s' < μ s ∧ (b (E s) (H s) = .nx (E s') (H s') ∨ b (E s) (H s) = .cont (E s') (H s')) ∧ ∀ r, Q s' r → Q s r) ∨ (c (E s) (H s) = .ok false (H s) ∧ Q s (.nx (E s) (H s)))) :
    ∀ (n : Nat) (s : σ), μ s ≤ n → P s → Q s (whT c b (E s) (H s) .mk) := by
  intro n
  induction n with
  | zero =>
    intro s hn p
    rw [sWhile_v]
    rcases step s p with ⟨s', e1, p', lt, e2, q⟩ | ⟨e1, q⟩
    · omega
    · rw [e1]; exact q
  | succ n ih =>
    intro s hn p
    rw [sWhile_v]
    rcases step s p with ⟨s', e1, p', lt, e2, q⟩ | ⟨e1, q⟩
    · rw [e1]
      have := ih s' (by omega) p'
      rcases e2 with e2 | e2
      · show Q s ((b (E s) (H s)).go _ .mk)
        rw [e2]; exact q _ this
      · show Q s ((b (E s) (H s)).go _ .mk)
        rw [e2]; exact q _ this
    · rw [e1]; exact q
/-! conditions that are reckoned first -/
def needO {α : Type} (p : Prop) (o : Option α) (_ : Tag o) : Option α := if p then o else none
theorem needO_t {α : Type} (o : Option α) (w : Tag o) : needO True o w = o := if_pos trivial
theorem bLen_str_v (s : List Nat) (h : Hep) : bLen [.str s] h = needO (szOk s.length) (some (.int s.length, h)) .mk := id rfl
theorem oAdd_str_v (h : Hep) (s t : List Nat) : oAdd h (.str s) (.str t) = needO (szOk (s.length + t.length)) (some (.str (s ++ t))) .mk := id rfl
theorem oIAdd_str_v (h : Hep) (s t : List Nat) : oIAdd h (.str s) (.str t) = needO (szOk (s.length + t.length)) (some (.str (s ++ t))) .mk := id rfl
theorem oAddW_tup_v (h : Hep) (s t : List Val) : oAddW h (.tup s) (.tup t) = needO (szOk (s.length + t.length)) (some (.tup (s ++ t))) .mk := id rfl
theorem oSl_str_v (h : Hep) (s : List Nat) (lo hi : Option Int) : oSl h (.str s) lo hi = needO (szOk s.length) (some (.str (cut s lo hi), h)) .mk := id rfl
theorem oSl_tup_v (h : Hep) (s : List Val) (lo hi : Option Int) : oSl h (.tup s) lo hi = some (.tup (cut s lo hi), h) := id rfl
theorem oSl_fl_v (h : Hep) (s : List Val) (lo hi : Option Int) : oSl h (.fl s) lo hi = some (.ref h.length, h ++ [.lst (cut s lo hi)]) := id rfl
theorem truth_str_v (h : Hep) (s : List Nat) : truth h (.str s) = needO (szOk s.length) (some (s.length != 0)) .mk := id rfl
theorem truth_fl_v (h : Hep) (l : List Val) : truth h (.fl l) = some (!l.isEmpty) := id rfl
theorem oIdx_str_v (h : Hep) (s : List Nat) (i : Int) : oIdx h (.str s) (.int i) = needO (szOk s.length) ((atI s i).map fun c => .str [c]) .mk := id rfl
theorem append_w (h : Hep) (l : List Val) (v : Val) : mAppend (.ref h.length) [v] (h ++ [.lst l]) = needO (szOk (l.length + 1)) (some (.non, h ++ [.lst (l ++ [v])])) .mk := by
  by_cases q : szOk (l.length + 1)
  · rw [append_v v (szOk_iff.mp q), eq_true q, needO_t]
  · unfold mAppend
    simp only [get_new]
    rw [if_neg q, eq_false q]
    exact (if_neg (fun z => z)).symm
theorem mJoin_fl (h : Hep) (s : List Nat) (ps : List (List Nat)) : mJoin (.str s) [.fl (ps.map .str)] h = needO (szOk ((ps.map List.length).sum + ps.length * s.length)) (some (.str (joinL s ps), h)) .mk := by
  have e2 : seqOf h (.fl (ps.map .str)) = some (ps.map .str) := rfl
  unfold mJoin
  simp only [e2, Option.bind_some, strsL_map]
  rfl
theorem mJoin_new (h : Hep) (s : List Nat) (ps : List (List Nat)) : mJoin (.str s) [.ref h.length] (h ++ [.lst (ps.map .str)]) = needO (szOk ((ps.map List.length).sum + ps.length * s.length)) (some (.str (joinL s ps), h ++ [.lst (ps.map .str)])) .mk := by
  have e2 : seqOf (h ++ [.lst (ps.map .str)]) (.ref h.length) = some (ps.map .str) := by
    show (match (h ++ [.lst (ps.map .str)])[h.length]? with | some (.lst l) => some l | _ => none) = _
    rw [get_new]
  unfold mJoin
  simp only [e2, Option.bind_some, strsL_map]
  rfl
theorem bTuple_fl (h : Hep) (l : List Val) : bTuple [.fl l] h = some (.tup l, h) := id rfl
theorem bTuple_tup (h : Hep) (l : List Val) : bTuple [.tup l] h = some (.tup l, h) := id rfl
theorem bTuple_new (h : Hep) (l : List Val) : bTuple [.ref h.length] (h ++ [.lst l]) = some (.tup l, h ++ [.lst l]) := tuple_ok (get_new _ _)
theorem bLen_new (h : Hep) (l : List Val) : bLen [.ref h.length] (h ++ [.lst l]) = some (.int l.length, h ++ [.lst l]) := bLen_ref (get_new _ _)
theorem bList_tup (h : Hep) (l : List Val) : bList [.tup l] h = some (.ref h.length, h ++ [.lst l]) := id rfl
theorem bList_fl (h : Hep) (l : List Val) : bList [.fl l] h = some (.ref h.length, h ++ [.lst l]) := id rfl
theorem oCat_fl (h : Hep) (l k : List Val) : oCat h (.fl l) (.fl k) = none := id rfl
theorem eCatW_v (a b : EM) (η : Env) (h : Hep) : eCatW a b η h = bd (a η h) (fun x h1 => bd (b η h1) (fun y h2 => ofP (oCatW h2 x y)) .mk) .mk := id rfl
theorem oCatW_fl (h : Hep) (l k : List Val) : oCatW h (.fl l) (.fl k) = needO (szOk (l.length + k.length)) (some (.ref h.length, h ++ [.lst (l ++ k)])) .mk := id rfl
theorem itsL_fl (h : Hep) (l : List Val) : itsL h (.fl l) = some l := id rfl
theorem itsL_new (h : Hep) (l : List Val) : itsL (h ++ [.lst l]) (.ref h.length) = some l := itsL_ref (get_new _ _)
theorem oCatW_of {h : Hep} {x y : Val} {l k : List Val} (e1 : itsL h x = some l) (e2 : itsL h y = some k) : oCatW h x y = needO (szOk (l.length + k.length)) (some (.ref h.length, h ++ [.lst (l ++ k)])) .mk := by
  unfold oCatW; rw [e1, e2]; rfl
theorem oRev_fl (h : Hep) (l : List Val) : oRev h (.fl l) = some (.ref h.length, h ++ [.lst l.reverse]) := id rfl
theorem oRev_new (h : Hep) (l : List Val) : oRev (h ++ [Obj.lst l]) (.ref h.length) = some (.ref (h ++ [Obj.lst l]).length, h ++ [Obj.lst l] ++ [Obj.lst l.reverse]) := by unfold oRev; rw [itsL_new]; rfl
theorem lb_nn : (([] : List Nat) == []) = true := id rfl
theorem lb_nc (b : Nat) (t : List Nat) : ([] == (b :: t)) = false := id rfl
theorem lb_cn (b : Nat) (t : List Nat) : ((b :: t) == []) = false := id rfl
theorem lb_cc (a b : Nat) (s t : List Nat) : ((a :: s) == (b :: t)) = (a == b && s == t) := id rfl
theorem lb_self (s : List Nat) : (s == s) = true := beq_self_eq_true s
theorem nb_self (s : Nat) : (s == s) = true := beq_self_eq_true s
theorem ib_self (s : Int) : (s == s) = true := beq_self_eq_true s
theorem bb_self (s : Bool) : (s == s) = true := beq_self_eq_true s
theorem beqN_t {a b : Nat} (h : a = b) : (a == b) = true := by rw [h]; exact beq_self_eq_true b
theorem beqN_f {a b : Nat} (h : a ≠ b) : (a == b) = false := beq_false_of_ne h
theorem mStarts_v (h : Hep) (s t : List Nat) : mStarts (.str s) [.str t] h = some (.bl (s.take t.length == t), h) := by
  rw [mStarts_eq]
  by_cases q : s.take t.length = t
  · rw [decide_eq_true q, q, lb_self]
  · rw [decide_eq_false q, beq_false_of_ne q]
theorem mEnds_v (h : Hep) (s t : List Nat) : mEnds (.str s) [.str t] h = some (.bl (decide (t.length ≤ s.length) && (s.drop (s.length - t.length) == t)), h) := by
  rw [mEnds_eq]
  by_cases q : s.drop (s.length - t.length) = t
  · rw [decide_eq_true q, q, lb_self]
  · rw [decide_eq_false q, beq_false_of_ne q]
/-- a walk along a text that leaves the def at the first sign that is not wanted -/
theorem forL_all (j : Nat) (b : SM) (p : Nat → Bool) (E : Option Val → Env) (r : Val) (h : Hep) (hset : ∀ x v, (E x).set j v = E v)
    (hb : ∀ c, b (E (some (.str [c]))) h = sel (p c) (.nx (E (some (.str [c]))) h) (.ret r h) .mk) : ∀ (s : List Nat) (v : Option Val),
    forT (gNam j) (fun _ => true) b (s.map fun c => .str [c]) (E v) h .mk = sel (s.all p) (.nx (E (lastO v (s.map fun c => .str [c]))) h) (.ret r h) .mk
  | [], v => rfl
  | c :: s, v => by
    have ih := forL_all j b p E r h hset hb s (some (.str [c]))
    rw [List.map_cons, forL_v _ _ _ _ _ _ _ rfl _, gNam_eq, hset, List.all_cons]
    show (b (E (some (.str [c]))) h).go _ .mk = _
    rw [hb]
    cases p c with
    | true => exact ih
    | false => rfl
theorem cutTo (t : List α) (n : Nat) : cut t none (some (n : Int)) = t.take n := by
  unfold cut sIx
  simp only [if_neg (show ¬ (n : Int) < 0 by omega), Int.toNat_natCast, List.drop_zero, Nat.sub_zero]
  by_cases q : n ≤ t.length
  · rw [Nat.min_eq_left q]
  · rw [Nat.min_eq_right (by omega), List.take_of_length_le (by omega), List.take_of_length_le (by omega)]
theorem cutFrom (t : List α) (n : Nat) : cut t (some (n : Int)) none = t.drop n := by
  unfold cut sIx
  simp only [if_neg (show ¬ (n : Int) < 0 by omega), Int.toNat_natCast]
  by_cases q : n ≤ t.length
  · rw [Nat.min_eq_left q, List.take_of_length_le (by rw [List.length_drop]; omega)]
  · rw [Nat.min_eq_right (by omega), List.drop_eq_nil_of_le (Nat.le_refl _), List.drop_eq_nil_of_le (by omega), List.take_nil]
theorem cutMid (t : List α) (a b : Nat) (h : a ≤ t.length) : cut t (some (a : Int)) (some (b : Int)) = (t.drop a).take (b - a) := by
  unfold cut sIx
  simp only [if_neg (show ¬ (a : Int) < 0 by omega), if_neg (show ¬ (b : Int) < 0 by omega), Int.toNat_natCast, Nat.min_eq_left h]
  by_cases q : b ≤ t.length
  · rw [Nat.min_eq_left q]
  · rw [Nat.min_eq_right (by omega), List.take_of_length_le (by rw [List.length_drop]; omega), List.take_of_length_le (by rw [List.length_drop]; omega)]
theorem cutToN (t : List α) (n : Nat) (h0 : 0 < n) : cut t none (some (-(n : Int))) = t.take (t.length - n) := by
  unfold cut sIx
  simp only [if_pos (show -(n : Int) < 0 by omega), List.drop_zero, Nat.sub_zero, show (-(n : Int) + t.length).toNat = t.length - n by omega]
theorem cutFromN (t : List α) (n : Nat) (h0 : 0 < n) : cut t (some (-(n : Int))) none = t.drop (t.length - n) := by
  unfold cut sIx
  simp only [if_pos (show -(n : Int) < 0 by omega), show (-(n : Int) + t.length).toNat = t.length - n by omega]
  rw [List.take_of_length_le (by rw [List.length_drop]; omega)]
theorem cutTo1 (t : List α) : cut t none (some 1) = t.take 1 := cutTo t 1
theorem cutFrom1 (t : List α) : cut t (some 1) none = t.drop 1 := cutFrom t 1
theorem cutFrom0 (t : List α) : cut t (some 0) none = t := cutFrom t 0
theorem cutToN1 (t : List α) : cut t none (some (-1)) = t.take (t.length - 1) := cutToN t 1 (by decide)
theorem cutToN2 (t : List α) : cut t none (some (-2)) = t.take (t.length - 2) := cutToN t 2 (by decide)
theorem cutFromN1 (t : List α) : cut t (some (-1)) none = t.drop (t.length - 1) := cutFromN t 1 (by decide)
theorem cutFromN2 (t : List α) : cut t (some (-2)) none = t.drop (t.length - 2) := cutFromN t 2 (by decide)
theorem cutAll (t : List α) : cut t none none = t := by
  unfold cut sIx
  simp
/-- one sign for another -/
theorem repl_one (c z : Nat) : ∀ (s acc : List Nat), joinL [z] (cutAt c acc s) = acc ++ s.map fun x => if x = c then z else x
  | [], acc => by simp [cutAt, joinL]
  | x :: s, acc => by
    rw [cutAt]
    by_cases q : x = c
    · rw [if_pos q]
      have ih := repl_one c z s []
      cases e : cutAt c [] s with
      | nil =>
        have : ∀ (l acc : List Nat), cutAt c acc l ≠ [] := by
          intro l
          induction l with
          | nil => intro acc; simp [cutAt]
          | cons y l ih => intro acc; rw [cutAt]; split; simp; exact ih _
        exact absurd e (this _ _)
      | cons p ps =>
        rw [e] at ih
        rw [joinL, ih]
        simp [q]
    · rw [if_neg q, repl_one c z s]
      simp [q]
theorem replOk_of {c n m : Nat} (h1 : c < 256) (h2 : n + (n + 1) * m + 2 ≤ 16777216) : replOk c n m = True := eq_true ⟨h1, by rw [line_is]; exact h2⟩
theorem eRepl1 (c z : Nat) (s : List Nat) : joinL [z] (cutAt c [] s) = s.map fun x => if x = c then z else x := by rw [repl_one]; rfl
theorem mLstrip_v (h : Hep) (s t : List Nat) : mLstrip (.str s) [.str t] h = needO (szOk s.length) (some (.str (s.dropWhile fun c => t.contains c), h)) .mk := id rfl
theorem fZipS_v (h : Hep) (s t : List Nat) : fZipS h [.str s, .str t] = some (zipS s t, fun _ => true) := id rfl
theorem wipe_v (η : Env) (v : Nat) (vs : List Nat) : wipe η (v :: vs) = (wipe η vs).set v none := id rfl
theorem wipe_0 (η : Env) : wipe η [] = η := id rfl
theorem bndVs_chs (k : Nat) (l : List Nat) : bndVs k (l.map fun c => .str [c]) = true := bndVs_map l fun _ => rfl
theorem sum_ones (l : List Nat) : ((l.map fun c => [c]).map List.length).sum = l.length := by
  induction l with
  | nil => rfl
  | cons c l ih => rw [List.map_cons, List.map_cons, List.sum_cons, ih, List.length_cons]; simp; omega
/-- the signs of a text between nothing -/
theorem mJoin_chs (h : Hep) (l : List Nat) : mJoin (.str []) [.fl (l.map fun c => .str [c])] h = needO (szOk l.length) (some (.str l, h)) .mk := by
  have := mJoin_fl h [] (l.map fun c => [c])
  rw [List.map_map] at this
  rw [sum_ones, joinL_chars, List.length_nil, Nat.mul_zero, Nat.add_zero] at this
  exact this
theorem mJoin_chsN (h : Hep) (l : List Nat) : mJoin (.str []) [.ref h.length] (h ++ [.lst (l.map fun c => .str [c])]) = needO (szOk l.length) (some (.str l, h ++ [.lst (l.map fun c => .str [c])])) .mk := by
  have := mJoin_new h [] (l.map fun c => [c])
  rw [List.map_map] at this
  rw [sum_ones, joinL_chars, List.length_nil, Nat.mul_zero, Nat.add_zero] at this
  exact this
theorem eOp_v (f : Hep → Val → Val → Option (Val × Hep)) (a b : EM) (η : Env) (h : Hep) : eOp f a b η h = bd (a η h) (fun x h1 => bd (b η h1) (fun y h2 => ofP (f h2 x y)) .mk) .mk := id rfl
theorem oPlus_int (h : Hep) (i j : Int) : oPlus h (.int i) (.int j) = some (.int (i + j), h) := id rfl
theorem oPlus_str (h : Hep) (s t : List Nat) : oPlus h (.str s) (.str t) = needO (szOk (s.length + t.length)) (some (.str (s ++ t), h)) .mk := by
  show (match (if szOk (s.length + t.length) then some (Val.str (s ++ t)) else none) with | some v => some (v, h) | none => none) = _
  unfold needO
  by_cases q : szOk (s.length + t.length)
  · rw [if_pos q, if_pos q]
  · rw [if_neg q, if_neg q]
theorem oPlus_tup (h : Hep) (s t : List Val) : oPlus h (.tup s) (.tup t) = needO (szOk (s.length + t.length)) (some (.tup (s ++ t), h)) .mk := by
  show (match (if szOk (s.length + t.length) then some (Val.tup (s ++ t)) else none) with | some v => some (v, h) | none => none) = _
  unfold needO
  by_cases q : szOk (s.length + t.length)
  · rw [if_pos q, if_pos q]
  · rw [if_neg q, if_neg q]
theorem oPlus_fl (h : Hep) (s t : List Val) : oPlus h (.fl s) (.fl t) = needO (szOk (s.length + t.length)) (some (.ref h.length, h ++ [.lst (s ++ t)])) .mk := id rfl
theorem oPlus_refs {h : Hep} {x y : Nat} {l k : List Val} (e1 : itsL h (.ref x) = some l) (e2 : itsL h (.ref y) = some k) : oPlus h (.ref x) (.ref y) = needO (szOk (l.length + k.length)) (some (.ref h.length, h ++ [.lst (l ++ k)])) .mk := oCatW_of e1 e2
theorem oPlus_refl {h : Hep} {x : Nat} {l k : List Val} (e1 : itsL h (.ref x) = some l) : oPlus h (.ref x) (.fl k) = needO (szOk (l.length + k.length)) (some (.ref h.length, h ++ [.lst (l ++ k)])) .mk := oCatW_of e1 rfl
theorem bIntA_int (i : Int) (h : Hep) : bIntA [.int i] h = some (.int i, h) := id rfl
theorem bIntA_bl (i : Bool) (h : Hep) : bIntA [.bl i] h = some (.int (if i then 1 else 0), h) := id rfl
theorem bIntA_str (s : List Nat) (h : Hep) : bIntA [.str s] h = bIntS [.str s] h := id rfl
theorem eKl_v (l : List Val) (η : Env) (h : Hep) : eKl l η h = .ok (.fl l) h := id rfl
theorem needO_of {α : Type} {p : Prop} {o : Option α} {w : Tag o} (h : p) : needO p o w = o := if_pos h
theorem atI_mem {α : Type} {L : List α} {i : Int} (h0 : 0 ≤ i) (h1 : i < L.length) : ∃ x, x ∈ L ∧ atI L i = some x := by
  have hl : i.toNat < L.length := by omega
  exact ⟨L[i.toNat], List.getElem_mem hl, atI_of h0 (List.getElem?_eq_getElem hl)⟩
theorem atI_strs {L : List (List Nat)} {K : List Val} {i : Int} (hK : K = L.map .str) (h0 : 0 ≤ i) (h1 : i < L.length) : ∃ x, x ∈ L ∧ atI K i = some (.str x) := by
  obtain ⟨v, hv, e⟩ := atI_mem (L := K) h0 (by rw [hK, List.length_map]; exact h1)
  rw [hK] at hv
  obtain ⟨x, hx, rfl⟩ := List.mem_map.mp hv
  exact ⟨x, hx, e⟩
theorem atI_ints {L : List Int} {K : List Val} {i : Int} (hK : K = L.map .int) (h0 : 0 ≤ i) (h1 : i < L.length) : ∃ x, x ∈ L ∧ atI K i = some (.int x) := by
  obtain ⟨v, hv, e⟩ := atI_mem (L := K) h0 (by rw [hK, List.length_map]; exact h1)
  rw [hK] at hv
  obtain ⟨x, hx, rfl⟩ := List.mem_map.mp hv
  exact ⟨x, hx, e⟩
/-! data that is compared -/
theorem rsl_int (h : Hep) (n : Nat) (i : Int) : rsl h n (.int i) = some (.int i) := by rw [rsl]
theorem rsl_bl (h : Hep) (n : Nat) (i : Bool) : rsl h n (.bl i) = some (.bl i) := by rw [rsl]
theorem rsl_non (h : Hep) (n : Nat) : rsl h n .non = some .non := by rw [rsl]
theorem rsl_str (h : Hep) (n : Nat) (s : List Nat) (c : chOk s) : rsl h n (.str s) = some (.str s) := by rw [rsl, if_pos c]
theorem rsl_tup (h : Hep) (n : Nat) (l : List Val) : rsl h (n + 1) (.tup l) = (rsls h n l).map .tup := by rw [rsl]
theorem rsl_fl (h : Hep) (n : Nat) (l : List Val) : rsl h (n + 1) (.fl l) = (rsls h n l).map .lst := by rw [rsl]
theorem rsls_nil (h : Hep) (n : Nat) : rsls h n [] = some [] := by rw [rsls]
def rcn (o : Option Dat) (r : Option (List Dat)) : Option (List Dat) := match o with | some d => r.map (d :: ·) | none => none
theorem rcn_some (d : Dat) (r : List Dat) : rcn (some d) (some r) = some (d :: r) := id rfl
theorem rsls_cons (h : Hep) (n : Nat) (v : Val) (l : List Val) : rsls h n (v :: l) = rcn (rsl h n v) (rsls h n l) := by
  rw [rsls]
  cases rsl h n v <;> rfl
mutual
theorem Dat.eqv_self : ∀ d : Dat, d.eqv d = true
  | .non => rfl
  | .bl _ => by rw [Dat.eqv]; exact bb_self _
  | .int _ => by rw [Dat.eqv]; exact ib_self _
  | .str _ => by rw [Dat.eqv]; exact lb_self _
  | .lst l => by rw [Dat.eqv]; exact Dat.eqvs_self l
  | .tup l => by rw [Dat.eqv]; exact Dat.eqvs_self l
theorem Dat.eqvs_self : ∀ l : List Dat, Dat.eqvs l l = true
  | [] => rfl
  | a :: l => by rw [Dat.eqvs, Dat.eqv_self a, Dat.eqvs_self l]; rfl
end
/-- equal data -/
theorem oEq_dat {h : Hep} {a b : Val} {d e : Dat} (s : scl a b = none) (q1 : rsl h 40 a = some d) (q2 : rsl h 40 b = some e) : oEq h a b = some (.bl (d.eqv e)) := by
  refine oEq_of ?_
  unfold vEq
  rw [s]
  simp only [q1, q2]
theorem oNe_dat {h : Hep} {a b : Val} {d e : Dat} (s : scl a b = none) (q1 : rsl h 40 a = some d) (q2 : rsl h 40 b = some e) : oNe h a b = some (.bl (!d.eqv e)) := by
  refine oNe_of ?_
  unfold vEq
  rw [s]
  simp only [q1, q2]
def lookS (c : String) : List (String × Bool) → Option Bool
  | [] => none
  | (k, v) :: l => sel (c == k) (some v) (lookS c l) .mk
theorem lookS_cons (c k : String) (v : Bool) (l : List (String × Bool)) : lookS c ((k, v) :: l) = sel (c == k) (some v) (lookS c l) .mk := id rfl
theorem lookS_eq (c : String) : ∀ l : List (String × Bool), l.lookup c = lookS c l
  | [] => rfl
  | (k, v) :: l => by
    rw [List.lookup_cons, lookS, lookS_eq c l]
    cases c == k <;> rfl
def hitR (a b : Option Bool) (d : Bool) (r : SR) (h : Hep) : SR := match a, b, d with
  | some true, some k, true => .ret (.bl k) h
  | _, _, _ => r
theorem hitR_v (k : Bool) (r : SR) (h : Hep) : hitR (some true) (some k) true r h = .ret (.bl k) h := id rfl
def tryX (tbl : List (String × Bool)) (i : Nat) (hd : Exc → Nat → SM) (r : SR) : SR := tryR tbl i hd .mk r
/-- a handler that tells whether the error is of a class -/
theorem tryR_isE {tbl t2 : List (String × Bool)} {i : Nat} {c : String} {η : Env} {h : Hep} (w : Tag (fun (x_ : Exc) (a_ : Nat) => sRet (eIsE t2 x_ a_ (eVar i)))) :
    tryR tbl i (fun x_ a_ => sRet (eIsE t2 x_ a_ (eVar i))) w (.exc ⟨c, []⟩ η h) = hitR (lookS c tbl) (lookS c t2) (decide (i < η.length)) (tryX tbl i (fun x_ a_ => sRet (eIsE t2 x_ a_ (eVar i))) (.exc ⟨c, []⟩ η h)) h := by
  unfold hitR
  split
  · rename_i k e1 e2 e3
    have hi : i < η.length := of_decide_eq_true e3
    rw [← lookS_eq] at e1 e2
    refine tryR_hit _ _ e1 fun a => ?_
    have g : (η.set i (some (Val.exo a)))[i]? = some (some (.exo a)) := List.getElem?_set_self hi
    rw [sRet_eq, eIsE_eq, eVar_eq, g]
    simp only [Option.join_some, ofO_some, Res.bind_ok, if_true, e2, Res.thn_ok, forget_ret]
  · rfl
theorem isDct_new (h : Hep) (l : List (Val × Val)) : isDct (h ++ [.dct l]) (.ref h.length) = true := isDct_ref (get_new _ _)
theorem oDGet2_new (h : Hep) (l : List (Val × Val)) (k z : Val) : oDGet2 (h ++ [.dct l]) (.ref h.length) k z = needO (isKey k = true) (some ((dGet l k).getD z)) .mk := by
  unfold needO
  by_cases q : isKey k = true
  · rw [if_pos q, oDGet2_ref (get_new _ _) q]
  · rw [if_neg q]
    show (match (h ++ [Obj.dct l])[h.length]? with | some (.dct l) => if isKey k then some ((dGet l k).getD z) else none | _ => none) = _
    rw [get_new]
    simp only
    exact if_neg q
theorem dGet_v (a v : Val) (l : List (Val × Val)) (k : Val) : dGet ((a, v) :: l) k = sel (keyEq a k) (some v) (dGet l k) .mk := id rfl
theorem getD_some {α : Type} (a b : α) : (some a).getD b = a := id rfl
theorem getD_none {α : Type} (b : α) : (none : Option α).getD b = b := id rfl
/-- the way of a comprehension -/
theorem compT_if {g : GM} {chk : Hep → Bool} {c : TM} {e : EM} {η : Env} {h : Hep} {w : Tag (g, chk, c, e)} (f : Val → Val) (k : Val → Bool) (hc : chk h = true) (xs : List Val) (q : ∀ x ∈ xs, ∃ η1, g x η = some η1 ∧ c η1 h = .ok (k x) h ∧ e η1 h = .ok (f x) h) : compT g chk c e η xs h w = .ok ((xs.filter k).map f) h := compL_if hc xs q
theorem compT_pure {g : GM} {e : EM} {η : Env} {h : Hep} {w : Tag (g, fun _ => true, tTrue, e)} (f : Val → Val) (xs : List Val) (q : ∀ x ∈ xs, ∃ η1, g x η = some η1 ∧ e η1 h = .ok (f x) h) : compT g (fun _ => true) tTrue e η xs h w = .ok (xs.map f) h := compL_pure xs q
theorem oIsB_v (h : Hep) (x : Val) (b : Bool) : oIsB h x (.bl b) = some (.bl (isB x b)) := id rfl
theorem isB_bl (k b : Bool) : isB (.bl k) b = (k == b) := id rfl
theorem isB_tup (l : List Val) (b : Bool) : isB (.tup l) b = false := id rfl
theorem isB_int (l : Int) (b : Bool) : isB (.int l) b = false := id rfl
theorem isB_str (l : List Nat) (b : Bool) : isB (.str l) b = false := id rfl
theorem isB_non (b : Bool) : isB .non b = false := id rfl
/-- a text within a list of flat values -/
theorem oIn_fl (h : Hep) (s : List Nat) (l : List Val) (q : l.all flat = true) : oIn h (.str s) (.fl l) = some (.bl (l.any fun y => eqF y (.str s))) := by
  have e : isIn h (.str s) (.fl l) = if flat (.str s) && l.all flat then some (l.any fun y => eqF y (.str s)) else none := by
    cases s with
    | nil => rfl
    | cons c t => cases t <;> rfl
  unfold oIn
  rw [e, q]
  rfl
theorem oNin_fl (h : Hep) (s : List Nat) (l : List Val) (q : l.all flat = true) : oNin h (.str s) (.fl l) = some (.bl (!l.any fun y => eqF y (.str s))) := by
  have e : isIn h (.str s) (.fl l) = if flat (.str s) && l.all flat then some (l.any fun y => eqF y (.str s)) else none := by
    cases s with
    | nil => rfl
    | cons c t => cases t <;> rfl
  unfold oNin
  rw [e, q]
  rfl
/-! what stands at a place -/
def onL {α : Type} (o : Option Obj) (f : List Val → Option α) (_ : Tag f) : Option α := match o with | some (.lst l) => f l | _ => none
theorem onL_lst {α : Type} (l : List Val) (f : List Val → Option α) (w : Tag f) : onL (some (.lst l)) f w = f l := id rfl
theorem oIdx_ref_v (h : Hep) (n : Nat) (i : Int) : oIdx h (.ref n) (.int i) = onL (h[n]?) (fun l => atI l i) .mk := by
  unfold onL
  show (match h[n]? with | some (.lst l) => atI l i | _ => none) = _
  cases h[n]? with
  | none => rfl
  | some o => cases o <;> rfl
theorem oIdxL_ref_v (h : Hep) (n : Nat) (i : Int) : oIdxL h (.ref n) (.int i) = onL (h[n]?) (fun l => atI l i) .mk := by
  unfold onL
  show (match h[n]? with | some (.lst l) => atI l i | _ => none) = _
  cases h[n]? with
  | none => rfl
  | some o => cases o <;> rfl
theorem bLen_ref_v (h : Hep) (n : Nat) : bLen [.ref n] h = onL (h[n]?) (fun l => some (.int l.length, h)) .mk := by
  unfold onL
  show (match h[n]? with | some (.lst l) => some (Val.int l.length, h) | _ => none) = _
  cases h[n]? with
  | none => rfl
  | some o => cases o <;> rfl
theorem bTuple_ref_v (h : Hep) (n : Nat) : bTuple [.ref n] h = onL (h[n]?) (fun l => some (.tup l, h)) .mk := by
  unfold onL
  show (match h[n]? with | some (.lst l) => some (Val.tup l, h) | _ => none) = _
  cases h[n]? with
  | none => rfl
  | some o => cases o <;> rfl
theorem bList_ref_v (h : Hep) (n : Nat) : bList [.ref n] h = onL (h[n]?) (fun l => some (Val.ref h.length, h ++ [Obj.lst l])) .mk := by
  unfold onL
  show (match h[n]? with | some (.lst l) => some (Val.ref h.length, h ++ [Obj.lst l]) | _ => none) = _
  cases h[n]? with
  | none => rfl
  | some o => cases o <;> rfl
theorem truth_ref_v (h : Hep) (n : Nat) : truth h (.ref n) = match h[n]? with | some (.lst l) => some (!l.isEmpty) | some (.dct l) => some (!l.isEmpty) | _ => none := rfl
theorem mAppend_ref_v (h : Hep) (n : Nat) (v : Val) : mAppend (.ref n) [v] h = onL (h[n]?) (fun l => needO (szOk (l.length + 1)) (some (.non, h.set n (.lst (l ++ [v])))) .mk) .mk := by
  unfold onL needO
  show (match h[n]? with | some (.lst l) => if szOk (l.length + 1) then some (Val.non, h.set n (.lst (l ++ [v]))) else none | _ => none) = _
  cases h[n]? with
  | none => rfl
  | some o => cases o <;> rfl
theorem setIx_ref_v (h : Hep) (n : Nat) (k : Int) (v : Val) : setIx h (.ref n) (.int k) v = onL (h[n]?) (fun l => (ixN l.length k).map fun j => h.set n (.lst (l.set j v))) .mk := by
  unfold onL
  show (match h[n]? with | some (.lst l) => (match ixN l.length k with | some j => some (h.set n (.lst (l.set j v))) | none => none) | _ => none) = _
  cases h[n]? with
  | none => rfl
  | some o =>
    cases o with
    | lst l => simp only; cases ixN l.length k <;> rfl
    | _ => rfl
def typO : Option Obj → Option String
  | some (.lst _) => some "list"
  | some (.dct _) => some "dict"
  | _ => none
theorem typ_ref_v (h : Hep) (n : Nat) : typ h (.ref n) = typO (h[n]?) := rfl
theorem typO_lst (l : List Val) : typO (some (.lst l)) = some "list" := id rfl
theorem typO_dct (l : List (Val × Val)) : typO (some (.dct l)) = some "dict" := id rfl
theorem set_get_v (h : Hep) (n : Nat) (x : Obj) : (h.set n x)[n]? = h[n]?.map fun _ => x := by
  by_cases q : n < h.length
  · rw [List.getElem?_set_self q, List.getElem?_eq_getElem q]; rfl
  · rw [List.getElem?_eq_none (by rw [List.length_set]; omega), List.getElem?_eq_none (by omega)]; rfl
theorem set_get_ne {h : Hep} {n m : Nat} (x : Obj) (ne : n ≠ m) : (h.set n x)[m]? = h[m]? := List.getElem?_set_ne ne
theorem get_app_lt {h g : Hep} {n : Nat} (l : n < h.length) : (h ++ g)[n]? = h[n]? := List.getElem?_append_left l
theorem ixN_pos {n : Nat} {i : Int} (h0 : 0 ≤ i) (h1 : i < n) : ixN n i = some i.toNat := by
  unfold ixN; rw [if_pos h0, if_pos h1]
theorem ixN_neg {n : Nat} {i : Int} (h0 : i < 0) (h1 : -(n : Int) ≤ i) : ixN n i = some (i + n).toNat := by
  unfold ixN; rw [if_neg (by omega), if_pos h1]
theorem gc_set_v (d e : Nat) (h g : Hep) (i : Nat) (o : Obj) (v : Val) : gc d e h (.ok v (h.set i o ++ g)) = sel (bndV h.length v && bndO h.length o) (.ok v (h.set i o)) (gcX d e h (.ok v (h.set i o ++ g))) .mk := by
  cases b : (bndV h.length v && bndO h.length o) with
  | true => rw [Bool.and_eq_true] at b; rw [sel_t]; exact gc_set d e h g i o v b.1 b.2
  | false => rfl
theorem gc_set0_v (d e : Nat) (h : Hep) (i : Nat) (o : Obj) (v : Val) : gc d e h (.ok v (h.set i o)) = sel (bndV h.length v && bndO h.length o) (.ok v (h.set i o)) (gcX d e h (.ok v (h.set i o))) .mk := by
  cases b : (bndV h.length v && bndO h.length o) with
  | true => rw [Bool.and_eq_true] at b; rw [sel_t]; exact gc_set0 d e h i o v b.1 b.2
  | false => rfl
theorem set_app_ne (h : Hep) (x u : Obj) {n : Nat} (l : n < h.length) : (h ++ [x]).set n u = h.set n u ++ [x] := List.set_append_left _ _ l
theorem gc_topnew_v (e : Nat) (h : Hep) (o : Obj) : gc 0 e h (Res.ok (.ref h.length) (h ++ [o])) = sel (bndO h.length o) (.ok (.ref h.length) (h ++ [o])) (gcX 0 e h (Res.ok (.ref h.length) (h ++ [o]))) .mk := by
  cases b : bndO h.length o with
  | true => rw [sel_t]; exact gc_topnew e h o b
  | false => rfl
theorem oNotB_v (h : Hep) (x : Val) (b : Bool) : oNotB h x (.bl b) = some (.bl (!isB x b)) := id rfl
theorem oTimes_int (h : Hep) (i j : Int) : oTimes h (.int i) (.int j) = needO (mulOk i j) (some (.int (i * j), h)) .mk := by
  show (match (if mulOk i j then some (Val.int (i * j)) else none) with | some v => some (v, h) | none => none) = _
  unfold needO
  by_cases q : mulOk i j
  · rw [if_pos q, if_pos q]
  · rw [if_neg q, if_neg q]
theorem mulOk_tl {i j : Int} (h1 : -(2 ^ 64) < i ∧ i < 2 ^ 64) : mulOk i j = True := eq_true (.inl h1)
theorem mulOk_tr {i j : Int} (h1 : -(2 ^ 64) < j ∧ j < 2 ^ 64) : mulOk i j = True := eq_true (.inr (.inl h1))
theorem oTimes_str (h : Hep) (s : List Nat) (i : Int) : oTimes h (.str s) (.int i) = needO (repOk s.length i) (some (.str (repL s i.toNat), h)) .mk := by
  show (match (if repOk s.length i then some (Val.str (repL s i.toNat)) else none) with | some v => some (v, h) | none => none) = _
  unfold needO
  by_cases q : repOk s.length i
  · rw [if_pos q, if_pos q]
  · rw [if_neg q, if_neg q]
theorem repOk_v (n : Nat) (i : Int) : repOk n i = (-1000000 < i ∧ i ≤ 16777216 ∧ n * i.toNat ≤ 16777216) := by rw [repOk_iff]
theorem repOk_1 {i : Int} (h : -1000000 < i ∧ i ≤ 16777216) : repOk 1 i = True := eq_true (repOk_iff.mpr ⟨h.1, h.2, by omega⟩)
theorem oTimes_ref (h : Hep) (n : Nat) (i : Int) : oTimes h (.ref n) (.int i) = onL (h[n]?) (fun l => needO (repOk l.length i) (some (Val.ref h.length, h ++ [Obj.lst (List.replicate i.toNat l).flatten])) .mk) .mk := by
  unfold onL needO
  show (match h[n]? with | some (.lst l) => if repOk l.length i then some (Val.ref h.length, h ++ [Obj.lst (List.replicate i.toNat l).flatten]) else none | _ => none) = _
  cases h[n]? with
  | none => rfl
  | some o => cases o <;> rfl
theorem repL_one (c n : Nat) : repL [c] n = List.replicate n c := repL_ch c n
theorem rep_one {α : Type} (c : α) (n : Nat) : (List.replicate n [c]).flatten = List.replicate n c := by
  induction n with
  | zero => rfl
  | succ n ih => rw [List.replicate_succ, List.flatten_cons, ih, List.replicate_succ]; rfl
theorem gc_set2 (d e : Nat) (h g : Hep) (i : Nat) (o o' : Obj) (v : Val) : gc d e (h.set i o) (.ok v (h.set i o' ++ g)) = sel (bndV h.length v && bndO h.length o') (.ok v (h.set i o')) (gcX d e (h.set i o) (.ok v (h.set i o' ++ g))) .mk := by
  have := gc_set_v d e (h.set i o) g i o' v
  rw [List.set_set, List.length_set] at this
  exact this
theorem gc_set20 (d e : Nat) (h : Hep) (i : Nat) (o o' : Obj) (v : Val) : gc d e (h.set i o) (.ok v (h.set i o')) = sel (bndV h.length v && bndO h.length o') (.ok v (h.set i o')) (gcX d e (h.set i o) (.ok v (h.set i o'))) .mk := by
  have := gc_set0_v d e (h.set i o) i o' v
  rw [List.set_set, List.length_set] at this
  exact this
theorem set_app_v (h g : Hep) (u : Obj) {n : Nat} (l : n < h.length) : (h ++ g).set n u = h.set n u ++ g := List.set_append_left _ _ l
/-- a new list is locked, what else it changed stays -/
theorem gc_setlst (d e : Nat) (h : Hep) (i : Nat) (o o' : Obj) (l : List Val) (g : Hep) (n : Nat) (hn : h.length ≤ n) (e1 : (h.set i o' ++ g)[n]? = some (.lst l)) (b : bndVs h.length l = true) (bo : bndO h.length o' = true) : gc (d + 1) e (h.set i o) (.ok (.ref n) (h.set i o' ++ g)) = .ok (.fl l) (h.set i o') := by
  have c := cutOk_set (h.set i o) g i o' (by rw [List.length_set]; exact bo)
  rw [List.set_set] at c
  unfold gc
  simp only
  have nl := (List.getElem?_eq_some_iff.mp e1).1
  rw [if_pos c, mapR, fz, if_neg (by rw [List.length_set]; omega), if_neg (by omega), e1]
  simp only [mapRs_bnd (k := (h.set i o).length) (fun n hn => fz_lt hn) l (by rw [List.length_set]; exact b), Option.map_some]
  rw [List.take_left' (by rw [List.length_set, List.length_set])]
theorem gc_setnew (d e : Nat) (h : Hep) (i : Nat) (o o' : Obj) (l : List Val) : gc (d + 1) e (h.set i o) (.ok (.ref h.length) (h.set i o' ++ [.lst l])) = sel (bndVs h.length l && bndO h.length o') (.ok (.fl l) (h.set i o')) (gcX (d + 1) e (h.set i o) (.ok (.ref h.length) (h.set i o' ++ [.lst l]))) .mk := by
  cases b : (bndVs h.length l && bndO h.length o') with
  | true =>
    rw [Bool.and_eq_true] at b
    rw [sel_t]
    have := get_new (h.set i o') (Obj.lst l)
    rw [List.length_set] at this
    exact gc_setlst d e h i o o' l _ _ (Nat.le_refl _) this b.1 b.2
  | false => rfl
theorem gc_setnew1 (d e : Nat) (h : Hep) (i : Nat) (o o' : Obj) (l : List Val) (x : Obj) : gc (d + 1) e (h.set i o) (.ok (.ref (h.length + 1)) (h.set i o' ++ [x] ++ [.lst l])) = sel (bndVs h.length l && bndO h.length o') (.ok (.fl l) (h.set i o')) (gcX (d + 1) e (h.set i o) (.ok (.ref (h.length + 1)) (h.set i o' ++ [x] ++ [.lst l]))) .mk := by
  cases b : (bndVs h.length l && bndO h.length o') with
  | true =>
    rw [Bool.and_eq_true] at b
    rw [sel_t]
    have := get_new (h.set i o' ++ [x]) (Obj.lst l)
    rw [List.length_append, List.length_set] at this
    have q : h.set i o' ++ [x] ++ [Obj.lst l] = h.set i o' ++ ([x] ++ [Obj.lst l]) := by rw [List.append_assoc]
    rw [q] at this ⊢
    exact gc_setlst d e h i o o' l _ _ (Nat.le_succ _) this b.1 b.2
  | false => rfl
theorem get_app_v (h g : Hep) (n : Nat) : (h ++ g)[n]? = sel (decide (n < h.length)) (h[n]?) (g[n - h.length]?) .mk := by
  by_cases q : n < h.length
  · rw [decide_eq_true q, sel_t, List.getElem?_append_left q]
  · rw [decide_eq_false q, sel_f, List.getElem?_append_right (by omega)]
theorem set_app_w (h g : Hep) (u : Obj) (n : Nat) : (h ++ g).set n u = sel (decide (n < h.length)) (h.set n u ++ g) (h ++ g.set (n - h.length) u) .mk := by
  by_cases q : n < h.length
  · rw [decide_eq_true q, sel_t, List.set_append_left _ _ q]
  · rw [decide_eq_false q, sel_f, List.set_append_right _ _ (by omega)]
def gcZ (d e : Nat) (h : Hep) (r : Res Val) : Res Val := gc d e h r
theorem gcX_setnew (d e : Nat) (h : Hep) (i : Nat) (o o' : Obj) (l : List Val) : gcX (d + 1) e (h.set i o) (.ok (.ref h.length) (h.set i o' ++ [.lst l])) = sel (bndVs h.length l && bndO h.length o') (.ok (.fl l) (h.set i o')) (gcZ (d + 1) e (h.set i o) (.ok (.ref h.length) (h.set i o' ++ [.lst l]))) .mk := gc_setnew d e h i o o' l
theorem gcX_setnew1 (d e : Nat) (h : Hep) (i : Nat) (o o' : Obj) (l : List Val) (x : Obj) : gcX (d + 1) e (h.set i o) (.ok (.ref (h.length + 1)) (h.set i o' ++ [x] ++ [.lst l])) = sel (bndVs h.length l && bndO h.length o') (.ok (.fl l) (h.set i o')) (gcZ (d + 1) e (h.set i o) (.ok (.ref (h.length + 1)) (h.set i o' ++ [x] ++ [.lst l]))) .mk := gc_setnew1 d e h i o o' l x
def onC {α : Type} (o : Option Obj) (f : List (Val × Val) → Option α) (_ : Tag f) : Option α := match o with | some (.dct l) => f l | _ => none
theorem onC_dct {α : Type} (l : List (Val × Val)) (f : List (Val × Val) → Option α) (w : Tag f) : onC (some (.dct l)) f w = f l := id rfl
theorem oDIdx_ref_v (h : Hep) (n : Nat) (k : Val) : oDIdx h (.ref n) k = onC (h[n]?) (fun l => needO (isKey k = true) (dGet l k) .mk) .mk := by
  show (match h[n]? with | some (.dct l) => if isKey k then dGet l k else none | _ => none) = _
  cases h[n]? with
  | none => rfl
  | some o =>
    cases o with
    | dct l =>
      rw [onC_dct]
      by_cases q : isKey k = true
      · rw [needO_of q]; simp only [q, if_true]; try rfl
      · unfold needO; rw [if_neg q]; simp only [q]; rfl
    | _ => rfl
theorem oDIn_ref_v (h : Hep) (n : Nat) (k : Val) : oDIn h k (.ref n) = onC (h[n]?) (fun l => needO (isKey k = true) (some (.bl (dHas l k))) .mk) .mk := by
  show (match h[n]? with | some (.dct l) => if isKey k then some (Val.bl (dHas l k)) else none | _ => none) = _
  cases h[n]? with
  | none => rfl
  | some o =>
    cases o with
    | dct l =>
      rw [onC_dct]
      by_cases q : isKey k = true
      · rw [needO_of q]; simp only [q, if_true]; try rfl
      · unfold needO; rw [if_neg q]; simp only [q]; rfl
    | _ => rfl
theorem oDNin_ref_v (h : Hep) (n : Nat) (k : Val) : oDNin h k (.ref n) = onC (h[n]?) (fun l => needO (isKey k = true) (some (.bl (!dHas l k))) .mk) .mk := by
  show (match h[n]? with | some (.dct l) => if isKey k then some (Val.bl (!dHas l k)) else none | _ => none) = _
  cases h[n]? with
  | none => rfl
  | some o =>
    cases o with
    | dct l =>
      rw [onC_dct]
      by_cases q : isKey k = true
      · rw [needO_of q]; simp only [q, if_true]; try rfl
      · unfold needO; rw [if_neg q]; simp only [q]; rfl
    | _ => rfl
theorem oDGet2_ref_v (h : Hep) (n : Nat) (k z : Val) : oDGet2 h (.ref n) k z = onC (h[n]?) (fun l => needO (isKey k = true) (some ((dGet l k).getD z)) .mk) .mk := by
  show (match h[n]? with | some (.dct l) => if isKey k then some ((dGet l k).getD z) else none | _ => none) = _
  cases h[n]? with
  | none => rfl
  | some o =>
    cases o with
    | dct l =>
      rw [onC_dct]
      by_cases q : isKey k = true
      · rw [needO_of q]; simp only [q, if_true]; try rfl
      · unfold needO; rw [if_neg q]; simp only [q]; rfl
    | _ => rfl
theorem setDx_ref_v (h : Hep) (n : Nat) (k v : Val) : setDx h (.ref n) k v = onC (h[n]?) (fun l => needO (isKey k = true) (needO (szOk (l.length + 1)) (some (h.set n (.dct (dPut l k v)))) .mk) .mk) .mk := by
  show (match h[n]? with | some (.dct l) => if isKey k then (if szOk (l.length + 1) then some (h.set n (.dct (dPut l k v))) else none) else none | _ => none) = _
  cases h[n]? with
  | none => rfl
  | some o =>
    cases o with
    | dct l =>
      rw [onC_dct]
      by_cases q : isKey k = true
      · rw [needO_of q]; simp only [q, if_true]; try rfl
      · unfold needO; rw [if_neg q]; simp only [q]; rfl
    | _ => rfl
/-- a for, by the turn -/
theorem forL_at {j : Nat} {chk : Hep → Bool} {b : SM} (E : Nat → Option Val → Env) (H : Nat → Hep) (hset : ∀ i w v, (E i w).set j v = E i v) :
    ∀ (xs : List Val) (k : Nat) (w : Option Val), (∀ i, i ≤ xs.length → chk (H (k + i)) = true) →
    (∀ i x, xs[i]? = some x → b (E (k + i) (some x)) (H (k + i)) = .nx (E (k + i + 1) (some x)) (H (k + i + 1)) ∨ b (E (k + i) (some x)) (H (k + i)) = .cont (E (k + i + 1) (some x)) (H (k + i + 1))) →
    forT (gNam j) chk b xs (E k w) (H k) .mk = .nx (E (k + xs.length) (lastO w xs)) (H (k + xs.length))
  | [], k, w, hc, _ => forL_0 _ _ _ _ _ (hc 0 (Nat.zero_le _)) _
  | x :: xs, k, w, hc, q => by
    have e := q 0 x rfl
    have ih := forL_at E H hset xs (k + 1) (some x) (fun i hi => by
      rw [show k + 1 + i = k + (i + 1) by omega]
      exact hc (i + 1) (by rw [List.length_cons]; omega)) (fun i y hy => by
      rw [show k + 1 + i = k + (i + 1) by omega]
      exact q (i + 1) y hy)
    have hc0 : chk (H k) = true := hc 0 (Nat.zero_le _)
    rw [forL_v _ _ _ _ _ _ _ hc0 _, gNam_eq, hset]
    rw [List.length_cons, show k + (xs.length + 1) = k + 1 + xs.length by omega]
    show (b (E k (some x)) (H k)).go _ .mk = _
    rcases e with e | e
    · rw [show b (E k (some x)) (H k) = _ from e]; exact ih
    · rw [show b (E k (some x)) (H k) = _ from e]; exact ih
/-- over a range from 0 -/
theorem forL_rng {j : Nat} {b : SM} (E : Nat → Option Val → Env) (h : Hep) (n : Nat) (w : Option Val) (hset : ∀ i w v, (E i w).set j v = E i v)
    (q : ∀ i, i < n → b (E i (some (.int i))) h = .nx (E (i + 1) (some (.int i))) h ∨ b (E i (some (.int i))) h = .cont (E (i + 1) (some (.int i))) h) :
    forT (gNam j) (fun _ => true) b (rng 0 n) (E 0 w) h .mk = .nx (E n (lastO w (rng 0 n))) h := by
  have := forL_at (b := b) (chk := fun _ => true) E (fun _ => h) hset (rng 0 n) 0 w (fun _ _ => rfl) (fun i x hx => by
    obtain ⟨hi, rfl⟩ := rng_get hx
    rw [Nat.zero_add, Int.zero_add]
    exact q i hi)
  rw [rng_length, Nat.zero_add] at this
  exact this
def tryOX (tbl : List (String × Bool)) (hd : SM) (r : SR) : SR := tryO tbl hd .mk r
def hitO (o : Option Bool) (a b c : SR) (_ : Tag (a, b, c)) : SR := match o with | some true => a | some false => b | none => c
theorem hitO_t (a b c : SR) (w : Tag (a, b, c)) : hitO (some true) a b c w = a := id rfl
theorem hitO_f (a b c : SR) (w : Tag (a, b, c)) : hitO (some false) a b c w = b := id rfl
theorem tryO_exc (tbl : List (String × Bool)) (hd : SM) (w : Tag hd) (c : String) (l : List Val) (η : Env) (h : Hep) : tryO tbl hd w (.exc ⟨c, l⟩ η h) = hitO (lookS c tbl) ((hd η h).quiet) (.exc ⟨c, l⟩ η h) (tryOX tbl hd (.exc ⟨c, l⟩ η h)) .mk := by
  rw [← lookS_eq]
  unfold hitO
  cases e : tbl.lookup c with
  | none => rfl
  | some k =>
    cases k with
    | true => exact tryO_hit η h (x := ⟨c, l⟩) e
    | false => exact tryO_miss η h (x := ⟨c, l⟩) e
theorem oSl_str_w (h : Hep) (s : List Nat) (lo hi : Option Int) : oSl h (.str s) lo hi = needO (szOk s.length) (some (.str (cut s lo hi), h)) .mk := id rfl
end
end Cd

set_option maxRecDepth 100000
/-! CdEv2: lazy evaluation, more: ljust, dict comprehensions, sum. -/
namespace Cd
open Classical
theorem mLjust_of {h : Hep} {s : List Nat} {i : Int} (h1 : i ≤ 16777216) (h2 : -1000 < i) : mLjust (.str s) [.int i] h = some (.str (s ++ List.replicate (i.toNat - s.length) 32), h) := by
  show (if padOk i then some (Val.str (s ++ List.replicate (i.toNat - s.length) 32), h) else none) = _
  rw [if_pos ⟨by rw [line_is]; exact h1, h2⟩]
noncomputable def compDT (g : GM) (chk : Hep → Bool) (c : TM) (ek ev : EM) (η : Env) (xs : List Val) (acc : List (Val × Val)) (h : Hep) (_ : Tag (g, chk, c, ek, ev)) : Res (List (Val × Val)) := compD g chk c ek ev η xs acc h
theorem eDComp_v (vs : List Nat) (it : IM) (g : GM) (c : TM) (ek ev : EM) (η : Env) (h : Hep) : eDComp vs it g c ek ev η h = bd (it η h) (fun p h1 => bd (compDT g p.2 c ek ev (wipe η vs) p.1 [] h1 .mk) (fun kvs h2 => .ok (.ref h2.length) (h2 ++ [.dct kvs])) .mk) .mk := id rfl
theorem gc_any0 (d e : Nat) (h : Hep) (v : Val) : gc d e h (.ok v h) = sel (bndV h.length v) (.ok v h) (gcX d e h (.ok v h)) .mk := by
  cases b : bndV h.length v with
  | true => rw [gc_same d e h v b]; rfl
  | false => rfl
theorem bb_tf : (true == false) = false := id rfl
theorem bb_ft : (false == true) = false := id rfl
/-! instances -/
noncomputable section
def onI {α : Type} (o : Option Obj) (f : String → List (String × Val) → Option α) (_ : Tag f) : Option α := match o with | some (.ins c l) => f c l | _ => none
theorem onI_ins {α : Type} (c : String) (l : List (String × Val)) (f : String → List (String × Val) → Option α) (w : Tag f) : onI (some (.ins c l)) f w = f c l := id rfl
theorem oFld_v (cs : List String) (f : String) (h : Hep) (n : Nat) : oFld cs f h (.ref n) = onI (h[n]?) (fun c fs => needO (c ∈ cs) (lookF fs f) .mk) .mk := by
  show (match h[n]? with | some (.ins c fs) => if c ∈ cs then lookF fs f else none | _ => none) = _
  unfold onI needO
  cases h[n]? with
  | none => rfl
  | some o => cases o <;> first | rfl | (simp only []; congr)
theorem setF_v (cs : List String) (f : String) (h : Hep) (n : Nat) (v : Val) : setF cs f h (.ref n) v = onI (h[n]?) (fun c fs => needO (c ∈ cs ∧ fs.length < 1000) (some (h.set n (.ins c (putF fs f v)))) .mk) .mk := by
  show (match h[n]? with | some (.ins c fs) => if c ∈ cs ∧ fs.length < 1000 then some (h.set n (.ins c (putF fs f v))) else none | _ => none) = _
  unfold onI needO
  cases h[n]? with
  | none => rfl
  | some o => cases o <;> first | rfl | (simp only []; congr)
theorem lookF_nil (f : String) : lookF [] f = none := id rfl
theorem lookF_cons (k : String) (v : Val) (l : List (String × Val)) (f : String) : lookF ((k, v) :: l) f = sel (k == f) (some v) (lookF l f) .mk := by
  unfold sel
  show (if k = f then some v else lookF l f) = _
  by_cases q : k = f
  · rw [if_pos q, if_pos (beq_iff_eq.mpr q)]
  · rw [if_neg q, if_neg (by rw [beq_false_of_ne q]; decide)]
theorem putF_nil (f : String) (v : Val) : putF [] f v = [(f, v)] := id rfl
theorem putF_cons (k : String) (w : Val) (l : List (String × Val)) (f : String) (v : Val) : putF ((k, w) :: l) f v = sel (k == f) ((k, v) :: l) ((k, w) :: putF l f v) .mk := by
  unfold sel
  show (if k = f then (k, v) :: l else (k, w) :: putF l f v) = _
  by_cases q : k = f
  · rw [if_pos q, if_pos (beq_iff_eq.mpr q)]
  · rw [if_neg q, if_neg (by rw [beq_false_of_ne q]; decide)]
theorem sSetFld_v (cs : List String) (f : String) (o e : EM) (η : Env) (h : Hep) : sSetFld cs f o e η h = tn (e η h) η (fun v h1 => tn (o η h1) η (fun x h2 => puts (setF cs f h2 x v) η) .mk) .mk := id rfl
def insB (c m : String) (o : Option Obj) : Bool := match o with | some (.ins k fs) => (k == c) && (lookF fs m).isNone | _ => false
theorem insB_v (c m k : String) (fs : List (String × Val)) : insB c m (some (.ins k fs)) = ((k == c) && (lookF fs m).isNone) := id rfl
theorem isIns_v (c m : String) (h : Hep) (n : Nat) : isIns c m h (.ref n) = (insB c m (h[n]?) = true) := by
  apply propext
  constructor
  · rintro ⟨k, fs, e, hk, l⟩
    cases e
    rw [hk, insB_v, l, beq_self_eq_true]; rfl
  · intro e
    unfold insB at e
    split at e
    · rename_i k fs hk
      rw [Bool.and_eq_true, beq_iff_eq, Option.isNone_iff_eq_none] at e
      obtain ⟨e1, e2⟩ := e
      subst e1
      exact ⟨n, fs, rfl, hk, e2⟩
    · cases e
theorem eMeth_v (c m : String) (F : Fn) (o : EM) (as : AM) (η : Env) (h : Hep) : eMeth c m F o as η h = bd (o η h) (fun x h1 => need (isIns c m h1 x) (bd (as η h1) (fun vs h2 => F (x :: vs) h2) .mk) .mk) .mk := id rfl
theorem eMake_v (c : String) (F : Fn) (as : AM) (η : Env) (h : Hep) : eMake c F as η h = bd (as η h) (fun vs h1 => made h1.length (F (.ref h1.length :: vs) (h1 ++ [.ins c []]))) .mk := id rfl
theorem made_ok (n : Nat) (h : Hep) : made n (.ok .non h) = .ok (.ref n) h := id rfl
theorem made_exc (n : Nat) (e : Exc) (h : Hep) : made n (.exc e h) = .exc e h := id rfl
theorem mem_one (c : String) : (c ∈ [c]) = True := eq_true List.mem_cons_self
theorem bListA_str (h : Hep) (s : List Nat) : bListA [.str s] h = needO (szOk s.length) (some (.ref h.length, h ++ [.lst (s.map fun c => .str [c])])) .mk := id rfl
theorem bListA_tup (h : Hep) (l : List Val) : bListA [.tup l] h = some (.ref h.length, h ++ [.lst l]) := id rfl
theorem bListA_fl (h : Hep) (l : List Val) : bListA [.fl l] h = some (.ref h.length, h ++ [.lst l]) := id rfl
theorem bListA_ref (h : Hep) (n : Nat) : bListA [.ref n] h = onL (h[n]?) (fun l => some (.ref h.length, h ++ [.lst l])) .mk := by
  have : bList [.ref n] h = onL (h[n]?) (fun l => some (.ref h.length, h ++ [.lst l])) .mk := bList_ref_v h n
  show (match bList [.ref n] h with | some r => some r | none => none) = _
  rw [this]
  split
  · rename_i e; rw [e]
  · rename_i e; rw [e]
/-- a new list within a tuple of two is locked -/
theorem gc_tup2 (d e : Nat) (h : Hep) (l : List Val) (v : Val) (b : bndVs h.length l = true) (bv : bndV h.length v = true) : gc (d + 1) e h (.ok (.tup [.ref h.length, v]) (h ++ [.lst l])) = .ok (.tup [.fl l, v]) h := by
  unfold gc
  simp only
  have l1 : (h ++ [Obj.lst l]).length = h.length + 1 := by rw [List.length_append]; rfl
  rw [if_pos (cutOk_app h _), mapR, mapRs, mapR, fz, if_neg (by omega), if_neg (by omega), get_new]
  simp only [mapRs_bnd (k := h.length) (fun n hn => fz_lt hn) l b, Option.map_some]
  rw [mapRs, mapR_bnd (k := h.length) (fun n hn => fz_lt hn) v bv]
  simp only [mapRs, Option.map_some, List.take_left]
theorem fEnumS_v (h : Hep) (s : List Nat) : fEnumS h [.str s] = some (enumS s, fun _ => true) := id rfl
theorem oSl_ref_v (h : Hep) (n : Nat) (lo hi : Option Int) : oSl h (.ref n) lo hi = onL (h[n]?) (fun l => some (.ref h.length, h ++ [.lst (cut l lo hi)])) .mk := by
  unfold onL
  show (match h[n]? with | some (.lst l) => some (Val.ref h.length, h ++ [Obj.lst (cut l lo hi)]) | _ => none) = _
  rfl
theorem gc_raw (d e : Nat) (h h1 : Hep) (v : Val) (n : ¬ cutOk h h1) : gc d e h (.ok v h1) = .ok v h1 := by
  unfold gc
  simp only
  rw [if_neg n]
end
end Cd

set_option maxRecDepth 100000
/-! CdEv3: lazy evaluation, more. -/
namespace Cd
open Classical
theorem atI_lit {α : Type} {l : List α} {v : α} (n : Nat) (e : l[n]? = some v) : atI l (n : Int) = some v := atI_of (by omega) (by rw [Int.toNat_natCast]; exact e)
section
variable {α : Type} (a b c d e f g i j k : α) (l : List α)
theorem atI_five : atI (a :: b :: c :: d :: e :: f :: l) 5 = some f := atI_lit 5 rfl
theorem atI_six : atI (a :: b :: c :: d :: e :: f :: g :: l) 6 = some g := atI_lit 6 rfl
theorem atI_seven : atI (a :: b :: c :: d :: e :: f :: g :: i :: l) 7 = some i := atI_lit 7 rfl
theorem atI_eight : atI (a :: b :: c :: d :: e :: f :: g :: i :: j :: l) 8 = some j := atI_lit 8 rfl
theorem atI_nine : atI (a :: b :: c :: d :: e :: f :: g :: i :: j :: k :: l) 9 = some k := atI_lit 9 rfl
end
end Cd

set_option maxRecDepth 100000
namespace Mir
open Cd
def K_v_law_reserved_1 : List Cd.Val := [(.str (Cd.S "program")), (.str (Cd.S "data")), (.str (Cd.S "files")), (.str (Cd.S "procedure")), (.str (Cd.S "picture")), (.str (Cd.S "occurs")), (.str (Cd.S "value")), (.str (Cd.S "input")), (.str (Cd.S "output")), (.str (Cd.S "record")), (.str (Cd.S "move")), (.str (Cd.S "to"))]
def K_v_law_reserved_2 : List Cd.Val := [(.str (Cd.S "set")), (.str (Cd.S "rounded")), (.str (Cd.S "else")), (.str (Cd.S "end")), (.str (Cd.S "divide")), (.str (Cd.S "by")), (.str (Cd.S "giving")), (.str (Cd.S "remainder")), (.str (Cd.S "if")), (.str (Cd.S "then")), (.str (Cd.S "perform")), (.str (Cd.S "thru"))]
def K_v_law_reserved_3 : List Cd.Val := [(.str (Cd.S "times")), (.str (Cd.S "until")), (.str (Cd.S "varying")), (.str (Cd.S "from")), (.str (Cd.S "read")), (.str (Cd.S "at")), (.str (Cd.S "bad")), (.str (Cd.S "write")), (.str (Cd.S "show")), (.str (Cd.S "sort")), (.str (Cd.S "descending")), (.str (Cd.S "clear"))]
def K_v_law_reserved_4 : List Cd.Val := [(.str (Cd.S "stop")), (.str (Cd.S "not")), (.str (Cd.S "and")), (.str (Cd.S "or")), (.str (Cd.S "digits")), (.str (Cd.S "text"))]
def K_law_1 : List Cd.Val := [(.int 9), (.int 40)]
noncomputable def B_v_law_draw : Cd.SM := (Cd.sSeq (Cd.sIf (Cd.tAnd (Cd.tVal (Cd.eBin Cd.oEq (Cd.eBin Cd.oIdx (Cd.eVar 0) (Cd.eC (.int 2))) (Cd.eC (.int 0)))) (Cd.tVal (Cd.eBin Cd.oLt (Cd.eBin Cd.oIdx (Cd.eVar 0) (Cd.eC (.int 1))) (Cd.eCallB Cd.bLen (Cd.aCons (Cd.eBin Cd.oIdx (Cd.eVar 0) (Cd.eC (.int 0))) Cd.aNil))))) (Cd.sSeq (Cd.sSet 2 (Cd.eBin Cd.oIdx (Cd.eBin Cd.oIdx (Cd.eVar 0) (Cd.eC (.int 0))) (Cd.eBin Cd.oIdx (Cd.eVar 0) (Cd.eC (.int 1))))) (Cd.sSeq (Cd.sSetIx (Cd.eVar 0) (Cd.eC (.int 1)) (Cd.eOp Cd.oPlus (Cd.eBin Cd.oIdx (Cd.eVar 0) (Cd.eC (.int 1))) (Cd.eC (.int 1)))) (Cd.sSeq (Cd.sIf (Cd.tVal (Cd.eBin Cd.oGe (Cd.eVar 2) (Cd.eBin Cd.oPow (Cd.eC (.int 10)) (Cd.eC (.int 18))))) (Cd.sSetIx (Cd.eVar 0) (Cd.eC (.int 2)) (Cd.eVar 2)) Cd.sNop) (Cd.sSetIx (Cd.eVar 0) (Cd.eC (.int 3)) (Cd.eBin Cd.oMod (Cd.eCallB Cd.bIntA (Cd.aCons (Cd.eOp Cd.oPlus (Cd.eOp Cd.oPlus (Cd.eOp Cd.oTimes (Cd.eBin Cd.oIdx (Cd.eVar 0) (Cd.eC (.int 3))) (Cd.eC (.int 48271))) (Cd.eVar 2)) (Cd.eC (.int 13))) Cd.aNil)) (Cd.eC (.int 2147483647))))))) Cd.sNop) (Cd.sSeq (Cd.sIf (Cd.tVal (Cd.eBin Cd.oGt (Cd.eBin Cd.oIdx (Cd.eVar 0) (Cd.eC (.int 2))) (Cd.eC (.int 0)))) (Cd.sSeq (Cd.sSet 3 (Cd.eBin Cd.oMod (Cd.eCallB Cd.bIntA (Cd.aCons (Cd.eBin Cd.oIdx (Cd.eVar 0) (Cd.eC (.int 2))) Cd.aNil)) (Cd.eVar 1))) (Cd.sSeq (Cd.sSetIx (Cd.eVar 0) (Cd.eC (.int 2)) (Cd.eBin Cd.oDiv (Cd.eBin Cd.oIdx (Cd.eVar 0) (Cd.eC (.int 2))) (Cd.eVar 1))) (Cd.sRet (Cd.eVar 3)))) Cd.sNop) (Cd.sSeq (Cd.sSetIx (Cd.eVar 0) (Cd.eC (.int 3)) (Cd.eBin Cd.oMod (Cd.eCallB Cd.bIntA (Cd.aCons (Cd.eOp Cd.oPlus (Cd.eOp Cd.oTimes (Cd.eBin Cd.oIdx (Cd.eVar 0) (Cd.eC (.int 3))) (Cd.eC (.int 69621))) (Cd.eC (.int 7))) Cd.aNil)) (Cd.eC (.int 2147483629)))) (Cd.sRet (Cd.eBin Cd.oMod (Cd.eCallB Cd.bIntA (Cd.aCons (Cd.eBin Cd.oDiv (Cd.eBin Cd.oIdx (Cd.eVar 0) (Cd.eC (.int 3))) (Cd.eC (.int 11))) Cd.aNil)) (Cd.eVar 1))))))
noncomputable def M_v_law_draw : Cd.Fn := Cd.gcF 4 4 (Cd.fn 2 4 B_v_law_draw)
noncomputable def B_v_law_draws : Cd.SM := (Cd.sRet (Cd.eLst (Cd.aCons (Cd.eGc 4 4 (Cd.eCallB Cd.bListA (Cd.aCons (Cd.eVar 0) Cd.aNil))) (Cd.aCons (Cd.eC (.int 0)) (Cd.aCons (Cd.eC (.int 0)) (Cd.aCons (Cd.eC (.int 1)) Cd.aNil))))))
noncomputable def M_v_law_draws : Cd.Fn := Cd.gcF 0 4 (Cd.fn 1 1 B_v_law_draws)
noncomputable def B_v_law_reserved : Cd.SM := (Cd.sSeq (Cd.sSet 0 (Cd.eKl Mir.K_v_law_reserved_1)) (Cd.sSeq (Cd.sSet 0 (Cd.eGc 4 4 (Cd.eOp Cd.oPlus (Cd.eVar 0) (Cd.eKl Mir.K_v_law_reserved_2)))) (Cd.sSeq (Cd.sSet 0 (Cd.eGc 4 4 (Cd.eOp Cd.oPlus (Cd.eVar 0) (Cd.eKl Mir.K_v_law_reserved_3)))) (Cd.sRet (Cd.eGc 4 4 (Cd.eOp Cd.oPlus (Cd.eVar 0) (Cd.eKl Mir.K_v_law_reserved_4)))))))
noncomputable def M_v_law_reserved : Cd.Fn := Cd.gcF 4 4 (Cd.fn 0 1 B_v_law_reserved)
noncomputable def L_v_law_name_1 : Cd.SM := (Cd.sSeq (Cd.sSet 5 (Cd.eOp Cd.oPlus (Cd.eVar 1) (Cd.eC (.str (Cd.S "0123456789"))))) (Cd.sSeq (Cd.sIf (Cd.tVal (Cd.eBin Cd.oLt (Cd.eVar 4) (Cd.eBin Cd.oSub (Cd.eVar 2) (Cd.eC (.int 2))))) (Cd.sSet 5 (Cd.eOp Cd.oPlus (Cd.eVar 5) (Cd.eC (.str (Cd.S "-"))))) Cd.sNop) (Cd.sSet 3 (Cd.eOp Cd.oPlus (Cd.eVar 3) (Cd.eBin Cd.oIdx (Cd.eVar 5) (Cd.eCall M_v_law_draw (Cd.aCons (Cd.eVar 0) (Cd.aCons (Cd.eCallB Cd.bLen (Cd.aCons (Cd.eVar 5) Cd.aNil)) Cd.aNil))))))))
noncomputable def T_v_law_name_2 : Cd.SM := (Cd.sSeq (Cd.sSet 3 (Cd.eBin Cd.oIdx (Cd.eVar 1) (Cd.eCall M_v_law_draw (Cd.aCons (Cd.eVar 0) (Cd.aCons (Cd.eC (.int 26)) Cd.aNil))))) (Cd.sSeq (Cd.sFor (Cd.iArgs Cd.fRng1 (Cd.aCons (Cd.eBin Cd.oSub (Cd.eVar 2) (Cd.eC (.int 1))) Cd.aNil)) (Cd.gNam 4) L_v_law_name_1) (Cd.sSeq (Cd.sIf (Cd.tVal (Cd.eBin Cd.oIn (Cd.eVar 3) (Cd.eCall M_v_law_reserved Cd.aNil))) (Cd.sRet (Cd.eOp Cd.oPlus (Cd.eVar 3) (Cd.eC (.str (Cd.S "0"))))) Cd.sNop) (Cd.sRet (Cd.eVar 3)))))
noncomputable def B_v_law_name : Cd.SM := (Cd.sSeq (Cd.sSet 1 (Cd.eC (.str (Cd.S "abcdefghijklmnopqrstuvwxyz")))) (Cd.sSeq (Cd.sSet 2 (Cd.eOp Cd.oPlus (Cd.eC (.int 1)) (Cd.eCall M_v_law_draw (Cd.aCons (Cd.eVar 0) (Cd.aCons (Cd.eC (.int 4)) Cd.aNil))))) (Cd.sSeq (Cd.sIf (Cd.tVal (Cd.eBin Cd.oEq (Cd.eCall M_v_law_draw (Cd.aCons (Cd.eVar 0) (Cd.aCons (Cd.eC (.int 6)) Cd.aNil))) (Cd.eC (.int 0)))) (Cd.sSet 2 (Cd.eOp Cd.oPlus (Cd.eC (.int 1)) (Cd.eCall M_v_law_draw (Cd.aCons (Cd.eVar 0) (Cd.aCons (Cd.eC (.int 20)) Cd.aNil))))) Cd.sNop) T_v_law_name_2)))
noncomputable def M_v_law_name : Cd.Fn := Cd.gcF 4 4 (Cd.fn 1 6 B_v_law_name)
noncomputable def L_v_law_names_1 : Cd.SM := (Cd.sIf (Cd.tVal (Cd.eBin Cd.oIn (Cd.eVar 4) (Cd.eVar 2))) (Cd.sSet 4 (Cd.eOp Cd.oPlus (Cd.eGc 4 4 (Cd.eSl (Cd.eVar 4) Cd.pNo (Cd.pSome (Cd.eC (.int 16))))) (Cd.eCallB Cd.bStr (Cd.aCons (Cd.eVar 5) Cd.aNil)))) Cd.sNop)
noncomputable def L_v_law_names_2 : Cd.SM := (Cd.sSeq (Cd.sSet 4 (Cd.eCall M_v_law_name (Cd.aCons (Cd.eVar 0) Cd.aNil))) (Cd.sSeq (Cd.sFor (Cd.iArgs Cd.fRng1 (Cd.aCons (Cd.eOp Cd.oPlus (Cd.eVar 1) (Cd.eC (.int 1))) Cd.aNil)) (Cd.gNam 5) L_v_law_names_1) (Cd.sExpr (Cd.eMth "list" Cd.mAppend (Cd.eVar 2) (Cd.aCons (Cd.eVar 4) Cd.aNil)))))
noncomputable def B_v_law_names : Cd.SM := (Cd.sSeq (Cd.sSet 2 (Cd.eLst Cd.aNil)) (Cd.sSeq (Cd.sFor (Cd.iArgs Cd.fRng1 (Cd.aCons (Cd.eVar 1) Cd.aNil)) (Cd.gNam 3) L_v_law_names_2) (Cd.sRet (Cd.eVar 2))))
noncomputable def M_v_law_names : Cd.Fn := Cd.gcF 4 4 (Cd.fn 2 6 B_v_law_names)
noncomputable def T_v_law_same_1 (Mrec_ : Cd.Fn) : Cd.SM := (Cd.sSeq (Cd.sIf (Cd.tTru (Cd.eUn (Cd.oIsi "str") (Cd.eVar 1))) (Cd.sRet (Cd.eAnd (Cd.eUn (Cd.oIsi "str") (Cd.eVar 0)) (Cd.eBin Cd.oEq (Cd.eVar 0) (Cd.eVar 1)))) Cd.sNop) (Cd.sSeq (Cd.sIf (Cd.tVal (Cd.eBin Cd.oIsN (Cd.eVar 1) (Cd.eC .non))) (Cd.sRet (Cd.eBin Cd.oIsN (Cd.eVar 0) (Cd.eC .non))) Cd.sNop) (Cd.sSeq (Cd.sIf (Cd.tOr (Cd.tTru (Cd.eUn (Cd.oIsi "bool") (Cd.eVar 1))) (Cd.tTru (Cd.eUn (Cd.oIsi "bool") (Cd.eVar 0)))) (Cd.sRet (Cd.eAnd (Cd.eUn (Cd.oIsi "bool") (Cd.eVar 1)) (Cd.eAnd (Cd.eUn (Cd.oIsi "bool") (Cd.eVar 0)) (Cd.eBin Cd.oEq (Cd.eVar 0) (Cd.eVar 1))))) Cd.sNop) (Cd.sRet (Cd.eAnd (Cd.eUn (Cd.oIsi "int") (Cd.eVar 0)) (Cd.eBin Cd.oEq (Cd.eVar 0) (Cd.eVar 1)))))))
noncomputable def L_v_law_same_2 (Mrec_ : Cd.Fn) : Cd.SM := (Cd.sIf (Cd.tNot (Cd.tTru (Cd.eCall Mrec_ (Cd.aCons (Cd.eBin Cd.oIdx (Cd.eVar 0) (Cd.eVar 2)) (Cd.aCons (Cd.eBin Cd.oIdx (Cd.eVar 1) (Cd.eVar 2)) Cd.aNil))))) (Cd.sRet (Cd.eC (.bl false))) Cd.sNop)
noncomputable def B_v_law_same (Mrec_ : Cd.Fn) : Cd.SM := (Cd.sSeq (Cd.sIf (Cd.tTru (Cd.eUn (Cd.oIsi "tuple") (Cd.eVar 1))) (Cd.sSeq (Cd.sIf (Cd.tOr (Cd.tNot (Cd.tTru (Cd.eUn (Cd.oIsi "tuple") (Cd.eVar 0)))) (Cd.tVal (Cd.eBin Cd.oNe (Cd.eCallB Cd.bLen (Cd.aCons (Cd.eVar 0) Cd.aNil)) (Cd.eCallB Cd.bLen (Cd.aCons (Cd.eVar 1) Cd.aNil))))) (Cd.sRet (Cd.eC (.bl false))) Cd.sNop) (Cd.sSeq (Cd.sFor (Cd.iArgs Cd.fRng1 (Cd.aCons (Cd.eCallB Cd.bLen (Cd.aCons (Cd.eVar 1) Cd.aNil)) Cd.aNil)) (Cd.gNam 2) (L_v_law_same_2 Mrec_)) (Cd.sRet (Cd.eC (.bl true))))) Cd.sNop) (T_v_law_same_1 Mrec_))
noncomputable def M_v_law_same_n : Nat → Cd.Fn
  | 0 => Cd.fnStuck
  | n + 1 => Cd.gcF 4 4 (Cd.fn 2 3 (B_v_law_same (M_v_law_same_n n)))
noncomputable def M_v_law_same : Cd.Fn := M_v_law_same_n 6
noncomputable def T_v_law_perform_1 : Cd.SM := (Cd.sSeq (Cd.sSet 6 (Cd.eLst (Cd.aCons (Cd.eTup (Cd.aCons (Cd.eC (.str (Cd.S "once"))) Cd.aNil)) (Cd.aCons (Cd.eTup (Cd.aCons (Cd.eC (.str (Cd.S "times"))) (Cd.aCons (Cd.eTup (Cd.aCons (Cd.eC (.str (Cd.S "number"))) (Cd.aCons (Cd.eTup (Cd.aCons (Cd.eC (.int 3)) (Cd.aCons (Cd.eC (.int 0)) Cd.aNil))) Cd.aNil))) Cd.aNil))) (Cd.aCons (Cd.eTup (Cd.aCons (Cd.eC (.str (Cd.S "until"))) (Cd.aCons (Cd.eVar 5) Cd.aNil))) Cd.aNil))))) (Cd.sSeq (Cd.sExpr (Cd.eMth "list" Cd.mAppend (Cd.eVar 6) (Cd.aCons (Cd.eTup (Cd.aCons (Cd.eC (.str (Cd.S "varying"))) (Cd.aCons (Cd.eTup (Cd.aCons (Cd.eC (.str (Cd.S "a"))) (Cd.aCons (Cd.eTup Cd.aNil) Cd.aNil))) (Cd.aCons (Cd.eTup (Cd.aCons (Cd.eC (.str (Cd.S "number"))) (Cd.aCons (Cd.eTup (Cd.aCons (Cd.eC (.int 1)) (Cd.aCons (Cd.eC (.int 0)) Cd.aNil))) Cd.aNil))) (Cd.aCons (Cd.eTup (Cd.aCons (Cd.eC (.str (Cd.S "number"))) (Cd.aCons (Cd.eTup (Cd.aCons (Cd.eC (.int 1)) (Cd.aCons (Cd.eC (.int 0)) Cd.aNil))) Cd.aNil))) (Cd.aCons (Cd.eVar 5) Cd.aNil)))))) Cd.aNil))) (Cd.sRet (Cd.eTup (Cd.aCons (Cd.eC (.str (Cd.S "perform"))) (Cd.aCons (Cd.eBin Cd.oIdx (Cd.eVar 1) (Cd.eVar 3)) (Cd.aCons (Cd.eBin Cd.oIdx (Cd.eVar 1) (Cd.eVar 4)) (Cd.aCons (Cd.eBin Cd.oIdx (Cd.eVar 6) (Cd.eCall M_v_law_draw (Cd.aCons (Cd.eVar 0) (Cd.aCons (Cd.eC (.int 4)) Cd.aNil)))) Cd.aNil))))))))
noncomputable def B_v_law_perform : Cd.SM := (Cd.sSeq (Cd.sSet 3 (Cd.eCall M_v_law_draw (Cd.aCons (Cd.eVar 0) (Cd.aCons (Cd.eCallB Cd.bLen (Cd.aCons (Cd.eVar 1) Cd.aNil)) Cd.aNil)))) (Cd.sSeq (Cd.sSet 4 (Cd.eOp Cd.oPlus (Cd.eVar 3) (Cd.eBin Cd.oIdx (Cd.eGc 4 4 (Cd.eLst (Cd.aCons (Cd.eC (.int 0)) (Cd.aCons (Cd.eCall M_v_law_draw (Cd.aCons (Cd.eVar 0) (Cd.aCons (Cd.eBin Cd.oSub (Cd.eCallB Cd.bLen (Cd.aCons (Cd.eVar 1) Cd.aNil)) (Cd.eVar 3)) Cd.aNil))) Cd.aNil)))) (Cd.eCall M_v_law_draw (Cd.aCons (Cd.eVar 0) (Cd.aCons (Cd.eC (.int 2)) Cd.aNil)))))) (Cd.sSeq (Cd.sExpr (Cd.eMth "list" Cd.mAppend (Cd.eVar 2) (Cd.aCons (Cd.eTup (Cd.aCons (Cd.eBin Cd.oIdx (Cd.eVar 1) (Cd.eVar 3)) (Cd.aCons (Cd.eBin Cd.oIdx (Cd.eVar 1) (Cd.eVar 4)) Cd.aNil))) Cd.aNil))) (Cd.sSeq (Cd.sSet 5 (Cd.eTup (Cd.aCons (Cd.eC (.str (Cd.S "compare"))) (Cd.aCons (Cd.eC (.str (Cd.S "="))) (Cd.aCons (Cd.eTup (Cd.aCons (Cd.eC (.str (Cd.S "ref"))) (Cd.aCons (Cd.eTup (Cd.aCons (Cd.eC (.str (Cd.S "a"))) (Cd.aCons (Cd.eTup Cd.aNil) Cd.aNil))) Cd.aNil))) (Cd.aCons (Cd.eTup (Cd.aCons (Cd.eC (.str (Cd.S "number"))) (Cd.aCons (Cd.eTup (Cd.aCons (Cd.eC (.int 1)) (Cd.aCons (Cd.eC (.int 0)) Cd.aNil))) Cd.aNil))) Cd.aNil)))))) T_v_law_perform_1))))
noncomputable def M_v_law_perform : Cd.Fn := Cd.gcF 4 4 (Cd.fn 3 7 B_v_law_perform)
noncomputable def L_v_law_block_1 (Mrec_ : Nat → Cd.Fn) : Cd.SM := (Cd.sExpr (Cd.eMth "list" Cd.mAppend (Cd.eVar 5) (Cd.aCons (Cd.eCall (Mrec_ 1) (Cd.aCons (Cd.eVar 0) (Cd.aCons (Cd.eVar 1) (Cd.aCons (Cd.eVar 2) (Cd.aCons (Cd.eVar 3) Cd.aNil))))) Cd.aNil)))
noncomputable def B_v_law_block (Mrec_ : Nat → Cd.Fn) : Cd.SM := (Cd.sSeq (Cd.sSet 5 (Cd.eLst Cd.aNil)) (Cd.sSeq (Cd.sFor (Cd.iArgs Cd.fRng1 (Cd.aCons (Cd.eCallB Cd.bMax2 (Cd.aCons (Cd.eVar 4) (Cd.aCons (Cd.eBin Cd.oSub (Cd.eCall M_v_law_draw (Cd.aCons (Cd.eVar 0) (Cd.aCons (Cd.eC (.int 4)) Cd.aNil))) (Cd.eC (.int 1))) Cd.aNil))) Cd.aNil)) (Cd.gNam 6) (L_v_law_block_1 Mrec_)) (Cd.sRet (Cd.eCallB Cd.bTuple (Cd.aCons (Cd.eVar 5) Cd.aNil)))))
noncomputable def T_v_law_statement_1 (Mrec_ : Nat → Cd.Fn) : Cd.SM := (Cd.sSeq (Cd.sIf (Cd.tVal (Cd.eBin Cd.oEq (Cd.eVar 4) (Cd.eC (.int 6)))) (Cd.sSeq (Cd.sSet 7 (Cd.eCall (Mrec_ 0) (Cd.aCons (Cd.eVar 0) (Cd.aCons (Cd.eVar 1) (Cd.aCons (Cd.eVar 2) (Cd.aCons (Cd.eBin Cd.oSub (Cd.eVar 3) (Cd.eC (.int 1))) (Cd.aCons (Cd.eC (.int 0)) Cd.aNil))))))) (Cd.sRet (Cd.eTup (Cd.aCons (Cd.eC (.str (Cd.S "read"))) (Cd.aCons (Cd.eC (.str (Cd.S "f"))) (Cd.aCons (Cd.eVar 7) (Cd.aCons (Cd.eCall (Mrec_ 0) (Cd.aCons (Cd.eVar 0) (Cd.aCons (Cd.eVar 1) (Cd.aCons (Cd.eVar 2) (Cd.aCons (Cd.eBin Cd.oSub (Cd.eVar 3) (Cd.eC (.int 1))) (Cd.aCons (Cd.eC (.int 0)) Cd.aNil)))))) Cd.aNil))))))) Cd.sNop) (Cd.sSeq (Cd.sSet 8 (Cd.eCall (Mrec_ 0) (Cd.aCons (Cd.eVar 0) (Cd.aCons (Cd.eVar 1) (Cd.aCons (Cd.eVar 2) (Cd.aCons (Cd.eBin Cd.oSub (Cd.eVar 3) (Cd.eC (.int 1))) (Cd.aCons (Cd.eC (.int 0)) Cd.aNil))))))) (Cd.sSeq (Cd.sIf (Cd.tVal (Cd.eBin Cd.oEq (Cd.eVar 4) (Cd.eC (.int 7)))) (Cd.sRet (Cd.eTup (Cd.aCons (Cd.eC (.str (Cd.S "set"))) (Cd.aCons (Cd.eTup (Cd.aCons (Cd.eC (.str (Cd.S "a"))) (Cd.aCons (Cd.eTup Cd.aNil) Cd.aNil))) (Cd.aCons (Cd.eC (.bl false)) (Cd.aCons (Cd.eTup (Cd.aCons (Cd.eC (.str (Cd.S "number"))) (Cd.aCons (Cd.eTup (Cd.aCons (Cd.eC (.int 5)) (Cd.aCons (Cd.eC (.int 0)) Cd.aNil))) Cd.aNil))) (Cd.aCons (Cd.eVar 8) Cd.aNil))))))) Cd.sNop) (Cd.sRet (Cd.eTup (Cd.aCons (Cd.eC (.str (Cd.S "divide"))) (Cd.aCons (Cd.eTup (Cd.aCons (Cd.eC (.str (Cd.S "number"))) (Cd.aCons (Cd.eTup (Cd.aCons (Cd.eC (.int 5)) (Cd.aCons (Cd.eC (.int 0)) Cd.aNil))) Cd.aNil))) (Cd.aCons (Cd.eTup (Cd.aCons (Cd.eC (.str (Cd.S "number"))) (Cd.aCons (Cd.eTup (Cd.aCons (Cd.eC (.int 2)) (Cd.aCons (Cd.eC (.int 0)) Cd.aNil))) Cd.aNil))) (Cd.aCons (Cd.eTup (Cd.aCons (Cd.eC (.str (Cd.S "a"))) (Cd.aCons (Cd.eTup Cd.aNil) Cd.aNil))) (Cd.aCons (Cd.eC (.bl true)) (Cd.aCons (Cd.eBin Cd.oIdx (Cd.eGc 4 4 (Cd.eLst (Cd.aCons (Cd.eC .non) (Cd.aCons (Cd.eTup (Cd.aCons (Cd.eC (.str (Cd.S "b"))) (Cd.aCons (Cd.eTup Cd.aNil) Cd.aNil))) Cd.aNil)))) (Cd.eCall M_v_law_draw (Cd.aCons (Cd.eVar 0) (Cd.aCons (Cd.eC (.int 2)) Cd.aNil)))) (Cd.aCons (Cd.eVar 8) Cd.aNil))))))))))))
noncomputable def T_v_law_statement_2 (Mrec_ : Nat → Cd.Fn) : Cd.SM := (Cd.sSeq (Cd.sIf (Cd.tVal (Cd.eBin Cd.oEq (Cd.eVar 4) (Cd.eC (.int 5)))) (Cd.sSeq (Cd.sSet 6 (Cd.eCall (Mrec_ 0) (Cd.aCons (Cd.eVar 0) (Cd.aCons (Cd.eVar 1) (Cd.aCons (Cd.eVar 2) (Cd.aCons (Cd.eBin Cd.oSub (Cd.eVar 3) (Cd.eC (.int 1))) (Cd.aCons (Cd.eC (.int 1)) Cd.aNil))))))) (Cd.sRet (Cd.eTup (Cd.aCons (Cd.eC (.str (Cd.S "if"))) (Cd.aCons (Cd.eTup (Cd.aCons (Cd.eC (.str (Cd.S "digits"))) (Cd.aCons (Cd.eTup (Cd.aCons (Cd.eC (.str (Cd.S "a"))) (Cd.aCons (Cd.eTup Cd.aNil) Cd.aNil))) Cd.aNil))) (Cd.aCons (Cd.eVar 6) (Cd.aCons (Cd.eCall (Mrec_ 0) (Cd.aCons (Cd.eVar 0) (Cd.aCons (Cd.eVar 1) (Cd.aCons (Cd.eVar 2) (Cd.aCons (Cd.eBin Cd.oSub (Cd.eVar 3) (Cd.eC (.int 1))) (Cd.aCons (Cd.eC (.int 0)) Cd.aNil)))))) Cd.aNil))))))) Cd.sNop) (T_v_law_statement_1 Mrec_))
noncomputable def T_v_law_statement_3 (Mrec_ : Nat → Cd.Fn) : Cd.SM := (Cd.sSeq (Cd.sIf (Cd.tOr (Cd.tVal (Cd.eBin Cd.oLt (Cd.eVar 4) (Cd.eC (.int 5)))) (Cd.tVal (Cd.eBin Cd.oEq (Cd.eVar 3) (Cd.eC (.int 1))))) (Cd.sSeq (Cd.sSet 5 (Cd.eGc 4 4 (Cd.eLst (Cd.aCons (Cd.eTup (Cd.aCons (Cd.eC (.str (Cd.S "stop"))) Cd.aNil)) (Cd.aCons (Cd.eTup (Cd.aCons (Cd.eC (.str (Cd.S "write"))) (Cd.aCons (Cd.eC (.str (Cd.S "f"))) Cd.aNil))) (Cd.aCons (Cd.eTup (Cd.aCons (Cd.eC (.str (Cd.S "clear"))) (Cd.aCons (Cd.eTup (Cd.aCons (Cd.eC (.str (Cd.S "a"))) (Cd.aCons (Cd.eTup Cd.aNil) Cd.aNil))) Cd.aNil))) (Cd.aCons (Cd.eTup (Cd.aCons (Cd.eC (.str (Cd.S "show"))) (Cd.aCons (Cd.eTup (Cd.aCons (Cd.eTup (Cd.aCons (Cd.eC (.str (Cd.S "text"))) (Cd.aCons (Cd.eC (.str (Cd.S "perform"))) Cd.aNil))) Cd.aNil)) Cd.aNil))) (Cd.aCons (Cd.eTup (Cd.aCons (Cd.eC (.str (Cd.S "sort"))) (Cd.aCons (Cd.eC (.str (Cd.S "t"))) (Cd.aCons (Cd.eC (.str (Cd.S "k"))) (Cd.aCons (Cd.eC (.bl true)) Cd.aNil))))) Cd.aNil)))))))) (Cd.sRet (Cd.eBin Cd.oIdx (Cd.eGc 4 4 (Cd.eOp Cd.oPlus (Cd.eVar 5) (Cd.eGc 4 4 (Cd.eLst (Cd.aCons (Cd.eTup (Cd.aCons (Cd.eC (.str (Cd.S "move"))) (Cd.aCons (Cd.eTup (Cd.aCons (Cd.eC (.str (Cd.S "number"))) (Cd.aCons (Cd.eTup (Cd.aCons (Cd.eC (.int 1)) (Cd.aCons (Cd.eC (.int 0)) Cd.aNil))) Cd.aNil))) (Cd.aCons (Cd.eTup (Cd.aCons (Cd.eC (.str (Cd.S "a"))) (Cd.aCons (Cd.eTup Cd.aNil) Cd.aNil))) Cd.aNil)))) Cd.aNil))))) (Cd.eCall M_v_law_draw (Cd.aCons (Cd.eVar 0) (Cd.aCons (Cd.eC (.int 6)) Cd.aNil)))))) Cd.sNop) (T_v_law_statement_2 Mrec_))
noncomputable def B_v_law_statement (Mrec_ : Nat → Cd.Fn) : Cd.SM := (Cd.sSeq (Cd.sSet 4 (Cd.eCall M_v_law_draw (Cd.aCons (Cd.eVar 0) (Cd.aCons (Cd.eC (.int 9)) Cd.aNil)))) (Cd.sSeq (Cd.sIf (Cd.tVal (Cd.eBin Cd.oLt (Cd.eVar 4) (Cd.eC (.int 3)))) (Cd.sRet (Cd.eCall M_v_law_perform (Cd.aCons (Cd.eVar 0) (Cd.aCons (Cd.eVar 1) (Cd.aCons (Cd.eVar 2) Cd.aNil))))) Cd.sNop) (T_v_law_statement_3 Mrec_)))
noncomputable def M_v_law_block_g : Nat → Nat → Cd.Fn
  | 0, _ => Cd.fnStuck
  | n + 1, 0 => Cd.gcF 4 4 (Cd.fn 5 7 (B_v_law_block (M_v_law_block_g n)))
  | n + 1, _ => Cd.gcF 4 4 (Cd.fn 4 9 (B_v_law_statement (M_v_law_block_g n)))
noncomputable def M_v_law_block : Cd.Fn := M_v_law_block_g 8 0
noncomputable def M_v_law_statement : Cd.Fn := M_v_law_block_g 8 1
noncomputable def L_performed_1 (Mrec_ : Cd.Fn) : Cd.SM := (Cd.sIf (Cd.tVal (Cd.eBin Cd.oEq (Cd.eBin Cd.oIdx (Cd.eVar 2) (Cd.eC (.int 0))) (Cd.eC (.str (Cd.S "perform"))))) (Cd.sExpr (Cd.eMth "list" Cd.mAppend (Cd.eVar 1) (Cd.aCons (Cd.eTup (Cd.aCons (Cd.eBin Cd.oIdx (Cd.eVar 2) (Cd.eC (.int 1))) (Cd.aCons (Cd.eBin Cd.oIdx (Cd.eVar 2) (Cd.eC (.int 2))) Cd.aNil))) Cd.aNil))) (Cd.sIf (Cd.tVal (Cd.eBin Cd.oIn (Cd.eBin Cd.oIdx (Cd.eVar 2) (Cd.eC (.int 0))) (Cd.eTup (Cd.aCons (Cd.eC (.str (Cd.S "if"))) (Cd.aCons (Cd.eC (.str (Cd.S "read"))) Cd.aNil))))) (Cd.sExpr (Cd.eGc 4 4 (Cd.eMth "list" Cd.mExtend (Cd.eVar 1) (Cd.aCons (Cd.eOp Cd.oPlus (Cd.eCall Mrec_ (Cd.aCons (Cd.eBin Cd.oIdx (Cd.eVar 2) (Cd.eC (.int 2))) Cd.aNil)) (Cd.eCall Mrec_ (Cd.aCons (Cd.eBin Cd.oIdx (Cd.eVar 2) (Cd.eC (.int 3))) Cd.aNil))) Cd.aNil)))) (Cd.sIf (Cd.tVal (Cd.eBin Cd.oIn (Cd.eBin Cd.oIdx (Cd.eVar 2) (Cd.eC (.int 0))) (Cd.eTup (Cd.aCons (Cd.eC (.str (Cd.S "set"))) (Cd.aCons (Cd.eC (.str (Cd.S "divide"))) Cd.aNil))))) (Cd.sExpr (Cd.eGc 4 4 (Cd.eMth "list" Cd.mExtend (Cd.eVar 1) (Cd.aCons (Cd.eCall Mrec_ (Cd.aCons (Cd.eBin Cd.oIdx (Cd.eVar 2) (Cd.eUn Cd.oNeg (Cd.eC (.int 1)))) Cd.aNil)) Cd.aNil)))) Cd.sNop)))
noncomputable def B_performed (Mrec_ : Cd.Fn) : Cd.SM := (Cd.sSeq (Cd.sSet 1 (Cd.eLst Cd.aNil)) (Cd.sSeq (Cd.sFor (Cd.iVal (Cd.eVar 0)) (Cd.gNam 2) (L_performed_1 Mrec_)) (Cd.sRet (Cd.eVar 1))))
noncomputable def M_performed_n : Nat → Cd.Fn
  | 0 => Cd.fnStuck
  | n + 1 => Cd.gcF 0 4 (Cd.fn 1 3 (B_performed (M_performed_n n)))
noncomputable def M_performed : Cd.Fn := M_performed_n 6
noncomputable def E_graph_of_1 : Cd.EM := (Cd.eVar 9)
noncomputable def E_graph_of_2 : Cd.EM := (Cd.eVar 8)
noncomputable def L_graph_of_1 : Cd.SM := (Cd.sSetDx (Cd.eVar 5) (Cd.eVar 8) (Cd.eC (.bl true)))
noncomputable def L_graph_of_2 : Cd.SM := (Cd.sFor (Cd.iArgs Cd.fRng2 (Cd.aCons (Cd.eBin Cd.oDIdx (Cd.eVar 1) (Cd.eVar 6)) (Cd.aCons (Cd.eOp Cd.oPlus (Cd.eBin Cd.oDIdx (Cd.eVar 1) (Cd.eVar 7)) (Cd.eC (.int 1))) Cd.aNil))) (Cd.gNam 8) L_graph_of_1)
noncomputable def L_graph_of_3 : Cd.SM := (Cd.sSeq (Cd.sSet 5 Cd.eDNew) (Cd.sSeq (Cd.sFor (Cd.iVal (Cd.eCall M_performed (Cd.aCons (Cd.eVar 4) Cd.aNil))) (Cd.gTpl (Cd.gsCons (Cd.gNam 6) (Cd.gsCons (Cd.gNam 7) Cd.gsNil))) L_graph_of_2) (Cd.sExpr (Cd.eMth "list" Cd.mAppend (Cd.eVar 2) (Cd.aCons (Cd.eCallB Cd.bTuple (Cd.aCons (Cd.eGc 4 4 (Cd.eCallB Cd.bSortA (Cd.aCons (Cd.eVar 5) Cd.aNil))) Cd.aNil)) Cd.aNil)))))
noncomputable def B_graph_of : Cd.SM := (Cd.sSeq (Cd.sSet 1 (Cd.eDComp [8, 9, 3] (Cd.iArgs Cd.fEnum (Cd.aCons (Cd.eVar 0) Cd.aNil)) (Cd.gTpl (Cd.gsCons (Cd.gNam 8) (Cd.gsCons (Cd.gTpl (Cd.gsCons (Cd.gNam 9) (Cd.gsCons (Cd.gNam 3) Cd.gsNil))) Cd.gsNil))) Cd.tTrue E_graph_of_1 E_graph_of_2)) (Cd.sSeq (Cd.sSet 2 (Cd.eLst Cd.aNil)) (Cd.sSeq (Cd.sFor (Cd.iVal (Cd.eVar 0)) (Cd.gTpl (Cd.gsCons (Cd.gNam 3) (Cd.gsCons (Cd.gNam 4) Cd.gsNil))) L_graph_of_3) (Cd.sRet (Cd.eCallB Cd.bTuple (Cd.aCons (Cd.eVar 2) Cd.aNil))))))
noncomputable def M_graph_of : Cd.Fn := Cd.gcF 4 4 (Cd.fn 1 10 B_graph_of)
noncomputable def C_law_1 : Cd.TM := (Cd.tAnd (Cd.tVal (Cd.eBin Cd.oLe (Cd.eMth "list" Cd.mIndex (Cd.eVar 3) (Cd.aCons (Cd.eVar 12) Cd.aNil)) (Cd.eVar 11))) (Cd.tVal (Cd.eBin Cd.oLe (Cd.eVar 11) (Cd.eMth "list" Cd.mIndex (Cd.eVar 3) (Cd.aCons (Cd.eVar 13) Cd.aNil)))))
noncomputable def E_law_1 : Cd.EM := (Cd.eC (.int 1))
noncomputable def L_law_1 : Cd.SM := (Cd.sIf (Cd.tVal (Cd.eBin Cd.oGt (Cd.eCallB Cd.bLen (Cd.aCons (Cd.eGc 4 4 (Cd.eComp [12, 13] (Cd.iVal (Cd.eVar 7)) (Cd.gTpl (Cd.gsCons (Cd.gNam 12) (Cd.gsCons (Cd.gNam 13) Cd.gsNil))) C_law_1 E_law_1)) Cd.aNil)) (Cd.eC (.int 0)))) (Cd.sExpr (Cd.eMth "list" Cd.mAppend (Cd.eVar 10) (Cd.aCons (Cd.eVar 11) Cd.aNil))) Cd.sNop)
noncomputable def T_law_2 : Cd.SM := (Cd.sSeq (Cd.sIf (Cd.tOr (Cd.tNot (Cd.tTru (Cd.eUn (Cd.oIsi "list") (Cd.eVar 9)))) (Cd.tNot (Cd.tTru (Cd.eCall M_v_law_same (Cd.aCons (Cd.eCallB Cd.bTuple (Cd.aCons (Cd.eVar 9) Cd.aNil)) (Cd.aCons (Cd.eCallB Cd.bTuple (Cd.aCons (Cd.eVar 7) Cd.aNil)) Cd.aNil)))))) (Cd.sRet (Cd.eC (.bl false))) Cd.sNop) (Cd.sSeq (Cd.sSet 10 (Cd.eLst Cd.aNil)) (Cd.sSeq (Cd.sFor (Cd.iArgs Cd.fRng1 (Cd.aCons (Cd.eVar 2) Cd.aNil)) (Cd.gNam 11) L_law_1) (Cd.sExpr (Cd.eMth "list" Cd.mAppend (Cd.eVar 5) (Cd.aCons (Cd.eCallB Cd.bTuple (Cd.aCons (Cd.eVar 10) Cd.aNil)) Cd.aNil))))))
noncomputable def E_law_2 : Cd.EM := (Cd.eCall M_v_law_statement (Cd.aCons (Cd.eVar 1) (Cd.aCons (Cd.eVar 3) (Cd.aCons (Cd.eVar 7) (Cd.aCons (Cd.eC (.int 4)) Cd.aNil)))))
noncomputable def L_law_3 : Cd.SM := (Cd.sSeq (Cd.sSet 7 (Cd.eLst Cd.aNil)) (Cd.sSeq (Cd.sSet 8 (Cd.eCallB Cd.bTuple (Cd.aCons (Cd.eGc 4 4 (Cd.eComp [11] (Cd.iArgs Cd.fRng1 (Cd.aCons (Cd.eCall M_v_law_draw (Cd.aCons (Cd.eVar 1) (Cd.aCons (Cd.eC (.int 5)) Cd.aNil))) Cd.aNil)) (Cd.gNam 11) Cd.tTrue E_law_2)) Cd.aNil))) (Cd.sSeq (Cd.sExpr (Cd.eMth "list" Cd.mAppend (Cd.eVar 4) (Cd.aCons (Cd.eTup (Cd.aCons (Cd.eBin Cd.oIdx (Cd.eVar 3) (Cd.eVar 6)) (Cd.aCons (Cd.eVar 8) Cd.aNil))) Cd.aNil))) (Cd.sSeq (Cd.sSet 9 (Cd.eCall M_performed (Cd.aCons (Cd.eVar 8) Cd.aNil))) T_law_2))))
noncomputable def T_law_4 : Cd.SM := (Cd.sSeq (Cd.sSet 5 (Cd.eLst Cd.aNil)) (Cd.sSeq (Cd.sFor (Cd.iArgs Cd.fRng1 (Cd.aCons (Cd.eVar 2) Cd.aNil)) (Cd.gNam 6) L_law_3) (Cd.sRet (Cd.eCall M_v_law_same (Cd.aCons (Cd.eCall M_graph_of (Cd.aCons (Cd.eCallB Cd.bTuple (Cd.aCons (Cd.eVar 4) Cd.aNil)) Cd.aNil)) (Cd.aCons (Cd.eCallB Cd.bTuple (Cd.aCons (Cd.eVar 5) Cd.aNil)) Cd.aNil))))))
noncomputable def B_law : Cd.SM := (Cd.sSeq (Cd.sSet 1 (Cd.eCall M_v_law_draws (Cd.aCons (Cd.eVar 0) Cd.aNil))) (Cd.sSeq (Cd.sSet 2 (Cd.eOp Cd.oPlus (Cd.eC (.int 1)) (Cd.eCall M_v_law_draw (Cd.aCons (Cd.eVar 1) (Cd.aCons (Cd.eBin Cd.oIdx (Cd.eKl Mir.K_law_1) (Cd.eCallB Cd.bIntA (Cd.aCons (Cd.eBin Cd.oEq (Cd.eCall M_v_law_draw (Cd.aCons (Cd.eVar 1) (Cd.aCons (Cd.eC (.int 5)) Cd.aNil))) (Cd.eC (.int 0))) Cd.aNil))) Cd.aNil))))) (Cd.sSeq (Cd.sSet 3 (Cd.eCall M_v_law_names (Cd.aCons (Cd.eVar 1) (Cd.aCons (Cd.eVar 2) Cd.aNil)))) (Cd.sSeq (Cd.sSet 4 (Cd.eLst Cd.aNil)) T_law_4))))
noncomputable def M_law : Cd.Fn := Cd.fn 1 14 B_law
theorem B_v_law_draw_v (η : Cd.Env) (h : Cd.Hep) : B_v_law_draw η h = (Cd.sSeq (Cd.sIf (Cd.tAnd (Cd.tVal (Cd.eBin Cd.oEq (Cd.eBin Cd.oIdx (Cd.eVar 0) (Cd.eC (.int 2))) (Cd.eC (.int 0)))) (Cd.tVal (Cd.eBin Cd.oLt (Cd.eBin Cd.oIdx (Cd.eVar 0) (Cd.eC (.int 1))) (Cd.eCallB Cd.bLen (Cd.aCons (Cd.eBin Cd.oIdx (Cd.eVar 0) (Cd.eC (.int 0))) Cd.aNil))))) (Cd.sSeq (Cd.sSet 2 (Cd.eBin Cd.oIdx (Cd.eBin Cd.oIdx (Cd.eVar 0) (Cd.eC (.int 0))) (Cd.eBin Cd.oIdx (Cd.eVar 0) (Cd.eC (.int 1))))) (Cd.sSeq (Cd.sSetIx (Cd.eVar 0) (Cd.eC (.int 1)) (Cd.eOp Cd.oPlus (Cd.eBin Cd.oIdx (Cd.eVar 0) (Cd.eC (.int 1))) (Cd.eC (.int 1)))) (Cd.sSeq (Cd.sIf (Cd.tVal (Cd.eBin Cd.oGe (Cd.eVar 2) (Cd.eBin Cd.oPow (Cd.eC (.int 10)) (Cd.eC (.int 18))))) (Cd.sSetIx (Cd.eVar 0) (Cd.eC (.int 2)) (Cd.eVar 2)) Cd.sNop) (Cd.sSetIx (Cd.eVar 0) (Cd.eC (.int 3)) (Cd.eBin Cd.oMod (Cd.eCallB Cd.bIntA (Cd.aCons (Cd.eOp Cd.oPlus (Cd.eOp Cd.oPlus (Cd.eOp Cd.oTimes (Cd.eBin Cd.oIdx (Cd.eVar 0) (Cd.eC (.int 3))) (Cd.eC (.int 48271))) (Cd.eVar 2)) (Cd.eC (.int 13))) Cd.aNil)) (Cd.eC (.int 2147483647))))))) Cd.sNop) (Cd.sSeq (Cd.sIf (Cd.tVal (Cd.eBin Cd.oGt (Cd.eBin Cd.oIdx (Cd.eVar 0) (Cd.eC (.int 2))) (Cd.eC (.int 0)))) (Cd.sSeq (Cd.sSet 3 (Cd.eBin Cd.oMod (Cd.eCallB Cd.bIntA (Cd.aCons (Cd.eBin Cd.oIdx (Cd.eVar 0) (Cd.eC (.int 2))) Cd.aNil)) (Cd.eVar 1))) (Cd.sSeq (Cd.sSetIx (Cd.eVar 0) (Cd.eC (.int 2)) (Cd.eBin Cd.oDiv (Cd.eBin Cd.oIdx (Cd.eVar 0) (Cd.eC (.int 2))) (Cd.eVar 1))) (Cd.sRet (Cd.eVar 3)))) Cd.sNop) (Cd.sSeq (Cd.sSetIx (Cd.eVar 0) (Cd.eC (.int 3)) (Cd.eBin Cd.oMod (Cd.eCallB Cd.bIntA (Cd.aCons (Cd.eOp Cd.oPlus (Cd.eOp Cd.oTimes (Cd.eBin Cd.oIdx (Cd.eVar 0) (Cd.eC (.int 3))) (Cd.eC (.int 69621))) (Cd.eC (.int 7))) Cd.aNil)) (Cd.eC (.int 2147483629)))) (Cd.sRet (Cd.eBin Cd.oMod (Cd.eCallB Cd.bIntA (Cd.aCons (Cd.eBin Cd.oDiv (Cd.eBin Cd.oIdx (Cd.eVar 0) (Cd.eC (.int 3))) (Cd.eC (.int 11))) Cd.aNil)) (Cd.eVar 1)))))) η h := id rfl
theorem M_v_law_draw_v (vs : List Cd.Val) (h : Cd.Hep) : M_v_law_draw vs h = Cd.gc 4 4 h (Cd.fn 2 4 B_v_law_draw vs h) := id rfl
theorem B_v_law_draws_v (η : Cd.Env) (h : Cd.Hep) : B_v_law_draws η h = (Cd.sRet (Cd.eLst (Cd.aCons (Cd.eGc 4 4 (Cd.eCallB Cd.bListA (Cd.aCons (Cd.eVar 0) Cd.aNil))) (Cd.aCons (Cd.eC (.int 0)) (Cd.aCons (Cd.eC (.int 0)) (Cd.aCons (Cd.eC (.int 1)) Cd.aNil)))))) η h := id rfl
theorem M_v_law_draws_v (vs : List Cd.Val) (h : Cd.Hep) : M_v_law_draws vs h = Cd.gc 0 4 h (Cd.fn 1 1 B_v_law_draws vs h) := id rfl
theorem B_v_law_reserved_v (η : Cd.Env) (h : Cd.Hep) : B_v_law_reserved η h = (Cd.sSeq (Cd.sSet 0 (Cd.eKl Mir.K_v_law_reserved_1)) (Cd.sSeq (Cd.sSet 0 (Cd.eGc 4 4 (Cd.eOp Cd.oPlus (Cd.eVar 0) (Cd.eKl Mir.K_v_law_reserved_2)))) (Cd.sSeq (Cd.sSet 0 (Cd.eGc 4 4 (Cd.eOp Cd.oPlus (Cd.eVar 0) (Cd.eKl Mir.K_v_law_reserved_3)))) (Cd.sRet (Cd.eGc 4 4 (Cd.eOp Cd.oPlus (Cd.eVar 0) (Cd.eKl Mir.K_v_law_reserved_4))))))) η h := id rfl
theorem M_v_law_reserved_v (vs : List Cd.Val) (h : Cd.Hep) : M_v_law_reserved vs h = Cd.gc 4 4 h (Cd.fn 0 1 B_v_law_reserved vs h) := id rfl
theorem L_v_law_name_1_v (η : Cd.Env) (h : Cd.Hep) : L_v_law_name_1 η h = (Cd.sSeq (Cd.sSet 5 (Cd.eOp Cd.oPlus (Cd.eVar 1) (Cd.eC (.str (Cd.S "0123456789"))))) (Cd.sSeq (Cd.sIf (Cd.tVal (Cd.eBin Cd.oLt (Cd.eVar 4) (Cd.eBin Cd.oSub (Cd.eVar 2) (Cd.eC (.int 2))))) (Cd.sSet 5 (Cd.eOp Cd.oPlus (Cd.eVar 5) (Cd.eC (.str (Cd.S "-"))))) Cd.sNop) (Cd.sSet 3 (Cd.eOp Cd.oPlus (Cd.eVar 3) (Cd.eBin Cd.oIdx (Cd.eVar 5) (Cd.eCall M_v_law_draw (Cd.aCons (Cd.eVar 0) (Cd.aCons (Cd.eCallB Cd.bLen (Cd.aCons (Cd.eVar 5) Cd.aNil)) Cd.aNil)))))))) η h := id rfl
theorem T_v_law_name_2_v (η : Cd.Env) (h : Cd.Hep) : T_v_law_name_2 η h = (Cd.sSeq (Cd.sSet 3 (Cd.eBin Cd.oIdx (Cd.eVar 1) (Cd.eCall M_v_law_draw (Cd.aCons (Cd.eVar 0) (Cd.aCons (Cd.eC (.int 26)) Cd.aNil))))) (Cd.sSeq (Cd.sFor (Cd.iArgs Cd.fRng1 (Cd.aCons (Cd.eBin Cd.oSub (Cd.eVar 2) (Cd.eC (.int 1))) Cd.aNil)) (Cd.gNam 4) L_v_law_name_1) (Cd.sSeq (Cd.sIf (Cd.tVal (Cd.eBin Cd.oIn (Cd.eVar 3) (Cd.eCall M_v_law_reserved Cd.aNil))) (Cd.sRet (Cd.eOp Cd.oPlus (Cd.eVar 3) (Cd.eC (.str (Cd.S "0"))))) Cd.sNop) (Cd.sRet (Cd.eVar 3))))) η h := id rfl
theorem B_v_law_name_v (η : Cd.Env) (h : Cd.Hep) : B_v_law_name η h = (Cd.sSeq (Cd.sSet 1 (Cd.eC (.str (Cd.S "abcdefghijklmnopqrstuvwxyz")))) (Cd.sSeq (Cd.sSet 2 (Cd.eOp Cd.oPlus (Cd.eC (.int 1)) (Cd.eCall M_v_law_draw (Cd.aCons (Cd.eVar 0) (Cd.aCons (Cd.eC (.int 4)) Cd.aNil))))) (Cd.sSeq (Cd.sIf (Cd.tVal (Cd.eBin Cd.oEq (Cd.eCall M_v_law_draw (Cd.aCons (Cd.eVar 0) (Cd.aCons (Cd.eC (.int 6)) Cd.aNil))) (Cd.eC (.int 0)))) (Cd.sSet 2 (Cd.eOp Cd.oPlus (Cd.eC (.int 1)) (Cd.eCall M_v_law_draw (Cd.aCons (Cd.eVar 0) (Cd.aCons (Cd.eC (.int 20)) Cd.aNil))))) Cd.sNop) T_v_law_name_2))) η h := id rfl
theorem M_v_law_name_v (vs : List Cd.Val) (h : Cd.Hep) : M_v_law_name vs h = Cd.gc 4 4 h (Cd.fn 1 6 B_v_law_name vs h) := id rfl
theorem L_v_law_names_1_v (η : Cd.Env) (h : Cd.Hep) : L_v_law_names_1 η h = (Cd.sIf (Cd.tVal (Cd.eBin Cd.oIn (Cd.eVar 4) (Cd.eVar 2))) (Cd.sSet 4 (Cd.eOp Cd.oPlus (Cd.eGc 4 4 (Cd.eSl (Cd.eVar 4) Cd.pNo (Cd.pSome (Cd.eC (.int 16))))) (Cd.eCallB Cd.bStr (Cd.aCons (Cd.eVar 5) Cd.aNil)))) Cd.sNop) η h := id rfl
theorem L_v_law_names_2_v (η : Cd.Env) (h : Cd.Hep) : L_v_law_names_2 η h = (Cd.sSeq (Cd.sSet 4 (Cd.eCall M_v_law_name (Cd.aCons (Cd.eVar 0) Cd.aNil))) (Cd.sSeq (Cd.sFor (Cd.iArgs Cd.fRng1 (Cd.aCons (Cd.eOp Cd.oPlus (Cd.eVar 1) (Cd.eC (.int 1))) Cd.aNil)) (Cd.gNam 5) L_v_law_names_1) (Cd.sExpr (Cd.eMth "list" Cd.mAppend (Cd.eVar 2) (Cd.aCons (Cd.eVar 4) Cd.aNil))))) η h := id rfl
theorem B_v_law_names_v (η : Cd.Env) (h : Cd.Hep) : B_v_law_names η h = (Cd.sSeq (Cd.sSet 2 (Cd.eLst Cd.aNil)) (Cd.sSeq (Cd.sFor (Cd.iArgs Cd.fRng1 (Cd.aCons (Cd.eVar 1) Cd.aNil)) (Cd.gNam 3) L_v_law_names_2) (Cd.sRet (Cd.eVar 2)))) η h := id rfl
theorem M_v_law_names_v (vs : List Cd.Val) (h : Cd.Hep) : M_v_law_names vs h = Cd.gc 4 4 h (Cd.fn 2 6 B_v_law_names vs h) := id rfl
theorem T_v_law_same_1_v (Mrec_ : Cd.Fn) (η : Cd.Env) (h : Cd.Hep) : T_v_law_same_1 Mrec_ η h = (Cd.sSeq (Cd.sIf (Cd.tTru (Cd.eUn (Cd.oIsi "str") (Cd.eVar 1))) (Cd.sRet (Cd.eAnd (Cd.eUn (Cd.oIsi "str") (Cd.eVar 0)) (Cd.eBin Cd.oEq (Cd.eVar 0) (Cd.eVar 1)))) Cd.sNop) (Cd.sSeq (Cd.sIf (Cd.tVal (Cd.eBin Cd.oIsN (Cd.eVar 1) (Cd.eC .non))) (Cd.sRet (Cd.eBin Cd.oIsN (Cd.eVar 0) (Cd.eC .non))) Cd.sNop) (Cd.sSeq (Cd.sIf (Cd.tOr (Cd.tTru (Cd.eUn (Cd.oIsi "bool") (Cd.eVar 1))) (Cd.tTru (Cd.eUn (Cd.oIsi "bool") (Cd.eVar 0)))) (Cd.sRet (Cd.eAnd (Cd.eUn (Cd.oIsi "bool") (Cd.eVar 1)) (Cd.eAnd (Cd.eUn (Cd.oIsi "bool") (Cd.eVar 0)) (Cd.eBin Cd.oEq (Cd.eVar 0) (Cd.eVar 1))))) Cd.sNop) (Cd.sRet (Cd.eAnd (Cd.eUn (Cd.oIsi "int") (Cd.eVar 0)) (Cd.eBin Cd.oEq (Cd.eVar 0) (Cd.eVar 1))))))) η h := id rfl
theorem L_v_law_same_2_v (Mrec_ : Cd.Fn) (η : Cd.Env) (h : Cd.Hep) : L_v_law_same_2 Mrec_ η h = (Cd.sIf (Cd.tNot (Cd.tTru (Cd.eCall Mrec_ (Cd.aCons (Cd.eBin Cd.oIdx (Cd.eVar 0) (Cd.eVar 2)) (Cd.aCons (Cd.eBin Cd.oIdx (Cd.eVar 1) (Cd.eVar 2)) Cd.aNil))))) (Cd.sRet (Cd.eC (.bl false))) Cd.sNop) η h := id rfl
theorem B_v_law_same_v (Mrec_ : Cd.Fn) (η : Cd.Env) (h : Cd.Hep) : B_v_law_same Mrec_ η h = (Cd.sSeq (Cd.sIf (Cd.tTru (Cd.eUn (Cd.oIsi "tuple") (Cd.eVar 1))) (Cd.sSeq (Cd.sIf (Cd.tOr (Cd.tNot (Cd.tTru (Cd.eUn (Cd.oIsi "tuple") (Cd.eVar 0)))) (Cd.tVal (Cd.eBin Cd.oNe (Cd.eCallB Cd.bLen (Cd.aCons (Cd.eVar 0) Cd.aNil)) (Cd.eCallB Cd.bLen (Cd.aCons (Cd.eVar 1) Cd.aNil))))) (Cd.sRet (Cd.eC (.bl false))) Cd.sNop) (Cd.sSeq (Cd.sFor (Cd.iArgs Cd.fRng1 (Cd.aCons (Cd.eCallB Cd.bLen (Cd.aCons (Cd.eVar 1) Cd.aNil)) Cd.aNil)) (Cd.gNam 2) (L_v_law_same_2 Mrec_)) (Cd.sRet (Cd.eC (.bl true))))) Cd.sNop) (T_v_law_same_1 Mrec_)) η h := id rfl
theorem M_v_law_same_v (n : Nat) (vs : List Cd.Val) (h : Cd.Hep) : M_v_law_same_n (n + 1) vs h = Cd.gc 4 4 h (Cd.fn 2 3 (B_v_law_same (M_v_law_same_n n)) vs h) := id rfl
theorem T_v_law_perform_1_v (η : Cd.Env) (h : Cd.Hep) : T_v_law_perform_1 η h = (Cd.sSeq (Cd.sSet 6 (Cd.eLst (Cd.aCons (Cd.eTup (Cd.aCons (Cd.eC (.str (Cd.S "once"))) Cd.aNil)) (Cd.aCons (Cd.eTup (Cd.aCons (Cd.eC (.str (Cd.S "times"))) (Cd.aCons (Cd.eTup (Cd.aCons (Cd.eC (.str (Cd.S "number"))) (Cd.aCons (Cd.eTup (Cd.aCons (Cd.eC (.int 3)) (Cd.aCons (Cd.eC (.int 0)) Cd.aNil))) Cd.aNil))) Cd.aNil))) (Cd.aCons (Cd.eTup (Cd.aCons (Cd.eC (.str (Cd.S "until"))) (Cd.aCons (Cd.eVar 5) Cd.aNil))) Cd.aNil))))) (Cd.sSeq (Cd.sExpr (Cd.eMth "list" Cd.mAppend (Cd.eVar 6) (Cd.aCons (Cd.eTup (Cd.aCons (Cd.eC (.str (Cd.S "varying"))) (Cd.aCons (Cd.eTup (Cd.aCons (Cd.eC (.str (Cd.S "a"))) (Cd.aCons (Cd.eTup Cd.aNil) Cd.aNil))) (Cd.aCons (Cd.eTup (Cd.aCons (Cd.eC (.str (Cd.S "number"))) (Cd.aCons (Cd.eTup (Cd.aCons (Cd.eC (.int 1)) (Cd.aCons (Cd.eC (.int 0)) Cd.aNil))) Cd.aNil))) (Cd.aCons (Cd.eTup (Cd.aCons (Cd.eC (.str (Cd.S "number"))) (Cd.aCons (Cd.eTup (Cd.aCons (Cd.eC (.int 1)) (Cd.aCons (Cd.eC (.int 0)) Cd.aNil))) Cd.aNil))) (Cd.aCons (Cd.eVar 5) Cd.aNil)))))) Cd.aNil))) (Cd.sRet (Cd.eTup (Cd.aCons (Cd.eC (.str (Cd.S "perform"))) (Cd.aCons (Cd.eBin Cd.oIdx (Cd.eVar 1) (Cd.eVar 3)) (Cd.aCons (Cd.eBin Cd.oIdx (Cd.eVar 1) (Cd.eVar 4)) (Cd.aCons (Cd.eBin Cd.oIdx (Cd.eVar 6) (Cd.eCall M_v_law_draw (Cd.aCons (Cd.eVar 0) (Cd.aCons (Cd.eC (.int 4)) Cd.aNil)))) Cd.aNil)))))))) η h := id rfl
theorem B_v_law_perform_v (η : Cd.Env) (h : Cd.Hep) : B_v_law_perform η h = (Cd.sSeq (Cd.sSet 3 (Cd.eCall M_v_law_draw (Cd.aCons (Cd.eVar 0) (Cd.aCons (Cd.eCallB Cd.bLen (Cd.aCons (Cd.eVar 1) Cd.aNil)) Cd.aNil)))) (Cd.sSeq (Cd.sSet 4 (Cd.eOp Cd.oPlus (Cd.eVar 3) (Cd.eBin Cd.oIdx (Cd.eGc 4 4 (Cd.eLst (Cd.aCons (Cd.eC (.int 0)) (Cd.aCons (Cd.eCall M_v_law_draw (Cd.aCons (Cd.eVar 0) (Cd.aCons (Cd.eBin Cd.oSub (Cd.eCallB Cd.bLen (Cd.aCons (Cd.eVar 1) Cd.aNil)) (Cd.eVar 3)) Cd.aNil))) Cd.aNil)))) (Cd.eCall M_v_law_draw (Cd.aCons (Cd.eVar 0) (Cd.aCons (Cd.eC (.int 2)) Cd.aNil)))))) (Cd.sSeq (Cd.sExpr (Cd.eMth "list" Cd.mAppend (Cd.eVar 2) (Cd.aCons (Cd.eTup (Cd.aCons (Cd.eBin Cd.oIdx (Cd.eVar 1) (Cd.eVar 3)) (Cd.aCons (Cd.eBin Cd.oIdx (Cd.eVar 1) (Cd.eVar 4)) Cd.aNil))) Cd.aNil))) (Cd.sSeq (Cd.sSet 5 (Cd.eTup (Cd.aCons (Cd.eC (.str (Cd.S "compare"))) (Cd.aCons (Cd.eC (.str (Cd.S "="))) (Cd.aCons (Cd.eTup (Cd.aCons (Cd.eC (.str (Cd.S "ref"))) (Cd.aCons (Cd.eTup (Cd.aCons (Cd.eC (.str (Cd.S "a"))) (Cd.aCons (Cd.eTup Cd.aNil) Cd.aNil))) Cd.aNil))) (Cd.aCons (Cd.eTup (Cd.aCons (Cd.eC (.str (Cd.S "number"))) (Cd.aCons (Cd.eTup (Cd.aCons (Cd.eC (.int 1)) (Cd.aCons (Cd.eC (.int 0)) Cd.aNil))) Cd.aNil))) Cd.aNil)))))) T_v_law_perform_1)))) η h := id rfl
theorem M_v_law_perform_v (vs : List Cd.Val) (h : Cd.Hep) : M_v_law_perform vs h = Cd.gc 4 4 h (Cd.fn 3 7 B_v_law_perform vs h) := id rfl
theorem L_v_law_block_1_v (Mrec_ : Nat → Cd.Fn) (η : Cd.Env) (h : Cd.Hep) : L_v_law_block_1 Mrec_ η h = (Cd.sExpr (Cd.eMth "list" Cd.mAppend (Cd.eVar 5) (Cd.aCons (Cd.eCall (Mrec_ 1) (Cd.aCons (Cd.eVar 0) (Cd.aCons (Cd.eVar 1) (Cd.aCons (Cd.eVar 2) (Cd.aCons (Cd.eVar 3) Cd.aNil))))) Cd.aNil))) η h := id rfl
theorem B_v_law_block_v (Mrec_ : Nat → Cd.Fn) (η : Cd.Env) (h : Cd.Hep) : B_v_law_block Mrec_ η h = (Cd.sSeq (Cd.sSet 5 (Cd.eLst Cd.aNil)) (Cd.sSeq (Cd.sFor (Cd.iArgs Cd.fRng1 (Cd.aCons (Cd.eCallB Cd.bMax2 (Cd.aCons (Cd.eVar 4) (Cd.aCons (Cd.eBin Cd.oSub (Cd.eCall M_v_law_draw (Cd.aCons (Cd.eVar 0) (Cd.aCons (Cd.eC (.int 4)) Cd.aNil))) (Cd.eC (.int 1))) Cd.aNil))) Cd.aNil)) (Cd.gNam 6) (L_v_law_block_1 Mrec_)) (Cd.sRet (Cd.eCallB Cd.bTuple (Cd.aCons (Cd.eVar 5) Cd.aNil))))) η h := id rfl
theorem M_v_law_block_v (n : Nat) (vs : List Cd.Val) (h : Cd.Hep) : M_v_law_block_g (n + 1) 0 vs h = Cd.gc 4 4 h (Cd.fn 5 7 (B_v_law_block (M_v_law_block_g n)) vs h) := id rfl
theorem T_v_law_statement_1_v (Mrec_ : Nat → Cd.Fn) (η : Cd.Env) (h : Cd.Hep) : T_v_law_statement_1 Mrec_ η h = (Cd.sSeq (Cd.sIf (Cd.tVal (Cd.eBin Cd.oEq (Cd.eVar 4) (Cd.eC (.int 6)))) (Cd.sSeq (Cd.sSet 7 (Cd.eCall (Mrec_ 0) (Cd.aCons (Cd.eVar 0) (Cd.aCons (Cd.eVar 1) (Cd.aCons (Cd.eVar 2) (Cd.aCons (Cd.eBin Cd.oSub (Cd.eVar 3) (Cd.eC (.int 1))) (Cd.aCons (Cd.eC (.int 0)) Cd.aNil))))))) (Cd.sRet (Cd.eTup (Cd.aCons (Cd.eC (.str (Cd.S "read"))) (Cd.aCons (Cd.eC (.str (Cd.S "f"))) (Cd.aCons (Cd.eVar 7) (Cd.aCons (Cd.eCall (Mrec_ 0) (Cd.aCons (Cd.eVar 0) (Cd.aCons (Cd.eVar 1) (Cd.aCons (Cd.eVar 2) (Cd.aCons (Cd.eBin Cd.oSub (Cd.eVar 3) (Cd.eC (.int 1))) (Cd.aCons (Cd.eC (.int 0)) Cd.aNil)))))) Cd.aNil))))))) Cd.sNop) (Cd.sSeq (Cd.sSet 8 (Cd.eCall (Mrec_ 0) (Cd.aCons (Cd.eVar 0) (Cd.aCons (Cd.eVar 1) (Cd.aCons (Cd.eVar 2) (Cd.aCons (Cd.eBin Cd.oSub (Cd.eVar 3) (Cd.eC (.int 1))) (Cd.aCons (Cd.eC (.int 0)) Cd.aNil))))))) (Cd.sSeq (Cd.sIf (Cd.tVal (Cd.eBin Cd.oEq (Cd.eVar 4) (Cd.eC (.int 7)))) (Cd.sRet (Cd.eTup (Cd.aCons (Cd.eC (.str (Cd.S "set"))) (Cd.aCons (Cd.eTup (Cd.aCons (Cd.eC (.str (Cd.S "a"))) (Cd.aCons (Cd.eTup Cd.aNil) Cd.aNil))) (Cd.aCons (Cd.eC (.bl false)) (Cd.aCons (Cd.eTup (Cd.aCons (Cd.eC (.str (Cd.S "number"))) (Cd.aCons (Cd.eTup (Cd.aCons (Cd.eC (.int 5)) (Cd.aCons (Cd.eC (.int 0)) Cd.aNil))) Cd.aNil))) (Cd.aCons (Cd.eVar 8) Cd.aNil))))))) Cd.sNop) (Cd.sRet (Cd.eTup (Cd.aCons (Cd.eC (.str (Cd.S "divide"))) (Cd.aCons (Cd.eTup (Cd.aCons (Cd.eC (.str (Cd.S "number"))) (Cd.aCons (Cd.eTup (Cd.aCons (Cd.eC (.int 5)) (Cd.aCons (Cd.eC (.int 0)) Cd.aNil))) Cd.aNil))) (Cd.aCons (Cd.eTup (Cd.aCons (Cd.eC (.str (Cd.S "number"))) (Cd.aCons (Cd.eTup (Cd.aCons (Cd.eC (.int 2)) (Cd.aCons (Cd.eC (.int 0)) Cd.aNil))) Cd.aNil))) (Cd.aCons (Cd.eTup (Cd.aCons (Cd.eC (.str (Cd.S "a"))) (Cd.aCons (Cd.eTup Cd.aNil) Cd.aNil))) (Cd.aCons (Cd.eC (.bl true)) (Cd.aCons (Cd.eBin Cd.oIdx (Cd.eGc 4 4 (Cd.eLst (Cd.aCons (Cd.eC .non) (Cd.aCons (Cd.eTup (Cd.aCons (Cd.eC (.str (Cd.S "b"))) (Cd.aCons (Cd.eTup Cd.aNil) Cd.aNil))) Cd.aNil)))) (Cd.eCall M_v_law_draw (Cd.aCons (Cd.eVar 0) (Cd.aCons (Cd.eC (.int 2)) Cd.aNil)))) (Cd.aCons (Cd.eVar 8) Cd.aNil)))))))))))) η h := id rfl
theorem T_v_law_statement_2_v (Mrec_ : Nat → Cd.Fn) (η : Cd.Env) (h : Cd.Hep) : T_v_law_statement_2 Mrec_ η h = (Cd.sSeq (Cd.sIf (Cd.tVal (Cd.eBin Cd.oEq (Cd.eVar 4) (Cd.eC (.int 5)))) (Cd.sSeq (Cd.sSet 6 (Cd.eCall (Mrec_ 0) (Cd.aCons (Cd.eVar 0) (Cd.aCons (Cd.eVar 1) (Cd.aCons (Cd.eVar 2) (Cd.aCons (Cd.eBin Cd.oSub (Cd.eVar 3) (Cd.eC (.int 1))) (Cd.aCons (Cd.eC (.int 1)) Cd.aNil))))))) (Cd.sRet (Cd.eTup (Cd.aCons (Cd.eC (.str (Cd.S "if"))) (Cd.aCons (Cd.eTup (Cd.aCons (Cd.eC (.str (Cd.S "digits"))) (Cd.aCons (Cd.eTup (Cd.aCons (Cd.eC (.str (Cd.S "a"))) (Cd.aCons (Cd.eTup Cd.aNil) Cd.aNil))) Cd.aNil))) (Cd.aCons (Cd.eVar 6) (Cd.aCons (Cd.eCall (Mrec_ 0) (Cd.aCons (Cd.eVar 0) (Cd.aCons (Cd.eVar 1) (Cd.aCons (Cd.eVar 2) (Cd.aCons (Cd.eBin Cd.oSub (Cd.eVar 3) (Cd.eC (.int 1))) (Cd.aCons (Cd.eC (.int 0)) Cd.aNil)))))) Cd.aNil))))))) Cd.sNop) (T_v_law_statement_1 Mrec_)) η h := id rfl
theorem T_v_law_statement_3_v (Mrec_ : Nat → Cd.Fn) (η : Cd.Env) (h : Cd.Hep) : T_v_law_statement_3 Mrec_ η h = (Cd.sSeq (Cd.sIf (Cd.tOr (Cd.tVal (Cd.eBin Cd.oLt (Cd.eVar 4) (Cd.eC (.int 5)))) (Cd.tVal (Cd.eBin Cd.oEq (Cd.eVar 3) (Cd.eC (.int 1))))) (Cd.sSeq (Cd.sSet 5 (Cd.eGc 4 4 (Cd.eLst (Cd.aCons (Cd.eTup (Cd.aCons (Cd.eC (.str (Cd.S "stop"))) Cd.aNil)) (Cd.aCons (Cd.eTup (Cd.aCons (Cd.eC (.str (Cd.S "write"))) (Cd.aCons (Cd.eC (.str (Cd.S "f"))) Cd.aNil))) (Cd.aCons (Cd.eTup (Cd.aCons (Cd.eC (.str (Cd.S "clear"))) (Cd.aCons (Cd.eTup (Cd.aCons (Cd.eC (.str (Cd.S "a"))) (Cd.aCons (Cd.eTup Cd.aNil) Cd.aNil))) Cd.aNil))) (Cd.aCons (Cd.eTup (Cd.aCons (Cd.eC (.str (Cd.S "show"))) (Cd.aCons (Cd.eTup (Cd.aCons (Cd.eTup (Cd.aCons (Cd.eC (.str (Cd.S "text"))) (Cd.aCons (Cd.eC (.str (Cd.S "perform"))) Cd.aNil))) Cd.aNil)) Cd.aNil))) (Cd.aCons (Cd.eTup (Cd.aCons (Cd.eC (.str (Cd.S "sort"))) (Cd.aCons (Cd.eC (.str (Cd.S "t"))) (Cd.aCons (Cd.eC (.str (Cd.S "k"))) (Cd.aCons (Cd.eC (.bl true)) Cd.aNil))))) Cd.aNil)))))))) (Cd.sRet (Cd.eBin Cd.oIdx (Cd.eGc 4 4 (Cd.eOp Cd.oPlus (Cd.eVar 5) (Cd.eGc 4 4 (Cd.eLst (Cd.aCons (Cd.eTup (Cd.aCons (Cd.eC (.str (Cd.S "move"))) (Cd.aCons (Cd.eTup (Cd.aCons (Cd.eC (.str (Cd.S "number"))) (Cd.aCons (Cd.eTup (Cd.aCons (Cd.eC (.int 1)) (Cd.aCons (Cd.eC (.int 0)) Cd.aNil))) Cd.aNil))) (Cd.aCons (Cd.eTup (Cd.aCons (Cd.eC (.str (Cd.S "a"))) (Cd.aCons (Cd.eTup Cd.aNil) Cd.aNil))) Cd.aNil)))) Cd.aNil))))) (Cd.eCall M_v_law_draw (Cd.aCons (Cd.eVar 0) (Cd.aCons (Cd.eC (.int 6)) Cd.aNil)))))) Cd.sNop) (T_v_law_statement_2 Mrec_)) η h := id rfl
theorem B_v_law_statement_v (Mrec_ : Nat → Cd.Fn) (η : Cd.Env) (h : Cd.Hep) : B_v_law_statement Mrec_ η h = (Cd.sSeq (Cd.sSet 4 (Cd.eCall M_v_law_draw (Cd.aCons (Cd.eVar 0) (Cd.aCons (Cd.eC (.int 9)) Cd.aNil)))) (Cd.sSeq (Cd.sIf (Cd.tVal (Cd.eBin Cd.oLt (Cd.eVar 4) (Cd.eC (.int 3)))) (Cd.sRet (Cd.eCall M_v_law_perform (Cd.aCons (Cd.eVar 0) (Cd.aCons (Cd.eVar 1) (Cd.aCons (Cd.eVar 2) Cd.aNil))))) Cd.sNop) (T_v_law_statement_3 Mrec_))) η h := id rfl
theorem M_v_law_statement_v (n : Nat) (vs : List Cd.Val) (h : Cd.Hep) : M_v_law_block_g (n + 1) 1 vs h = Cd.gc 4 4 h (Cd.fn 4 9 (B_v_law_statement (M_v_law_block_g n)) vs h) := id rfl
theorem L_performed_1_v (Mrec_ : Cd.Fn) (η : Cd.Env) (h : Cd.Hep) : L_performed_1 Mrec_ η h = (Cd.sIf (Cd.tVal (Cd.eBin Cd.oEq (Cd.eBin Cd.oIdx (Cd.eVar 2) (Cd.eC (.int 0))) (Cd.eC (.str (Cd.S "perform"))))) (Cd.sExpr (Cd.eMth "list" Cd.mAppend (Cd.eVar 1) (Cd.aCons (Cd.eTup (Cd.aCons (Cd.eBin Cd.oIdx (Cd.eVar 2) (Cd.eC (.int 1))) (Cd.aCons (Cd.eBin Cd.oIdx (Cd.eVar 2) (Cd.eC (.int 2))) Cd.aNil))) Cd.aNil))) (Cd.sIf (Cd.tVal (Cd.eBin Cd.oIn (Cd.eBin Cd.oIdx (Cd.eVar 2) (Cd.eC (.int 0))) (Cd.eTup (Cd.aCons (Cd.eC (.str (Cd.S "if"))) (Cd.aCons (Cd.eC (.str (Cd.S "read"))) Cd.aNil))))) (Cd.sExpr (Cd.eGc 4 4 (Cd.eMth "list" Cd.mExtend (Cd.eVar 1) (Cd.aCons (Cd.eOp Cd.oPlus (Cd.eCall Mrec_ (Cd.aCons (Cd.eBin Cd.oIdx (Cd.eVar 2) (Cd.eC (.int 2))) Cd.aNil)) (Cd.eCall Mrec_ (Cd.aCons (Cd.eBin Cd.oIdx (Cd.eVar 2) (Cd.eC (.int 3))) Cd.aNil))) Cd.aNil)))) (Cd.sIf (Cd.tVal (Cd.eBin Cd.oIn (Cd.eBin Cd.oIdx (Cd.eVar 2) (Cd.eC (.int 0))) (Cd.eTup (Cd.aCons (Cd.eC (.str (Cd.S "set"))) (Cd.aCons (Cd.eC (.str (Cd.S "divide"))) Cd.aNil))))) (Cd.sExpr (Cd.eGc 4 4 (Cd.eMth "list" Cd.mExtend (Cd.eVar 1) (Cd.aCons (Cd.eCall Mrec_ (Cd.aCons (Cd.eBin Cd.oIdx (Cd.eVar 2) (Cd.eUn Cd.oNeg (Cd.eC (.int 1)))) Cd.aNil)) Cd.aNil)))) Cd.sNop))) η h := id rfl
theorem B_performed_v (Mrec_ : Cd.Fn) (η : Cd.Env) (h : Cd.Hep) : B_performed Mrec_ η h = (Cd.sSeq (Cd.sSet 1 (Cd.eLst Cd.aNil)) (Cd.sSeq (Cd.sFor (Cd.iVal (Cd.eVar 0)) (Cd.gNam 2) (L_performed_1 Mrec_)) (Cd.sRet (Cd.eVar 1)))) η h := id rfl
theorem M_performed_v (n : Nat) (vs : List Cd.Val) (h : Cd.Hep) : M_performed_n (n + 1) vs h = Cd.gc 0 4 h (Cd.fn 1 3 (B_performed (M_performed_n n)) vs h) := id rfl
theorem E_graph_of_1_v (η : Cd.Env) (h : Cd.Hep) : E_graph_of_1 η h = (Cd.eVar 9) η h := id rfl
theorem E_graph_of_2_v (η : Cd.Env) (h : Cd.Hep) : E_graph_of_2 η h = (Cd.eVar 8) η h := id rfl
theorem L_graph_of_1_v (η : Cd.Env) (h : Cd.Hep) : L_graph_of_1 η h = (Cd.sSetDx (Cd.eVar 5) (Cd.eVar 8) (Cd.eC (.bl true))) η h := id rfl
theorem L_graph_of_2_v (η : Cd.Env) (h : Cd.Hep) : L_graph_of_2 η h = (Cd.sFor (Cd.iArgs Cd.fRng2 (Cd.aCons (Cd.eBin Cd.oDIdx (Cd.eVar 1) (Cd.eVar 6)) (Cd.aCons (Cd.eOp Cd.oPlus (Cd.eBin Cd.oDIdx (Cd.eVar 1) (Cd.eVar 7)) (Cd.eC (.int 1))) Cd.aNil))) (Cd.gNam 8) L_graph_of_1) η h := id rfl
theorem L_graph_of_3_v (η : Cd.Env) (h : Cd.Hep) : L_graph_of_3 η h = (Cd.sSeq (Cd.sSet 5 Cd.eDNew) (Cd.sSeq (Cd.sFor (Cd.iVal (Cd.eCall M_performed (Cd.aCons (Cd.eVar 4) Cd.aNil))) (Cd.gTpl (Cd.gsCons (Cd.gNam 6) (Cd.gsCons (Cd.gNam 7) Cd.gsNil))) L_graph_of_2) (Cd.sExpr (Cd.eMth "list" Cd.mAppend (Cd.eVar 2) (Cd.aCons (Cd.eCallB Cd.bTuple (Cd.aCons (Cd.eGc 4 4 (Cd.eCallB Cd.bSortA (Cd.aCons (Cd.eVar 5) Cd.aNil))) Cd.aNil)) Cd.aNil))))) η h := id rfl
theorem B_graph_of_v (η : Cd.Env) (h : Cd.Hep) : B_graph_of η h = (Cd.sSeq (Cd.sSet 1 (Cd.eDComp [8, 9, 3] (Cd.iArgs Cd.fEnum (Cd.aCons (Cd.eVar 0) Cd.aNil)) (Cd.gTpl (Cd.gsCons (Cd.gNam 8) (Cd.gsCons (Cd.gTpl (Cd.gsCons (Cd.gNam 9) (Cd.gsCons (Cd.gNam 3) Cd.gsNil))) Cd.gsNil))) Cd.tTrue E_graph_of_1 E_graph_of_2)) (Cd.sSeq (Cd.sSet 2 (Cd.eLst Cd.aNil)) (Cd.sSeq (Cd.sFor (Cd.iVal (Cd.eVar 0)) (Cd.gTpl (Cd.gsCons (Cd.gNam 3) (Cd.gsCons (Cd.gNam 4) Cd.gsNil))) L_graph_of_3) (Cd.sRet (Cd.eCallB Cd.bTuple (Cd.aCons (Cd.eVar 2) Cd.aNil)))))) η h := id rfl
theorem M_graph_of_v (vs : List Cd.Val) (h : Cd.Hep) : M_graph_of vs h = Cd.gc 4 4 h (Cd.fn 1 10 B_graph_of vs h) := id rfl
theorem C_law_1_v (η : Cd.Env) (h : Cd.Hep) : C_law_1 η h = (Cd.tAnd (Cd.tVal (Cd.eBin Cd.oLe (Cd.eMth "list" Cd.mIndex (Cd.eVar 3) (Cd.aCons (Cd.eVar 12) Cd.aNil)) (Cd.eVar 11))) (Cd.tVal (Cd.eBin Cd.oLe (Cd.eVar 11) (Cd.eMth "list" Cd.mIndex (Cd.eVar 3) (Cd.aCons (Cd.eVar 13) Cd.aNil))))) η h := id rfl
theorem E_law_1_v (η : Cd.Env) (h : Cd.Hep) : E_law_1 η h = (Cd.eC (.int 1)) η h := id rfl
theorem L_law_1_v (η : Cd.Env) (h : Cd.Hep) : L_law_1 η h = (Cd.sIf (Cd.tVal (Cd.eBin Cd.oGt (Cd.eCallB Cd.bLen (Cd.aCons (Cd.eGc 4 4 (Cd.eComp [12, 13] (Cd.iVal (Cd.eVar 7)) (Cd.gTpl (Cd.gsCons (Cd.gNam 12) (Cd.gsCons (Cd.gNam 13) Cd.gsNil))) C_law_1 E_law_1)) Cd.aNil)) (Cd.eC (.int 0)))) (Cd.sExpr (Cd.eMth "list" Cd.mAppend (Cd.eVar 10) (Cd.aCons (Cd.eVar 11) Cd.aNil))) Cd.sNop) η h := id rfl
theorem T_law_2_v (η : Cd.Env) (h : Cd.Hep) : T_law_2 η h = (Cd.sSeq (Cd.sIf (Cd.tOr (Cd.tNot (Cd.tTru (Cd.eUn (Cd.oIsi "list") (Cd.eVar 9)))) (Cd.tNot (Cd.tTru (Cd.eCall M_v_law_same (Cd.aCons (Cd.eCallB Cd.bTuple (Cd.aCons (Cd.eVar 9) Cd.aNil)) (Cd.aCons (Cd.eCallB Cd.bTuple (Cd.aCons (Cd.eVar 7) Cd.aNil)) Cd.aNil)))))) (Cd.sRet (Cd.eC (.bl false))) Cd.sNop) (Cd.sSeq (Cd.sSet 10 (Cd.eLst Cd.aNil)) (Cd.sSeq (Cd.sFor (Cd.iArgs Cd.fRng1 (Cd.aCons (Cd.eVar 2) Cd.aNil)) (Cd.gNam 11) L_law_1) (Cd.sExpr (Cd.eMth "list" Cd.mAppend (Cd.eVar 5) (Cd.aCons (Cd.eCallB Cd.bTuple (Cd.aCons (Cd.eVar 10) Cd.aNil)) Cd.aNil)))))) η h := id rfl
theorem E_law_2_v (η : Cd.Env) (h : Cd.Hep) : E_law_2 η h = (Cd.eCall M_v_law_statement (Cd.aCons (Cd.eVar 1) (Cd.aCons (Cd.eVar 3) (Cd.aCons (Cd.eVar 7) (Cd.aCons (Cd.eC (.int 4)) Cd.aNil))))) η h := id rfl
theorem L_law_3_v (η : Cd.Env) (h : Cd.Hep) : L_law_3 η h = (Cd.sSeq (Cd.sSet 7 (Cd.eLst Cd.aNil)) (Cd.sSeq (Cd.sSet 8 (Cd.eCallB Cd.bTuple (Cd.aCons (Cd.eGc 4 4 (Cd.eComp [11] (Cd.iArgs Cd.fRng1 (Cd.aCons (Cd.eCall M_v_law_draw (Cd.aCons (Cd.eVar 1) (Cd.aCons (Cd.eC (.int 5)) Cd.aNil))) Cd.aNil)) (Cd.gNam 11) Cd.tTrue E_law_2)) Cd.aNil))) (Cd.sSeq (Cd.sExpr (Cd.eMth "list" Cd.mAppend (Cd.eVar 4) (Cd.aCons (Cd.eTup (Cd.aCons (Cd.eBin Cd.oIdx (Cd.eVar 3) (Cd.eVar 6)) (Cd.aCons (Cd.eVar 8) Cd.aNil))) Cd.aNil))) (Cd.sSeq (Cd.sSet 9 (Cd.eCall M_performed (Cd.aCons (Cd.eVar 8) Cd.aNil))) T_law_2)))) η h := id rfl
theorem T_law_4_v (η : Cd.Env) (h : Cd.Hep) : T_law_4 η h = (Cd.sSeq (Cd.sSet 5 (Cd.eLst Cd.aNil)) (Cd.sSeq (Cd.sFor (Cd.iArgs Cd.fRng1 (Cd.aCons (Cd.eVar 2) Cd.aNil)) (Cd.gNam 6) L_law_3) (Cd.sRet (Cd.eCall M_v_law_same (Cd.aCons (Cd.eCall M_graph_of (Cd.aCons (Cd.eCallB Cd.bTuple (Cd.aCons (Cd.eVar 4) Cd.aNil)) Cd.aNil)) (Cd.aCons (Cd.eCallB Cd.bTuple (Cd.aCons (Cd.eVar 5) Cd.aNil)) Cd.aNil)))))) η h := id rfl
theorem B_law_v (η : Cd.Env) (h : Cd.Hep) : B_law η h = (Cd.sSeq (Cd.sSet 1 (Cd.eCall M_v_law_draws (Cd.aCons (Cd.eVar 0) Cd.aNil))) (Cd.sSeq (Cd.sSet 2 (Cd.eOp Cd.oPlus (Cd.eC (.int 1)) (Cd.eCall M_v_law_draw (Cd.aCons (Cd.eVar 1) (Cd.aCons (Cd.eBin Cd.oIdx (Cd.eKl Mir.K_law_1) (Cd.eCallB Cd.bIntA (Cd.aCons (Cd.eBin Cd.oEq (Cd.eCall M_v_law_draw (Cd.aCons (Cd.eVar 1) (Cd.aCons (Cd.eC (.int 5)) Cd.aNil))) (Cd.eC (.int 0))) Cd.aNil))) Cd.aNil))))) (Cd.sSeq (Cd.sSet 3 (Cd.eCall M_v_law_names (Cd.aCons (Cd.eVar 1) (Cd.aCons (Cd.eVar 2) Cd.aNil)))) (Cd.sSeq (Cd.sSet 4 (Cd.eLst Cd.aNil)) T_law_4)))) η h := id rfl
theorem M_law_v (vs : List Cd.Val) (h : Cd.Hep) : M_law vs h = Cd.fn 1 14 B_law vs h := id rfl
theorem lit_0 : Cd.S "-" = [45] := id rfl
theorem lit_1 : Cd.S "0" = [48] := id rfl
theorem lit_2 : Cd.S "0123456789" = [48, 49, 50, 51, 52, 53, 54, 55, 56, 57] := id rfl
theorem lit_3 : Cd.S "=" = [61] := id rfl
theorem lit_4 : Cd.S "a" = [97] := id rfl
theorem lit_5 : Cd.S "abcdefghijklmnopqrstuvwxyz" = [97, 98, 99, 100, 101, 102, 103, 104, 105, 106, 107, 108, 109, 110, 111, 112, 113, 114, 115, 116, 117, 118, 119, 120, 121, 122] := id rfl
theorem lit_6 : Cd.S "and" = [97, 110, 100] := id rfl
theorem lit_7 : Cd.S "at" = [97, 116] := id rfl
theorem lit_8 : Cd.S "b" = [98] := id rfl
theorem lit_9 : Cd.S "bad" = [98, 97, 100] := id rfl
theorem lit_10 : Cd.S "by" = [98, 121] := id rfl
theorem lit_11 : Cd.S "clear" = [99, 108, 101, 97, 114] := id rfl
theorem lit_12 : Cd.S "compare" = [99, 111, 109, 112, 97, 114, 101] := id rfl
theorem lit_13 : Cd.S "data" = [100, 97, 116, 97] := id rfl
theorem lit_14 : Cd.S "descending" = [100, 101, 115, 99, 101, 110, 100, 105, 110, 103] := id rfl
theorem lit_15 : Cd.S "digits" = [100, 105, 103, 105, 116, 115] := id rfl
theorem lit_16 : Cd.S "divide" = [100, 105, 118, 105, 100, 101] := id rfl
theorem lit_17 : Cd.S "else" = [101, 108, 115, 101] := id rfl
theorem lit_18 : Cd.S "end" = [101, 110, 100] := id rfl
theorem lit_19 : Cd.S "f" = [102] := id rfl
theorem lit_20 : Cd.S "files" = [102, 105, 108, 101, 115] := id rfl
theorem lit_21 : Cd.S "from" = [102, 114, 111, 109] := id rfl
theorem lit_22 : Cd.S "giving" = [103, 105, 118, 105, 110, 103] := id rfl
theorem lit_23 : Cd.S "if" = [105, 102] := id rfl
theorem lit_24 : Cd.S "input" = [105, 110, 112, 117, 116] := id rfl
theorem lit_25 : Cd.S "k" = [107] := id rfl
theorem lit_26 : Cd.S "move" = [109, 111, 118, 101] := id rfl
theorem lit_27 : Cd.S "not" = [110, 111, 116] := id rfl
theorem lit_28 : Cd.S "number" = [110, 117, 109, 98, 101, 114] := id rfl
theorem lit_29 : Cd.S "occurs" = [111, 99, 99, 117, 114, 115] := id rfl
theorem lit_30 : Cd.S "once" = [111, 110, 99, 101] := id rfl
theorem lit_31 : Cd.S "or" = [111, 114] := id rfl
theorem lit_32 : Cd.S "output" = [111, 117, 116, 112, 117, 116] := id rfl
theorem lit_33 : Cd.S "perform" = [112, 101, 114, 102, 111, 114, 109] := id rfl
theorem lit_34 : Cd.S "picture" = [112, 105, 99, 116, 117, 114, 101] := id rfl
theorem lit_35 : Cd.S "procedure" = [112, 114, 111, 99, 101, 100, 117, 114, 101] := id rfl
theorem lit_36 : Cd.S "program" = [112, 114, 111, 103, 114, 97, 109] := id rfl
theorem lit_37 : Cd.S "read" = [114, 101, 97, 100] := id rfl
theorem lit_38 : Cd.S "record" = [114, 101, 99, 111, 114, 100] := id rfl
theorem lit_39 : Cd.S "ref" = [114, 101, 102] := id rfl
theorem lit_40 : Cd.S "remainder" = [114, 101, 109, 97, 105, 110, 100, 101, 114] := id rfl
theorem lit_41 : Cd.S "rounded" = [114, 111, 117, 110, 100, 101, 100] := id rfl
theorem lit_42 : Cd.S "set" = [115, 101, 116] := id rfl
theorem lit_43 : Cd.S "show" = [115, 104, 111, 119] := id rfl
theorem lit_44 : Cd.S "sort" = [115, 111, 114, 116] := id rfl
theorem lit_45 : Cd.S "stop" = [115, 116, 111, 112] := id rfl
theorem lit_46 : Cd.S "t" = [116] := id rfl
theorem lit_47 : Cd.S "text" = [116, 101, 120, 116] := id rfl
theorem lit_48 : Cd.S "then" = [116, 104, 101, 110] := id rfl
theorem lit_49 : Cd.S "thru" = [116, 104, 114, 117] := id rfl
theorem lit_50 : Cd.S "times" = [116, 105, 109, 101, 115] := id rfl
theorem lit_51 : Cd.S "to" = [116, 111] := id rfl
theorem lit_52 : Cd.S "until" = [117, 110, 116, 105, 108] := id rfl
theorem lit_53 : Cd.S "value" = [118, 97, 108, 117, 101] := id rfl
theorem lit_54 : Cd.S "varying" = [118, 97, 114, 121, 105, 110, 103] := id rfl
theorem lit_55 : Cd.S "write" = [119, 114, 105, 116, 101] := id rfl
end Mir
local macro_rules | `(tactic| simp_all only [$ts,*]) => `(tactic| simp (disch := omega) only [↓Cd.eDComp_v, ↓Cd.sSetFld_v, ↓Cd.eMeth_v, ↓Cd.eMake_v, ↓Cd.eBin_v, ↓Cd.eUn_v, ↓Cd.eVar_v, ↓Cd.eC_eq, ↓Cd.aNil_eq, ↓Cd.aCons_v, ↓Cd.eTup_v, ↓Cd.eLst_v, ↓Cd.eCall_v, ↓Cd.eCallB_v, ↓Cd.eMth_v, ↓Cd.eIf_v, ↓Cd.eAnd_v, ↓Cd.eOr_v, ↓Cd.eNot_v, ↓Cd.eSl_v, ↓Cd.pNo_eq, ↓Cd.pSome_v, ↓Cd.eComp_v, ↓Cd.iVal_v, ↓Cd.iArgs_v, ↓Cd.tVal_v, ↓Cd.tAnd_v, ↓Cd.tOr_v, ↓Cd.tNot_v, ↓Cd.tTru_v, ↓Cd.sSeq_v, ↓Cd.sSet_v, ↓Cd.sIf_v, ↓Cd.sRet_v, ↓Cd.sRetN_eq, ↓Cd.sNop_eq, ↓Cd.sBrk_eq, ↓Cd.sCont_eq, ↓Cd.sExpr_v, ↓Cd.sAsg_v, ↓Cd.sAug_v, ↓Cd.sFor_v, ↓Cd.sWhile_t, ↓Cd.sRaise_eq, ↓Cd.sSetIx_v, ↓Cd.sSetDx_v, ↓Cd.sAugIx_v, ↓Cd.sTry_v, ↓Cd.sTryO_v, ↓Cd.eCat_v, ↓Cd.eCatW_v, ↓Cd.eRev_v, ↓Cd.eDGet2_v, ↓Cd.eDInt_v, ↓Cd.eDNew_eq, ↓Cd.eDTxt_eq, ↓Cd.eGc_v, ↓Cd.eFmt_v, ↓Cd.eJs_v, ↓Cd.jsL_nil, ↓Cd.jsL_cons, ↓Cd.eRepl_v, ↓Cd.eKl_v, ↓Cd.eOp_v, ↓Cd.eChain_v, ↓Cd.sSwp_v, ↓Cd.gcF_v, ↓Cd.fn_0, ↓Cd.fn_1, ↓Cd.fn_2, ↓Cd.fn_3, ↓Cd.fn_4, ↓Cd.fn_5, ↓Cd.fn_6, ↓Cd.fn_7, ↓Cd.bd_ok, ↓Cd.bd_exc, ↓Cd.tn_ok, ↓Cd.tn_exc, ↓Cd.sb_nx, ↓Cd.sb_ret, ↓Cd.sb_exc, ↓Cd.sb_brk, ↓Cd.sb_cont, ↓Cd.go_nx, ↓Cd.go_cont, ↓Cd.go_brk, ↓Cd.go_ret, ↓Cd.go_exc, ↓Cd.sel_t, ↓Cd.sel_f, Cd.mLjust_of, Cd.oSl_ref_v, Cd.fEnumS_v, Cd.bListA_str, Cd.bListA_tup, Cd.bListA_fl, Cd.bListA_ref, Cd.onI_ins, Cd.oFld_v, Cd.setF_v, Cd.lookF_nil, Cd.lookF_cons, Cd.putF_nil, Cd.putF_cons, Cd.insB_v, Cd.isIns_v, Cd.made_ok, Cd.made_exc, Cd.mem_one, Cd.gc_any0, Cd.bb_tf, Cd.bb_ft, Cd.SR.res_ret, Cd.SR.res_nx, Cd.SR.res_exc, Cd.get_0, Cd.get_S, Cd.ofO_some, Cd.bd_ok, Cd.bd_exc, Cd.tn_ok, Cd.tn_exc, Cd.sb_nx, Cd.sb_ret, Cd.sb_exc, Cd.sb_brk, Cd.sb_cont, Cd.go_nx, Cd.go_cont, Cd.go_brk, Cd.go_ret, Cd.go_exc, Cd.sel_t, Cd.sel_f, Cd.sel_not, Cd.need_t, Cd.tB_bl, Cd.tI_int, Cd.tS_str, Cd.ofP_some, Cd.asg_some, Cd.puts_some, Cd.swp_tup, Cd.truth_bl, Cd.truth_non, Cd.truth_int, Cd.truth_tup, Cd.gTpl_eq, Cd.gsCons_eq, Cd.gsNil_eq, Cd.gNam_eq, Cd.typ_int, Cd.typ_bl, Cd.typ_str, Cd.typ_tup, Cd.typ_fl, Cd.typ_non, Cd.typ_new, Cd.oEq_int, Cd.oEq_str, Cd.oEq_bl, Cd.oNe_int, Cd.oNe_str, Cd.oNe_bl, Cd.oAdd_int, Cd.oSub_int, Cd.oIAdd_int, Cd.oLt_int, Cd.oGt_int, Cd.oLe_int, Cd.oGe_int, Cd.oLt_str, Cd.oGt_str, Cd.oIsN_eq, Cd.oNotN_eq, Cd.isNon, Cd.oNeg_int, Cd.oIdx_tup, Cd.oIdx_fl, Cd.atI_zero, Cd.atI_one, Cd.atI_two, Cd.atI_three, Cd.atI_four, Cd.atI_five, Cd.atI_six, Cd.atI_seven, Cd.atI_eight, Cd.atI_nine, Cd.bLen_tup, Cd.bLen_fl, Cd.bLen_str_v, Cd.bLen_new, Cd.bInt_int, Cd.bInt_bl, Cd.bMax2_int, Cd.bMin2_int, Cd.bOrd_ch, Cd.oIn_ch, Cd.oNin_ch, Cd.items_tup, Cd.items_fl, Cd.items_str, Cd.szOk_of, Cd.oMul_l, Cd.oMul_r, Cd.oDiv_s, Cd.oMod_s, Cd.oPow_s, Cd.oPlus_int, Cd.oPlus_str, Cd.oPlus_tup, Cd.oPlus_fl, Cd.bIntA_int, Cd.bIntA_bl, Cd.bIntA_str, Cd.oAdd_str_v, Cd.oIAdd_str_v, Cd.oAddW_tup_v, Cd.oSl_str_v, Cd.oSl_tup_v, Cd.oSl_fl_v, Cd.truth_str_v, Cd.truth_fl_v, Cd.needO_t, Cd.mJoin_fl, Cd.mJoin_new, Cd.bTuple_fl, Cd.bTuple_tup, Cd.bTuple_new, Cd.bList_tup, Cd.bList_fl, Cd.oCatW_fl, Cd.itsL_fl, Cd.itsL_new, Cd.oRev_fl, Cd.oRev_new, Cd.cutTo1, Cd.cutFrom1, Cd.cutFrom0, Cd.cutToN1, Cd.cutToN2, Cd.cutFromN1, Cd.cutFromN2, Cd.cutAll, Cd.cutTo, Cd.cutFrom, Cd.eRepl1, Cd.isDct_new, Cd.oDGet2_new, Cd.dGet_v, Cd.dGet_nil, Cd.getD_some, Cd.getD_none, Cd.isKey_int, Cd.isKey_str, Cd.keyEq_int, Cd.keyEq_str, Cd.tryR_isE, Cd.hitR_v, Cd.lookS_cons, Cd.tryO_exc, Cd.hitO_t, Cd.hitO_f, Cd.quiet_nx, Cd.quiet_ret, Cd.onC_dct, Cd.oDIdx_ref_v, Cd.oDIn_ref_v, Cd.oDNin_ref_v, Cd.oDGet2_ref_v, Cd.setDx_ref_v, Cd.onL_lst, Cd.oIdx_ref_v, Cd.oIdxL_ref_v, Cd.bLen_ref_v, Cd.bTuple_ref_v, Cd.bList_ref_v, Cd.mAppend_ref_v, Cd.setIx_ref_v, Cd.typ_ref_v, Cd.typO_lst, Cd.typO_dct, Cd.set_get_v, Cd.set_get_ne, Cd.get_app_v, Cd.ixN_pos, Cd.ixN_neg, Cd.gc_set_v, Cd.gc_set0_v, Cd.gc_topnew_v, Cd.gc_set2, Cd.gc_set20, Cd.gcX_setnew, Cd.gcX_setnew1, Cd.gc_setnew, Cd.gc_setnew1, Cd.set_app_w, Cd.bndO_lst, Cd.oNotB_v, Cd.oTimes_int, Cd.mulOk_tl, Cd.mulOk_tr, Cd.oTimes_str, Cd.repOk_1, Cd.oTimes_ref, Cd.repL_one, Cd.rep_one, Cd.oIsB_v, Cd.isB_bl, Cd.isB_tup, Cd.isB_int, Cd.isB_str, Cd.isB_non, Cd.mLstrip_v, Cd.fZipS_v, Cd.wipe_v, Cd.wipe_0, Cd.bndVs_chs, Cd.mJoin_chs, Cd.mJoin_chsN, Cd.lb_nn, Cd.lb_nc, Cd.lb_cn, Cd.lb_cc, Cd.lb_self, Cd.nb_self, Cd.ib_self, Cd.bb_self, Cd.beqN_t, Cd.beqN_f, Cd.mStarts_v, Cd.mEnds_v, Cd.oMulS_str, Cd.oIsi_eq, Cd.isT, Cd.beqI_t, Cd.beqI_f, Cd.gc_int, Cd.gc_str, Cd.gc_bl, Cd.gc_non, Cd.gc_tup, Cd.gc_fl, Cd.gc_int0, Cd.gc_str0, Cd.gc_bl0, Cd.gc_non0, Cd.gc_tup0, Cd.gc_fl0, Cd.gc_new_v, Cd.gc_exc_v, Cd.gc_exc0, Cd.bndV_non, Cd.bndV_bl, Cd.bndV_int, Cd.bndV_str, Cd.bndV_tup, Cd.bndV_fl, Cd.bndV_ref, Cd.bndVs_nil, Cd.bndVs_cons, Cd.bndVs_app, Cd.bndVs_int, Cd.bndVs_str, Cd.forL_0, Cd.tryR_nx, Cd.tryR_ret, Cd.tryR_brk, Cd.tryR_cont, Cd.tryO_nx, Cd.tryO_ret, Cd.append_w, Cd.set_new, Cd.get_new, Cd.fRng1_s, Option.isNone_none, Option.isNone_some, eq_self, List.flatten_nil, Nat.sub_self, List.set_set, List.length_set, List.map_cons, List.map_nil, decide_true, decide_false, and_true, true_and, and_false, false_and, Option.join_some, Option.bind_some, Option.map_some, List.set_cons_succ, List.set_cons_zero, if_true, Bool.false_eq_true, if_false, Bool.not_true, Bool.not_false, Bool.and_true, Bool.true_and, Bool.and_false, Bool.false_and, Bool.or_true, Bool.true_or, Bool.or_false, Bool.false_or, List.replicate, decide_eq_true, decide_eq_false, List.length_cons, List.length_nil, List.length_append, List.length_map, List.length_replicate, Nat.reduceAdd, Nat.reduceBEq, Nat.reduceSub, List.take_succ_cons, List.take_zero, List.take_nil, List.drop_succ_cons, List.drop_zero, List.drop_nil, Nat.reduceLeDiff, Int.reduceNeg, Int.reduceToNat, Int.reducePow, Int.reduceLT, Int.reduceLE, Int.reduceMod, Int.reduceDiv, Int.reduceEq, Int.reduceBEq, Nat.reduceMul, Nat.reduceLT, Int.reduceAdd, Int.reduceSub, Int.reduceMul, List.cons_append, List.nil_append, List.append_nil, Int.toNat_natCast, String.reduceBEq, String.reduceEq, reduceCtorEq, ↓reduceIte, Mir.lit_0, Mir.lit_1, Mir.lit_2, Mir.lit_3, Mir.lit_4, Mir.lit_5, Mir.lit_6, Mir.lit_7, Mir.lit_8, Mir.lit_9, Mir.lit_10, Mir.lit_11, Mir.lit_12, Mir.lit_13, Mir.lit_14, Mir.lit_15, Mir.lit_16, Mir.lit_17, Mir.lit_18, Mir.lit_19, Mir.lit_20, Mir.lit_21, Mir.lit_22, Mir.lit_23, Mir.lit_24, Mir.lit_25, Mir.lit_26, Mir.lit_27, Mir.lit_28, Mir.lit_29, Mir.lit_30, Mir.lit_31, Mir.lit_32, Mir.lit_33, Mir.lit_34, Mir.lit_35, Mir.lit_36, Mir.lit_37, Mir.lit_38, Mir.lit_39, Mir.lit_40, Mir.lit_41, Mir.lit_42, Mir.lit_43, Mir.lit_44, Mir.lit_45, Mir.lit_46, Mir.lit_47, Mir.lit_48, Mir.lit_49, Mir.lit_50, Mir.lit_51, Mir.lit_52, Mir.lit_53, Mir.lit_54, Mir.lit_55, ↓Mir.B_v_law_draw_v, ↓Mir.B_v_law_draws_v, ↓Mir.B_v_law_reserved_v, ↓Mir.B_v_law_name_v, ↓Mir.T_v_law_name_2_v, ↓Mir.B_v_law_names_v, ↓Mir.B_v_law_same_v, ↓Mir.T_v_law_same_1_v, ↓Mir.B_v_law_perform_v, ↓Mir.T_v_law_perform_1_v, ↓Mir.B_v_law_block_v, ↓Mir.B_v_law_statement_v, ↓Mir.T_v_law_statement_1_v, ↓Mir.T_v_law_statement_2_v, ↓Mir.T_v_law_statement_3_v, ↓Mir.B_performed_v, ↓Mir.B_graph_of_v, ↓Mir.B_law_v, ↓Mir.T_law_2_v, ↓Mir.T_law_4_v, $ts,*])
local macro_rules | `(tactic| simpa only [$ts,*]) => `(tactic| simp (disch := omega) only [↓Cd.eDComp_v, ↓Cd.sSetFld_v, ↓Cd.eMeth_v, ↓Cd.eMake_v, ↓Cd.eBin_v, ↓Cd.eUn_v, ↓Cd.eVar_v, ↓Cd.eC_eq, ↓Cd.aNil_eq, ↓Cd.aCons_v, ↓Cd.eTup_v, ↓Cd.eLst_v, ↓Cd.eCall_v, ↓Cd.eCallB_v, ↓Cd.eMth_v, ↓Cd.eIf_v, ↓Cd.eAnd_v, ↓Cd.eOr_v, ↓Cd.eNot_v, ↓Cd.eSl_v, ↓Cd.pNo_eq, ↓Cd.pSome_v, ↓Cd.eComp_v, ↓Cd.iVal_v, ↓Cd.iArgs_v, ↓Cd.tVal_v, ↓Cd.tAnd_v, ↓Cd.tOr_v, ↓Cd.tNot_v, ↓Cd.tTru_v, ↓Cd.sSeq_v, ↓Cd.sSet_v, ↓Cd.sIf_v, ↓Cd.sRet_v, ↓Cd.sRetN_eq, ↓Cd.sNop_eq, ↓Cd.sBrk_eq, ↓Cd.sCont_eq, ↓Cd.sExpr_v, ↓Cd.sAsg_v, ↓Cd.sAug_v, ↓Cd.sFor_v, ↓Cd.sWhile_t, ↓Cd.sRaise_eq, ↓Cd.sSetIx_v, ↓Cd.sSetDx_v, ↓Cd.sAugIx_v, ↓Cd.sTry_v, ↓Cd.sTryO_v, ↓Cd.eCat_v, ↓Cd.eCatW_v, ↓Cd.eRev_v, ↓Cd.eDGet2_v, ↓Cd.eDInt_v, ↓Cd.eDNew_eq, ↓Cd.eDTxt_eq, ↓Cd.eGc_v, ↓Cd.eFmt_v, ↓Cd.eJs_v, ↓Cd.jsL_nil, ↓Cd.jsL_cons, ↓Cd.eRepl_v, ↓Cd.eKl_v, ↓Cd.eOp_v, ↓Cd.eChain_v, ↓Cd.sSwp_v, ↓Cd.gcF_v, ↓Cd.fn_0, ↓Cd.fn_1, ↓Cd.fn_2, ↓Cd.fn_3, ↓Cd.fn_4, ↓Cd.fn_5, ↓Cd.fn_6, ↓Cd.fn_7, ↓Cd.bd_ok, ↓Cd.bd_exc, ↓Cd.tn_ok, ↓Cd.tn_exc, ↓Cd.sb_nx, ↓Cd.sb_ret, ↓Cd.sb_exc, ↓Cd.sb_brk, ↓Cd.sb_cont, ↓Cd.go_nx, ↓Cd.go_cont, ↓Cd.go_brk, ↓Cd.go_ret, ↓Cd.go_exc, ↓Cd.sel_t, ↓Cd.sel_f, Cd.mLjust_of, Cd.oSl_ref_v, Cd.fEnumS_v, Cd.bListA_str, Cd.bListA_tup, Cd.bListA_fl, Cd.bListA_ref, Cd.onI_ins, Cd.oFld_v, Cd.setF_v, Cd.lookF_nil, Cd.lookF_cons, Cd.putF_nil, Cd.putF_cons, Cd.insB_v, Cd.isIns_v, Cd.made_ok, Cd.made_exc, Cd.mem_one, Cd.gc_any0, Cd.bb_tf, Cd.bb_ft, Cd.SR.res_ret, Cd.SR.res_nx, Cd.SR.res_exc, Cd.get_0, Cd.get_S, Cd.ofO_some, Cd.bd_ok, Cd.bd_exc, Cd.tn_ok, Cd.tn_exc, Cd.sb_nx, Cd.sb_ret, Cd.sb_exc, Cd.sb_brk, Cd.sb_cont, Cd.go_nx, Cd.go_cont, Cd.go_brk, Cd.go_ret, Cd.go_exc, Cd.sel_t, Cd.sel_f, Cd.sel_not, Cd.need_t, Cd.tB_bl, Cd.tI_int, Cd.tS_str, Cd.ofP_some, Cd.asg_some, Cd.puts_some, Cd.swp_tup, Cd.truth_bl, Cd.truth_non, Cd.truth_int, Cd.truth_tup, Cd.gTpl_eq, Cd.gsCons_eq, Cd.gsNil_eq, Cd.gNam_eq, Cd.typ_int, Cd.typ_bl, Cd.typ_str, Cd.typ_tup, Cd.typ_fl, Cd.typ_non, Cd.typ_new, Cd.oEq_int, Cd.oEq_str, Cd.oEq_bl, Cd.oNe_int, Cd.oNe_str, Cd.oNe_bl, Cd.oAdd_int, Cd.oSub_int, Cd.oIAdd_int, Cd.oLt_int, Cd.oGt_int, Cd.oLe_int, Cd.oGe_int, Cd.oLt_str, Cd.oGt_str, Cd.oIsN_eq, Cd.oNotN_eq, Cd.isNon, Cd.oNeg_int, Cd.oIdx_tup, Cd.oIdx_fl, Cd.atI_zero, Cd.atI_one, Cd.atI_two, Cd.atI_three, Cd.atI_four, Cd.atI_five, Cd.atI_six, Cd.atI_seven, Cd.atI_eight, Cd.atI_nine, Cd.bLen_tup, Cd.bLen_fl, Cd.bLen_str_v, Cd.bLen_new, Cd.bInt_int, Cd.bInt_bl, Cd.bMax2_int, Cd.bMin2_int, Cd.bOrd_ch, Cd.oIn_ch, Cd.oNin_ch, Cd.items_tup, Cd.items_fl, Cd.items_str, Cd.szOk_of, Cd.oMul_l, Cd.oMul_r, Cd.oDiv_s, Cd.oMod_s, Cd.oPow_s, Cd.oPlus_int, Cd.oPlus_str, Cd.oPlus_tup, Cd.oPlus_fl, Cd.bIntA_int, Cd.bIntA_bl, Cd.bIntA_str, Cd.oAdd_str_v, Cd.oIAdd_str_v, Cd.oAddW_tup_v, Cd.oSl_str_v, Cd.oSl_tup_v, Cd.oSl_fl_v, Cd.truth_str_v, Cd.truth_fl_v, Cd.needO_t, Cd.mJoin_fl, Cd.mJoin_new, Cd.bTuple_fl, Cd.bTuple_tup, Cd.bTuple_new, Cd.bList_tup, Cd.bList_fl, Cd.oCatW_fl, Cd.itsL_fl, Cd.itsL_new, Cd.oRev_fl, Cd.oRev_new, Cd.cutTo1, Cd.cutFrom1, Cd.cutFrom0, Cd.cutToN1, Cd.cutToN2, Cd.cutFromN1, Cd.cutFromN2, Cd.cutAll, Cd.cutTo, Cd.cutFrom, Cd.eRepl1, Cd.isDct_new, Cd.oDGet2_new, Cd.dGet_v, Cd.dGet_nil, Cd.getD_some, Cd.getD_none, Cd.isKey_int, Cd.isKey_str, Cd.keyEq_int, Cd.keyEq_str, Cd.tryR_isE, Cd.hitR_v, Cd.lookS_cons, Cd.tryO_exc, Cd.hitO_t, Cd.hitO_f, Cd.quiet_nx, Cd.quiet_ret, Cd.onC_dct, Cd.oDIdx_ref_v, Cd.oDIn_ref_v, Cd.oDNin_ref_v, Cd.oDGet2_ref_v, Cd.setDx_ref_v, Cd.onL_lst, Cd.oIdx_ref_v, Cd.oIdxL_ref_v, Cd.bLen_ref_v, Cd.bTuple_ref_v, Cd.bList_ref_v, Cd.mAppend_ref_v, Cd.setIx_ref_v, Cd.typ_ref_v, Cd.typO_lst, Cd.typO_dct, Cd.set_get_v, Cd.set_get_ne, Cd.get_app_v, Cd.ixN_pos, Cd.ixN_neg, Cd.gc_set_v, Cd.gc_set0_v, Cd.gc_topnew_v, Cd.gc_set2, Cd.gc_set20, Cd.gcX_setnew, Cd.gcX_setnew1, Cd.gc_setnew, Cd.gc_setnew1, Cd.set_app_w, Cd.bndO_lst, Cd.oNotB_v, Cd.oTimes_int, Cd.mulOk_tl, Cd.mulOk_tr, Cd.oTimes_str, Cd.repOk_1, Cd.oTimes_ref, Cd.repL_one, Cd.rep_one, Cd.oIsB_v, Cd.isB_bl, Cd.isB_tup, Cd.isB_int, Cd.isB_str, Cd.isB_non, Cd.mLstrip_v, Cd.fZipS_v, Cd.wipe_v, Cd.wipe_0, Cd.bndVs_chs, Cd.mJoin_chs, Cd.mJoin_chsN, Cd.lb_nn, Cd.lb_nc, Cd.lb_cn, Cd.lb_cc, Cd.lb_self, Cd.nb_self, Cd.ib_self, Cd.bb_self, Cd.beqN_t, Cd.beqN_f, Cd.mStarts_v, Cd.mEnds_v, Cd.oMulS_str, Cd.oIsi_eq, Cd.isT, Cd.beqI_t, Cd.beqI_f, Cd.gc_int, Cd.gc_str, Cd.gc_bl, Cd.gc_non, Cd.gc_tup, Cd.gc_fl, Cd.gc_int0, Cd.gc_str0, Cd.gc_bl0, Cd.gc_non0, Cd.gc_tup0, Cd.gc_fl0, Cd.gc_new_v, Cd.gc_exc_v, Cd.gc_exc0, Cd.bndV_non, Cd.bndV_bl, Cd.bndV_int, Cd.bndV_str, Cd.bndV_tup, Cd.bndV_fl, Cd.bndV_ref, Cd.bndVs_nil, Cd.bndVs_cons, Cd.bndVs_app, Cd.bndVs_int, Cd.bndVs_str, Cd.forL_0, Cd.tryR_nx, Cd.tryR_ret, Cd.tryR_brk, Cd.tryR_cont, Cd.tryO_nx, Cd.tryO_ret, Cd.append_w, Cd.set_new, Cd.get_new, Cd.fRng1_s, Option.isNone_none, Option.isNone_some, eq_self, List.flatten_nil, Nat.sub_self, List.set_set, List.length_set, List.map_cons, List.map_nil, decide_true, decide_false, and_true, true_and, and_false, false_and, Option.join_some, Option.bind_some, Option.map_some, List.set_cons_succ, List.set_cons_zero, if_true, Bool.false_eq_true, if_false, Bool.not_true, Bool.not_false, Bool.and_true, Bool.true_and, Bool.and_false, Bool.false_and, Bool.or_true, Bool.true_or, Bool.or_false, Bool.false_or, List.replicate, decide_eq_true, decide_eq_false, List.length_cons, List.length_nil, List.length_append, List.length_map, List.length_replicate, Nat.reduceAdd, Nat.reduceBEq, Nat.reduceSub, List.take_succ_cons, List.take_zero, List.take_nil, List.drop_succ_cons, List.drop_zero, List.drop_nil, Nat.reduceLeDiff, Int.reduceNeg, Int.reduceToNat, Int.reducePow, Int.reduceLT, Int.reduceLE, Int.reduceMod, Int.reduceDiv, Int.reduceEq, Int.reduceBEq, Nat.reduceMul, Nat.reduceLT, Int.reduceAdd, Int.reduceSub, Int.reduceMul, List.cons_append, List.nil_append, List.append_nil, Int.toNat_natCast, String.reduceBEq, String.reduceEq, reduceCtorEq, ↓reduceIte, Mir.lit_0, Mir.lit_1, Mir.lit_2, Mir.lit_3, Mir.lit_4, Mir.lit_5, Mir.lit_6, Mir.lit_7, Mir.lit_8, Mir.lit_9, Mir.lit_10, Mir.lit_11, Mir.lit_12, Mir.lit_13, Mir.lit_14, Mir.lit_15, Mir.lit_16, Mir.lit_17, Mir.lit_18, Mir.lit_19, Mir.lit_20, Mir.lit_21, Mir.lit_22, Mir.lit_23, Mir.lit_24, Mir.lit_25, Mir.lit_26, Mir.lit_27, Mir.lit_28, Mir.lit_29, Mir.lit_30, Mir.lit_31, Mir.lit_32, Mir.lit_33, Mir.lit_34, Mir.lit_35, Mir.lit_36, Mir.lit_37, Mir.lit_38, Mir.lit_39, Mir.lit_40, Mir.lit_41, Mir.lit_42, Mir.lit_43, Mir.lit_44, Mir.lit_45, Mir.lit_46, Mir.lit_47, Mir.lit_48, Mir.lit_49, Mir.lit_50, Mir.lit_51, Mir.lit_52, Mir.lit_53, Mir.lit_54, Mir.lit_55, ↓Mir.B_v_law_draw_v, ↓Mir.B_v_law_draws_v, ↓Mir.B_v_law_reserved_v, ↓Mir.B_v_law_name_v, ↓Mir.B_v_law_names_v, ↓Mir.B_v_law_same_v, ↓Mir.B_v_law_perform_v, ↓Mir.B_v_law_block_v, ↓Mir.B_v_law_statement_v, ↓Mir.B_performed_v, ↓Mir.B_graph_of_v, ↓Mir.B_law_v, $ts,*])

set_option maxRecDepth 100000
set_option maxHeartbeats 1000000
set_option linter.all false
/-! Dw: the laws' draws, and their comparison of data -/
namespace Law
open Cd Mir
/-- the state of what is drawn from -/
structure DS where
  cs : List Int
  a : Nat
  r : Nat
  s : Nat
def DS.o (x : DS) : Obj := .lst [.fl (x.cs.map .int), .int x.a, .int x.r, .int x.s]
theorem DS.bnd (x : DS) (k : Nat) : bndO k x.o = true := by
  unfold DS.o
  rw [bndO_lst, bndVs_cons, bndV_fl, bndVs_int]
  rfl
theorem emod_nat {x : Int} {n : Int} (hn : 0 < n) : ∃ k : Nat, x % n = k := ⟨(x % n).toNat, by have := Int.emod_nonneg x (Int.ne_of_gt hn); omega⟩
theorem draw_ex (x : DS) (n : Int) (nn : 0 < n ∧ n < 2 ^ 62) :
    ∃ (v : Int) (x' : DS), (∀ (h : Hep) (d : Nat), h[d]? = some x.o → M_v_law_draw [.ref d, .int n] h = .ok (.int v) (h.set d x'.o)) ∧ 0 ≤ v ∧ v < n := by
  obtain ⟨cs, a, r, s⟩ := x
  obtain ⟨n0, n1⟩ := nn
  obtain ⟨v2, hv2⟩ := emod_nat (x := ((((s : Int) * 69621 + 7) % 2147483629) / 11)) n0
  obtain ⟨s2, hs2⟩ := emod_nat (x := (s : Int) * 69621 + 7) (n := 2147483629) (by decide)
  have lt2 : (v2 : Int) < n := by rw [← hv2]; exact Int.emod_lt_of_pos _ n0
  have lenc : (cs.map Val.int).length = cs.length := List.length_map ..
  by_cases r0 : r = 0
  · subst r0
    by_cases al : a < cs.length
    · have ec : atI (cs.map Val.int) (a : Int) = some (.int cs[a]) := atI_of (by omega) (by rw [Int.toNat_natCast, List.getElem?_map, List.getElem?_eq_getElem al]; rfl)
      generalize cs[a] = c at ec
      obtain ⟨s1, hs1⟩ := emod_nat (x := (s : Int) * 48271 + c + 13) (n := 2147483647) (by decide)
      by_cases big : 1000000000000000000 ≤ c
      · obtain ⟨v, hv⟩ := emod_nat (x := c) n0
        have ltv : (v : Int) < n := by rw [← hv]; exact Int.emod_lt_of_pos _ n0
        obtain ⟨q, hq⟩ : ∃ q : Nat, c / n = q := ⟨(c / n).toNat, by have := Int.ediv_nonneg (show 0 ≤ c by omega) (show 0 ≤ n by omega); omega⟩
        refine ⟨v, ⟨cs, a + 1, q, s1⟩, fun h d e => ?_, by omega, ltv⟩
        unfold DS.o at *
        simp_all only [M_v_law_draw_v, e, ec, lenc, hs1, hv, hq, Int.natCast_add, Int.natCast_one]
      · obtain ⟨v, hv⟩ := emod_nat (x := (((s1 : Int) * 69621 + 7) % 2147483629) / 11) n0
        have ltv : (v : Int) < n := by rw [← hv]; exact Int.emod_lt_of_pos _ n0
        obtain ⟨s3, hs3⟩ := emod_nat (x := (s1 : Int) * 69621 + 7) (n := 2147483629) (by decide)
        rw [hs3] at hv
        refine ⟨v, ⟨cs, a + 1, 0, s3⟩, fun h d e => ?_, by omega, ltv⟩
        unfold DS.o at *
        simp_all only [M_v_law_draw_v, e, ec, lenc, hs1, hv, hs3, Int.natCast_add, Int.natCast_one]
    · rw [hs2] at hv2
      refine ⟨v2, ⟨cs, a, 0, s2⟩, fun h d e => ?_, by omega, lt2⟩
      unfold DS.o at *
      simp_all only [M_v_law_draw_v, e, lenc, hv2, hs2]
  · have rp : (0 : Int) < r := by omega
    have rne : ((r : Int) == 0) = false := beq_false_of_ne (by omega)
    obtain ⟨v, hv⟩ := emod_nat (x := (r : Int)) n0
    have ltv : (v : Int) < n := by rw [← hv]; exact Int.emod_lt_of_pos _ n0
    obtain ⟨q, hq⟩ : ∃ q : Nat, (r : Int) / n = q := ⟨((r : Int) / n).toNat, by have := Int.ediv_nonneg (show 0 ≤ (r : Int) by omega) (show 0 ≤ n by omega); omega⟩
    refine ⟨v, ⟨cs, a, q, s⟩, fun h d e => ?_, by omega, ltv⟩
    unfold DS.o at *
    simp_all only [M_v_law_draw_v, e, lenc, hv, hq]
open Classical in
/-- what is drawn, and the state behind it -/
noncomputable def dv (x : DS) (n : Int) : Int := if q : 0 < n ∧ n < 2 ^ 62 then (draw_ex x n q).choose else 0
open Classical in
noncomputable def dn (x : DS) (n : Int) : DS := if q : 0 < n ∧ n < 2 ^ 62 then (draw_ex x n q).choose_spec.choose else x
theorem dv_bd (x : DS) (n : Int) (n0 : 0 < n) (n1 : n < 2 ^ 62) : 0 ≤ dv x n ∧ dv x n < n := by
  unfold dv
  rw [dif_pos ⟨n0, n1⟩]
  exact (draw_ex x n ⟨n0, n1⟩).choose_spec.choose_spec.2
/-- a drawn number, as such -/
theorem dv_nat (x : DS) (n : Int) (n0 : 0 < n) (n1 : n < 2 ^ 62) : ∃ v : Nat, dv x n = v ∧ (v : Int) < n := by
  obtain ⟨a, b⟩ := dv_bd x n n0 n1
  exact ⟨(dv x n).toNat, by omega, by omega⟩
open Classical in
noncomputable def decDS (o : Option Obj) : Option DS := if q : ∃ x : DS, o = some x.o then some q.choose else none
theorem map_int_inj : ∀ {l m : List Int}, l.map Val.int = m.map Val.int → l = m
  | [], [], _ => rfl
  | [], _ :: _, e => by cases e
  | _ :: _, [], e => by cases e
  | a :: l, b :: m, e => by
    rw [List.map_cons, List.map_cons, List.cons.injEq] at e
    rw [Val.int.inj e.1, map_int_inj e.2]
theorem DS.o_inj {x y : DS} (e : x.o = y.o) : x = y := by
  obtain ⟨c1, a1, r1, s1⟩ := x
  obtain ⟨c2, a2, r2, s2⟩ := y
  unfold DS.o at e
  simp only [Obj.lst.injEq, List.cons.injEq, Val.fl.injEq, Val.int.injEq, Int.natCast_inj, and_true] at e
  obtain ⟨e1, e2, e3, e4⟩ := e
  rw [map_int_inj e1, e2, e3, e4]
theorem decDS_o (x : DS) : decDS (some x.o) = some x := by
  have q : ∃ y : DS, some x.o = some y.o := ⟨x, rfl⟩
  unfold decDS
  rw [dif_pos q]
  congr 1
  exact (DS.o_inj (Option.some.inj q.choose_spec)).symm
noncomputable def drawX (n : Int) (h : Hep) (d : Nat) : Res Val := M_v_law_draw [.ref d, .int n] h
noncomputable def onD (x : Option DS) (n : Int) (h : Hep) (d : Nat) : Res Val := match x with
  | some x => sel (decide (0 < n ∧ n < 2 ^ 62)) (.ok (.int (dv x n)) (h.set d (dn x n).o)) (drawX n h d) .mk
  | none => drawX n h d
theorem onD_some (x : DS) (n : Int) (h : Hep) (d : Nat) : onD (some x) n h d = sel (decide (0 < n ∧ n < 2 ^ 62)) (.ok (.int (dv x n)) (h.set d (dn x n).o)) (drawX n h d) .mk := id rfl
theorem draw_v (n : Int) (h : Hep) (d : Nat) : M_v_law_draw [.ref d, .int n] h = onD (decDS (h[d]?)) n h d := by
  unfold onD
  cases e : decDS (h[d]?) with
  | none => rfl
  | some x =>
    simp only
    have ex : h[d]? = some x.o := by
      unfold decDS at e
      split at e
      · rename_i q; cases e; exact q.choose_spec
      · cases e
    by_cases q : 0 < n ∧ n < 2 ^ 62
    · rw [decide_eq_true q, sel_t]
      unfold dv dn
      rw [dif_pos q, dif_pos q]
      exact (draw_ex x n q).choose_spec.choose_spec.1 h d ex
    · rw [decide_eq_false q, sel_f]
      rfl
theorem draws_ok (ns : List Int) (h : Hep) : M_v_law_draws [.fl (ns.map .int)] h = .ok (.ref h.length) (h ++ [(DS.mk ns 0 0 1).o]) := by
  unfold DS.o
  simp_all only [M_v_law_draws_v]
  rfl
/-- data that the laws compare -/
def sd : Nat → Val → Bool
  | 0, _ => false
  | n + 1, .tup l => l.all (sd n)
  | _ + 1, .str _ => true
  | _ + 1, .int _ => true
  | _ + 1, .bl _ => true
  | _ + 1, .non => true
  | _ + 1, _ => false
mutual
/-- no tuple is too long -/
def smallV : Val → Bool
  | .tup l => decide (l.length < 1000000) && smallVs l
  | .non => true
  | .bl _ => true
  | .int _ => true
  | .str _ => true
  | .fl _ => true
  | .ref _ => true
  | .exo _ => true
def smallVs : List Val → Bool
  | [] => true
  | v :: l => smallV v && smallVs l
end
theorem smallVs_mem : ∀ {l : List Val}, smallVs l = true → ∀ v ∈ l, smallV v = true
  | [], _, v, hv => by cases hv
  | w :: l, h, v, hv => by
    rw [smallVs, Bool.and_eq_true] at h
    rcases List.mem_cons.mp hv with rfl | hv
    · exact h.1
    · exact smallVs_mem h.2 v hv
theorem same_n : ∀ (n : Nat) (v : Val) (h : Hep), sd n v = true → smallV v = true → M_v_law_same_n n [v, v] h = .ok (.bl true) h
  | 0, v, h, s, _ => by cases s
  | n + 1, .non, h, _, _ => by simp_all only [M_v_law_same_v]
  | n + 1, .bl b, h, _, _ => by simp_all only [M_v_law_same_v]
  | n + 1, .int i, h, _, _ => by simp_all only [M_v_law_same_v]
  | n + 1, .str t, h, _, _ => by simp_all only [M_v_law_same_v]
  | n + 1, .tup l, h, s, sm => by
    rw [sd, List.all_eq_true] at s
    rw [smallV, Bool.and_eq_true] at sm
    have ll := of_decide_eq_true sm.1
    have lo := forL_fold (j := 2) (chk := fun _ => true) (b := L_v_law_same_2 (M_v_law_same_n n)) (fun (q : Unit) _ => q) (fun _ w => [some (.tup l), some (.tup l), w]) (fun _ => h) (fun _ => True) (fun _ _ _ => rfl) (fun _ _ => rfl) (rng 0 l.length) () none trivial fun q x _ hx => ⟨trivial, .inl (by
      unfold rng at hx
      obtain ⟨i, hi, rfl⟩ := List.mem_map.mp hx
      have hi := List.mem_range.mp hi
      have ex : atI l (0 + (i : Int)) = some l[i] := by rw [Int.zero_add]; exact atI_of (by omega) (by rw [Int.toNat_natCast, List.getElem?_eq_getElem hi])
      have ih := same_n n l[i] h (s _ (List.getElem_mem hi)) (smallVs_mem sm.2 _ (List.getElem_mem hi))
      simp_all only [L_v_law_same_2_v, ex, ih])⟩
    simp_all only [M_v_law_same_v, lo]
  | n + 1, .fl l, h, s, _ => by cases s
  | n + 1, .ref l, h, s, _ => by cases s
  | n + 1, .exo l, h, s, _ => by cases s
theorem same_ok (v : Val) (h : Hep) (s : sd 6 v = true) (sm : smallV v = true) : M_v_law_same [v, v] h = .ok (.bl true) h := same_n 6 v h s sm
end Law

set_option maxRecDepth 100000
set_option maxHeartbeats 1000000
set_option linter.all false
/-! Nm: names that the laws draw -/
namespace Law
open Cd Mir Classical
theorem dlt {h : Hep} {d : Nat} {o : Obj} (hd : h[d]? = some o) : d < h.length := by
  rcases Nat.lt_or_ge d h.length with q | q
  · exact q
  · rw [List.getElem?_eq_none q] at hd; cases hd
theorem sget {h : Hep} {d : Nat} {o : Obj} (hd : h[d]? = some o) (u : Obj) : (h.set d u)[d]? = some u := List.getElem?_set_self (dlt hd)
theorem sset (h : Hep) (d : Nat) (o u : Obj) : (h.set d o).set d u = h.set d u := List.set_set ..
theorem sself {h : Hep} {d : Nat} {o : Obj} (hd : h[d]? = some o) : h.set d o = h := by
  rw [List.getElem?_eq_some_iff] at hd
  obtain ⟨l, e⟩ := hd
  rw [← e]; exact List.set_getElem_self l
theorem qd (n : Int) (h0 : 0 < n) (h1 : n < 2 ^ 62) : decide ((0 : Int) < n ∧ n < 2 ^ 62) = true := decide_eq_true ⟨h0, h1⟩
theorem idx_str {s : List Nat} {i : Int} (l : s.length ≤ 16777216) (h0 : 0 ≤ i) (h1 : i < s.length) : ∃ c, ∀ h, oIdx h (.str s) (.int i) = some (.str [c]) := by
  have hi : i.toNat < s.length := by omega
  exact ⟨s[i.toNat], fun h => oIdx_str l (atI_of h0 (List.getElem?_eq_getElem hi))⟩
/-- str of a small number -/
def sn (j : Nat) : List Nat := if j < 10 then [48 + j] else [48 + j / 10, 48 + j % 10]
theorem sn_of : ∀ j : Fin 64, S (toString ((j.val : Nat) : Int)) = sn j.val := by decide
theorem bStr_sn {j : Nat} (hj : j < 64) (h : Hep) : bStr [.int j] h = some (.str (sn j), h) := by
  rw [bStr_of (by
    have : ((j : Int)).natAbs.log2 ≤ j := by
      rw [Int.natAbs_natCast]; exact Nat.log2_le_self j
    omega), sn_of ⟨j, hj⟩]
theorem sn_len (j : Nat) : 1 ≤ (sn j).length ∧ (sn j).length ≤ 2 := by unfold sn; split <;> simp
theorem sn_mono {i j : Nat} (h : i ≤ j) : (sn i).length ≤ (sn j).length := by unfold sn; split <;> split <;> simp <;> omega
theorem sn_inj {i j : Nat} (hi : i < 64) (hj : j < 64) (e : sn i = sn j) : i = j := by
  unfold sn at e
  split at e <;> split at e
  · have := (List.cons.inj e).1; omega
  · have := congrArg List.length e; simp at this
  · have := congrArg List.length e; simp at this
  · have h1 := (List.cons.inj e).1; have h2 := (List.cons.inj (List.cons.inj e).2).1; omega
/-! a name that is none of the names so far -/
def nxt (n : List Nat) (j : Nat) : List Nat := n.take 16 ++ sn j
def fresh (NS : List (List Nat)) : Nat → Nat → List Nat → List Nat
  | 0, _, n => n
  | m + 1, j, n => fresh NS m (j + 1) (if n ∈ NS then nxt n j else n)
theorem fresh_len (NS : List (List Nat)) : ∀ (m j : Nat) (n : List Nat), 1 ≤ n.length → n.length ≤ 21 → 1 ≤ (fresh NS m j n).length ∧ (fresh NS m j n).length ≤ 21
  | 0, j, n, h1, h2 => ⟨h1, h2⟩
  | m + 1, j, n, h1, h2 => by
    unfold fresh
    by_cases q : n ∈ NS
    · rw [if_pos q]
      refine fresh_len NS m (j + 1) _ ?_ ?_ <;> unfold nxt <;> rw [List.length_append, List.length_take] <;> have := sn_len j <;> omega
    · rw [if_neg q]; exact fresh_len NS m (j + 1) n h1 h2
theorem fresh_stay (NS : List (List Nat)) : ∀ (m j : Nat) (n : List Nat), n ∉ NS → fresh NS m j n = n
  | 0, j, n, h => rfl
  | m + 1, j, n, h => by unfold fresh; rw [if_neg h]; exact fresh_stay NS m (j + 1) n h
/-- the names that are tried, all taken -/
def tries : Nat → Nat → List Nat → List (List Nat)
  | 0, _, _ => []
  | m + 1, j, n => n :: tries m (j + 1) (nxt n j)
theorem fresh_or (NS : List (List Nat)) : ∀ (m j : Nat) (n : List Nat), fresh NS m j n ∉ NS ∨ ∀ t ∈ tries m j n, t ∈ NS
  | 0, j, n => .inr fun t h => by cases h
  | m + 1, j, n => by
    by_cases q : n ∈ NS
    · unfold fresh
      rw [if_pos q]
      rcases fresh_or NS m (j + 1) (nxt n j) with h | h
      · exact .inl h
      · refine .inr fun t ht => ?_
        unfold tries at ht
        rcases List.mem_cons.mp ht with rfl | ht
        · exact q
        · exact h t ht
    · exact .inl (by rw [fresh_stay NS _ _ _ q]; exact q)
/-- behind long names: all begin alike, end otherwise -/
theorem tries_long (P : List Nat) (hP : P.length = 16) : ∀ (m j i : Nat), i < j → m + j ≤ 64 → (tries m j (P ++ sn i)).Nodup ∧ ∀ t ∈ tries m j (P ++ sn i), ∃ k, (k = i ∨ j ≤ k) ∧ k < 64 ∧ t = P ++ sn k
  | 0, j, i, _, _ => ⟨List.nodup_nil, fun t h => by cases h⟩
  | m + 1, j, i, h, b => by
    have e : nxt (P ++ sn i) j = P ++ sn j := by unfold nxt; rw [List.take_left' hP]
    obtain ⟨n1, n2⟩ := tries_long P hP m (j + 1) j (by omega) (by omega)
    unfold tries
    rw [e]
    refine ⟨List.nodup_cons.mpr ⟨fun z => ?_, n1⟩, fun t ht => ?_⟩
    · obtain ⟨k, hk, kb, ek⟩ := n2 _ z
      have := sn_inj (by omega) kb (List.append_cancel_left ek)
      omega
    · rcases List.mem_cons.mp ht with rfl | ht
      · exact ⟨i, .inl rfl, by omega, rfl⟩
      · obtain ⟨k, hk, kb, ek⟩ := n2 t ht
        exact ⟨k, .inr (by omega), kb, ek⟩
/-- behind a name that was made of a shorter one -/
theorem tries_short : ∀ (m j i : Nat) (q : List Nat), q.length ≤ 15 → i < j → m + j ≤ 64 → (tries m j (q ++ sn i)).Nodup ∧ ∀ t ∈ tries m j (q ++ sn i), (q ++ sn i).length ≤ t.length
  | 0, j, i, q, _, _, _ => ⟨List.nodup_nil, fun t h => by cases h⟩
  | m + 1, j, i, q, hq, h, b => by
    have li := sn_len i
    have lj := sn_len j
    unfold tries
    by_cases s : (q ++ sn i).length ≤ 15
    · have e : nxt (q ++ sn i) j = (q ++ sn i) ++ sn j := by unfold nxt; rw [List.take_of_length_le (by omega)]
      rw [e]
      obtain ⟨n1, n2⟩ := tries_short m (j + 1) j (q ++ sn i) s (by omega) (by omega)
      have l3 : ((q ++ sn i) ++ sn j).length = (q ++ sn i).length + (sn j).length := List.length_append
      refine ⟨List.nodup_cons.mpr ⟨fun z => ?_, n1⟩, fun t ht => ?_⟩
      · have := n2 _ z; omega
      · rcases List.mem_cons.mp ht with rfl | ht
        · exact Nat.le_refl _
        · have := n2 t ht; omega
    · have lP : ((q ++ sn i).take 16).length = 16 := by rw [List.length_take]; omega
      have e : nxt (q ++ sn i) j = (q ++ sn i).take 16 ++ sn j := rfl
      rw [e]
      obtain ⟨n1, n2⟩ := tries_long _ lP m (j + 1) j (by omega) (by omega)
      have lq : (q ++ sn i).length = q.length + (sn i).length := List.length_append
      refine ⟨List.nodup_cons.mpr ⟨fun z => ?_, n1⟩, fun t ht => ?_⟩
      · obtain ⟨k, hk, kb, ek⟩ := n2 _ z
        have := sn_mono (i := i) (j := k) (by omega)
        have l4 := congrArg List.length ek
        rw [List.length_append, List.length_append, lP] at l4
        omega
      · rcases List.mem_cons.mp ht with rfl | ht
        · exact Nat.le_refl _
        · obtain ⟨k, hk, kb, ek⟩ := n2 t ht
          have l5 : ((q ++ sn i).take 16 ++ sn k).length = 16 + (sn k).length := by rw [List.length_append, lP]
          rw [ek, l5, lq]
          have := sn_mono (i := i) (j := k) (by omega)
          omega
theorem tries_nodup (m j : Nat) (n : List Nat) (b : m + j ≤ 63) : (tries m (j + 1) (nxt n j)).Nodup := by
  by_cases s : n.length ≤ 15
  · have e : nxt n j = n ++ sn j := by unfold nxt; rw [List.take_of_length_le (by omega)]
    rw [e]; exact (tries_short m (j + 1) j n s (by omega) (by omega)).1
  · have lP : (n.take 16).length = 16 := by rw [List.length_take]; omega
    exact (tries_long _ lP m (j + 1) j (by omega) (by omega)).1
theorem tries_len : ∀ (m j : Nat) (n : List Nat), (tries m j n).length = m
  | 0, _, _ => rfl
  | m + 1, j, n => by unfold tries; rw [List.length_cons, tries_len m]
theorem sub_len {α : Type} : ∀ (l m : List α), l.Nodup → (∀ t ∈ l, t ∈ m) → l.length ≤ m.length
  | [], m, _, _ => Nat.zero_le _
  | a :: l, m, nd, h => by
    have am : a ∈ m := h a List.mem_cons_self
    have ih := sub_len l (m.erase a) (List.nodup_cons.mp nd).2 (fun t ht => (List.mem_erase_of_ne (fun z => (List.nodup_cons.mp nd).1 (by first | (rw [← z]; exact ht) | (rw [z]; exact ht)))).mpr (h t (List.mem_cons_of_mem _ ht)))
    rw [List.length_erase_of_mem am] at ih
    have : 0 < m.length := List.length_pos_of_mem am
    rw [List.length_cons]; omega
/-- one more try than names and one: a fresh name -/
theorem fresh_new (NS : List (List Nat)) (m : Nat) (n : List Nat) (hm : NS.length + 1 < m) (b : m ≤ 63) : fresh NS m 0 n ∉ NS := by
  rcases fresh_or NS m 0 n with h | h
  · exact h
  · exfalso
    cases m with
    | zero => omega
    | succ m =>
      have := sub_len (tries m 1 (nxt n 0)) NS (tries_nodup m 0 n (by omega)) (fun t ht => h t (by unfold tries; exact List.mem_cons_of_mem _ ht))
      rw [tries_len] at this
      omega
/-! the texts -/
theorem any_strs (s : List Nat) : ∀ NS : List (List Nat), ((NS.map Val.str).any fun y => eqF y (.str s)) = decide (s ∈ NS)
  | [] => by simp
  | t :: NS => by
    rw [List.map_cons, List.any_cons, any_strs s NS]
    show ((t == s) || _) = _
    by_cases e : t = s
    · subst e; simp
    · rw [beq_false_of_ne e, Bool.false_or]
      have : (s ∈ t :: NS) = (s ∈ NS) := by rw [List.mem_cons]; simp [Ne.symm e]
      simp only [this]
theorem all_strs (NS : List (List Nat)) : (NS.map Val.str).all flat = true := by rw [List.all_map, List.all_eq_true]; intro t _; rfl
theorem oIn_strs (h : Hep) (s : List Nat) (NS : List (List Nat)) : oIn h (.str s) (.fl (NS.map .str)) = some (.bl (decide (s ∈ NS))) := by
  rw [oIn_fl h s _ (all_strs NS), any_strs]
theorem oIn_strsR {h : Hep} {n : Nat} (s : List Nat) (NS : List (List Nat)) (e : h[n]? = some (.lst (NS.map .str))) : oIn h (.str s) (.ref n) = some (.bl (decide (s ∈ NS))) := by
  have e1 : isIn h (.str s) (.ref n) = if flat (.str s) && (NS.map Val.str).all flat then some ((NS.map Val.str).any fun y => eqF y (.str s)) else none := by
    have : seqOf h (.ref n) = some (NS.map Val.str) := by show (match h[n]? with | some (.lst l) => some l | _ => none) = _; rw [e]
    cases s with
    | nil => show (match seqOf h (.ref n) with | some l => _ | none => none) = _; rw [this]
    | cons c t => cases t <;> (show (match seqOf h (.ref n) with | some l => _ | none => none) = _; rw [this])
  unfold oIn
  rw [e1, all_strs, any_strs]
  rfl
def REZ : List (List Nat) := (K_v_law_reserved_1 ++ K_v_law_reserved_2 ++ K_v_law_reserved_3 ++ K_v_law_reserved_4).map fun v => match v with | .str s => s | _ => []
theorem reserved_ok (h : Hep) : M_v_law_reserved [] h = .ok (.fl (REZ.map .str)) h := by
  have e : REZ.map Val.str = K_v_law_reserved_1 ++ K_v_law_reserved_2 ++ K_v_law_reserved_3 ++ K_v_law_reserved_4 := rfl
  have b1 : ∀ k, bndVs k K_v_law_reserved_1 = true := fun k => rfl
  have b2 : ∀ k, bndVs k K_v_law_reserved_2 = true := fun k => rfl
  have b3 : ∀ k, bndVs k K_v_law_reserved_3 = true := fun k => rfl
  have b4 : ∀ k, bndVs k K_v_law_reserved_4 = true := fun k => rfl
  have l1 : K_v_law_reserved_1.length = 12 := rfl
  have l2 : K_v_law_reserved_2.length = 12 := rfl
  have l3 : K_v_law_reserved_3.length = 12 := rfl
  have l4 : K_v_law_reserved_4.length = 6 := rfl
  rw [e]
  simp_all only [M_v_law_reserved_v, eKl_v, b1, b2, b3, b4, l1, l2, l3, l4]
theorem name_loop (d : Nat) (z : Int) (v5 : Option Val) : ∀ (xs : List Val) (h : Hep) (x : DS) (nm : List Nat) (v4 v5 : Option Val), (∀ v ∈ xs, ∃ k : Nat, v = .int k) → h[d]? = some x.o → nm.length + xs.length ≤ 1000 →
    ∃ (y : DS) (nm' : List Nat) (w4 w5 : Option Val), forT (gNam 4) (fun _ => true) L_v_law_name_1 xs [some (.ref d), some (.str (S "abcdefghijklmnopqrstuvwxyz")), some (.int z), some (.str nm), v4, v5] h .mk = .nx [some (.ref d), some (.str (S "abcdefghijklmnopqrstuvwxyz")), some (.int z), some (.str nm'), w4, w5] (h.set d y.o) ∧ nm'.length = nm.length + xs.length := by
  intro xs
  induction xs with
  | nil =>
    intro h x nm v4 v5 _ hd _
    exact ⟨x, nm, v4, v5, by rw [sself hd]; exact forL_0 _ _ _ _ _ rfl _, rfl⟩
  | cons v xs ih =>
    intro h x nm v4 v5 hv hd hl
    obtain ⟨k, rfl⟩ := hv v List.mem_cons_self
    rw [List.length_cons] at hl
    have key : ∃ (c : Nat) (w5 : Option Val) (y : DS), L_v_law_name_1 [some (.ref d), some (.str (S "abcdefghijklmnopqrstuvwxyz")), some (.int z), some (.str nm), some (.int k), v5] h = .nx [some (.ref d), some (.str (S "abcdefghijklmnopqrstuvwxyz")), some (.int z), some (.str (nm ++ [c])), some (.int k), w5] (h.set d y.o) := by
      by_cases q : (k : Int) < z - 2
      · have bd := dv_bd x 37 (by decide) (by decide)
        obtain ⟨c, hc⟩ := idx_str (s := S "abcdefghijklmnopqrstuvwxyz" ++ S "0123456789" ++ S "-") (i := dv x 37) (by decide) bd.1 (by exact bd.2)
        have q1 := decide_eq_true q
        have hc' : ∀ h, oIdx h (.str [97, 98, 99, 100, 101, 102, 103, 104, 105, 106, 107, 108, 109, 110, 111, 112, 113, 114, 115, 116, 117, 118, 119, 120, 121, 122, 48, 49, 50, 51, 52, 53, 54, 55, 56, 57, 45]) (.int (dv x 37)) = some (.str [c]) := hc
        dsimp only at hc'
        have c37 : ((37 : Nat) : Int) = 37 := rfl
        refine ⟨c, some (.str (S "abcdefghijklmnopqrstuvwxyz" ++ S "0123456789" ++ S "-")), dn x 37, ?_⟩
        have q37 := qd 37 (by decide) (by decide)
        simp_all only [L_v_law_name_1_v, q1, draw_v, hd, decDS_o, onD_some, q37, hc', c37]
      · have bd := dv_bd x 36 (by decide) (by decide)
        obtain ⟨c, hc⟩ := idx_str (s := S "abcdefghijklmnopqrstuvwxyz" ++ S "0123456789") (i := dv x 36) (by decide) bd.1 (by exact bd.2)
        have q1 := decide_eq_false q
        have hc' : ∀ h, oIdx h (.str [97, 98, 99, 100, 101, 102, 103, 104, 105, 106, 107, 108, 109, 110, 111, 112, 113, 114, 115, 116, 117, 118, 119, 120, 121, 122, 48, 49, 50, 51, 52, 53, 54, 55, 56, 57]) (.int (dv x 36)) = some (.str [c]) := hc
        dsimp only at hc'
        have c36 : ((36 : Nat) : Int) = 36 := rfl
        refine ⟨c, some (.str (S "abcdefghijklmnopqrstuvwxyz" ++ S "0123456789")), dn x 36, ?_⟩
        have q36 := qd 36 (by decide) (by decide)
        simp_all only [L_v_law_name_1_v, q1, draw_v, hd, decDS_o, onD_some, q36, hc', c36]
    obtain ⟨c, w5, y, e⟩ := key
    obtain ⟨y2, nm', u4, u5, e2, l2⟩ := ih (h.set d y.o) y (nm ++ [c]) (some (.int k)) w5 (fun v hv' => hv v (List.mem_cons_of_mem _ hv')) (sget hd _) (by rw [List.length_append]; simp only [List.length_cons, List.length_nil]; omega)
    rw [sset] at e2
    refine ⟨y2, nm', u4, u5, ?_, by rw [l2, List.length_append, List.length_cons]; simp only [List.length_cons, List.length_nil]; omega⟩
    rw [forL_v _ _ _ _ _ _ _ rfl _]
    have st : gNam 4 (.int k) [some (.ref d), some (.str (S "abcdefghijklmnopqrstuvwxyz")), some (.int z), some (.str nm), v4, v5] = some [some (.ref d), some (.str (S "abcdefghijklmnopqrstuvwxyz")), some (.int z), some (.str nm), some (.int k), v5] := rfl
    rw [st]
    show (L_v_law_name_1 _ _).go _ .mk = _
    rw [e]
    exact e2
theorem rng_nat (n : Nat) : ∀ v ∈ rng 0 n, ∃ k : Nat, v = .int k := fun v hv => by
  obtain ⟨i, hi, rfl⟩ := List.mem_map.mp hv
  exact ⟨i, by simp⟩
theorem name_tail (d : Nat) (z : Int) (z1 : 1 ≤ z) (z2 : z ≤ 20) (h : Hep) (x : DS) (hd : h[d]? = some x.o) (v3 v4 v5 : Option Val) :
    ∃ (y : DS) (s : List Nat), T_v_law_name_2 [some (.ref d), some (.str (S "abcdefghijklmnopqrstuvwxyz")), some (.int z), v3, v4, v5] h = .ret (.str s) (h.set d y.o) ∧ 1 ≤ s.length ∧ s.length ≤ 21 := by
  have bd := dv_bd x 26 (by decide) (by decide)
  obtain ⟨c, hc⟩ := idx_str (s := S "abcdefghijklmnopqrstuvwxyz") (i := dv x 26) (by decide) bd.1 bd.2
  obtain ⟨y, nm, w4, w5, e, l⟩ := name_loop d z none (rng 0 (z - 1).toNat) (h.set d (dn x 26).o) (dn x 26) [c] v4 v5 (rng_nat _) (sget hd _) (by rw [rng_length]; simp only [List.length_cons, List.length_nil]; omega)
  rw [rng_length] at l
  simp only [List.length_cons, List.length_nil] at l
  rw [sset] at e
  have hc' : ∀ h, oIdx h (.str [97, 98, 99, 100, 101, 102, 103, 104, 105, 106, 107, 108, 109, 110, 111, 112, 113, 114, 115, 116, 117, 118, 119, 120, 121, 122]) (.int (dv x 26)) = some (.str [c]) := hc
  have e' : forT (gNam 4) (fun _ => true) L_v_law_name_1 (rng 0 (z - 1).toNat) [some (.ref d), some (.str [97, 98, 99, 100, 101, 102, 103, 104, 105, 106, 107, 108, 109, 110, 111, 112, 113, 114, 115, 116, 117, 118, 119, 120, 121, 122]), some (.int z), some (.str [c]), v4, v5] (h.set d (dn x 26).o) .mk = .nx [some (.ref d), some (.str [97, 98, 99, 100, 101, 102, 103, 104, 105, 106, 107, 108, 109, 110, 111, 112, 113, 114, 115, 116, 117, 118, 119, 120, 121, 122]), some (.int z), some (.str nm), w4, w5] (h.set d y.o) := e
  have q26 := qd 26 (by decide) (by decide)
  have rs := oIn_strs (h.set d y.o) nm REZ
  have ro := reserved_ok (h.set d y.o)
  by_cases q : nm ∈ REZ
  · have q1 := decide_eq_true q
    rw [q1] at rs
    refine ⟨y, nm ++ S "0", ?_, by rw [List.length_append]; omega, by rw [List.length_append, show (S "0").length = 1 from rfl]; omega⟩
    simp_all only [T_v_law_name_2_v, draw_v, hd, decDS_o, onD_some, q26, hc', e', ro, rs]
  · have q1 := decide_eq_false q
    rw [q1] at rs
    refine ⟨y, nm, ?_, by omega, by omega⟩
    simp_all only [T_v_law_name_2_v, draw_v, hd, decDS_o, onD_some, q26, hc', e', ro, rs]
theorem name_ok (d : Nat) (h : Hep) (x : DS) (hd : h[d]? = some x.o) : ∃ (y : DS) (s : List Nat), M_v_law_name [.ref d] h = .ok (.str s) (h.set d y.o) ∧ 1 ≤ s.length ∧ s.length ≤ 21 := by
  have b4 := dv_bd x 4 (by decide) (by decide)
  have b20 := dv_bd (dn (dn x 4) 6) 20 (by decide) (by decide)
  have q4 := qd 4 (by decide) (by decide)
  have q6 := qd 6 (by decide) (by decide)
  have q20 := qd 20 (by decide) (by decide)
  have fin : ∀ (y : DS) (s : List Nat), B_v_law_name [some (.ref d), none, none, none, none, none] h = .ret (.str s) (h.set d y.o) → M_v_law_name [.ref d] h = .ok (.str s) (h.set d y.o) := fun y s e => by
    rw [M_v_law_name_v]
    have f : fn 1 6 B_v_law_name [.ref d] h = (B_v_law_name [some (.ref d), none, none, none, none, none] h).res := rfl
    rw [f, e]
    exact gc_set0 4 4 h d y.o _ rfl (y.bnd _)
  by_cases q : dv (dn x 4) 6 = 0
  · obtain ⟨y, s, e, l⟩ := name_tail d (1 + dv (dn (dn x 4) 6) 20) (by omega) (by omega) (h.set d (dn (dn (dn x 4) 6) 20).o) _ (sget hd _) none none none
    rw [sset] at e
    refine ⟨y, s, fin y s ?_, l⟩
    have q1 : (dv (dn x 4) 6 == 0) = true := by rw [q]; rfl
    have e' := e
    rw [show S "abcdefghijklmnopqrstuvwxyz" = [97, 98, 99, 100, 101, 102, 103, 104, 105, 106, 107, 108, 109, 110, 111, 112, 113, 114, 115, 116, 117, 118, 119, 120, 121, 122] from rfl] at e'
    simpa only [B_v_law_name_v, draw_v, hd, decDS_o, onD_some, q4, q6, q20, q1, e']
  · obtain ⟨y, s, e, l⟩ := name_tail d (1 + dv x 4) (by omega) (by omega) (h.set d (dn (dn x 4) 6).o) _ (sget hd _) none none none
    rw [sset] at e
    refine ⟨y, s, fin y s ?_, l⟩
    have q1 : (dv (dn x 4) 6 == 0) = false := beq_false_of_ne q
    have e' := e
    rw [show S "abcdefghijklmnopqrstuvwxyz" = [97, 98, 99, 100, 101, 102, 103, 104, 105, 106, 107, 108, 109, 110, 111, 112, 113, 114, 115, 116, 117, 118, 119, 120, 121, 122] from rfl] at e'
    simpa only [B_v_law_name_v, draw_v, hd, decDS_o, onD_some, q4, q6, q20, q1, e']
/-! the list of names -/
theorem fresh_loop (d k q : Nat) (NS : List (List Nat)) (v3 : Option Val) : ∀ (m j : Nat) (h : Hep) (n : List Nat) (v5 : Option Val), h[q]? = some (.lst (NS.map .str)) → m + j ≤ 64 → n.length ≤ 1000 →
    ∃ w5, forT (gNam 5) (fun _ => true) L_v_law_names_1 (rng j m) [some (.ref d), some (.int k), some (.ref q), v3, some (.str n), v5] h .mk = .nx [some (.ref d), some (.int k), some (.ref q), v3, some (.str (fresh NS m j n)), w5] h := by
  intro m
  induction m with
  | zero => intro j h n v5 _ _ _; exact ⟨v5, forL_0 _ _ _ _ _ rfl _⟩
  | succ m ih =>
    intro j h n v5 hq b ln
    have rc : rng j (m + 1) = .int j :: rng ((j + 1 : Nat) : Int) m := by
      unfold rng
      rw [List.range_succ_eq_map, List.map_cons, List.map_map]
      refine congr (congrArg _ (by simp)) (List.map_congr_left fun i _ => ?_)
      simp only [Function.comp_apply]; congr 1; push_cast; omega
    have l3 : (if n ∈ NS then nxt n j else n).length ≤ 1000 := by
      split
      · unfold nxt; rw [List.length_append, List.length_take]; have := sn_len j; omega
      · exact ln
    obtain ⟨w5, e2⟩ := ih (j + 1) h _ (some (.int j)) hq (by omega) l3
    refine ⟨w5, ?_⟩
    rw [rc, forL_v _ _ _ _ _ _ _ rfl _]
    have st : gNam 5 (.int j) [some (.ref d), some (.int k), some (.ref q), v3, some (.str n), v5] = some [some (.ref d), some (.int k), some (.ref q), v3, some (.str n), some (.int j)] := rfl
    rw [st]
    show (L_v_law_names_1 _ _).go _ .mk = _
    have i1 := oIn_strsR n NS hq
    have bs := bStr_sn (j := j) (by omega)
    have e : L_v_law_names_1 [some (.ref d), some (.int k), some (.ref q), v3, some (.str n), some (.int j)] h = .nx [some (.ref d), some (.int k), some (.ref q), v3, some (.str (if n ∈ NS then nxt n j else n)), some (.int j)] h := by
      by_cases z : n ∈ NS
      · rw [decide_eq_true z] at i1
        rw [if_pos z]
        have l1 := sn_len j
        have cu : cut n none (some 16) = n.take 16 := by unfold cut sIx; simp
        have l2 : (n.take 16).length ≤ 16 := by rw [List.length_take]; omega
        unfold nxt
        simp_all only [L_v_law_names_1_v, i1, bs, cu]
      · rw [decide_eq_false z] at i1
        rw [if_neg z]
        simp_all only [L_v_law_names_1_v, i1]
    rw [e]
    exact e2
def NH (h : Hep) (d : Nat) (x : DS) (NS : List (List Nat)) : Hep := h.set d x.o ++ [.lst (NS.map .str)]
section
variable {h : Hep} {d : Nat} (ld : d < h.length) (x y : DS) (NS MS : List (List Nat))
include ld in
theorem NH_d : (NH h d x NS)[d]? = some x.o := by
  unfold NH; rw [List.getElem?_append_left (by rw [List.length_set]; exact ld), List.getElem?_set_self ld]
theorem NH_q : (NH h d x NS)[h.length]? = some (.lst (NS.map .str)) := by
  unfold NH; rw [List.getElem?_append_right (by rw [List.length_set]; omega), List.length_set, Nat.sub_self]; rfl
include ld in
theorem NH_setd : (NH h d x NS).set d y.o = NH h d y NS := by
  unfold NH; rw [List.set_append_left _ _ (by rw [List.length_set]; exact ld), List.set_set]
theorem NH_setq : (NH h d x NS).set h.length (.lst (MS.map .str)) = NH h d x MS := by
  unfold NH; rw [List.set_append_right _ _ (by rw [List.length_set]; omega), List.length_set, Nat.sub_self]; rfl
end
theorem names_loop {h : Hep} {d : Nat} (ld : d < h.length) (k : Nat) (hk : k ≤ 40) : ∀ (xs : List Val) (x : DS) (NS : List (List Nat)) (v3 v4 v5 : Option Val), (∀ v ∈ xs, ∃ i : Nat, v = .int i) → NS.length + xs.length ≤ k → NS.Nodup → (∀ n ∈ NS, 1 ≤ n.length ∧ n.length ≤ 21) →
    ∃ (y : DS) (MS : List (List Nat)) (w3 w4 w5 : Option Val), forT (gNam 3) (fun _ => true) L_v_law_names_2 xs [some (.ref d), some (.int k), some (.ref h.length), v3, v4, v5] (NH h d x NS) .mk = .nx [some (.ref d), some (.int k), some (.ref h.length), w3, w4, w5] (NH h d y MS) ∧ MS.length = NS.length + xs.length ∧ MS.Nodup ∧ ∀ n ∈ MS, 1 ≤ n.length ∧ n.length ≤ 21 := by
  intro xs
  induction xs with
  | nil => intro x NS v3 v4 v5 _ _ nd nl; exact ⟨x, NS, v3, v4, v5, forL_0 _ _ _ _ _ rfl _, rfl, nd, nl⟩
  | cons v xs ih =>
    intro x NS v3 v4 v5 hv hl nd nl
    rw [List.length_cons] at hl
    obtain ⟨i, rfl⟩ := hv v List.mem_cons_self
    obtain ⟨y, s, e, s1, s2⟩ := name_ok d (NH h d x NS) x (NH_d ld ..)
    rw [NH_setd ld] at e
    obtain ⟨w5, e2⟩ := fresh_loop d k h.length NS (some (.int i)) (k + 1) 0 (NH h d y NS) s v5 (NH_q ..) (by omega) (by omega)
    have fn := fresh_new NS (k + 1) s (by omega) (by omega)
    have fl := fresh_len NS (k + 1) 0 s s1 s2
    generalize fresh NS (k + 1) 0 s = f at *
    have ap : mAppend (.ref h.length) [.str f] (NH h d y NS) = some (.non, NH h d y (NS ++ [f])) := by
      rw [append_ok (NH_q ..) (by rw [List.length_map]; omega), show NS.map Val.str ++ [Val.str f] = (NS ++ [f]).map Val.str by rw [List.map_append]; rfl, NH_setq]
    obtain ⟨y2, MS, u3, u4, u5, e3, l3, n3, nl3⟩ := ih y (NS ++ [f]) (some (.int i)) (some (.str f)) w5 (fun v hv' => hv v (List.mem_cons_of_mem _ hv')) (by rw [List.length_append]; simp only [List.length_cons, List.length_nil]; omega)
      (by
        rw [List.nodup_append]
        refine ⟨nd, by simp, fun a ha b hb => ?_⟩
        rw [List.mem_singleton.mp hb]
        exact fun z => fn (z ▸ ha))
      (fun n hn => by
        rcases List.mem_append.mp hn with hn | hn
        · exact nl n hn
        · rw [List.mem_singleton.mp hn]; exact fl)
    refine ⟨y2, MS, u3, u4, u5, ?_, by rw [l3, List.length_append, List.length_cons]; simp only [List.length_cons, List.length_nil]; omega, n3, nl3⟩
    rw [forL_v _ _ _ _ _ _ _ rfl _]
    have st : gNam 3 (.int i) [some (.ref d), some (.int k), some (.ref h.length), v3, v4, v5] = some [some (.ref d), some (.int k), some (.ref h.length), some (.int i), v4, v5] := rfl
    rw [st]
    show (L_v_law_names_2 _ _).go _ .mk = _
    have q1 := NH_q (h := h) (d := d) y NS
    have c1 : ((k : Int) + 1) = ((k + 1 : Nat) : Int) := by push_cast; rfl
    have rg : ∀ hh : Hep, fRng1 hh [.int ((k : Int) + 1)] = some (rng 0 (k + 1), fun _ => true) := fun hh => by rw [c1, fRng1_of (by omega) (by omega), Int.toNat_natCast]
    have e2' : forT (gNam 5) (fun _ => true) L_v_law_names_1 (rng 0 (k + 1)) [some (.ref d), some (.int k), some (.ref h.length), some (.int i), some (.str s), v5] (NH h d y NS) .mk = .nx [some (.ref d), some (.int k), some (.ref h.length), some (.int i), some (.str f), w5] (NH h d y NS) := e2
    have e4 : L_v_law_names_2 [some (.ref d), some (.int k), some (.ref h.length), some (.int i), v4, v5] (NH h d x NS) = .nx [some (.ref d), some (.int k), some (.ref h.length), some (.int i), some (.str f), w5] (NH h d y (NS ++ [f])) := by
      simp_all only [L_v_law_names_2_v, e, rg, e2', q1, ap]
    rw [e4]
    exact e3
theorem names_ok (d : Nat) (k : Nat) (hk : k ≤ 40) (h : Hep) (x : DS) (hd : h[d]? = some x.o) : ∃ (y : DS) (NS : List (List Nat)), M_v_law_names [.ref d, .int k] h = .ok (.fl (NS.map .str)) (h.set d y.o) ∧ NS.length = k ∧ NS.Nodup ∧ ∀ n ∈ NS, 1 ≤ n.length ∧ n.length ≤ 21 := by
  have ld := dlt hd
  obtain ⟨y, NS, w3, w4, w5, e, l, nd, nl⟩ := names_loop ld k hk (rng 0 k) x [] none none none (rng_nat _) (by rw [rng_length]; simp) List.nodup_nil (fun n hn => by cases hn)
  rw [rng_length] at l
  refine ⟨y, NS, ?_, by simpa using l, nd, nl⟩
  have h0 : NH h d x [] = h ++ [.lst []] := by unfold NH; rw [sself hd]; rfl
  rw [h0] at e
  rw [M_v_law_names_v]
  have f : fn 2 6 B_v_law_names [.ref d, .int k] h = .ok (.ref h.length) (NH h d y NS) := by
    simp_all only [B_v_law_names_v, e]
  rw [f]
  have := gc_setlst 3 4 h d x.o y.o (NS.map .str) [.lst (NS.map .str)] h.length (Nat.le_refl _) (by rw [← NH]; exact NH_q ..) (bndVs_str _ _) (y.bnd _)
  rw [sself hd] at this
  exact this
end Law

set_option maxRecDepth 100000
set_option maxHeartbeats 1000000
set_option linter.all false
/-! Pf0: statements that perform (k40) -/
namespace Law
open Cd Mir Classical
abbrev PR := List Nat × List Nat
def pV (p : PR) : Val := .tup [.str p.1, .str p.2]
inductive St where
  | perf (a b : List Nat) (w : Val)
  | oth (k : List Nat) (vs : List Val)
  | two (k : List Nat) (c : Val) (s t : List St)
  | one (k : List Nat) (vs : List Val) (s : List St)
mutual
def St.v : St → Val
  | .perf a b w => .tup [.str (S "perform"), .str a, .str b, w]
  | .oth k vs => .tup (.str k :: vs)
  | .two k c s t => .tup [.str k, c, .tup (Sts.v s), .tup (Sts.v t)]
  | .one k vs s => .tup (.str k :: (vs ++ [.tup (Sts.v s)]))
def Sts.v : List St → List Val
  | [] => []
  | s :: l => St.v s :: Sts.v l
end
mutual
def St.ps : St → List PR
  | .perf a b _ => [(a, b)]
  | .oth _ _ => []
  | .two _ _ s t => Sts.ps s ++ Sts.ps t
  | .one _ _ s => Sts.ps s
def Sts.ps : List St → List PR
  | [] => []
  | s :: l => St.ps s ++ Sts.ps l
end
def ifrd (k : List Nat) : Prop := k = S "if" ∨ k = S "read"
def stdv (k : List Nat) : Prop := k = S "set" ∨ k = S "divide"
/-- a statement of at most n levels -/
def St.Ok : Nat → St → Prop
  | 0, _ => False
  | n + 1, .perf _ _ w => ∀ k, bndV k w = true
  | n + 1, .oth k vs => (k ≠ S "perform" ∧ ¬ ifrd k ∧ ¬ stdv k) ∧ ∀ m, bndVs m vs = true
  | n + 1, .two k c s t => ifrd k ∧ (∀ m, bndV m c = true) ∧ (s.length ≤ 2 ∧ ∀ x ∈ s, x.Ok n) ∧ (t.length ≤ 2 ∧ ∀ x ∈ t, x.Ok n)
  | n + 1, .one k vs s => stdv k ∧ (∀ m, bndVs m vs = true) ∧ vs.length ≤ 10 ∧ (s.length ≤ 2 ∧ ∀ x ∈ s, x.Ok n)
theorem Sts.v_map : ∀ l : List St, Sts.v l = l.map St.v
  | [] => rfl
  | s :: l => by rw [Sts.v, Sts.v_map l, List.map_cons]
theorem Sts.ps_map : ∀ l : List St, Sts.ps l = (l.map St.ps).flatten
  | [] => rfl
  | s :: l => by rw [Sts.ps, Sts.ps_map l, List.map_cons, List.flatten_cons]
theorem Sts.v_app (l m : List St) : Sts.v (l ++ m) = Sts.v l ++ Sts.v m := by rw [Sts.v_map, Sts.v_map, Sts.v_map, List.map_append]
theorem Sts.ps_app (l m : List St) : Sts.ps (l ++ m) = Sts.ps l ++ Sts.ps m := by rw [Sts.ps_map, Sts.ps_map, Sts.ps_map, List.map_append, List.flatten_append]
theorem Ok_bnd : ∀ (n : Nat) (s : St), s.Ok n → ∀ k, bndV k s.v = true
  | 0, _, h, _ => h.elim
  | n + 1, .perf a b w, h, k => by rw [St.v, bndV_tup]; simp only [bndVs_cons, bndV_str, bndVs_nil, Bool.true_and, Bool.and_true]; exact h k
  | n + 1, .oth a vs, h, k => by rw [St.v, bndV_tup]; simp only [bndVs_cons, bndV_str, Bool.true_and]; exact h.2 k
  | n + 1, .two a c s t, h, k => by
    rw [St.v, bndV_tup]
    simp only [bndVs_cons, bndV_str, bndVs_nil, Bool.true_and, Bool.and_true, bndV_tup, h.2.1 k]
    have f : ∀ l : List St, (∀ x ∈ l, x.Ok n) → bndVs k (Sts.v l) = true := fun l hl => by
      rw [Sts.v_map]
      refine bndVs_all fun v hv => ?_
      obtain ⟨x, hx, rfl⟩ := List.mem_map.mp hv
      exact Ok_bnd n x (hl x hx) k
    rw [f s h.2.2.1.2, f t h.2.2.2.2]; rfl
  | n + 1, .one a vs s, h, k => by
    rw [St.v, bndV_tup]
    simp only [bndVs_cons, bndV_str, bndVs_nil, Bool.true_and, Bool.and_true, bndV_tup, bndVs_app, h.2.1 k]
    rw [Sts.v_map]
    refine bndVs_all fun v hv => ?_
    obtain ⟨x, hx, rfl⟩ := List.mem_map.mp hv
    exact Ok_bnd n x (h.2.2.2.2 x hx) k
theorem Oks_bnd {n : Nat} {l : List St} (h : ∀ x ∈ l, x.Ok n) (k : Nat) : bndVs k (Sts.v l) = true := by
  rw [Sts.v_map]
  refine bndVs_all fun v hv => ?_
  obtain ⟨x, hx, rfl⟩ := List.mem_map.mp hv
  exact Ok_bnd n x (h x hx) k
theorem pow4 (n : Nat) : 1 ≤ 4 ^ n := Nat.pos_of_ne_zero (by exact fun z => by have := Nat.pow_eq_zero.mp z; omega)
theorem Ok_len : ∀ (n : Nat) (s : St), s.Ok n → s.ps.length ≤ 4 ^ n
  | 0, _, h => h.elim
  | n + 1, .perf a b w, h => by rw [St.ps]; exact pow4 _
  | n + 1, .oth a vs, h => by rw [St.ps]; exact Nat.zero_le _
  | n + 1, .two a c s t, h => by
    have f : ∀ l : List St, l.length ≤ 2 → (∀ x ∈ l, x.Ok n) → (Sts.ps l).length ≤ 2 * 4 ^ n := fun l l2 hl => by
      match l, l2, hl with
      | [], _, _ => exact Nat.zero_le _
      | [x], _, hl => have := Ok_len n x (hl x List.mem_cons_self); rw [Sts.ps, Sts.ps, List.append_nil]; omega
      | [x, y], _, hl =>
        have h1 := Ok_len n x (hl x List.mem_cons_self)
        have h2 := Ok_len n y (hl y (List.mem_cons_of_mem _ List.mem_cons_self))
        rw [Sts.ps, Sts.ps, Sts.ps, List.append_nil, List.length_append]; omega
      | x :: y :: z :: l, l2, _ => simp only [List.length_cons] at l2; omega
    have h1 := f s h.2.2.1.1 h.2.2.1.2
    have h2 := f t h.2.2.2.1 h.2.2.2.2
    rw [St.ps, List.length_append, Nat.pow_succ]; omega
  | n + 1, .one a vs s, h => by
    have f : ∀ l : List St, l.length ≤ 2 → (∀ x ∈ l, x.Ok n) → (Sts.ps l).length ≤ 2 * 4 ^ n := fun l l2 hl => by
      match l, l2, hl with
      | [], _, _ => exact Nat.zero_le _
      | [x], _, hl => have := Ok_len n x (hl x List.mem_cons_self); rw [Sts.ps, Sts.ps, List.append_nil]; omega
      | [x, y], _, hl =>
        have h1 := Ok_len n x (hl x List.mem_cons_self)
        have h2 := Ok_len n y (hl y (List.mem_cons_of_mem _ List.mem_cons_self))
        rw [Sts.ps, Sts.ps, Sts.ps, List.append_nil, List.length_append]; omega
      | x :: y :: z :: l, l2, _ => simp only [List.length_cons] at l2; omega
    have h1 := f s h.2.2.2.1 h.2.2.2.2
    rw [St.ps, Nat.pow_succ]; omega
/-! ### performed -/
def psB (l : List St) (n : Nat) : Prop := l.length * 4 ^ n ≤ 1000000
theorem Oks_len {n : Nat} : ∀ (l : List St), (∀ x ∈ l, x.Ok n) → (Sts.ps l).length ≤ l.length * 4 ^ n
  | [], _ => by simp [Sts.ps]
  | s :: l, h => by
    have h1 := Ok_len n s (h s List.mem_cons_self)
    have h2 := Oks_len l (fun x hx => h x (List.mem_cons_of_mem _ hx))
    rw [Sts.ps, List.length_append, List.length_cons, Nat.add_mul, Nat.one_mul]; omega
theorem oIn_tupS (h : Hep) (s : List Nat) (l : List Val) (q : l.all flat = true) : oIn h (.str s) (.tup l) = some (.bl (l.any fun y => eqF y (.str s))) := by
  have e : isIn h (.str s) (.tup l) = if flat (.str s) && l.all flat then some (l.any fun y => eqF y (.str s)) else none := by
    cases s with
    | nil => rfl
    | cons c t => cases t <;> rfl
  unfold oIn
  rw [e, q]
  rfl
theorem or_beq (a b k : List Nat) : ((a == k) || ((b == k) || false)) = decide (k = a ∨ k = b) := by
  by_cases h1 : k = a
  · subst h1; simp
  · by_cases h2 : k = b
    · subst h2; simp
    · rw [beq_false_of_ne (Ne.symm h1), beq_false_of_ne (Ne.symm h2), decide_eq_false (by simp [h1, h2])]; rfl
theorem K_two (k : List Nat) (h : Hep) : oIn h (.str k) (.tup [.str (S "if"), .str (S "read")]) = some (.bl (decide (ifrd k))) := by
  rw [oIn_tupS h k _ rfl]
  show some (Val.bl ((S "if" == k) || ((S "read" == k) || false))) = _
  rw [or_beq]
  exact congrArg (fun z => some (Val.bl z)) (decide_eq_decide.mpr Iff.rfl)
theorem K_one (k : List Nat) (h : Hep) : oIn h (.str k) (.tup [.str (S "set"), .str (S "divide")]) = some (.bl (decide (stdv k))) := by
  rw [oIn_tupS h k _ rfl]
  show some (Val.bl ((S "set" == k) || ((S "divide" == k) || false))) = _
  rw [or_beq]
  exact congrArg (fun z => some (Val.bl z)) (decide_eq_decide.mpr Iff.rfl)
theorem map_pV (A B : List PR) : A.map pV ++ B.map pV = (A ++ B).map pV := List.map_append.symm
theorem gc_grow (h g : Hep) (A B : List PR) : gc 4 4 (h ++ [.lst (A.map pV)]) (.ok .non (h ++ [.lst (B.map pV)] ++ g)) = .ok .non (h ++ [.lst (B.map pV)]) := by
  have := gc_set 4 4 (h ++ [.lst (A.map pV)]) g h.length (.lst (B.map pV)) .non rfl (bndVs_all fun v hv => by
    obtain ⟨p, _, rfl⟩ := List.mem_map.mp hv
    rfl)
  rwa [set_new] at this
theorem extend_v {h : Hep} {l k : List Val} {m : Nat} (H : Hep) (e1 : H[m]? = some (.lst k)) (hn : H[h.length]? = some (.lst l)) (z : l.length + k.length ≤ 16777216) : mExtend (.ref h.length) [.ref m] H = some (.non, H.set h.length (.lst (l ++ k))) := by
  show (match H[h.length]?, H[m]? with | some (.lst l), some (.lst k) => if szOk (l.length + k.length) then some (Val.non, H.set h.length (.lst (l ++ k))) else none | _, _ => none) = _
  rw [hn, e1]
  exact if_pos (szOk_iff.mpr z)
theorem body_ok (n : Nat) (IH : ∀ l : List St, (∀ x ∈ l, x.Ok n) → l.length * 4 ^ n ≤ 100000 → ∀ h, M_performed_n (n + 1) [.tup (Sts.v l)] h = .ok (.ref h.length) (h ++ [.lst ((Sts.ps l).map pV)])) (hn : 4 ^ n ≤ 1000) (s : St) (ok : s.Ok (n + 1)) (h : Hep) (A : List PR) (lA : A.length ≤ 1000000) (v0 : Option Val) :
    L_performed_1 (M_performed_n (n + 1)) [v0, some (.ref h.length), some s.v] (h ++ [.lst (A.map pV)]) = .nx [v0, some (.ref h.length), some s.v] (h ++ [.lst ((A ++ s.ps).map pV)]) := by
  have lm : (A.map pV).length = A.length := List.length_map ..
  cases s with
  | perf a b w =>
    have i0 : ∀ h, oIdx h (St.perf a b w).v (.int 0) = some (.str (S "perform")) := fun h => rfl
    have i1 : ∀ h, oIdx h (St.perf a b w).v (.int 1) = some (.str a) := fun h => rfl
    have i2 : ∀ h, oIdx h (St.perf a b w).v (.int 2) = some (.str b) := fun h => rfl
    have e : (A ++ (St.perf a b w).ps).map pV = A.map pV ++ [.tup [.str a, .str b]] := by rw [List.map_append]; rfl
    rw [e]
    simp_all only [L_performed_1_v, i0, i1, i2, lm]
  | oth k vs =>
    have i0 : ∀ h, oIdx h (St.oth k vs).v (.int 0) = some (.str k) := fun h => by
      show atI (Val.str k :: vs) 0 = _; rw [atI_zero]
    have e : A ++ (St.oth k vs).ps = A := List.append_nil A
    have q1 : (k == [112, 101, 114, 102, 111, 114, 109]) = false := beq_false_of_ne ok.1.1
    have k2 := K_two k
    have k1 := K_one k
    rw [decide_eq_false ok.1.2.1] at k2
    rw [decide_eq_false ok.1.2.2] at k1
    have k2' : ∀ h, oIn h (.str k) (.tup [.str [105, 102], .str [114, 101, 97, 100]]) = some (.bl false) := k2
    have k1' : ∀ h, oIn h (.str k) (.tup [.str [115, 101, 116], .str [100, 105, 118, 105, 100, 101]]) = some (.bl false) := k1
    rw [e]
    simp_all only [L_performed_1_v, i0, q1, k2', k1']
  | two k c s t =>
    have i0 : ∀ h, oIdx h (St.two k c s t).v (.int 0) = some (.str k) := fun h => rfl
    have i2 : ∀ h, oIdx h (St.two k c s t).v (.int 2) = some (.tup (Sts.v s)) := fun h => rfl
    have i3 : ∀ h, oIdx h (St.two k c s t).v (.int 3) = some (.tup (Sts.v t)) := fun h => rfl
    have np : k ≠ S "perform" := fun z => by rcases ok.1 with e | e <;> (rw [e] at z; revert z; decide)
    have q1 : (k == [112, 101, 114, 102, 111, 114, 109]) = false := beq_false_of_ne np
    have k2 := K_two k
    rw [decide_eq_true ok.1] at k2
    have k2' : ∀ h, oIn h (.str k) (.tup [.str [105, 102], .str [114, 101, 97, 100]]) = some (.bl true) := k2
    have ls : s.length * 4 ^ n ≤ 2 * 1000 := Nat.mul_le_mul ok.2.2.1.1 hn
    have lt : t.length * 4 ^ n ≤ 2 * 1000 := Nat.mul_le_mul ok.2.2.2.1 hn
    have p1 := Oks_len s ok.2.2.1.2
    have p2 := Oks_len t ok.2.2.2.2
    have e1 := IH s ok.2.2.1.2 (by omega) (h ++ [.lst (A.map pV)])
    have e2 := IH t ok.2.2.2.2 (by omega) (h ++ [.lst (A.map pV)] ++ [.lst ((Sts.ps s).map pV)])
    have l1 : (h ++ [Obj.lst (A.map pV)]).length = h.length + 1 := len_new ..
    have l2 : (h ++ [Obj.lst (A.map pV)] ++ [Obj.lst ((Sts.ps s).map pV)]).length = h.length + 2 := by rw [len_new, len_new]
    have l3 : (h ++ [Obj.lst (A.map pV)] ++ [Obj.lst ((Sts.ps s).map pV)] ++ [Obj.lst ((Sts.ps t).map pV)]).length = h.length + 3 := by rw [len_new, len_new, len_new]
    rw [l1] at e1
    rw [l2] at e2
    have lps : ((Sts.ps s).map pV).length = (Sts.ps s).length := List.length_map ..
    have lpt : ((Sts.ps t).map pV).length = (Sts.ps t).length := List.length_map ..
    have pl : oPlus (h ++ [Obj.lst (A.map pV)] ++ [Obj.lst ((Sts.ps s).map pV)] ++ [Obj.lst ((Sts.ps t).map pV)]) (.ref (h.length + 1)) (.ref (h.length + 2)) = some (.ref (h.length + 3), h ++ [Obj.lst (A.map pV)] ++ [Obj.lst ((Sts.ps s).map pV)] ++ [Obj.lst ((Sts.ps t).map pV)] ++ [.lst ((Sts.ps s).map pV ++ (Sts.ps t).map pV)]) := by
      have g1 : itsL (h ++ [Obj.lst (A.map pV)] ++ [Obj.lst ((Sts.ps s).map pV)] ++ [Obj.lst ((Sts.ps t).map pV)]) (.ref (h.length + 1)) = some ((Sts.ps s).map pV) := by
        show (match (h ++ [Obj.lst (A.map pV)] ++ [Obj.lst ((Sts.ps s).map pV)] ++ [Obj.lst ((Sts.ps t).map pV)])[h.length + 1]? with | some (.lst l) => some l | _ => none) = _
        rw [← l1, get_new2]
      have g2 : itsL (h ++ [Obj.lst (A.map pV)] ++ [Obj.lst ((Sts.ps s).map pV)] ++ [Obj.lst ((Sts.ps t).map pV)]) (.ref (h.length + 2)) = some ((Sts.ps t).map pV) := by
        show (match (h ++ [Obj.lst (A.map pV)] ++ [Obj.lst ((Sts.ps s).map pV)] ++ [Obj.lst ((Sts.ps t).map pV)])[h.length + 2]? with | some (.lst l) => some l | _ => none) = _
        rw [← l2, get_new]
      rw [oPlus_refs g1 g2, szOk_of (by rw [lps, lpt]; omega), needO_t, l3]
    have ex := extend_v (h := h) (l := A.map pV) (k := (Sts.ps s).map pV ++ (Sts.ps t).map pV) (m := h.length + 3) (h ++ [Obj.lst (A.map pV)] ++ [Obj.lst ((Sts.ps s).map pV)] ++ [Obj.lst ((Sts.ps t).map pV)] ++ [.lst ((Sts.ps s).map pV ++ (Sts.ps t).map pV)]) (by rw [← l3]; exact get_new _ _) (by
      refine get_app (get_app (get_app (get_new _ _)))) (by rw [List.length_append, lm, lps, lpt]; omega)
    have st : (h ++ [Obj.lst (A.map pV)] ++ [Obj.lst ((Sts.ps s).map pV)] ++ [Obj.lst ((Sts.ps t).map pV)] ++ [Obj.lst ((Sts.ps s).map pV ++ (Sts.ps t).map pV)]).set h.length (.lst (A.map pV ++ ((Sts.ps s).map pV ++ (Sts.ps t).map pV))) = h ++ [.lst ((A ++ (St.two k c s t).ps).map pV)] ++ ([Obj.lst ((Sts.ps s).map pV)] ++ [Obj.lst ((Sts.ps t).map pV)] ++ [Obj.lst ((Sts.ps s).map pV ++ (Sts.ps t).map pV)]) := by
      rw [List.append_assoc, List.append_assoc, List.append_assoc, List.set_append_right _ _ (Nat.le_refl _), Nat.sub_self, map_pV, map_pV, St.ps]
      simp
    rw [st] at ex
    have g := gc_grow h [Obj.lst ((Sts.ps s).map pV), Obj.lst ((Sts.ps t).map pV), Obj.lst ((Sts.ps s).map pV ++ (Sts.ps t).map pV)] A (A ++ (St.two k c s t).ps)
    have ty : typ (h ++ [Obj.lst (A.map pV)]) (.ref h.length) = some "list" := typ_new _ _
    simp_all only [L_performed_1_v, i0, i2, i3, q1, k2', e1, e2, pl, ex, g]
  | one k vs s =>
    have i0 : ∀ h, oIdx h (St.one k vs s).v (.int 0) = some (.str k) := fun h => by
      show atI (Val.str k :: (vs ++ [.tup (Sts.v s)])) 0 = _; rw [atI_zero]
    have im : ∀ h, oIdx h (St.one k vs s).v (.int (-1)) = some (.tup (Sts.v s)) := fun h => by
      show atI (Val.str k :: (vs ++ [.tup (Sts.v s)])) (-1) = _
      have ix : ixN (Val.str k :: (vs ++ [Val.tup (Sts.v s)])).length (-1) = some (vs.length + 1) := by
        rw [ixN_neg (by omega) (by simp only [List.length_cons, List.length_append]; omega)]
        simp only [List.length_cons, List.length_append, List.length_nil]
        congr 1; omega
      unfold atI
      rw [ix]
      simp
    have np : k ≠ S "perform" := fun z => by rcases ok.1 with e | e <;> (rw [e] at z; revert z; decide)
    have q1 : (k == [112, 101, 114, 102, 111, 114, 109]) = false := beq_false_of_ne np
    have nt : ¬ ifrd k := fun z => by rcases ok.1 with e | e <;> (rw [e] at z; rcases z with z | z <;> (revert z; decide))
    have k2 := K_two k
    have k1 := K_one k
    rw [decide_eq_false nt] at k2
    rw [decide_eq_true ok.1] at k1
    have k2' : ∀ h, oIn h (.str k) (.tup [.str [105, 102], .str [114, 101, 97, 100]]) = some (.bl false) := k2
    have k1' : ∀ h, oIn h (.str k) (.tup [.str [115, 101, 116], .str [100, 105, 118, 105, 100, 101]]) = some (.bl true) := k1
    have ls : s.length * 4 ^ n ≤ 2 * 1000 := Nat.mul_le_mul ok.2.2.2.1 hn
    have p1 := Oks_len s ok.2.2.2.2
    have e1 := IH s ok.2.2.2.2 (by omega) (h ++ [.lst (A.map pV)])
    have l1 : (h ++ [Obj.lst (A.map pV)]).length = h.length + 1 := len_new ..
    rw [l1] at e1
    have lps : ((Sts.ps s).map pV).length = (Sts.ps s).length := List.length_map ..
    have ex := extend_v (h := h) (l := A.map pV) (k := (Sts.ps s).map pV) (m := h.length + 1) (h ++ [Obj.lst (A.map pV)] ++ [Obj.lst ((Sts.ps s).map pV)]) (by rw [← l1]; exact get_new _ _) (get_app (get_new _ _)) (by rw [lm, lps]; omega)
    have st : (h ++ [Obj.lst (A.map pV)] ++ [Obj.lst ((Sts.ps s).map pV)]).set h.length (.lst (A.map pV ++ (Sts.ps s).map pV)) = h ++ [.lst ((A ++ (St.one k vs s).ps).map pV)] ++ [Obj.lst ((Sts.ps s).map pV)] := by
      rw [List.append_assoc, List.set_append_right _ _ (Nat.le_refl _), Nat.sub_self, map_pV, St.ps]
      simp
    rw [st] at ex
    have g := gc_grow h [Obj.lst ((Sts.ps s).map pV)] A (A ++ (St.one k vs s).ps)
    simp_all only [L_performed_1_v, i0, im, q1, k2', k1', e1, ex, g]
theorem performed_ok : ∀ (n : Nat) (l : List St), 4 ^ n ≤ 4000 → (∀ x ∈ l, x.Ok n) → l.length * 4 ^ n ≤ 100000 → ∀ h, M_performed_n (n + 1) [.tup (Sts.v l)] h = .ok (.ref h.length) (h ++ [.lst ((Sts.ps l).map pV)])
  | 0, l, _, ok, _, h => by
    cases l with
    | cons s l => exact (ok s List.mem_cons_self).elim
    | nil =>
      rw [M_performed_v]
      have f : fn 1 3 (B_performed (M_performed_n 0)) [.tup (Sts.v [])] h = .ok (.ref h.length) (h ++ [.lst []]) := by
        rw [show Sts.v [] = [] from rfl]
        have z : forT (gNam 2) (fun _ => true) (L_performed_1 (M_performed_n 0)) [] [some (Val.tup []), some (.ref h.length), none] (h ++ [Obj.lst []]) .mk = .nx [some (Val.tup []), some (.ref h.length), none] (h ++ [Obj.lst []]) := forL_0 _ _ _ _ _ rfl _
        simp_all only [B_performed_v, z]
      rw [f]
      exact gc_topnew 4 h _ rfl
  | n + 1, l, hn, ok, hl, h => by
    have hn' : 4 ^ n ≤ 1000 := by rw [Nat.pow_succ] at hn; omega
    have lp : ∀ (l : List St) (A : List PR) (v2 : Option Val) (v0 : Option Val), (∀ x ∈ l, x.Ok (n + 1)) → A.length + l.length * 4 ^ (n + 1) ≤ 900000 → ∃ w2, forT (gNam 2) (fun _ => true) (L_performed_1 (M_performed_n (n + 1))) (Sts.v l) [v0, some (.ref h.length), v2] (h ++ [.lst (A.map pV)]) .mk = .nx [v0, some (.ref h.length), w2] (h ++ [.lst ((A ++ Sts.ps l).map pV)]) := by
      intro l
      induction l with
      | nil => intro A v2 v0 _ _; exact ⟨v2, by rw [show Sts.v [] = [] from rfl, show Sts.ps [] = [] from rfl, List.append_nil]; exact forL_0 _ _ _ _ _ rfl _⟩
      | cons s l ih =>
        intro A v2 v0 ok b
        have o := ok s List.mem_cons_self
        have ll := Ok_len (n + 1) s o
        rw [List.length_cons, Nat.add_mul, Nat.one_mul] at b
        obtain ⟨w2, e⟩ := ih (A ++ s.ps) (some s.v) v0 (fun x hx => ok x (List.mem_cons_of_mem _ hx)) (by rw [List.length_append]; omega)
        refine ⟨w2, ?_⟩
        rw [Sts.v, forL_v _ _ _ _ _ _ _ rfl _]
        have st : gNam 2 s.v [v0, some (.ref h.length), v2] = some [v0, some (.ref h.length), some s.v] := rfl
        rw [st]
        show (L_performed_1 _ _ _).go _ .mk = _
        rw [body_ok n (fun l o b h => performed_ok n l (by omega) o b h) hn' s o h A (by omega) v0, Sts.ps, ← List.append_assoc]
        exact e
    obtain ⟨w2, e⟩ := lp l [] none (some (.tup (Sts.v l))) ok (by simp only [List.length_nil]; omega)
    rw [List.map_nil, List.nil_append] at e
    rw [M_performed_v]
    have f : fn 1 3 (B_performed (M_performed_n (n + 1))) [.tup (Sts.v l)] h = .ok (.ref h.length) (h ++ [.lst ((Sts.ps l).map pV)]) := by
      simp_all only [B_performed_v, e]
    rw [f]
    exact gc_topnew 4 h _ (bndVs_all fun v hv => by
      obtain ⟨p, _, rfl⟩ := List.mem_map.mp hv
      rfl)
end Law

set_option maxRecDepth 100000
set_option maxHeartbeats 1000000
set_option linter.all false
/-! Pf1: drawn statements (k40) -/
namespace Law
open Cd Mir Classical
theorem gc_gen (d e : Nat) (h h1 g : Hep) (v : Val) (len : h1.length = h.length) (q : ∀ n, n < h.length → h1[n]? = h[n]? ∨ ∃ o, h1[n]? = some o ∧ bndO h.length o = true) (b : bndV h.length v = true) : gc d e h (.ok v (h1 ++ g)) = .ok v h1 := by
  have c : cutOk h (h1 ++ g) := by
    refine ⟨by rw [List.length_append]; omega, fun n hn => ?_⟩
    rw [List.getElem?_append_left (by rw [len]; exact hn)]
    exact q n hn
  unfold gc
  simp only
  rw [if_pos c, mapR_bnd (k := h.length) (fun n hn => fz_lt hn) v b]
  simp only [List.take_left' len]
theorem gc_genL (d e : Nat) (h h1 : Hep) (l : List Val) (len : h1.length = h.length) (q : ∀ n, n < h.length → h1[n]? = h[n]? ∨ ∃ o, h1[n]? = some o ∧ bndO h.length o = true) (b : bndVs h.length l = true) : gc (d + 1) e h (.ok (.ref h1.length) (h1 ++ [.lst l])) = .ok (.fl l) h1 := by
  have c : cutOk h (h1 ++ [.lst l]) := by
    refine ⟨by rw [List.length_append]; omega, fun n hn => ?_⟩
    rw [List.getElem?_append_left (by rw [len]; exact hn)]
    exact q n hn
  have l1 : (h1 ++ [Obj.lst l]).length = h1.length + 1 := len_new ..
  unfold gc
  simp only
  rw [if_pos c, mapR, fz, if_neg (by omega), if_neg (by omega), get_new]
  simp only [mapRs_bnd (k := h.length) (fun n hn => fz_lt hn) l b, Option.map_some, List.take_left' len]
def HP (h : Hep) (d : Nat) (x : DS) (f : Nat) (F : List PR) : Hep := (h.set d x.o).set f (.lst (F.map pV))
section
variable {h : Hep} {d f : Nat} (ld : d < h.length) (lf : f < h.length) (ne : d ≠ f) (x y : DS) (F G : List PR)
theorem HP_len : (HP h d x f F).length = h.length := by unfold HP; rw [List.length_set, List.length_set]
include ld ne in
theorem HP_d : (HP h d x f F)[d]? = some x.o := by
  unfold HP; rw [List.getElem?_set_ne (Ne.symm ne), List.getElem?_set_self ld]
include lf in
theorem HP_f : (HP h d x f F)[f]? = some (.lst (F.map pV)) := by
  unfold HP; rw [List.getElem?_set_self (by rw [List.length_set]; exact lf)]
include ne in
theorem HP_setd : (HP h d x f F).set d y.o = HP h d y f F := by
  unfold HP; rw [List.set_comm _ _ (Ne.symm ne), List.set_set]
theorem HP_setf : (HP h d x f F).set f (.lst (G.map pV)) = HP h d x f G := by
  unfold HP; rw [List.set_set]
include ld lf ne in
theorem HP_like : ∀ n, n < (HP h d x f F).length → (HP h d y f G)[n]? = (HP h d x f F)[n]? ∨ ∃ o, (HP h d y f G)[n]? = some o ∧ bndO (HP h d x f F).length o = true := by
  intro n hn
  rw [HP_len] at hn ⊢
  by_cases e1 : n = f
  · subst e1
    exact .inr ⟨_, HP_f lf .., bndVs_all fun v hv => by
      obtain ⟨p, _, rfl⟩ := List.mem_map.mp hv
      rfl⟩
  · by_cases e2 : n = d
    · subst e2
      exact .inr ⟨_, HP_d ld ne .., y.bnd _⟩
    · left
      unfold HP
      rw [List.getElem?_set_ne (Ne.symm e1), List.getElem?_set_ne (Ne.symm e2), List.getElem?_set_ne (Ne.symm e1), List.getElem?_set_ne (Ne.symm e2)]
include ld lf ne in
theorem HP_gcL (l : List Val) (b : bndVs h.length l = true) : gc 4 4 (HP h d x f F) (.ok (.ref (HP h d y f G).length) (HP h d y f G ++ [.lst l])) = .ok (.fl l) (HP h d y f G) :=
  gc_genL 3 4 _ _ l (by rw [HP_len, HP_len]) (HP_like ld lf ne x y F G) (by rw [HP_len]; exact b)
include ld lf ne in
theorem HP_gc (v : Val) (g : Hep) (b : bndV h.length v = true) : gc 4 4 (HP h d x f F) (.ok v (HP h d y f G ++ g)) = .ok v (HP h d y f G) := by
  refine gc_gen 4 4 _ _ g v (by rw [HP_len, HP_len]) (fun n hn => ?_) (by rw [HP_len]; exact b)
  rw [HP_len] at hn ⊢
  by_cases e1 : n = f
  · subst e1
    exact .inr ⟨_, HP_f lf .., bndVs_all fun v hv => by
      obtain ⟨p, _, rfl⟩ := List.mem_map.mp hv
      rfl⟩
  · by_cases e2 : n = d
    · subst e2
      exact .inr ⟨_, HP_d ld ne .., y.bnd _⟩
    · left
      unfold HP
      rw [List.getElem?_set_ne (Ne.symm e1), List.getElem?_set_ne (Ne.symm e2), List.getElem?_set_ne (Ne.symm e1), List.getElem?_set_ne (Ne.symm e2)]
include ld lf ne in
theorem HP_gc0 (v : Val) (b : bndV h.length v = true) : gc 4 4 (HP h d x f F) (.ok v (HP h d y f G)) = .ok v (HP h d y f G) := by
  have := HP_gc ld lf ne x y F G v [] b
  rwa [List.append_nil] at this
end
def InN (NS : List (List Nat)) (p : PR) : Prop := ∃ i j : Nat, i ≤ j ∧ NS[i]? = some p.1 ∧ NS[j]? = some p.2
theorem dec4 {m : Int} (h : 0 ≤ m ∧ m < 4) : m = 0 ∨ m = 1 ∨ m = 2 ∨ m = 3 := by omega
def wy (cn : Val) : List Val := [.tup [.str (S "once")], .tup [.str (S "times"), .tup [.str (S "number"), .tup [.int 3, .int 0]]], .tup [.str (S "until"), cn], .tup [.str (S "varying"), .tup [.str (S "a"), .tup []], .tup [.str (S "number"), .tup [.int 1, .int 0]], .tup [.str (S "number"), .tup [.int 1, .int 0]], cn]]
theorem wy_bnd {cn : Val} (bc : ∀ k, bndV k cn = true) (n : Nat) : ∀ k, bndV k ((wy cn).getD n .non) = true := by
  intro k
  match n with
  | 0 => rfl
  | 1 => rfl
  | 2 => show bndV k (.tup [.str (S "until"), cn]) = true; simp only [bndV_tup, bndVs_cons, bndV_str, bndVs_nil, bc k]; rfl
  | 3 => show bndV k (.tup [.str (S "varying"), .tup [.str (S "a"), .tup []], .tup [.str (S "number"), .tup [.int 1, .int 0]], .tup [.str (S "number"), .tup [.int 1, .int 0]], cn]) = true; simp only [bndV_tup, bndVs_cons, bndV_str, bndVs_nil, bc k, bndV_int]; rfl
  | n + 4 => rfl
theorem perform_tail {h : Hep} {d f : Nat} (ld : d < h.length) (lf : f < h.length) (ne : d ≠ f) (NS : List (List Nat)) (i l : Nat) (a b : List Nat) (ia : ∀ h, oIdx h (.fl (NS.map .str)) (.int i) = some (.str a)) (ib : ∀ h, oIdx h (.fl (NS.map .str)) (.int l) = some (.str b)) (cn : Val) (bc : ∀ k, bndV k cn = true) (x : DS) (F : List PR) :
    ∃ (w : Val) (g : Hep), T_v_law_perform_1 [some (.ref d), some (.fl (NS.map .str)), some (.ref f), some (.int i), some (.int l), some cn, none] (HP h d x f F) = .ret (St.perf a b w).v (HP h d (dn x 4) f F ++ g) ∧ ∀ k, bndV k w = true := by
  have b4 := dv_bd x 4 (by decide) (by decide)
  have q4 := qd 4 (by decide) (by decide)
  have e1 := HP_d ld ne x F
  have q1 : decide (d < (HP h d x f F).length) = true := decide_eq_true (by rw [HP_len]; exact ld)
  have e2 := HP_setd (h := h) (d := d) ne x (dn x 4) F
  have l1 : List.length (HP h d (dn x 4) f F) = List.length (HP h d x f F) := by rw [HP_len, HP_len]
  generalize hm : dv x 4 = m at *
  have vv : ∀ w : Val, (St.perf a b w).v = .tup [.str [112, 101, 114, 102, 111, 114, 109], .str a, .str b, w] := fun w => rfl
  have g0 : (wy cn).getD 0 .non = .tup [.str (S "once")] := rfl
  have g1 : (wy cn).getD 1 .non = .tup [.str (S "times"), .tup [.str (S "number"), .tup [.int 3, .int 0]]] := rfl
  have g2 : (wy cn).getD 2 .non = .tup [.str (S "until"), cn] := rfl
  have g3 : (wy cn).getD 3 .non = .tup [.str (S "varying"), .tup [.str (S "a"), .tup []], .tup [.str (S "number"), .tup [.int 1, .int 0]], .tup [.str (S "number"), .tup [.int 1, .int 0]], cn] := rfl
  rcases dec4 b4 with rfl | rfl | rfl | rfl
  · refine ⟨(wy cn).getD 0 .non, [.lst (wy cn)], ?_, wy_bnd bc 0⟩
    rw [vv, g0]
    simp_all only [T_v_law_perform_1_v, draw_v, e1, q1, decDS_o, onD_some, q4, e2, hm, ia, ib, l1, wy]
  · refine ⟨(wy cn).getD 1 .non, [.lst (wy cn)], ?_, wy_bnd bc 1⟩
    rw [vv, g1]
    simp_all only [T_v_law_perform_1_v, draw_v, e1, q1, decDS_o, onD_some, q4, e2, hm, ia, ib, l1, wy]
  · refine ⟨(wy cn).getD 2 .non, [.lst (wy cn)], ?_, wy_bnd bc 2⟩
    rw [vv, g2]
    simp_all only [T_v_law_perform_1_v, draw_v, e1, q1, decDS_o, onD_some, q4, e2, hm, ia, ib, l1, wy]
  · refine ⟨(wy cn).getD 3 .non, [.lst (wy cn)], ?_, wy_bnd bc 3⟩
    rw [vv, g3]
    simp_all only [T_v_law_perform_1_v, draw_v, e1, q1, decDS_o, onD_some, q4, e2, hm, ia, ib, l1, wy]
def cnd : Val := .tup [.str (S "compare"), .str (S "="), .tup [.str (S "ref"), .tup [.str (S "a"), .tup []]], .tup [.str (S "number"), .tup [.int 1, .int 0]]]
theorem perform_ok {h : Hep} {d f : Nat} (ld : d < h.length) (lf : f < h.length) (ne : d ≠ f) (NS : List (List Nat)) (c : Nat) (lc : NS.length = c) (c1 : 1 ≤ c) (c4 : c ≤ 40) (x : DS) (F : List PR) (lF : F.length ≤ 1000000) :
    ∃ (y : DS) (p : PR) (w : Val), M_v_law_perform [.ref d, .fl (NS.map .str), .ref f] (HP h d x f F) = .ok (St.perf p.1 p.2 w).v (HP h d y f (F ++ [p])) ∧ (∀ k, bndV k w = true) ∧ InN NS p := by
  obtain ⟨i, ei, hi⟩ := dv_nat x c (by omega) (by omega)
  obtain ⟨j, ej, hj⟩ := dv_nat (dn x c) ((c : Int) - i) (by omega) (by omega)
  have b2 := dv_bd (dn (dn x c) ((c : Int) - i)) 2 (by decide) (by decide)
  generalize hk : dv (dn (dn x c) ((c : Int) - i)) 2 = k at *
  have qc := qd (c : Int) (by omega) (by omega)
  have qi := qd ((c : Int) - i) (by omega) (by omega)
  have q2 := qd 2 (by decide) (by decide)
  have ln : (NS.map Val.str).length = c := by rw [List.length_map, lc]
  have hF : (F.map pV).length = F.length := List.length_map ..
  have at_ : ∀ (n : Nat), n < c → ∃ a, NS[n]? = some a ∧ ∀ h, oIdx h (.fl (NS.map .str)) (.int n) = some (.str a) := fun n hn => by
    have l : n < NS.length := by omega
    exact ⟨NS[n], List.getElem?_eq_getElem l, fun h => atI_of (by omega) (by rw [Int.toNat_natCast, List.getElem?_map, List.getElem?_eq_getElem l]; rfl)⟩
  obtain ⟨a, na, ia⟩ := at_ i (by omega)
  have e1 := HP_d ld ne x F
  have s1 := fun y => HP_setd (h := h) (d := d) ne x y F
  have g1 := fun y => HP_d ld ne y F
  have s2 := fun y z => HP_setd (h := h) (d := d) ne y z F
  have fin : ∀ (l : Nat), l < c → i ≤ l → (∀ b, NS[l]? = some b → (∀ h, oIdx h (.fl (NS.map .str)) (.int l) = some (.str b)) → B_v_law_perform [some (.ref d), some (.fl (NS.map .str)), some (.ref f), none, none, none, none] (HP h d x f F) = T_v_law_perform_1 [some (.ref d), some (.fl (NS.map .str)), some (.ref f), some (.int i), some (.int l), some cnd, none] (HP h d (dn (dn (dn x c) ((c : Int) - i)) 2) f (F ++ [(a, b)]))) → ∃ (y : DS) (p : PR) (w : Val), M_v_law_perform [.ref d, .fl (NS.map .str), .ref f] (HP h d x f F) = .ok (St.perf p.1 p.2 w).v (HP h d y f (F ++ [p])) ∧ (∀ k, bndV k w = true) ∧ InN NS p := by
    intro l hl il e
    obtain ⟨b, nb, ib⟩ := at_ l hl
    have e := e b nb ib
    obtain ⟨w, g, e2, bw⟩ := perform_tail ld lf ne NS i l a b ia ib cnd (fun k => rfl) (dn (dn (dn x c) ((c : Int) - i)) 2) (F ++ [(a, b)])
    refine ⟨dn (dn (dn (dn x c) ((c : Int) - i)) 2) 4, (a, b), w, ?_, bw, ⟨i, l, il, na, nb⟩⟩
    rw [M_v_law_perform_v]
    have fe : fn 3 7 B_v_law_perform [.ref d, .fl (NS.map .str), .ref f] (HP h d x f F) = (B_v_law_perform [some (.ref d), some (.fl (NS.map .str)), some (.ref f), none, none, none, none] (HP h d x f F)).res := rfl
    rw [fe, e, e2]
    exact HP_gc ld lf ne x _ F _ _ g (by rw [St.v, bndV_tup]; simp only [bndVs_cons, bndV_str, bndVs_nil, bw]; rfl)
  have ap : ∀ (y : DS) (b : List Nat), mAppend (.ref f) [.tup [.str a, .str b]] (HP h d y f F) = some (.non, HP h d y f (F ++ [(a, b)])) := fun y b => by
    rw [append_ok (HP_f lf ..) (by rw [hF]; omega), show F.map pV ++ [Val.tup [.str a, .str b]] = (F ++ [(a, b)]).map pV by rw [List.map_append]; rfl, HP_setf]
  have tf := fun y => HP_f (h := h) (d := d) lf y F
  have gL : ∀ (y z : DS) (m : Int), gc 4 4 (HP h d y f F) (.ok (.ref (HP h d z f F).length) (HP h d z f F ++ [.lst [.int 0, .int m]])) = .ok (.fl [.int 0, .int m]) (HP h d z f F) := fun y z m => HP_gcL ld lf ne y z F F _ rfl
  have k01 : k = 0 ∨ k = 1 := by omega
  rcases k01 with rfl | rfl
  · refine fin i (by omega) (Nat.le_refl _) fun b nb ib => ?_
    have ab : a = b := Option.some.inj (na.symm.trans nb)
    subst ab
    simpa only [B_v_law_perform_v, ln, draw_v, e1, decDS_o, onD_some, qc, s1, g1, s2, ei, qi, ej, q2, hk, ia, ib, ap, tf, gL, cnd, Int.add_zero]
  · refine fin (i + j) (by omega) (by omega) fun b nb ib => ?_
    have ib' : ∀ h, oIdx h (.fl (NS.map .str)) (.int ((i : Int) + j)) = some (.str b) := fun h => by rw [← ib h]; push_cast; rfl
    have cc : ((i + j : Nat) : Int) = (i : Int) + j := by push_cast; rfl
    rw [cc]
    simpa only [B_v_law_perform_v, ln, draw_v, e1, decDS_o, onD_some, qc, s1, g1, s2, ei, qi, ej, q2, hk, ia, ib', ap, tf, gL, cnd]
end Law

set_option maxRecDepth 100000
set_option maxHeartbeats 1000000
set_option linter.all false
/-! Pf2: drawn blocks and statements (k40) -/
namespace Law
open Cd Mir Classical
def StS (NS : List (List Nat)) (d f n : Nat) : Prop := ∀ (h : Hep), d < h.length → f < h.length → ∀ (x : DS) (F : List PR), F.length + 4 ^ n ≤ 900000 →
  ∃ (y : DS) (s : St), M_v_law_block_g (2 * n) 1 [.ref d, .fl (NS.map .str), .ref f, .int n] (HP h d x f F) = .ok s.v (HP h d y f (F ++ s.ps)) ∧ s.Ok n ∧ ∀ p ∈ s.ps, InN NS p
def BkS (NS : List (List Nat)) (d f n : Nat) : Prop := ∀ (h : Hep), d < h.length → f < h.length → ∀ (x : DS) (F : List PR) (ls : Int), F.length + 2 * 4 ^ n ≤ 900000 → ls = 0 ∨ ls = 1 →
  ∃ (y : DS) (l : List St), M_v_law_block_g (2 * n + 1) 0 [.ref d, .fl (NS.map .str), .ref f, .int n, .int ls] (HP h d x f F) = .ok (.tup (Sts.v l)) (HP h d y f (F ++ Sts.ps l)) ∧ l.length ≤ 2 ∧ (∀ s ∈ l, s.Ok n) ∧ ∀ p ∈ Sts.ps l, InN NS p
theorem HP_push {h : Hep} {d f : Nat} (ld : d < h.length) (lf : f < h.length) (x : DS) (F : List PR) (o : Obj) : HP h d x f F ++ [o] = HP (h ++ [o]) d x f F := by
  unfold HP
  rw [List.set_append_left _ _ ld, List.set_append_left _ _ (by rw [List.length_set]; exact lf)]
theorem HP_new {h : Hep} {d f : Nat} (ld : d < h.length) (lf : f < h.length) (x : DS) (F : List PR) (o : Obj) : (HP (h ++ [o]) d x f F)[h.length]? = some o := by
  rw [← HP_push ld lf, ← HP_len (h := h) (d := d) (f := f) x F]; exact get_new _ _
theorem HP_setnew {h : Hep} {d f : Nat} (ld : d < h.length) (lf : f < h.length) (x : DS) (F : List PR) (o u : Obj) : (HP (h ++ [o]) d x f F).set h.length u = HP (h ++ [u]) d x f F := by
  rw [← HP_push ld lf, ← HP_push ld lf, ← HP_len (h := h) (d := d) (f := f) x F]; exact set_new _ _ _
theorem blk_loop {NS : List (List Nat)} {d f n : Nat} (SO : StS NS d f n) (h : Hep) (ld : d < h.length) (lf : f < h.length) (v4 : Option Val) : ∀ (xs : List Val) (x : DS) (F : List PR) (l : List St) (v6 : Option Val), F.length + xs.length * 4 ^ n ≤ 900000 → l.length + xs.length ≤ 100 →
    ∃ (y : DS) (m : List St) (w6 : Option Val), forT (gNam 6) (fun _ => true) (L_v_law_block_1 (M_v_law_block_g (2 * n))) xs [some (.ref d), some (.fl (NS.map .str)), some (.ref f), some (.int n), v4, some (.ref h.length), v6] (HP (h ++ [.lst (Sts.v l)]) d x f F) .mk = .nx [some (.ref d), some (.fl (NS.map .str)), some (.ref f), some (.int n), v4, some (.ref h.length), w6] (HP (h ++ [.lst (Sts.v (l ++ m))]) d y f (F ++ Sts.ps m)) ∧ m.length = xs.length ∧ (∀ s ∈ m, s.Ok n) ∧ ∀ p ∈ Sts.ps m, InN NS p := by
  intro xs
  induction xs with
  | nil =>
    intro x F l v6 _ _
    refine ⟨x, [], v6, ?_, rfl, (fun s h => absurd h List.not_mem_nil), (fun p h => absurd h List.not_mem_nil)⟩
    rw [List.append_nil, show Sts.ps [] = [] from rfl, List.append_nil]
    exact forL_0 _ _ _ _ _ rfl _
  | cons v xs ih =>
    intro x F l v6 hF hl
    rw [List.length_cons] at hl
    rw [List.length_cons, Nat.add_mul, Nat.one_mul] at hF
    obtain ⟨y, s, e, o, q⟩ := SO (h ++ [.lst (Sts.v l)]) (by rw [len_new]; omega) (by rw [len_new]; omega) x F (by omega)
    have ll := Ok_len n s o
    have ap : mAppend (.ref h.length) [s.v] (HP (h ++ [.lst (Sts.v l)]) d y f (F ++ s.ps)) = some (.non, HP (h ++ [.lst (Sts.v (l ++ [s]))]) d y f (F ++ s.ps)) := by
      rw [append_ok (HP_new ld lf ..) (by rw [Sts.v_map, List.length_map]; omega), HP_setnew ld lf, Sts.v_app]; rfl
    obtain ⟨y2, m, w6, e2, l2, o2, q2⟩ := ih y (F ++ s.ps) (l ++ [s]) (some v) (by rw [List.length_append]; omega) (by rw [List.length_append]; simp only [List.length_cons, List.length_nil]; omega)
    refine ⟨y2, s :: m, w6, ?_, by rw [List.length_cons, List.length_cons, l2], fun t ht => ?_, fun p hp => ?_⟩
    · rw [forL_v _ _ _ _ _ _ _ rfl _]
      have st : gNam 6 v [some (.ref d), some (.fl (NS.map .str)), some (.ref f), some (.int n), v4, some (.ref h.length), v6] = some [some (.ref d), some (.fl (NS.map .str)), some (.ref f), some (.int n), v4, some (.ref h.length), some v] := rfl
      rw [st]
      show (L_v_law_block_1 _ _ _).go _ .mk = _
      have tl := HP_new ld lf x F (.lst (Sts.v l))
      have e4 : L_v_law_block_1 (M_v_law_block_g (2 * n)) [some (.ref d), some (.fl (NS.map .str)), some (.ref f), some (.int n), v4, some (.ref h.length), some v] (HP (h ++ [.lst (Sts.v l)]) d x f F) = .nx [some (.ref d), some (.fl (NS.map .str)), some (.ref f), some (.int n), v4, some (.ref h.length), some v] (HP (h ++ [.lst (Sts.v (l ++ [s]))]) d y f (F ++ s.ps)) := by
        simp_all only [L_v_law_block_1_v, e, ap, tl]
      rw [e4]
      rw [show l ++ s :: m = (l ++ [s]) ++ m by simp, Sts.ps, ← List.append_assoc]
      exact e2
    · rcases List.mem_cons.mp ht with rfl | ht
      · exact o
      · exact o2 t ht
    · rw [Sts.ps] at hp
      rcases List.mem_append.mp hp with hp | hp
      · exact q p hp
      · exact q2 p hp
theorem blk_ok {NS : List (List Nat)} {d f n : Nat} (ne : d ≠ f) (SO : StS NS d f n) : BkS NS d f n := by
  intro h ld lf x F ls hF hls
  have b4 := dv_bd x 4 (by decide) (by decide)
  have q4 := qd 4 (by decide) (by decide)
  obtain ⟨k, ek, hk⟩ : ∃ k : Nat, (if dv x 4 - 1 > ls then dv x 4 - 1 else ls) = (k : Int) ∧ k ≤ 2 := by
    refine ⟨(if dv x 4 - 1 > ls then dv x 4 - 1 else ls).toNat, ?_, ?_⟩ <;> split <;> omega
  have kn : k * 4 ^ n ≤ 2 * 4 ^ n := Nat.mul_le_mul_right _ hk
  obtain ⟨y, m, w6, e, lm, om, qm⟩ := blk_loop SO h ld lf (some (.int ls)) (rng 0 k) (dn x 4) F [] none (by rw [rng_length]; omega) (by rw [rng_length]; simp only [List.length_nil]; omega)
  rw [rng_length] at lm
  rw [List.nil_append] at e
  refine ⟨y, m, ?_, by omega, om, qm⟩
  have e1 := HP_d (h := h ++ [.lst []]) (d := d) (f := f) (by rw [len_new]; omega) ne x F
  have s1 := HP_setd (h := h ++ [.lst []]) (d := d) ne x (dn x 4) F
  have p1 := HP_push ld lf x F (.lst [])
  have e' : forT (gNam 6) (fun _ => true) (L_v_law_block_1 (M_v_law_block_g (2 * n))) (rng 0 k) [some (.ref d), some (.fl (NS.map .str)), some (.ref f), some (.int n), some (.int ls), some (.ref h.length), none] (HP (h ++ [.lst []]) d (dn x 4) f F) .mk = .nx [some (.ref d), some (.fl (NS.map .str)), some (.ref f), some (.int n), some (.int ls), some (.ref h.length), w6] (HP (h ++ [.lst (Sts.v m)]) d y f (F ++ Sts.ps m)) := e
  have tl := HP_new ld lf y (F ++ Sts.ps m) (.lst (Sts.v m))
  have rg : ∀ hh : Hep, fRng1 hh [.int (if dv x 4 - 1 > ls then dv x 4 - 1 else ls)] = some (rng 0 k, fun _ => true) := fun hh => by rw [ek, fRng1_of (by omega) (by omega), Int.toNat_natCast]
  have hl := HP_len (h := h) (d := d) (f := f) x F
  have f5 : B_v_law_block (M_v_law_block_g (2 * n)) [some (.ref d), some (.fl (NS.map .str)), some (.ref f), some (.int n), some (.int ls), none, none] (HP h d x f F) = .ret (.tup (Sts.v m)) (HP (h ++ [.lst (Sts.v m)]) d y f (F ++ Sts.ps m)) := by
    simp_all only [B_v_law_block_v, p1, draw_v, e1, decDS_o, onD_some, q4, s1, hl, rg, e', tl]
  have fe : fn 5 7 (B_v_law_block (M_v_law_block_g (2 * n))) [.ref d, .fl (NS.map .str), .ref f, .int n, .int ls] (HP h d x f F) = (B_v_law_block (M_v_law_block_g (2 * n)) [some (.ref d), some (.fl (NS.map .str)), some (.ref f), some (.int n), some (.int ls), none, none] (HP h d x f F)).res := rfl
  rw [M_v_law_block_v, fe, f5, ← HP_push ld lf]
  exact HP_gc ld lf ne x y F _ _ _ (by rw [bndV_tup]; exact Oks_bnd om _)
def OT (m : Int) : List Nat × List Val := if m = 0 then (S "stop", []) else if m = 1 then (S "write", [.str (S "f")]) else if m = 2 then (S "clear", [.tup [.str (S "a"), .tup []]]) else if m = 3 then (S "show", [.tup [.tup [.str (S "text"), .str (S "perform")]]]) else if m = 4 then (S "sort", [.str (S "t"), .str (S "k"), .bl true]) else (S "move", [.tup [.str (S "number"), .tup [.int 1, .int 0]], .tup [.str (S "a"), .tup []]])
theorem dec6 {m : Int} (h : 0 ≤ m ∧ m < 6) : m = 0 ∨ m = 1 ∨ m = 2 ∨ m = 3 ∨ m = 4 ∨ m = 5 := by omega
theorem OT_ok (m : Int) (h : 0 ≤ m ∧ m < 6) (n : Nat) : (St.oth (OT m).1 (OT m).2).Ok (n + 1) := by
  rcases dec6 h with rfl | rfl | rfl | rfl | rfl | rfl <;> exact ⟨⟨by decide, fun z => by rcases z with z | z <;> (revert z; decide), fun z => by rcases z with z | z <;> (revert z; decide)⟩, fun m => rfl⟩
theorem stm_ok {NS : List (List Nat)} {d f : Nat} (ne : d ≠ f) (c : Nat) (lc : NS.length = c) (c1 : 1 ≤ c) (c4 : c ≤ 40) (n : Nat) (BO : n ≠ 0 → BkS NS d f n) : StS NS d f (n + 1) := by
  intro h ld lf x F hF
  rw [Nat.pow_succ] at hF
  have k9 := dv_bd x 9 (by decide) (by decide)
  have q9 := qd 9 (by decide) (by decide)
  have e1 := HP_d ld ne x F
  have s1 := fun y => HP_setd (h := h) (d := d) ne x y F
  have g1 := fun y => HP_d ld ne y F
  have s2 := fun y z => HP_setd (h := h) (d := d) ne y z F
  have fin : ∀ (y : DS) (s : St), B_v_law_statement (M_v_law_block_g (2 * n + 1)) [some (.ref d), some (.fl (NS.map .str)), some (.ref f), some (.int ((n : Int) + 1)), none, none, none, none, none] (HP h d x f F) = .ret s.v (HP h d y f (F ++ s.ps)) → s.Ok (n + 1) → (∀ p ∈ s.ps, InN NS p) → ∃ (y : DS) (s : St), M_v_law_block_g (2 * (n + 1)) 1 [.ref d, .fl (NS.map .str), .ref f, .int ((n + 1 : Nat) : Int)] (HP h d x f F) = .ok s.v (HP h d y f (F ++ s.ps)) ∧ s.Ok (n + 1) ∧ ∀ p ∈ s.ps, InN NS p := by
    intro y s e o q
    refine ⟨y, s, ?_, o, q⟩
    have fe : fn 4 9 (B_v_law_statement (M_v_law_block_g (2 * n + 1))) [.ref d, .fl (NS.map .str), .ref f, .int ((n : Int) + 1)] (HP h d x f F) = (B_v_law_statement (M_v_law_block_g (2 * n + 1)) [some (.ref d), some (.fl (NS.map .str)), some (.ref f), some (.int ((n : Int) + 1)), none, none, none, none, none] (HP h d x f F)).res := rfl
    have cc : ((n + 1 : Nat) : Int) = (n : Int) + 1 := by push_cast; rfl
    rw [show 2 * (n + 1) = (2 * n + 1) + 1 by omega, M_v_law_statement_v, cc, fe, e]
    exact HP_gc0 ld lf ne x y F _ _ (Ok_bnd _ s o _)
  generalize hk : dv x 9 = k at *
  by_cases a3 : k < 3
  · have a3' := decide_eq_true a3
    obtain ⟨y, p, w, e, bw, ip⟩ := perform_ok ld lf ne NS c lc c1 c4 (dn x 9) F (by omega)
    refine fin y (.perf p.1 p.2 w) ?_ bw (fun q hq => by rw [St.ps, List.mem_singleton] at hq; rw [hq]; exact ip)
    simp_all only [B_v_law_statement_v, draw_v, e1, decDS_o, onD_some, q9, s1, hk, a3', e, St.ps]
  · have a3' := decide_eq_false a3
    by_cases a5 : k < 5 ∨ n = 0
    · have m6 := dv_bd (dn x 9) 6 (by decide) (by decide)
      have q6 := qd 6 (by decide) (by decide)
      have gL : ∀ l, (∀ k, bndVs k l = true) → gc 4 4 (HP h d (dn x 9) f F) (.ok (.ref (HP h d (dn x 9) f F).length) (HP h d (dn x 9) f F ++ [.lst l])) = .ok (.fl l) (HP h d (dn x 9) f F) := fun l b => HP_gcL ld lf ne _ _ F F l (b _)
      generalize hm : dv (dn x 9) 6 = m at *
      refine fin (dn (dn x 9) 6) (.oth (OT m).1 (OT m).2) ?_ (OT_ok m m6 n) (fun q hq => by rw [St.ps] at hq; cases hq)
      have go : ∀ q r : Bool, decide (k < 5) = q → (((n : Int) + 1) == 1) = r → (q || r) = true → B_v_law_statement (M_v_law_block_g (2 * n + 1)) [some (.ref d), some (.fl (NS.map .str)), some (.ref f), some (.int ((n : Int) + 1)), none, none, none, none, none] (HP h d x f F) = .ret (St.oth (OT m).1 (OT m).2).v (HP h d (dn (dn x 9) 6) f (F ++ (St.oth (OT m).1 (OT m).2).ps)) := by
        intro q r z1 z2 z3
        rw [show (St.oth (OT m).1 (OT m).2).ps = [] from rfl, List.append_nil, show (St.oth (OT m).1 (OT m).2).v = .tup (.str (OT m).1 :: (OT m).2) from rfl]
        cases q with
        | true => rcases dec6 m6 with rfl | rfl | rfl | rfl | rfl | rfl <;> (simp only [OT]; simp_all only [B_v_law_statement_v, draw_v, e1, g1, decDS_o, onD_some, q9, q6, s1, s2, hk, hm, a3', z1, gL])
        | false =>
          cases r with
          | false => cases z3
          | true => rcases dec6 m6 with rfl | rfl | rfl | rfl | rfl | rfl <;> (simp only [OT]; simp_all only [B_v_law_statement_v, draw_v, e1, g1, decDS_o, onD_some, q9, q6, s1, s2, hk, hm, a3', z1, z2, gL])
      refine go _ _ rfl rfl ?_
      rcases a5 with z | z
      · rw [decide_eq_true z]; rfl
      · subst z; rw [Bool.or_eq_true]; exact .inr rfl
    · have n0 : n ≠ 0 := fun z => a5 (.inr z)
      have k5 : ¬ k < 5 := fun z => a5 (.inl z)
      have k5' := decide_eq_false k5
      have n1 : (((n : Int) + 1) == 1) = false := beq_false_of_ne (by omega)
      have BO := BO n0
      have cc : ((n : Int) + 1 - 1) = n := by omega
      have lv : 2 * 4 ^ n + 2 * 4 ^ n = 4 ^ n * 4 := by omega
      have bn : ∀ (l : List St), (∀ s ∈ l, s.Ok n) → ∀ k, bndVs k (Sts.v l) = true := fun l o k => Oks_bnd o k
      have kk : k = 5 ∨ k = 6 ∨ k = 7 ∨ k = 8 := by omega
      have pl : ∀ l : List St, l.length ≤ 2 → (∀ s ∈ l, s.Ok n) → (Sts.ps l).length ≤ 2 * 4 ^ n := fun l l2 o => Nat.le_trans (Oks_len l o) (Nat.mul_le_mul_right _ l2)
      rcases kk with rfl | rfl | rfl | rfl
      · obtain ⟨y, l, e, l2, ol, ql⟩ := BO h ld lf (dn x 9) F 1 (by omega) (.inr rfl)
        have := pl l l2 ol
        obtain ⟨z, r, e', r2, or, qr⟩ := BO h ld lf y (F ++ Sts.ps l) 0 (by rw [List.length_append]; omega) (.inl rfl)
        refine fin z (.two (S "if") (.tup [.str (S "digits"), .tup [.str (S "a"), .tup []]]) l r) ?_ ⟨.inl rfl, fun k => rfl, ⟨l2, ol⟩, ⟨r2, or⟩⟩ (fun p hp => by
          rw [St.ps] at hp
          rcases List.mem_append.mp hp with hp | hp
          · exact ql p hp
          · exact qr p hp)
        rw [St.ps, St.v, ← List.append_assoc]
        simp_all only [B_v_law_statement_v, draw_v, e1, decDS_o, onD_some, q9, s1, hk, a3', k5', n1, cc, e, e']
      · obtain ⟨y, l, e, l2, ol, ql⟩ := BO h ld lf (dn x 9) F 0 (by omega) (.inl rfl)
        have := pl l l2 ol
        obtain ⟨z, r, e', r2, or, qr⟩ := BO h ld lf y (F ++ Sts.ps l) 0 (by rw [List.length_append]; omega) (.inl rfl)
        refine fin z (.two (S "read") (.str (S "f")) l r) ?_ ⟨.inr rfl, fun k => rfl, ⟨l2, ol⟩, ⟨r2, or⟩⟩ (fun p hp => by
          rw [St.ps] at hp
          rcases List.mem_append.mp hp with hp | hp
          · exact ql p hp
          · exact qr p hp)
        rw [St.ps, St.v, ← List.append_assoc]
        simp_all only [B_v_law_statement_v, draw_v, e1, decDS_o, onD_some, q9, s1, hk, a3', k5', n1, cc, e, e']
      · obtain ⟨y, l, e, l2, ol, ql⟩ := BO h ld lf (dn x 9) F 0 (by omega) (.inl rfl)
        refine fin y (.one (S "set") [.tup [.str (S "a"), .tup []], .bl false, .tup [.str (S "number"), .tup [.int 5, .int 0]]] l) ?_ ⟨.inl rfl, fun k => rfl, by decide, ⟨l2, ol⟩⟩ (fun p hp => by rw [St.ps] at hp; exact ql p hp)
        rw [St.ps, St.v]
        simp_all only [B_v_law_statement_v, draw_v, e1, decDS_o, onD_some, q9, s1, hk, a3', k5', n1, cc, e]
      · obtain ⟨y, l, e, l2, ol, ql⟩ := BO h ld lf (dn x 9) F 0 (by omega) (.inl rfl)
        have b2 := dv_bd y 2 (by decide) (by decide)
        have q2 := qd 2 (by decide) (by decide)
        have gL : ∀ F : List PR, ∀ l, (∀ k, bndVs k l = true) → gc 4 4 (HP h d y f F) (.ok (.ref (HP h d y f F).length) (HP h d y f F ++ [.lst l])) = .ok (.fl l) (HP h d y f F) := fun F l b => HP_gcL ld lf ne _ _ F F l (b _)
        have e1' := HP_d ld ne y (F ++ Sts.ps l)
        have s1' := fun z => HP_setd (h := h) (d := d) ne y z (F ++ Sts.ps l)
        have m2 : dv y 2 = 0 ∨ dv y 2 = 1 := by omega
        rcases m2 with m2 | m2
        · refine fin (dn y 2) (.one (S "divide") [.tup [.str (S "number"), .tup [.int 5, .int 0]], .tup [.str (S "number"), .tup [.int 2, .int 0]], .tup [.str (S "a"), .tup []], .bl true, .non] l) ?_ ⟨.inr rfl, fun k => rfl, by decide, ⟨l2, ol⟩⟩ (fun p hp => by rw [St.ps] at hp; exact ql p hp)
          rw [St.ps, St.v]
          simp_all only [B_v_law_statement_v, draw_v, e1, e1', s1', decDS_o, onD_some, q9, q2, s1, hk, a3', k5', n1, cc, e, gL, m2]
        · refine fin (dn y 2) (.one (S "divide") [.tup [.str (S "number"), .tup [.int 5, .int 0]], .tup [.str (S "number"), .tup [.int 2, .int 0]], .tup [.str (S "a"), .tup []], .bl true, .tup [.str (S "b"), .tup []]] l) ?_ ⟨.inr rfl, fun k => rfl, by decide, ⟨l2, ol⟩⟩ (fun p hp => by rw [St.ps] at hp; exact ql p hp)
          rw [St.ps, St.v]
          simp_all only [B_v_law_statement_v, draw_v, e1, e1', s1', decDS_o, onD_some, q9, q2, s1, hk, a3', k5', n1, cc, e, gL, m2]
theorem stm_all {NS : List (List Nat)} {d f : Nat} (ne : d ≠ f) (c : Nat) (lc : NS.length = c) (c1 : 1 ≤ c) (c4 : c ≤ 40) : ∀ n, StS NS d f (n + 1)
  | 0 => stm_ok ne c lc c1 c4 0 (fun z => absurd rfl z)
  | n + 1 => stm_ok ne c lc c1 c4 (n + 1) (fun _ => blk_ok ne (stm_all ne c lc c1 c4 n))
end Law

set_option maxRecDepth 100000
set_option maxHeartbeats 1000000
set_option linter.all false
/-! Wo: worklists (k71), plain -/
namespace Law
open Cd
section
variable (sc : Int → List Int) (st : Int)
inductive Rch : Int → Prop
  | base : Rch st
  | step {p q : Int} (h : Rch p) (m : q ∈ sc p) : Rch q
structure WInv (F W : List Int) : Prop where
  nd : F.Nodup
  fr : ∀ p ∈ F, Rch sc st p
  wr : ∀ p ∈ W, Rch sc st p
  s0 : st ∈ F ∨ st ∈ W
  cl : ∀ p ∈ F, ∀ q ∈ sc p, q ∈ F ∨ q ∈ W
variable {sc st}
theorem WInv.init : WInv sc st [] [st] := ⟨List.nodup_nil, fun p h => (by cases h), fun p h => by rw [List.mem_singleton.mp h]; exact .base, .inr (List.mem_singleton.mpr rfl), fun p h => by cases h⟩
theorem WInv.skip {F W : List Int} {x : Int} (h : WInv sc st F (W ++ [x])) (hx : x ∈ F) : WInv sc st F W := by
  refine ⟨h.nd, h.fr, fun p hp => h.wr p (List.mem_append_left _ hp), ?_, fun p hp q hq => ?_⟩
  · rcases h.s0 with z | z
    · exact .inl z
    · rcases List.mem_append.mp z with z | z
      · exact .inr z
      · rw [List.mem_singleton.mp z]; exact .inl hx
  · rcases h.cl p hp q hq with z | z
    · exact .inl z
    · rcases List.mem_append.mp z with z | z
      · exact .inr z
      · rw [List.mem_singleton.mp z]; exact .inl hx
theorem WInv.visit {F W ys : List Int} {x : Int} (h : WInv sc st F (W ++ [x])) (hx : x ∉ F) (hy : ∀ q, q ∈ ys ↔ q ∈ sc x) : WInv sc st (F ++ [x]) (W ++ ys) := by
  have rx : Rch sc st x := h.wr x (List.mem_append_right _ (List.mem_singleton.mpr rfl))
  have mv : ∀ q, q ∈ F ∨ q ∈ W ++ [x] → q ∈ F ++ [x] ∨ q ∈ W ++ ys := fun q z => by
    rcases z with z | z
    · exact .inl (List.mem_append_left _ z)
    · rcases List.mem_append.mp z with z | z
      · exact .inr (List.mem_append_left _ z)
      · exact .inl (List.mem_append_right _ z)
  refine ⟨List.nodup_append.mpr ⟨h.nd, by simp, fun a ha b hb => ?_⟩, fun p hp => ?_, fun p hp => ?_, mv _ h.s0, fun p hp q hq => ?_⟩
  · rw [List.mem_singleton.mp hb]
    intro z
    exact hx (z ▸ ha)
  · rcases List.mem_append.mp hp with hp | hp
    · exact h.fr p hp
    · rw [List.mem_singleton.mp hp]; exact rx
  · rcases List.mem_append.mp hp with hp | hp
    · exact h.wr p (List.mem_append_left _ hp)
    · exact rx.step ((hy p).mp hp)
  · rcases List.mem_append.mp hp with hp | hp
    · exact mv q (h.cl p hp q hq)
    · rw [List.mem_singleton.mp hp] at hq
      exact .inr (List.mem_append_right _ ((hy q).mpr hq))
theorem WInv.done {F : List Int} (h : WInv sc st F []) (p : Int) : p ∈ F ↔ Rch sc st p := by
  refine ⟨h.fr p, fun r => ?_⟩
  induction r with
  | base => rcases h.s0 with z | z
            · exact z
            · cases z
  | step r m ih => rcases h.cl _ ih _ m with z | z
                   · exact z
                   · cases z
theorem insI_pm (i : Int) : ∀ l : List Int, (insI i l).Perm (i :: l)
  | [] => .refl _
  | j :: l => by
    rw [insI]
    split
    · exact .refl _
    · exact ((insI_pm i l).cons j).trans (.swap i j l)
theorem srtI_pm : ∀ l : List Int, (srtI l).Perm l
  | [] => .refl _
  | i :: l => by rw [srtI]; exact (insI_pm i _).trans ((srtI_pm l).cons i)
theorem insI_sw (i : Int) : ∀ l : List Int, l.Pairwise (· ≤ ·) → (insI i l).Pairwise (· ≤ ·)
  | [], _ => by simp [insI]
  | j :: l, h => by
    have h' := List.pairwise_cons.mp h
    rw [insI]
    split
    · rename_i q
      exact List.pairwise_cons.mpr ⟨fun y hy => by
        rcases List.mem_cons.mp hy with rfl | hy
        · omega
        · have := h'.1 y hy; omega, h⟩
    · rename_i q
      refine List.pairwise_cons.mpr ⟨fun y hy => ?_, insI_sw i l h'.2⟩
      rcases List.mem_cons.mp ((insI_pm i l).mem_iff.mp hy) with rfl | hy
      · omega
      · exact h'.1 y hy
theorem srtI_sw : ∀ l : List Int, (srtI l).Pairwise (· ≤ ·)
  | [] => List.Pairwise.nil
  | i :: l => insI_sw i _ (srtI_sw l)
theorem srt_same {F G : List Int} (nF : F.Nodup) (nG : G.Nodup) (h : ∀ p, p ∈ F ↔ p ∈ G) : srtI F = srtI G := by
  have pm : F.Perm G := (List.perm_ext_iff_of_nodup nF nG).mpr h
  exact List.Perm.eq_of_pairwise (fun a b _ _ h1 h2 => Int.le_antisymm h1 h2) (srtI_sw F) (srtI_sw G) ((srtI_pm F).trans (pm.trans (srtI_pm G).symm))
theorem in_bound {F : List Int} {N : Nat} (nd : F.Nodup) (h : ∀ p ∈ F, 0 ≤ p ∧ p < N) : F.length ≤ N := by
  have := List.Nodup.length_le_of_subset (l₂ := (List.range N).map fun (i : Nat) => (i : Int)) nd (fun y hy => by
    have := h y hy
    exact List.mem_map.mpr ⟨y.toNat, List.mem_range.mpr (by omega), by omega⟩)
  simpa using this
end
end Law

set_option maxRecDepth 100000
set_option maxHeartbeats 1000000
set_option linter.all false
/-! Fd: dicts of numbers that are true -/
namespace Law
open Cd Mir Classical
theorem keyEq_ii (i j : Int) : keyEq (.int i) (.int j) = (i == j) := id rfl
def fdD (F : List Int) : List (Val × Val) := F.map fun p => (.int p, .bl true)
theorem fdD_get (x : Int) : ∀ F : List Int, (dGet (fdD F) (.int x)).isSome = decide (x ∈ F)
  | [] => by simp [fdD, dGet]
  | p :: F => by
    show (dGet ((.int p, .bl true) :: fdD F) (.int x)).isSome = _
    rw [dGet]
    by_cases e : p = x
    · subst e
      rw [if_pos (by rw [keyEq_ii]; exact ib_self _), decide_eq_true List.mem_cons_self]; rfl
    · rw [if_neg (by rw [keyEq_ii, beq_false_of_ne e]; decide), fdD_get x F]
      by_cases m : x ∈ F
      · rw [decide_eq_true m, decide_eq_true (List.mem_cons_of_mem _ m)]
      · rw [decide_eq_false m, decide_eq_false (fun z => by
          rcases List.mem_cons.mp z with z | z
          · exact e z.symm
          · exact m z)]
theorem fdD_put {x : Int} {F : List Int} (h : x ∉ F) : dPut (fdD F) (.int x) (.bl true) = fdD (F ++ [x]) := by
  unfold dPut
  rw [if_neg (by unfold dHas; rw [fdD_get, decide_eq_false h]; decide)]
  unfold fdD
  rw [List.map_append]
  rfl
theorem keysI_fd : ∀ F : List Int, keysI (fdD F) = some F
  | [] => rfl
  | i :: F => by
    show (keysI (fdD F)).map (i :: ·) = _
    rw [keysI_fd F]; rfl
theorem sortA_d (h : Hep) (n : Nat) (F : List Int) (fl : F.length ≤ 10000) (e : h[n]? = some (.dct (fdD F))) : bSortA [.ref n] h = some (.ref h.length, h ++ [.lst ((srtI F).map .int)]) := by
  have n1 : itsL h (.ref n) = none := by
    unfold itsL
    simp only [e]
  have e1 : bSortI [.ref n] h = none := by
    unfold bSortI
    simp only [n1, Option.bind_none]
  have e2 : bSortD [.ref n] h = some (.ref h.length, h ++ [.lst ((srtI F).map .int)]) := by
    unfold bSortD
    simp only [e, keysI_fd]
    rw [if_pos (by rw [szOk_of (by omega)]; trivial)]
  unfold bSortA bOr
  rw [e1, e2]
theorem fdD_has (x : Int) (F : List Int) : dHas (fdD F) (.int x) = decide (x ∈ F) := fdD_get x F
theorem fdD_upd (x : Int) : ∀ F : List Int, dUpd (.int x) (.bl true) (fdD F) = fdD F
  | [] => rfl
  | p :: F => by
    show (if keyEq (.int p) (.int x) then ((.int p : Val), Val.bl true) else (.int p, .bl true)) :: dUpd (.int x) (.bl true) (fdD F) = _
    rw [fdD_upd x F]
    split <;> rfl
/-- a key more -/
def ins1 (F : List Int) (x : Int) : List Int := if x ∈ F then F else F ++ [x]
theorem fdD_ins (F : List Int) (x : Int) : dPut (fdD F) (.int x) (.bl true) = fdD (ins1 F x) := by
  unfold ins1
  by_cases m : x ∈ F
  · rw [if_pos m]
    unfold dPut
    rw [fdD_has, decide_eq_true m, if_pos rfl, fdD_upd]
  · rw [if_neg m, fdD_put m]
theorem ins1_nd {F : List Int} (h : F.Nodup) (x : Int) : (ins1 F x).Nodup := by
  unfold ins1
  split
  · exact h
  · rename_i m
    rw [List.nodup_append]
    refine ⟨h, by simp, fun a ha b hb => ?_⟩
    rw [List.mem_singleton.mp hb]
    exact fun z => m (z ▸ ha)
theorem ins1_mem (F : List Int) (x y : Int) : y ∈ ins1 F x ↔ y ∈ F ∨ y = x := by
  unfold ins1
  split
  · rename_i m
    exact ⟨.inl, fun z => z.elim id (fun e => e ▸ m)⟩
  · rw [List.mem_append, List.mem_singleton]
theorem ins1_len (F : List Int) (x : Int) : (ins1 F x).length ≤ F.length + 1 := by
  unfold ins1
  split
  · omega
  · rw [List.length_append]; exact Nat.le_refl _
def insL (F : List Int) (xs : List Int) : List Int := xs.foldl ins1 F
theorem insL_nd : ∀ (xs F : List Int), F.Nodup → (insL F xs).Nodup
  | [], F, h => h
  | x :: xs, F, h => insL_nd xs _ (ins1_nd h x)
theorem insL_mem : ∀ (xs F : List Int) (y : Int), y ∈ insL F xs ↔ y ∈ F ∨ y ∈ xs
  | [], F, y => by simp [insL]
  | x :: xs, F, y => by
    have := insL_mem xs (ins1 F x) y
    show y ∈ insL (ins1 F x) xs ↔ _
    rw [this, ins1_mem, List.mem_cons, or_assoc]
end Law

set_option maxRecDepth 100000
set_option maxHeartbeats 1000000
set_option linter.all false
/-! Gp: graph_of (k40) -/
namespace Law
open Cd Mir Classical
abbrev PL := List Nat × List St
def pgV (p : PL) : Val := .tup [.str p.1, .tup (Sts.v p.2)]
def plD (L : List PL) (k : Nat) : List (Val × Val) := (L.zipIdx k).map fun p => (.str p.1.1, .int (p.2 : Nat))
theorem plD_cons (p : PL) (L : List PL) (k : Nat) : plD (p :: L) k = (.str p.1, .int (k : Nat)) :: plD L (k + 1) := by
  unfold plD; rw [List.zipIdx_cons, List.map_cons]
theorem plD_none (a : List Nat) : ∀ (L : List PL) (k : Nat), a ∉ L.map (·.1) → dGet (plD L k) (.str a) = none
  | [], k, _ => rfl
  | p :: L, k, h => by
    rw [plD_cons, dGet]
    rw [List.map_cons, List.mem_cons, not_or] at h
    have e : keyEq (.str p.1) (.str a) = false := beq_false_of_ne (Ne.symm h.1)
    rw [e]
    exact plD_none a L (k + 1) h.2
theorem plD_get (a : List Nat) : ∀ (L : List PL) (k i : Nat), (L.map (·.1)).Nodup → (L.map (·.1))[i]? = some a → dGet (plD L k) (.str a) = some (.int ((k + i : Nat) : Int))
  | [], k, i, _, h => by simp at h
  | p :: L, k, i, nd, h => by
    rw [List.map_cons] at nd h
    obtain ⟨n1, n2⟩ := List.nodup_cons.mp nd
    rw [plD_cons, dGet]
    cases i with
    | zero =>
      rw [List.getElem?_cons_zero] at h
      have e : keyEq (.str p.1) (.str a) = true := by rw [Option.some.inj h]; exact beq_self_eq_true a
      rw [e]; rfl
    | succ i =>
      rw [List.getElem?_cons_succ] at h
      have ne : p.1 ≠ a := fun z => n1 (z ▸ List.mem_of_getElem? h)
      have e : keyEq (.str p.1) (.str a) = false := beq_false_of_ne ne
      rw [e]
      have := plD_get a L (k + 1) i n2 h
      simp only [Bool.false_eq_true, if_false]
      rw [this]; congr 3; omega
theorem dHas_plD (a : List Nat) (L : List PL) (k : Nat) (h : a ∉ L.map (·.1)) : dHas (plD L k) (.str a) = false := by unfold dHas; rw [plD_none a L k h]; rfl
theorem dput_new {l : List (Val × Val)} {k v : Val} (h : dHas l k = false) : dPut l k v = l ++ [(k, v)] := by unfold dPut; rw [h]; rfl
theorem dGet_app_none {k : Val} : ∀ (l m : List (Val × Val)), dGet l k = none → dGet (l ++ m) k = dGet m k
  | [], m, _ => rfl
  | p :: l, m, h => by
    rw [List.cons_append, dGet]
    rw [dGet] at h
    split at h
    · cases h
    · rename_i q; rw [if_neg q]; exact dGet_app_none l m h
theorem comp_pl (v0 v1 v2 v4 v5 v6 v7 : Option Val) (h : Hep) : ∀ (L : List PL) (k : Nat) (acc : List (Val × Val)), (L.map (·.1)).Nodup → (∀ a ∈ L.map (·.1), dGet acc (.str a) = none) → acc.length + L.length ≤ 1000 →
    compDT (gTpl (gsCons (gNam 8) (gsCons (gTpl (gsCons (gNam 9) (gsCons (gNam 3) gsNil))) gsNil))) (fun _ => true) tTrue E_graph_of_1 E_graph_of_2 [v0, v1, v2, none, v4, v5, v6, v7, none, none] ((L.zipIdx k).map fun p => .tup [.int (p.2 : Nat), pgV p.1]) acc h .mk = .ok (acc ++ plD L k) h
  | [], k, acc, _, _, _ => by
    show compD _ _ _ _ _ _ [] acc h = _
    rw [compD, if_pos rfl, show plD [] k = [] from rfl, List.append_nil]
  | p :: L, k, acc, nd, dj, b => by
    rw [List.map_cons] at nd dj
    rw [List.length_cons] at b
    obtain ⟨n1, n2⟩ := List.nodup_cons.mp nd
    have ih := comp_pl v0 v1 v2 v4 v5 v6 v7 h L (k + 1) (acc ++ [(.str p.1, .int (k : Nat))]) n2 (fun a ha => by
      rw [dGet_app_none _ _ (dj a (List.mem_cons_of_mem _ ha)), dGet]
      have : keyEq (.str p.1) (.str a) = false := beq_false_of_ne (fun z => n1 (z ▸ ha))
      rw [this]; rfl) (by rw [List.length_append]; simp only [List.length_cons, List.length_nil]; omega)
    rw [List.zipIdx_cons, List.map_cons]
    unfold compDT at ih ⊢
    rw [compD, if_pos rfl]
    have g : gTpl (gsCons (gNam 8) (gsCons (gTpl (gsCons (gNam 9) (gsCons (gNam 3) gsNil))) gsNil)) (.tup [.int (k : Nat), pgV p]) [v0, v1, v2, none, v4, v5, v6, v7, none, none] = some [v0, v1, v2, some (.tup (Sts.v p.2)), v4, v5, v6, v7, some (.int (k : Nat)), some (.str p.1)] := rfl
    have e1 : E_graph_of_1 [v0, v1, v2, some (.tup (Sts.v p.2)), v4, v5, v6, v7, some (.int (k : Nat)), some (.str p.1)] h = .ok (.str p.1) h := rfl
    have e2 : E_graph_of_2 [v0, v1, v2, some (.tup (Sts.v p.2)), v4, v5, v6, v7, some (.int (k : Nat)), some (.str p.1)] h = .ok (.int (k : Nat)) h := rfl
    rw [g]
    simp only [tTrue, if_true, e1, e2]
    rw [if_pos ⟨rfl, szOk_iff.mpr (by omega)⟩, dput_new (by unfold dHas; rw [dj p.1 List.mem_cons_self]; rfl), ih, plD_cons, List.append_assoc]
    rfl
/-! the loops -/
theorem rng_cons (lo : Int) (n : Nat) : rng lo (n + 1) = .int lo :: rng (lo + 1) n := by
  unfold rng
  rw [List.range_succ_eq_map, List.map_cons, List.map_map]
  refine congr (congrArg _ (by simp)) (List.map_congr_left fun i _ => ?_)
  simp only [Function.comp_apply]; congr 1; push_cast; omega
def intR (lo : Int) (n : Nat) : List Int := (List.range n).map fun (i : Nat) => lo + i
theorem rng_intR (lo : Int) (n : Nat) : rng lo n = (intR lo n).map .int := by unfold rng intR; rw [List.map_map]; rfl
theorem intR_mem (lo : Int) (n : Nat) (y : Int) : y ∈ intR lo n ↔ lo ≤ y ∧ y < lo + n := by
  unfold intR
  rw [List.mem_map]
  constructor
  · rintro ⟨i, hi, rfl⟩
    have := List.mem_range.mp hi
    omega
  · rintro ⟨h1, h2⟩
    exact ⟨(y - lo).toNat, List.mem_range.mpr (by omega), by omega⟩
theorem insL_len : ∀ (xs F : List Int), (insL F xs).length ≤ F.length + xs.length
  | [], F => Nat.le_refl _
  | x :: xs, F => by
    have h1 := insL_len xs (ins1 F x)
    have h2 := ins1_len F x
    show (insL (ins1 F x) xs).length ≤ _
    rw [List.length_cons]; omega
theorem put_loop (q : Nat) (v0 v1 v2 v3 v4 v6 v7 v9 : Option Val) : ∀ (xs : List Int) (H : Hep) (F : List Int) (v8 : Option Val), H[q]? = some (.dct (fdD F)) → F.length + xs.length ≤ 100000 →
    ∃ w8, forT (gNam 8) (fun _ => true) L_graph_of_1 (xs.map .int) [v0, v1, v2, v3, v4, some (.ref q), v6, v7, v8, v9] H .mk = .nx [v0, v1, v2, v3, v4, some (.ref q), v6, v7, w8, v9] (H.set q (.dct (fdD (insL F xs))))
  | [], H, F, v8, hq, _ => ⟨v8, by rw [show insL F [] = F from rfl, sself hq]; exact forL_0 _ _ _ _ _ rfl _⟩
  | x :: xs, H, F, v8, hq, b => by
    rw [List.length_cons] at b
    have l1 := ins1_len F x
    obtain ⟨w8, e⟩ := put_loop q v0 v1 v2 v3 v4 v6 v7 v9 xs (H.set q (.dct (fdD (ins1 F x)))) (ins1 F x) (some (.int x)) (sget hq _) (by omega)
    rw [sset] at e
    refine ⟨w8, ?_⟩
    rw [List.map_cons, forL_v _ _ _ _ _ _ _ rfl _]
    have st : gNam 8 (.int x) [v0, v1, v2, v3, v4, some (.ref q), v6, v7, v8, v9] = some [v0, v1, v2, v3, v4, some (.ref q), v6, v7, some (.int x), v9] := rfl
    rw [st]
    show (L_graph_of_1 _ _).go _ .mk = _
    have lf : (fdD F).length = F.length := List.length_map ..
    have sx : setDx H (.ref q) (.int x) (.bl true) = some (H.set q (.dct (fdD (ins1 F x)))) := by
      show (match H[q]? with | some (.dct l) => if isKey (.int x) then (if szOk (l.length + 1) then some (H.set q (.dct (dPut l (.int x) (.bl true)))) else none) else none | _ => none) = _
      rw [hq]
      simp only
      rw [if_pos (show isKey (.int x) = true from rfl), if_pos (szOk_iff.mpr (by omega)), fdD_ins]
    have e1 : L_graph_of_1 [v0, v1, v2, v3, v4, some (.ref q), v6, v7, some (.int x), v9] H = .nx [v0, v1, v2, v3, v4, some (.ref q), v6, v7, some (.int x), v9] (H.set q (.dct (fdD (ins1 F x)))) := by
      simp_all only [L_graph_of_1_v, sx]
    rw [e1]
    exact e
/-- what a pair of names adds -/
structure At (L : List PL) (p : PR) (i j : Nat) : Prop where
  le : i ≤ j
  a : (L.map (·.1))[i]? = some p.1
  b : (L.map (·.1))[j]? = some p.2
theorem pair_ok (L : List PL) (nd : (L.map (·.1)).Nodup) (lL : L.length ≤ 40) (pl q : Nat) (p : PR) (i j : Nat) (at_ : At L p i j) (H : Hep) (hp : H[pl]? = some (.dct (plD L 0))) (F : List Int) (hq : H[q]? = some (.dct (fdD F))) (lF : F.length ≤ 40) (v0 v2 v3 v4 v8 v9 : Option Val) :
    ∃ w8, L_graph_of_2 [v0, some (.ref pl), v2, v3, v4, some (.ref q), some (.str p.1), some (.str p.2), v8, v9] H = .nx [v0, some (.ref pl), v2, v3, v4, some (.ref q), some (.str p.1), some (.str p.2), w8, v9] (H.set q (.dct (fdD (insL F (intR i (j + 1 - i)))))) := by
  have li : i < L.length := by have := (List.getElem?_eq_some_iff.mp at_.a).1; rwa [List.length_map] at this
  have lj : j < L.length := by have := (List.getElem?_eq_some_iff.mp at_.b).1; rwa [List.length_map] at this
  have le := at_.le
  obtain ⟨w8, e⟩ := put_loop q v0 (some (.ref pl)) v2 v3 v4 (some (.str p.1)) (some (.str p.2)) v9 (intR i (j + 1 - i)) H F v8 hq (by unfold intR; rw [List.length_map, List.length_range]; omega)
  rw [← rng_intR] at e
  refine ⟨w8, ?_⟩
  have g1 : oDIdx H (.ref pl) (.str p.1) = some (.int i) := by
    show (match H[pl]? with | some (.dct l) => if isKey (.str p.1) then dGet l (.str p.1) else none | _ => none) = _
    rw [hp]
    simp only
    rw [if_pos (show isKey (.str p.1) = true from rfl), plD_get p.1 L 0 i nd at_.a, Nat.zero_add]
  have g2 : oDIdx H (.ref pl) (.str p.2) = some (.int j) := by
    show (match H[pl]? with | some (.dct l) => if isKey (.str p.2) then dGet l (.str p.2) else none | _ => none) = _
    rw [hp]
    simp only
    rw [if_pos (show isKey (.str p.2) = true from rfl), plD_get p.2 L 0 j nd at_.b, Nat.zero_add]
  have rg : ∀ hh : Hep, fRng2 hh [.int i, .int ((j : Int) + 1)] = some (rng i (j + 1 - i), fun _ => true) := fun hh => by
    show (if i62 (i : Int) ∧ i62 ((j : Int) + 1) then some (rng i ((j : Int) + 1 - i).toNat, fun _ => true) else none) = _
    rw [if_pos ⟨⟨by omega, by omega⟩, ⟨by omega, by omega⟩⟩]
    congr 3; omega
  simp_all only [L_graph_of_2_v, g1, g2, rg, e]
/-- the paragraphs that pairs of names lead to -/
def addP (ix : PR → Nat × Nat) (F : List Int) (p : PR) : List Int := insL F (intR (ix p).1 ((ix p).2 + 1 - (ix p).1))
theorem pairs_ok (L : List PL) (nd : (L.map (·.1)).Nodup) (lL : L.length ≤ 40) (pl q r : Nat) (qp : q ≠ pl) (qr : q ≠ r) (ix : PR → Nat × Nat) (v0 v2 v3 v4 v9 : Option Val) (PS : List Val) : ∀ (ps : List PR) (H : Hep) (F : List Int) (v6 v7 v8 : Option Val), (∀ p ∈ ps, At L p (ix p).1 (ix p).2) → H[pl]? = some (.dct (plD L 0)) → H[q]? = some (.dct (fdD F)) → H[r]? = some (.lst PS) → F.Nodup → (∀ y ∈ F, 0 ≤ y ∧ y < (L.length : Int)) →
    ∃ w6 w7 w8, forT (gTpl (gsCons (gNam 6) (gsCons (gNam 7) gsNil))) (fun h' => decide (isLst r PS h')) L_graph_of_2 (ps.map pV) [v0, some (.ref pl), v2, v3, v4, some (.ref q), v6, v7, v8, v9] H .mk = .nx [v0, some (.ref pl), v2, v3, v4, some (.ref q), w6, w7, w8, v9] (H.set q (.dct (fdD (ps.foldl (addP ix) F)))) ∧ (ps.foldl (addP ix) F).Nodup ∧ (∀ y ∈ ps.foldl (addP ix) F, 0 ≤ y ∧ y < (L.length : Int))
  | [], H, F, v6, v7, v8, _, _, hq, hr, nF, bF => ⟨v6, v7, v8, by
      rw [show ([] : List PR).foldl (addP ix) F = F from rfl, sself hq]
      exact forL_0 _ _ _ _ _ (decide_eq_true (show isLst r PS _ from hr)) _, nF, bF⟩
  | p :: ps, H, F, v6, v7, v8, at_, hp, hq, hr, nF, bF => by
    have a := at_ p List.mem_cons_self
    have lF := in_bound nF bF
    obtain ⟨w8, e⟩ := pair_ok L nd lL pl q p _ _ a H hp F hq (by omega) v0 v2 v3 v4 v8 v9
    have lj : (ix p).2 < L.length := by have := (List.getElem?_eq_some_iff.mp a.b).1; rwa [List.length_map] at this
    have le := a.le
    obtain ⟨u6, u7, u8, e2, n2, b2⟩ := pairs_ok L nd lL pl q r qp qr ix v0 v2 v3 v4 v9 PS ps (H.set q (.dct (fdD (addP ix F p)))) (addP ix F p) (some (.str p.1)) (some (.str p.2)) w8 (fun p hp => at_ p (List.mem_cons_of_mem _ hp)) (by rw [List.getElem?_set_ne qp]; exact hp) (sget hq _) (by rw [List.getElem?_set_ne qr]; exact hr) (insL_nd _ _ nF) (fun y hy => by
      rcases (insL_mem _ _ _).mp hy with hy | hy
      · exact bF y hy
      · have := (intR_mem _ _ _).mp hy; omega)
    rw [sset] at e2
    refine ⟨u6, u7, u8, ?_, n2, b2⟩
    rw [List.map_cons, forL_v _ _ _ _ _ _ _ (decide_eq_true (show isLst r PS _ from hr)) _]
    have st : gTpl (gsCons (gNam 6) (gsCons (gNam 7) gsNil)) (pV p) [v0, some (.ref pl), v2, v3, v4, some (.ref q), v6, v7, v8, v9] = some [v0, some (.ref pl), v2, v3, v4, some (.ref q), some (.str p.1), some (.str p.2), v8, v9] := rfl
    rw [st]
    show (L_graph_of_2 _ _).go _ .mk = _
    rw [e]
    exact e2
/-! the paragraphs -/
def GH (h : Hep) (P : List (Val × Val)) (R : List Val) (G : Hep) : Hep := h ++ ([.dct P, .lst R] ++ G)
section
variable (h : Hep) (P : List (Val × Val)) (R T : List Val) (G : Hep)
theorem GH_p : (GH h P R G)[h.length]? = some (.dct P) := by unfold GH; rw [List.getElem?_append_right (Nat.le_refl _), Nat.sub_self]; rfl
theorem GH_r : (GH h P R G)[h.length + 1]? = some (.lst R) := by unfold GH; rw [List.getElem?_append_right (by omega), Nat.add_sub_cancel_left]; rfl
theorem GH_len : (GH h P R G).length = h.length + 2 + G.length := by unfold GH; simp; omega
theorem GH_setr : (GH h P R G).set (h.length + 1) (.lst T) = GH h P T G := by unfold GH; rw [List.set_append_right _ _ (by omega), Nat.add_sub_cancel_left]; rfl
theorem GH_app (o : Obj) : GH h P R G ++ [o] = GH h P R (G ++ [o]) := by unfold GH; simp
end
def oks (L : List PL) : Prop := ∀ p ∈ L, p.2.length ≤ 5 ∧ ∀ s ∈ p.2, s.Ok 4
def rowT (ix : PR → Nat × Nat) (p : PL) : Val := .tup ((srtI ((Sts.ps p.2).foldl (addP ix) [])).map .int)
theorem Ok_up : ∀ (n : Nat) (s : St), s.Ok n → s.Ok (n + 1)
  | 0, _, h => h.elim
  | n + 1, .perf .., h => h
  | n + 1, .oth .., h => h
  | n + 1, .two k c s t, h => ⟨h.1, h.2.1, ⟨h.2.2.1.1, fun x hx => Ok_up n x (h.2.2.1.2 x hx)⟩, ⟨h.2.2.2.1, fun x hx => Ok_up n x (h.2.2.2.2 x hx)⟩⟩
  | n + 1, .one k vs s, h => ⟨h.1, h.2.1, h.2.2.1, ⟨h.2.2.2.1, fun x hx => Ok_up n x (h.2.2.2.2 x hx)⟩⟩
theorem para_loop (L : List PL) (nd : (L.map (·.1)).Nodup) (lL : L.length ≤ 40) (ix : PR → Nat × Nat) (h : Hep) (v0 v9 : Option Val) : ∀ (M : List PL) (R : List Val) (G : Hep) (v3 v4 v5 v6 v7 v8 : Option Val), (∀ p ∈ M, p ∈ L) → oks M → (∀ m ∈ M, ∀ p ∈ Sts.ps m.2, At L p (ix p).1 (ix p).2) → R.length + M.length ≤ 1000 →
    ∃ G' w3 w4 w5 w6 w7 w8, forT (gTpl (gsCons (gNam 3) (gsCons (gNam 4) gsNil))) (fun _ => true) L_graph_of_3 (M.map pgV) [v0, some (.ref h.length), some (.ref (h.length + 1)), v3, v4, v5, v6, v7, v8, v9] (GH h (plD L 0) R G) .mk = .nx [v0, some (.ref h.length), some (.ref (h.length + 1)), w3, w4, w5, w6, w7, w8, v9] (GH h (plD L 0) (R ++ M.map (rowT ix)) G')
  | [], R, G, v3, v4, v5, v6, v7, v8, _, _, _, _ => ⟨G, v3, v4, v5, v6, v7, v8, by rw [List.map_nil, List.map_nil, List.append_nil]; exact forL_0 _ _ _ _ _ rfl _⟩
  | m :: M, R, G, v3, v4, v5, v6, v7, v8, sub, ok, at_, b => by
    rw [List.length_cons] at b
    have om := ok m List.mem_cons_self
    have q0 : (GH h (plD L 0) R G).length = h.length + 2 + G.length := GH_len ..
    have pf := performed_ok 5 m.2 (by decide) (fun s hs => Ok_up 4 s (om.2 s hs)) (by have := Nat.mul_le_mul_right (4 ^ 5) om.1; omega) (GH h (plD L 0) R (G ++ [.dct []]))
    rw [GH_len, List.length_append] at pf
    have gp := GH_p h (plD L 0) R (G ++ [.dct []] ++ [.lst ((Sts.ps m.2).map pV)])
    have gq : (GH h (plD L 0) R (G ++ [.dct []] ++ [.lst ((Sts.ps m.2).map pV)]))[h.length + 2 + G.length]? = some (.dct (fdD [])) := by
      rw [← GH_app, ← GH_app, ← q0]; exact get_new2 _ _ _
    have gr : (GH h (plD L 0) R (G ++ [.dct []] ++ [.lst ((Sts.ps m.2).map pV)]))[h.length + 2 + (G.length + 1)]? = some (.lst ((Sts.ps m.2).map pV)) := by
      rw [← GH_app]
      have : h.length + 2 + (G.length + 1) = (GH h (plD L 0) R (G ++ [.dct []])).length := by rw [GH_len, List.length_append]; rfl
      rw [this]; exact get_new _ _
    obtain ⟨w6, w7, w8, e, n2, b2⟩ := pairs_ok L nd lL h.length (h.length + 2 + G.length) (h.length + 2 + (G.length + 1)) (by omega) (by omega) ix v0 (some (.ref (h.length + 1))) (some (.str m.1)) (some (.tup (Sts.v m.2))) v9 ((Sts.ps m.2).map pV) (Sts.ps m.2) (GH h (plD L 0) R (G ++ [.dct []] ++ [.lst ((Sts.ps m.2).map pV)])) [] v6 v7 v8 (at_ m List.mem_cons_self) gp gq gr List.nodup_nil (fun y hy => by cases hy)
    have lF := in_bound n2 b2
    generalize hF : (Sts.ps m.2).foldl (addP ix) [] = F at *
    have fin : (GH h (plD L 0) R (G ++ [.dct []] ++ [.lst ((Sts.ps m.2).map pV)])).set (h.length + 2 + G.length) (.dct (fdD F)) = GH h (plD L 0) R (G ++ [.dct (fdD F)] ++ [.lst ((Sts.ps m.2).map pV)]) := by
      unfold GH
      rw [List.set_append_right _ _ (by omega), List.append_assoc G]
      congr 1
      have : h.length + 2 + G.length - h.length = 2 + G.length := by omega
      rw [this, List.set_append_right _ _ (by simp), List.set_append_right _ _ (by simp)]
      simp
    rw [fin] at e
    have gq2 : (GH h (plD L 0) R (G ++ [.dct (fdD F)] ++ [.lst ((Sts.ps m.2).map pV)]))[h.length + 2 + G.length]? = some (.dct (fdD F)) := by
      rw [← GH_app, ← GH_app, ← q0]; exact get_new2 _ _ _
    have so := sortA_d _ _ F (by omega) gq2
    have gl : ∀ X : Hep, gc 4 4 X (.ok (.ref X.length) (X ++ [.lst ((srtI F).map .int)])) = .ok (.fl ((srtI F).map .int)) X := fun X => gc_new 3 4 X _ (bndVs_int _ _)
    have ap : mAppend (.ref (h.length + 1)) [.tup ((srtI F).map .int)] (GH h (plD L 0) R (G ++ [.dct (fdD F)] ++ [.lst ((Sts.ps m.2).map pV)])) = some (.non, GH h (plD L 0) (R ++ [.tup ((srtI F).map .int)]) (G ++ [.dct (fdD F)] ++ [.lst ((Sts.ps m.2).map pV)])) := by
      rw [append_ok (GH_r ..) (by omega), GH_setr]
    obtain ⟨G', u3, u4, u5, u6, u7, u8, e2⟩ := para_loop L nd lL ix h v0 v9 M (R ++ [.tup ((srtI F).map .int)]) (G ++ [.dct (fdD F)] ++ [.lst ((Sts.ps m.2).map pV)]) (some (.str m.1)) (some (.tup (Sts.v m.2))) (some (.ref (h.length + 2 + G.length))) w6 w7 w8 (fun p hp => sub p (List.mem_cons_of_mem _ hp)) (fun p hp => ok p (List.mem_cons_of_mem _ hp)) (fun p hp => at_ p (List.mem_cons_of_mem _ hp)) (by rw [List.length_append]; simp only [List.length_cons, List.length_nil]; omega)
    refine ⟨G', u3, u4, u5, u6, u7, u8, ?_⟩
    rw [List.map_cons, forL_v _ _ _ _ _ _ _ rfl _]
    have st : gTpl (gsCons (gNam 3) (gsCons (gNam 4) gsNil)) (pgV m) [v0, some (.ref h.length), some (.ref (h.length + 1)), v3, v4, v5, v6, v7, v8, v9] = some [v0, some (.ref h.length), some (.ref (h.length + 1)), some (.str m.1), some (.tup (Sts.v m.2)), v5, v6, v7, v8, v9] := rfl
    rw [st]
    show (L_graph_of_3 _ _).go _ .mk = _
    have a1 := GH_app h (plD L 0) R G (.dct [])
    have a2 := GH_app h (plD L 0) R (G ++ [.dct []]) (.lst ((Sts.ps m.2).map pV))
    have it : items (GH h (plD L 0) R (G ++ [.dct []] ++ [.lst ((Sts.ps m.2).map pV)])) (.ref (h.length + 2 + (G.length + 1))) = some ((Sts.ps m.2).map pV, fun h' => decide (isLst (h.length + 2 + (G.length + 1)) ((Sts.ps m.2).map pV) h')) := by
      show (match (GH h (plD L 0) R (G ++ [.dct []] ++ [.lst ((Sts.ps m.2).map pV)]))[h.length + 2 + (G.length + 1)]? with | some (.lst l) => some (l, fun h' => decide (isLst (h.length + 2 + (G.length + 1)) l h')) | _ => none) = _
      rw [gr]
    have gr2 := GH_r h (plD L 0) R (G ++ [.dct (fdD F)] ++ [.lst ((Sts.ps m.2).map pV)])
    rw [a2] at pf
    have pf' : M_performed [.tup (Sts.v m.2)] (GH h (plD L 0) R (G ++ [.dct []])) = .ok (.ref (h.length + 2 + (G.length + 1))) (GH h (plD L 0) R (G ++ [.dct []] ++ [.lst ((Sts.ps m.2).map pV)])) := pf
    have e4 : L_graph_of_3 [v0, some (.ref h.length), some (.ref (h.length + 1)), some (.str m.1), some (.tup (Sts.v m.2)), v5, v6, v7, v8, v9] (GH h (plD L 0) R G) = .nx [v0, some (.ref h.length), some (.ref (h.length + 1)), some (.str m.1), some (.tup (Sts.v m.2)), some (.ref (h.length + 2 + G.length)), w6, w7, w8, v9] (GH h (plD L 0) (R ++ [.tup ((srtI F).map .int)]) (G ++ [.dct (fdD F)] ++ [.lst ((Sts.ps m.2).map pV)])) := by
      simp_all only [L_graph_of_3_v, a1, q0, pf', it, e, so, gl, ap, gr2]
    rw [e4]
    rw [List.map_cons, rowT, hF, show R ++ (Val.tup ((srtI F).map .int) :: M.map (rowT ix)) = R ++ [.tup ((srtI F).map .int)] ++ M.map (rowT ix) by simp]
    exact e2
theorem graph_ok (L : List PL) (nd : (L.map (·.1)).Nodup) (lL : L.length ≤ 40) (ix : PR → Nat × Nat) (ok : oks L) (at_ : ∀ m ∈ L, ∀ p ∈ Sts.ps m.2, At L p (ix p).1 (ix p).2) (h : Hep) : M_graph_of [.tup (L.map pgV)] h = .ok (.tup (L.map (rowT ix))) h := by
  have cp := comp_pl (some (.tup (L.map pgV))) none none none none none none h L 0 [] nd (fun a ha => rfl) (by simp only [List.length_nil]; omega)
  rw [List.nil_append] at cp
  obtain ⟨G', w3, w4, w5, w6, w7, w8, e⟩ := para_loop L nd lL ix h (some (.tup (L.map pgV))) none L [] [] none none none none none none (fun p hp => hp) ok at_ (by simp only [List.length_nil]; omega)
  rw [List.nil_append] at e
  have en : ∀ h, fEnum h [.tup (L.map pgV)] = some ((L.zipIdx 0).map fun p => .tup [.int (p.2 : Nat), pgV p.1], fun _ => true) := fun h => by
    show some (enumL (L.map pgV), _) = _
    unfold enumL
    rw [List.zipIdx_map, List.map_map]
    rfl
  have h0 : h ++ [Obj.dct (plD L 0)] ++ [.lst []] = GH h (plD L 0) [] [] := by unfold GH; simp
  have l1 : (h ++ [Obj.dct (plD L 0)]).length = h.length + 1 := len_new ..
  have gr := GH_r h (plD L 0) (L.map (rowT ix)) G'
  rw [M_graph_of_v]
  have f : fn 1 10 B_graph_of [.tup (L.map pgV)] h = .ok (.tup (L.map (rowT ix))) (GH h (plD L 0) (L.map (rowT ix)) G') := by
    simp_all only [B_graph_of_v, en, cp, l1, h0, e, gr]
  rw [f]
  exact gc_app 4 4 h _ _ (by
    rw [bndV_tup]
    refine bndVs_all fun v hv => ?_
    obtain ⟨p, _, rfl⟩ := List.mem_map.mp hv
    unfold rowT
    rw [bndV_tup]
    exact bndVs_int _ _)
end Law

set_option maxRecDepth 100000
set_option maxHeartbeats 1000000
set_option linter.all false
/-! Lk: the law's own reckoning (k40) -/
namespace Law
open Cd Mir Classical
def ixP (NS : List (List Nat)) (p : PR) : Nat × Nat := (NS.idxOf p.1, NS.idxOf p.2)
theorem InN_at {NS : List (List Nat)} (nd : NS.Nodup) {p : PR} (h : InN NS p) : (ixP NS p).1 ≤ (ixP NS p).2 ∧ NS[(ixP NS p).1]? = some p.1 ∧ NS[(ixP NS p).2]? = some p.2 ∧ p.1 ∈ NS ∧ p.2 ∈ NS := by
  obtain ⟨i, j, le, hi, hj⟩ := h
  obtain ⟨li, ei⟩ := List.getElem?_eq_some_iff.mp hi
  obtain ⟨lj, ej⟩ := List.getElem?_eq_some_iff.mp hj
  have e1 : NS.idxOf p.1 = i := by rw [← ei]; exact nd.idxOf_getElem i li
  have e2 : NS.idxOf p.2 = j := by rw [← ej]; exact nd.idxOf_getElem j lj
  unfold ixP
  rw [e1, e2]
  exact ⟨le, hi, hj, List.mem_of_getElem? hi, List.mem_of_getElem? hj⟩
theorem idxF_strs (a : List Nat) : ∀ NS : List (List Nat), a ∈ NS → idxF (.str a) (NS.map .str) = some (NS.idxOf a)
  | [], h => by cases h
  | b :: NS, h => by
    rw [List.map_cons, idxF]
    show (if (b == a) = true then some 0 else _) = _
    by_cases e : b = a
    · subst e; rw [if_pos (beq_self_eq_true b), List.idxOf_cons_self]
    · rw [if_neg (by rw [beq_false_of_ne e]; decide), idxF_strs a NS ((List.mem_cons.mp h).resolve_left (fun z => e z.symm)), List.idxOf_cons, beq_false_of_ne e]; rfl
theorem mIndex_strs (h : Hep) (a : List Nat) (NS : List (List Nat)) (m : a ∈ NS) : mIndex (.fl (NS.map .str)) [.str a] h = some (.int (NS.idxOf a), h) := by
  show (if flat (.str a) && (NS.map Val.str).all flat then (idxF (.str a) (NS.map .str)).map fun j => (Val.int (j : Nat), h) else none) = _
  rw [all_strs, idxF_strs a NS m]
  rfl
/-- a pair of names that reaches over a place -/
def hitP (NS : List (List Nat)) (j : Int) (p : PR) : Bool := decide (((ixP NS p).1 : Int) ≤ j) && decide (j ≤ ((ixP NS p).2 : Int))
def kv (NS : List (List Nat)) (j : Int) : Val → Bool
  | .tup [.str a, .str b] => hitP NS j (a, b)
  | _ => false
theorem count_ok {NS : List (List Nat)} (nd : NS.Nodup) (j : Int) (f : Nat) (v0 v1 v2 v4 v5 v6 v7 v8 v9 v10 : Option Val) (ps : List PR) (ok : ∀ p ∈ ps, InN NS p) (H : Hep) (hf : H[f]? = some (.lst (ps.map pV))) :
    compT (gTpl (gsCons (gNam 12) (gsCons (gNam 13) gsNil))) (fun h' => decide (isLst f (ps.map pV) h')) C_law_1 E_law_1 [v0, v1, v2, some (.fl (NS.map .str)), v4, v5, v6, v7, v8, v9, v10, some (.int j), none, none] (ps.map pV) H .mk = .ok (((ps.map pV).filter (kv NS j)).map fun _ => .int 1) H := by
  refine compT_if (fun _ => .int 1) (kv NS j) (decide_eq_true (show isLst f (ps.map pV) H from hf)) _ fun x hx => ?_
  obtain ⟨p, hp, rfl⟩ := List.mem_map.mp hx
  obtain ⟨_, _, _, m1, m2⟩ := InN_at nd (ok p hp)
  have i1 := mIndex_strs H p.1 NS m1
  have i2 := mIndex_strs H p.2 NS m2
  refine ⟨[v0, v1, v2, some (.fl (NS.map .str)), v4, v5, v6, v7, v8, v9, v10, some (.int j), some (.str p.1), some (.str p.2)], rfl, ?_, rfl⟩
  show _ = Res.ok (hitP NS j p) H
  unfold hitP ixP
  by_cases c : ((NS.idxOf p.1 : Nat) : Int) ≤ j
  · have c' := decide_eq_true c
    rw [c']
    simp_all only [C_law_1_v, i1, i2, c']
  · have c' := decide_eq_false c
    rw [c']
    simp_all only [C_law_1_v, i1, i2, c']
theorem count_pos (NS : List (List Nat)) (j : Int) (ps : List PR) : decide ((0 : Int) < ((((ps.map pV).filter (kv NS j)).length : Nat) : Int)) = ps.any (hitP NS j) := by
  have e : ((ps.map pV).filter (kv NS j)) = (ps.filter (hitP NS j)).map pV := by rw [List.filter_map]; rfl
  rw [e, List.length_map]
  cases h : ps.any (hitP NS j) with
  | true =>
    obtain ⟨p, hp, q⟩ := List.any_eq_true.mp h
    have : 0 < (ps.filter (hitP NS j)).length := List.length_pos_of_mem (List.mem_filter.mpr ⟨hp, q⟩)
    exact decide_eq_true (by omega)
  | false =>
    have : ps.filter (hitP NS j) = [] := List.filter_eq_nil_iff.mpr fun p hp q => by
      have := List.any_eq_true.mpr ⟨p, hp, q⟩
      rw [h] at this; cases this
    rw [this]; rfl
theorem js_loop {NS : List (List Nat)} (nd : NS.Nodup) (f z : Nat) (fz : f ≠ z) (v0 v1 v2 v4 v5 v6 v8 v9 : Option Val) (ps : List PR) (lp : ps.length ≤ 100000) (ok : ∀ p ∈ ps, InN NS p) : ∀ (n : Nat) (j0 : Int) (A : List Int) (H : Hep) (v11 : Option Val), H[f]? = some (.lst (ps.map pV)) → H[z]? = some (.lst (A.map .int)) → A.length + n ≤ 1000 →
    ∃ w11, forT (gNam 11) (fun _ => true) L_law_1 (rng j0 n) [v0, v1, v2, some (.fl (NS.map .str)), v4, v5, v6, some (.ref f), v8, v9, some (.ref z), v11, none, none] H .mk = .nx [v0, v1, v2, some (.fl (NS.map .str)), v4, v5, v6, some (.ref f), v8, v9, some (.ref z), w11, none, none] (H.set z (.lst ((A ++ (intR j0 n).filter fun j => ps.any (hitP NS j)).map .int)))
  | 0, j0, A, H, v11, hf, hz, _ => ⟨v11, by
      rw [show intR j0 0 = [] from rfl, List.filter_nil, List.append_nil, sself hz]
      exact forL_0 _ _ _ _ _ rfl _⟩
  | n + 1, j0, A, H, v11, hf, hz, b => by
    have ic : intR j0 (n + 1) = j0 :: intR (j0 + 1) n := by
      unfold intR
      rw [List.range_succ_eq_map, List.map_cons, List.map_map]
      refine congr (congrArg _ (by simp)) (List.map_congr_left fun i _ => ?_)
      simp only [Function.comp_apply]; push_cast; omega
    have co := count_ok nd j0 f v0 v1 v2 v4 v5 v6 (some (.ref f)) v8 v9 (some (.ref z)) ps ok H hf
    have cp := count_pos NS j0 ps
    have ll : (((ps.map pV).filter (kv NS j0)).map fun _ => Val.int 1).length = ((ps.map pV).filter (kv NS j0)).length := List.length_map ..
    have l2 : ((ps.map pV).filter (kv NS j0)).length ≤ 100000 := Nat.le_trans (List.length_filter_le _ _) (by rw [List.length_map]; exact lp)
    have gl : gc 4 4 H (.ok (.ref H.length) (H ++ [.lst (((ps.map pV).filter (kv NS j0)).map fun _ => Val.int 1)])) = .ok (.fl (((ps.map pV).filter (kv NS j0)).map fun _ => Val.int 1)) H := gc_new 3 4 H _ (bndVs_map _ fun _ => rfl)
    have it : items H (.ref f) = some (ps.map pV, fun h' => decide (isLst f (ps.map pV) h')) := by
      show (match H[f]? with | some (.lst l) => some (l, fun h' => decide (isLst f l h')) | _ => none) = _
      rw [hf]
    have la : (A.map Val.int).length = A.length := List.length_map ..
    have st : gNam 11 (.int j0) [v0, v1, v2, some (.fl (NS.map .str)), v4, v5, v6, some (.ref f), v8, v9, some (.ref z), v11, none, none] = some [v0, v1, v2, some (.fl (NS.map .str)), v4, v5, v6, some (.ref f), v8, v9, some (.ref z), some (.int j0), none, none] := rfl
    cases h : ps.any (hitP NS j0) with
    | true =>
      rw [h] at cp
      obtain ⟨w11, e⟩ := js_loop nd f z fz v0 v1 v2 v4 v5 v6 v8 v9 ps lp ok n (j0 + 1) (A ++ [j0]) (H.set z (.lst ((A ++ [j0]).map .int))) (some (.int j0)) (by rw [List.getElem?_set_ne (Ne.symm fz)]; exact hf) (sget hz _) (by rw [List.length_append]; simp only [List.length_cons, List.length_nil]; omega)
      rw [sset] at e
      refine ⟨w11, ?_⟩
      rw [rng_cons, forL_v _ _ _ _ _ _ _ rfl _, st]
      show (L_law_1 _ _).go _ .mk = _
      have ap : mAppend (.ref z) [.int j0] H = some (.non, H.set z (.lst ((A ++ [j0]).map .int))) := by
        rw [append_ok hz (by omega), List.map_append]; rfl
      have e1 : L_law_1 [v0, v1, v2, some (.fl (NS.map .str)), v4, v5, v6, some (.ref f), v8, v9, some (.ref z), some (.int j0), none, none] H = .nx [v0, v1, v2, some (.fl (NS.map .str)), v4, v5, v6, some (.ref f), v8, v9, some (.ref z), some (.int j0), none, none] (H.set z (.lst ((A ++ [j0]).map .int))) := by
        simp_all only [L_law_1_v, it, co, ll, gl, cp, ap, hz]
      rw [e1, ic, List.filter_cons, h, if_pos rfl, show A ++ (j0 :: (intR (j0 + 1) n).filter fun j => ps.any (hitP NS j)) = A ++ [j0] ++ (intR (j0 + 1) n).filter fun j => ps.any (hitP NS j) by simp]
      exact e
    | false =>
      rw [h] at cp
      obtain ⟨w11, e⟩ := js_loop nd f z fz v0 v1 v2 v4 v5 v6 v8 v9 ps lp ok n (j0 + 1) A H (some (.int j0)) hf hz (by omega)
      refine ⟨w11, ?_⟩
      rw [rng_cons, forL_v _ _ _ _ _ _ _ rfl _, st]
      show (L_law_1 _ _).go _ .mk = _
      have e1 : L_law_1 [v0, v1, v2, some (.fl (NS.map .str)), v4, v5, v6, some (.ref f), v8, v9, some (.ref z), some (.int j0), none, none] H = .nx [v0, v1, v2, some (.fl (NS.map .str)), v4, v5, v6, some (.ref f), v8, v9, some (.ref z), some (.int j0), none, none] H := by
        simp_all only [L_law_1_v, it, co, ll, gl, cp, hz]
      rw [e1, ic, List.filter_cons, h, if_neg (by decide)]
      exact e
/-! what both find is the same -/
theorem addP_all (ix : PR → Nat × Nat) : ∀ (ps : List PR) (F : List Int), F.Nodup → (ps.foldl (addP ix) F).Nodup ∧ ∀ y, y ∈ ps.foldl (addP ix) F ↔ y ∈ F ∨ ∃ p ∈ ps, ((ix p).1 : Int) ≤ y ∧ y < ((ix p).1 : Int) + (((ix p).2 + 1 - (ix p).1 : Nat) : Int)
  | [], F, nd => ⟨nd, fun y => by simp⟩
  | p :: ps, F, nd => by
    obtain ⟨n2, m2⟩ := addP_all ix ps (addP ix F p) (insL_nd _ _ nd)
    refine ⟨n2, fun y => ?_⟩
    show y ∈ ps.foldl (addP ix) (addP ix F p) ↔ _
    rw [m2]
    unfold addP
    rw [insL_mem, intR_mem]
    simp only [List.mem_cons, exists_eq_or_imp]
    rw [or_assoc]
theorem intR_sw (lo : Int) (n : Nat) : (intR lo n).Pairwise (· < ·) := by
  unfold intR
  rw [List.pairwise_map]
  exact List.pairwise_lt_range.imp fun {a b} h => by omega
theorem row_same {NS : List (List Nat)} (nd : NS.Nodup) (c : Nat) (lc : NS.length = c) (ps : List PR) (ok : ∀ p ∈ ps, InN NS p) : srtI (ps.foldl (addP (ixP NS)) []) = (intR 0 c).filter fun j => ps.any (hitP NS j) := by
  obtain ⟨n1, m1⟩ := addP_all (ixP NS) ps [] List.nodup_nil
  have sw : ((intR 0 c).filter fun j => ps.any (hitP NS j)).Pairwise (· < ·) := (intR_sw 0 c).filter _
  have n2 : ((intR 0 c).filter fun j => ps.any (hitP NS j)).Nodup := sw.imp fun {a b} h => by omega
  have s1 := srt_same n1 n2 fun y => by
    rw [m1, List.mem_filter, intR_mem, List.any_eq_true]
    constructor
    · rintro (h | ⟨p, hp, h1, h2⟩)
      · cases h
      · obtain ⟨le, a, b, _, _⟩ := InN_at nd (ok p hp)
        have lb := (List.getElem?_eq_some_iff.mp b).1
        refine ⟨by omega, p, hp, ?_⟩
        unfold hitP
        rw [Bool.and_eq_true]
        exact ⟨decide_eq_true h1, decide_eq_true (by omega)⟩
    · rintro ⟨h0, p, hp, q⟩
      unfold hitP at q
      rw [Bool.and_eq_true] at q
      have h1 := of_decide_eq_true q.1
      have h2 := of_decide_eq_true q.2
      exact .inr ⟨p, hp, h1, by omega⟩
  rw [s1]
  exact List.Perm.eq_of_pairwise (fun a b _ _ h1 h2 => Int.le_antisymm h1 h2) (srtI_sw _) (sw.imp fun {a b} h => by omega) (srtI_pm _)
end Law

set_option maxRecDepth 100000
set_option maxHeartbeats 1000000
set_option linter.all false
/-! Law_k40: the law -/
namespace Law
open Cd Mir Classical
def LH (y : DS) (PS : List PL) (DU : List Val) (G : Hep) : Hep := [y.o, .lst (PS.map pgV), .lst DU] ++ G
section
variable (y x : DS) (PS QS : List PL) (DU EU : List Val) (G : Hep) (o u : Obj)
theorem LH_len : (LH y PS DU G).length = G.length + 3 := by unfold LH; simp
theorem LH_d : (LH y PS DU G)[0]? = some y.o := rfl
theorem LH_p : (LH y PS DU G)[1]? = some (.lst (PS.map pgV)) := rfl
theorem LH_u : (LH y PS DU G)[2]? = some (.lst DU) := rfl
theorem LH_setd : (LH y PS DU G).set 0 x.o = LH x PS DU G := rfl
theorem LH_setp : (LH y PS DU G).set 1 (.lst (QS.map pgV)) = LH y QS DU G := rfl
theorem LH_setu : (LH y PS DU G).set 2 (.lst EU) = LH y PS EU G := rfl
theorem LH_app : LH y PS DU G ++ [o] = LH y PS DU (G ++ [o]) := by unfold LH; simp
theorem LH_g (n : Nat) : (LH y PS DU G)[n + 3]? = G[n]? := by unfold LH; rfl
theorem LH_setg (n : Nat) : (LH y PS DU G).set (n + 3) u = LH y PS DU (G.set n u) := by unfold LH; rfl
theorem HP_LH (F : List PR) : HP (LH x PS DU (G ++ [.lst []])) 0 y (G.length + 3) F = LH y PS DU (G ++ [.lst (F.map pV)]) := by
  unfold HP
  rw [LH_setd, LH_setg, set_new]
end
theorem stms_comp {NS : List (List Nat)} {h : Hep} {f : Nat} (ld : 0 < h.length) (lf : f < h.length) (ne : (0 : Nat) ≠ f) (c : Nat) (lc : NS.length = c) (c1 : 1 ≤ c) (c4 : c ≤ 40) (v0 v2 v4 v5 v6 v8 v9 v10 : Option Val) : ∀ (xs : List Val) (x : DS) (F : List PR), F.length + xs.length * 4 ^ 4 ≤ 900000 →
    ∃ (y : DS) (m : List St), compT (gNam 11) (fun _ => true) tTrue E_law_2 [v0, some (.ref 0), v2, some (.fl (NS.map .str)), v4, v5, v6, some (.ref f), v8, v9, v10, none, none, none] xs (HP h 0 x f F) .mk = .ok (Sts.v m) (HP h 0 y f (F ++ Sts.ps m)) ∧ m.length = xs.length ∧ (∀ s ∈ m, s.Ok 4) ∧ ∀ p ∈ Sts.ps m, InN NS p
  | [], x, F, _ => ⟨x, [], by rw [show Sts.ps [] = [] from rfl, List.append_nil]; rfl, rfl, (fun s h => absurd h List.not_mem_nil), (fun p h => absurd h List.not_mem_nil)⟩
  | v :: xs, x, F, hF => by
    rw [List.length_cons, Nat.add_mul, Nat.one_mul] at hF
    obtain ⟨y, s, e, o, q⟩ := stm_all ne c lc c1 c4 3 h ld lf x F (by omega)
    have ll := Ok_len 4 s o
    obtain ⟨y2, m, e2, l2, o2, q2⟩ := stms_comp ld lf ne c lc c1 c4 v0 v2 v4 v5 v6 v8 v9 v10 xs y (F ++ s.ps) (by rw [List.length_append]; omega)
    refine ⟨y2, s :: m, ?_, by rw [List.length_cons, List.length_cons, l2], fun t ht => ?_, fun p hp => ?_⟩
    · have e' : M_v_law_statement [.ref 0, .fl (NS.map .str), .ref f, .int 4] (HP h 0 x f F) = .ok s.v (HP h 0 y f (F ++ s.ps)) := e
      have e1 : E_law_2 [v0, some (.ref 0), v2, some (.fl (NS.map .str)), v4, v5, v6, some (.ref f), v8, v9, v10, some v, none, none] (HP h 0 x f F) = .ok s.v (HP h 0 y f (F ++ s.ps)) := by
        simp_all only [E_law_2_v, e']
      unfold compT at e2 ⊢
      rw [compL, if_pos rfl]
      have g : gNam 11 v [v0, some (.ref 0), v2, some (.fl (NS.map .str)), v4, v5, v6, some (.ref f), v8, v9, v10, none, none, none] = some [v0, some (.ref 0), v2, some (.fl (NS.map .str)), v4, v5, v6, some (.ref f), v8, v9, v10, some v, none, none] := rfl
      rw [g]
      simp only [tTrue, if_true, e1]
      rw [e2, Sts.ps, ← List.append_assoc, Sts.v]
      rfl
    · rcases List.mem_cons.mp ht with rfl | ht
      · exact o
      · exact o2 t ht
    · rw [Sts.ps] at hp
      rcases List.mem_append.mp hp with hp | hp
      · exact q p hp
      · exact q2 p hp
theorem smallVs_all {l : List Val} (h : ∀ v ∈ l, smallV v = true) : smallVs l = true := by
  induction l with
  | nil => rfl
  | cons v l ih => rw [smallVs, h v List.mem_cons_self, ih fun w hw => h w (List.mem_cons_of_mem _ hw)]; rfl
theorem same_pairs (ps : List PR) (l : ps.length < 1000000) (h : Hep) : M_v_law_same [.tup (ps.map pV), .tup (ps.map pV)] h = .ok (.bl true) h := same_ok _ h (by
    unfold sd
    rw [List.all_eq_true]
    intro v hv
    obtain ⟨p, _, rfl⟩ := List.mem_map.mp hv
    rfl) (by
    unfold smallV
    rw [Bool.and_eq_true]
    refine ⟨decide_eq_true (by rw [List.length_map]; exact l), smallVs_all fun v hv => ?_⟩
    obtain ⟨p, _, rfl⟩ := List.mem_map.mp hv
    rfl)
/-- the state between two paragraphs -/
structure Mid (NS : List (List Nat)) (PS : List PL) (DU : List Val) : Prop where
  nm : PS.map (·.1) = NS.take PS.length
  ok : oks PS
  inn : ∀ p ∈ PS, ∀ q ∈ Sts.ps p.2, InN NS q
  du : DU = PS.map (rowT (ixP NS))
theorem tail_ok {NS : List (List Nat)} (nd : NS.Nodup) (c : Nat) (lc : NS.length = c) (c4 : c ≤ 40) (v0 v1 v4 v6 v8 : Option Val) (y : DS) (PS : List PL) (DU : List Val) (G : Hep) (nm : List Nat) (m : List St) (om : ∀ s ∈ m, s.Ok 4) (im : ∀ p ∈ Sts.ps m, InN NS p) (lm : m.length ≤ 5) (lD : DU.length ≤ 100) (v10 v11 : Option Val) :
    ∃ w11, T_law_2 [v0, v1, some (.int c), some (.fl (NS.map .str)), v4, some (.ref 2), v6, some (.ref (G.length + 3)), v8, some (.ref (G.length + 4)), v10, v11, none, none] (LH y PS DU (G ++ [.lst ((Sts.ps m).map pV)] ++ [.lst ((Sts.ps m).map pV)])) = .nx [v0, v1, some (.int c), some (.fl (NS.map .str)), v4, some (.ref 2), v6, some (.ref (G.length + 3)), v8, some (.ref (G.length + 4)), some (.ref (G.length + 5)), w11, none, none] (LH y PS (DU ++ [rowT (ixP NS) (nm, m)]) (G ++ [.lst ((Sts.ps m).map pV)] ++ [.lst ((Sts.ps m).map pV)] ++ [.lst (((intR 0 c).filter fun j => (Sts.ps m).any (hitP NS j)).map .int)])) := by
  have lps := Oks_len m om
  have lp2 : (Sts.ps m).length ≤ 5 * 4 ^ 4 := Nat.le_trans lps (Nat.mul_le_mul_right _ lm)
  generalize hP : (Sts.ps m) = ps at *
  have sm := fun h => same_pairs ps (by omega) h
  have gA : (LH y PS DU (G ++ [.lst (ps.map pV)] ++ [.lst (ps.map pV)]))[G.length + 3]? = some (.lst (ps.map pV)) := by rw [LH_g]; exact get_new2 _ _ _
  have gB : (LH y PS DU (G ++ [.lst (ps.map pV)] ++ [.lst (ps.map pV)]))[G.length + 4]? = some (.lst (ps.map pV)) := by
    rw [show G.length + 4 = (G.length + 1) + 3 by omega, LH_g, ← len_new G (.lst (ps.map pV))]; exact get_new _ _
  have ln : (LH y PS DU (G ++ [.lst (ps.map pV)] ++ [.lst (ps.map pV)])).length = G.length + 5 := by rw [LH_len, len_new, len_new]
  have a1 := LH_app y PS DU (G ++ [.lst (ps.map pV)] ++ [.lst (ps.map pV)]) (.lst [])
  have gA2 : (LH y PS DU (G ++ [.lst (ps.map pV)] ++ [.lst (ps.map pV)] ++ [.lst []]))[G.length + 3]? = some (.lst (ps.map pV)) := by rw [LH_g]; exact get_app (get_new2 _ _ _)
  have gC2 : (LH y PS DU (G ++ [.lst (ps.map pV)] ++ [.lst (ps.map pV)] ++ [.lst []]))[G.length + 5]? = some (.lst (([] : List Int).map .int)) := by
    rw [show G.length + 5 = (G.length + 2) + 3 by omega, LH_g]
    have : G.length + 2 = (G ++ [Obj.lst (ps.map pV)] ++ [Obj.lst (ps.map pV)]).length := by rw [len_new, len_new]
    rw [this]; exact get_new _ _
  obtain ⟨w11, e⟩ := js_loop nd (G.length + 3) (G.length + 5) (by omega) v0 v1 (some (.int c)) v4 (some (.ref 2)) v6 v8 (some (.ref (G.length + 4))) ps (by omega) im c 0 [] _ v11 gA2 gC2 (by simp only [List.length_nil]; omega)
  have fin : (LH y PS DU (G ++ [.lst (ps.map pV)] ++ [.lst (ps.map pV)] ++ [.lst []])).set (G.length + 5) (.lst (([] ++ (intR 0 c).filter fun j => ps.any (hitP NS j)).map .int)) = LH y PS DU (G ++ [.lst (ps.map pV)] ++ [.lst (ps.map pV)] ++ [.lst (((intR 0 c).filter fun j => ps.any (hitP NS j)).map .int)]) := by
    rw [show G.length + 5 = (G.length + 2) + 3 by omega, LH_setg, List.nil_append]
    have : G.length + 2 = (G ++ [Obj.lst (ps.map pV)] ++ [Obj.lst (ps.map pV)]).length := by rw [len_new, len_new]
    rw [this, set_new]
  rw [fin] at e
  have gC3 : (LH y PS DU (G ++ [.lst (ps.map pV)] ++ [.lst (ps.map pV)] ++ [.lst (((intR 0 c).filter fun j => ps.any (hitP NS j)).map .int)]))[G.length + 5]? = some (.lst (((intR 0 c).filter fun j => ps.any (hitP NS j)).map .int)) := by
    rw [show G.length + 5 = (G.length + 2) + 3 by omega, LH_g]
    have : G.length + 2 = (G ++ [Obj.lst (ps.map pV)] ++ [Obj.lst (ps.map pV)]).length := by rw [len_new, len_new]
    rw [this]; exact get_new _ _
  have rs := row_same nd c lc ps im
  have rt : rowT (ixP NS) (nm, m) = .tup (((intR 0 c).filter fun j => ps.any (hitP NS j)).map .int) := by unfold rowT; rw [hP, rs]
  have gU := LH_u y PS DU (G ++ [.lst (ps.map pV)] ++ [.lst (ps.map pV)] ++ [.lst (((intR 0 c).filter fun j => ps.any (hitP NS j)).map .int)])
  have ap : mAppend (.ref 2) [.tup (((intR 0 c).filter fun j => ps.any (hitP NS j)).map .int)] (LH y PS DU (G ++ [.lst (ps.map pV)] ++ [.lst (ps.map pV)] ++ [.lst (((intR 0 c).filter fun j => ps.any (hitP NS j)).map .int)])) = some (.non, LH y PS (DU ++ [rowT (ixP NS) (nm, m)]) (G ++ [.lst (ps.map pV)] ++ [.lst (ps.map pV)] ++ [.lst (((intR 0 c).filter fun j => ps.any (hitP NS j)).map .int)])) := by
    rw [append_ok gU (by omega), LH_setu, rt]
  have rg : ∀ hh : Hep, fRng1 hh [.int (c : Int)] = some (rng 0 c, fun _ => true) := fun hh => by rw [fRng1_of (by omega) (by omega), Int.toNat_natCast]
  refine ⟨w11, ?_⟩
  simp_all only [T_law_2_v, gA, gB, sm, ln, a1, rg, e, gC3, gU, ap]
theorem turn_ok {NS : List (List Nat)} (nd : NS.Nodup) (c : Nat) (lc : NS.length = c) (c1 : 1 ≤ c) (c4 : c ≤ 40) (v0 : Option Val) (x : DS) (PS : List PL) (DU : List Val) (G : Hep) (M : Mid NS PS DU) (lk : PS.length < c) (v7 v8 v9 v10 v11 : Option Val) :
    ∃ (y : DS) (p : PL) (G' : Hep) (w7 w8 w9 w10 w11 : Option Val), L_law_3 [v0, some (.ref 0), some (.int c), some (.fl (NS.map .str)), some (.ref 1), some (.ref 2), some (.int (PS.length : Nat)), v7, v8, v9, v10, v11, none, none] (LH x PS DU G) = .nx [v0, some (.ref 0), some (.int c), some (.fl (NS.map .str)), some (.ref 1), some (.ref 2), some (.int (PS.length : Nat)), w7, w8, w9, w10, w11, none, none] (LH y (PS ++ [p]) (DU ++ [rowT (ixP NS) p]) G') ∧ Mid NS (PS ++ [p]) (DU ++ [rowT (ixP NS) p]) := by
  have lD : DU.length = PS.length := by rw [M.du, List.length_map]
  have lN : PS.length < NS.length := by omega
  obtain ⟨n, en, hn⟩ := dv_nat x 5 (by decide) (by decide)
  have q5 := qd 5 (by decide) (by decide)
  have lh : (LH x PS DU (G ++ [.lst []])).length = G.length + 4 := by rw [LH_len, List.length_append]; rfl
  obtain ⟨y, m, e, lm, om, im⟩ := stms_comp (NS := NS) (h := LH x PS DU (G ++ [.lst []])) (f := G.length + 3) (by omega) (by omega) (by omega) c lc c1 c4 v0 (some (.int c)) (some (.ref 1)) (some (.ref 2)) (some (.int (PS.length : Nat))) v8 v9 v10 (rng 0 n) (dn x 5) [] (by rw [rng_length]; simp only [List.length_nil]; omega)
  rw [rng_length] at lm
  rw [List.nil_append] at e
  have lps := Oks_len m om
  have lp2 : (Sts.ps m).length ≤ 5 * 4 ^ 4 := Nat.le_trans lps (Nat.mul_le_mul_right _ (by omega))
  have gL := HP_gcL (h := LH x PS DU (G ++ [.lst []])) (d := 0) (f := G.length + 3) (by omega) (by omega) (by omega) x y [] (Sts.ps m) (Sts.v m) (Oks_bnd om _)
  have h00 := HP_LH (dn x 5) x PS DU G []
  have h01 := HP_LH y x PS DU G (Sts.ps m)
  have h02 := HP_LH x x PS DU G []
  rw [h00] at e
  rw [h02] at gL
  rw [h01] at e gL
  have nk : NS[PS.length]? = some NS[PS.length] := List.getElem?_eq_getElem lN
  have ik : ∀ h, oIdx h (.fl (NS.map .str)) (.int (PS.length : Nat)) = some (.str NS[PS.length]) := fun h => atI_of (by omega) (by rw [Int.toNat_natCast, List.getElem?_map, nk]; rfl)
  have M2 : Mid NS (PS ++ [(NS[PS.length], m)]) (DU ++ [rowT (ixP NS) (NS[PS.length], m)]) := by
    constructor
    · rw [List.map_append, M.nm, List.length_append]
      simp only [List.map_cons, List.map_nil, List.length_cons, List.length_nil]
      rw [List.take_add_one, nk]; rfl
    · intro p hp
      rcases List.mem_append.mp hp with hp | hp
      · exact M.ok p hp
      · rw [List.mem_singleton.mp hp]; exact ⟨(by show m.length ≤ 5; omega), om⟩
    · intro p hp
      rcases List.mem_append.mp hp with hp | hp
      · exact M.inn p hp
      · rw [List.mem_singleton.mp hp]; exact im
    · rw [List.map_append, M.du]; rfl
  obtain ⟨w11, tl⟩ := tail_ok nd c lc c4 v0 (some (.ref 0)) (some (.ref 1)) (some (.int (PS.length : Nat))) (some (.tup (Sts.v m))) y (PS ++ [(NS[PS.length], m)]) DU G (NS[PS.length]) m om im (by omega) (by omega) v10 v11
  rw [List.map_nil] at e gL
  refine ⟨y, (NS[PS.length], m), G ++ [.lst ((Sts.ps m).map pV)] ++ [.lst ((Sts.ps m).map pV)] ++ [.lst (((intR 0 c).filter fun j => (Sts.ps m).any (hitP NS j)).map .int)], some (.ref (G.length + 3)), some (.tup (Sts.v m)), some (.ref (G.length + 4)), some (.ref (G.length + 5)), w11, ?_, M2⟩
  · have a1 := LH_app x PS DU G (.lst [])
    have q0 := LH_len x PS DU G
    have q1 := LH_d x PS DU (G ++ [.lst []])
    have q2 := LH_setd x (dn x 5) PS DU (G ++ [.lst []])
    have q3 := LH_p y PS DU (G ++ [.lst ((Sts.ps m).map pV)])
    have e' : compT (gNam 11) (fun _ => true) tTrue E_law_2 [v0, some (.ref 0), some (.int c), some (.fl (NS.map .str)), some (.ref 1), some (.ref 2), some (.int (PS.length : Nat)), some (.ref (G.length + 3)), v8, v9, v10, none, none, none] (rng 0 n) (LH (dn x 5) PS DU (G ++ [.lst []])) .mk = .ok (Sts.v m) (LH y PS DU (G ++ [.lst ((Sts.ps m).map pV)])) := e
    have lv : (Sts.v m).length = n := by rw [Sts.v_map, List.length_map, lm]
    have lq : (LH y PS DU (G ++ [.lst ((Sts.ps m).map pV)])).length = G.length + 4 := by rw [LH_len, List.length_append]; rfl
    rw [lq] at gL
    have lP : (PS.map pgV).length = PS.length := List.length_map ..
    have ap : mAppend (.ref 1) [.tup [.str NS[PS.length], .tup (Sts.v m)]] (LH y PS DU (G ++ [.lst ((Sts.ps m).map pV)])) = some (.non, LH y (PS ++ [(NS[PS.length], m)]) DU (G ++ [.lst ((Sts.ps m).map pV)])) := by
      rw [append_ok q3 (by rw [lP]; omega), show PS.map pgV ++ [Val.tup [.str NS[PS.length], .tup (Sts.v m)]] = (PS ++ [(NS[PS.length], m)]).map pgV by rw [List.map_append]; rfl, LH_setp]
    have pf := performed_ok 5 m (by decide) (fun s hs => Ok_up 4 s (om s hs)) (by have := Nat.mul_le_mul_right (4 ^ 5) (show m.length ≤ 5 by omega); omega) (LH y (PS ++ [(NS[PS.length], m)]) DU (G ++ [.lst ((Sts.ps m).map pV)]))
    have lq2 : (LH y (PS ++ [(NS[PS.length], m)]) DU (G ++ [.lst ((Sts.ps m).map pV)])).length = G.length + 4 := by rw [LH_len, List.length_append]; rfl
    rw [lq2, LH_app] at pf
    have pf' : M_performed [.tup (Sts.v m)] (LH y (PS ++ [(NS[PS.length], m)]) DU (G ++ [.lst ((Sts.ps m).map pV)])) = .ok (.ref (G.length + 4)) (LH y (PS ++ [(NS[PS.length], m)]) DU (G ++ [.lst ((Sts.ps m).map pV)] ++ [.lst ((Sts.ps m).map pV)])) := pf
    simpa only [L_law_3_v, a1, q0, draw_v, q1, decDS_o, onD_some, q5, en, q2, e', lv, lq, gL, ik, q3, ap, pf', tl]
theorem law_loop {NS : List (List Nat)} (nd : NS.Nodup) (c : Nat) (lc : NS.length = c) (c1 : 1 ≤ c) (c4 : c ≤ 40) (v0 : Option Val) : ∀ (n : Nat) (x : DS) (PS : List PL) (DU : List Val) (G : Hep) (v6 v7 v8 v9 v10 v11 : Option Val), Mid NS PS DU → PS.length + n = c →
    ∃ (y : DS) (QS : List PL) (EU : List Val) (G' : Hep) (w6 w7 w8 w9 w10 w11 : Option Val), forT (gNam 6) (fun _ => true) L_law_3 (rng (PS.length : Nat) n) [v0, some (.ref 0), some (.int c), some (.fl (NS.map .str)), some (.ref 1), some (.ref 2), v6, v7, v8, v9, v10, v11, none, none] (LH x PS DU G) .mk = .nx [v0, some (.ref 0), some (.int c), some (.fl (NS.map .str)), some (.ref 1), some (.ref 2), w6, w7, w8, w9, w10, w11, none, none] (LH y QS EU G') ∧ Mid NS QS EU ∧ QS.length = c
  | 0, x, PS, DU, G, v6, v7, v8, v9, v10, v11, M, l => ⟨x, PS, DU, G, v6, v7, v8, v9, v10, v11, forL_0 _ _ _ _ _ rfl _, M, l⟩
  | n + 1, x, PS, DU, G, v6, v7, v8, v9, v10, v11, M, l => by
    obtain ⟨y, p, G1, u7, u8, u9, u10, u11, e, M2⟩ := turn_ok nd c lc c1 c4 v0 x PS DU G M (by omega) v7 v8 v9 v10 v11
    obtain ⟨z, QS, EU, G', w6, w7, w8, w9, w10, w11, e2, M3, l3⟩ := law_loop nd c lc c1 c4 v0 n y (PS ++ [p]) (DU ++ [rowT (ixP NS) p]) G1 (some (.int (PS.length : Nat))) u7 u8 u9 u10 u11 M2 (by rw [List.length_append]; simp only [List.length_cons, List.length_nil]; omega)
    refine ⟨z, QS, EU, G', w6, w7, w8, w9, w10, w11, ?_, M3, l3⟩
    rw [rng_cons, forL_v _ _ _ _ _ _ _ rfl _]
    have st : gNam 6 (.int (PS.length : Nat)) [v0, some (.ref 0), some (.int c), some (.fl (NS.map .str)), some (.ref 1), some (.ref 2), v6, v7, v8, v9, v10, v11, none, none] = some [v0, some (.ref 0), some (.int c), some (.fl (NS.map .str)), some (.ref 1), some (.ref 2), some (.int (PS.length : Nat)), v7, v8, v9, v10, v11, none, none] := rfl
    rw [st]
    show (L_law_3 _ _).go _ .mk = _
    rw [e]
    have lc : (((PS ++ [p]).length : Nat) : Int) = (PS.length : Int) + 1 := by rw [List.length_append]; rfl
    rw [lc] at e2
    exact e2
theorem sd_rows (ix : PR → Nat × Nat) (QS : List PL) (l : QS.length ≤ 40) (sm : ∀ p ∈ QS, (srtI ((Sts.ps p.2).foldl (addP ix) [])).length < 1000000) (h : Hep) : M_v_law_same [.tup (QS.map (rowT ix)), .tup (QS.map (rowT ix))] h = .ok (.bl true) h := same_ok _ h (by
    unfold sd
    rw [List.all_eq_true]
    intro v hv
    obtain ⟨p, _, rfl⟩ := List.mem_map.mp hv
    unfold rowT sd
    rw [List.all_eq_true]
    intro v hv
    obtain ⟨i, _, rfl⟩ := List.mem_map.mp hv
    rfl) (by
    unfold smallV
    rw [Bool.and_eq_true]
    refine ⟨decide_eq_true (by rw [List.length_map]; omega), smallVs_all fun v hv => ?_⟩
    obtain ⟨p, hp, rfl⟩ := List.mem_map.mp hv
    unfold rowT smallV
    rw [Bool.and_eq_true]
    refine ⟨decide_eq_true (by rw [List.length_map]; exact sm p hp), smallVs_all fun v hv => ?_⟩
    obtain ⟨i, _, rfl⟩ := List.mem_map.mp hv
    rfl)
noncomputable def T_c : SM := sSeq (sSet 3 (eCall M_v_law_names (aCons (eVar 1) (aCons (eVar 2) aNil)))) (sSeq (sSet 4 (eLst aNil)) T_law_4)
theorem law_true (ns : List Int) (hl : ns.length ≤ 63) : ∃ h, Mir.M_law [.fl (ns.map .int)] [] = .ok (.bl true) h := by
  have e0 := draws_ok ns []
  rw [List.nil_append, List.length_nil] at e0
  have q5 := qd 5 (by decide) (by decide)
  have q9 := qd 9 (by decide) (by decide)
  have q40 := qd 40 (by decide) (by decide)
  -- the number of paragraphs
  have cnt : ∃ (z : DS) (c : Nat), 1 ≤ c ∧ c ≤ 40 ∧ M_law [.fl (ns.map .int)] [] = (T_c [some (.fl (ns.map .int)), some (.ref 0), some (.int c), none, none, none, none, none, none, none, none, none, none, none] [z.o]).res := by
    have b9 := dv_nat (dn (DS.mk ns 0 0 1) 5) 9 (by decide) (by decide)
    have b40 := dv_nat (dn (DS.mk ns 0 0 1) 5) 40 (by decide) (by decide)
    obtain ⟨m, e9, h9⟩ := b9
    obtain ⟨k, e40, h40⟩ := b40
    have g : ∀ o : Obj, ([o] : Hep)[0]? = some o := fun o => rfl
    have st : ∀ o u : Obj, ([o] : Hep).set 0 u = [u] := fun o u => rfl
    by_cases q : dv (DS.mk ns 0 0 1) 5 = 0
    · have q1 : (dv (DS.mk ns 0 0 1) 5 == 0) = true := by rw [q]; rfl
      refine ⟨dn (dn (DS.mk ns 0 0 1) 5) 40, 1 + k, by omega, by omega, ?_⟩
      have cc : ((1 + k : Nat) : Int) = 1 + (k : Int) := by push_cast; rfl
      rw [cc]
      unfold T_c
      simpa only [M_law_v, e0, eKl_v, K_law_1, draw_v, g, decDS_o, onD_some, q5, st, q1, q40, e40]
    · have q1 : (dv (DS.mk ns 0 0 1) 5 == 0) = false := beq_false_of_ne q
      refine ⟨dn (dn (DS.mk ns 0 0 1) 5) 9, 1 + m, by omega, by omega, ?_⟩
      have cc : ((1 + m : Nat) : Int) = 1 + (m : Int) := by push_cast; rfl
      rw [cc]
      unfold T_c
      simpa only [M_law_v, e0, eKl_v, K_law_1, draw_v, g, decDS_o, onD_some, q5, st, q1, q9, e9]
  obtain ⟨z, c, c1, c4, e1⟩ := cnt
  obtain ⟨y, NS, e2, lc, nd, _⟩ := names_ok 0 c c4 [z.o] z rfl
  have s1 : ([z.o] : Hep).set 0 y.o = [y.o] := rfl
  rw [s1] at e2
  have M0 : Mid NS [] [] := ⟨rfl, (fun p hp => absurd hp List.not_mem_nil), (fun p hp => absurd hp List.not_mem_nil), rfl⟩
  obtain ⟨x, QS, EU, G, w6, w7, w8, w9, w10, w11, e3, M, lQ⟩ := law_loop nd c lc c1 c4 (some (.fl (ns.map .int))) c y [] [] [] none none none none none none M0 (by simp)
  have nm : QS.map (·.1) = NS := by rw [M.nm, lQ, ← lc, List.take_length]
  have at_ : ∀ m ∈ QS, ∀ p ∈ Sts.ps m.2, At QS p (ixP NS p).1 (ixP NS p).2 := fun m hm p hp => by
    obtain ⟨le, a, b, _, _⟩ := InN_at nd (M.inn m hm p hp)
    exact ⟨le, by rw [nm]; exact a, by rw [nm]; exact b⟩
  have gr := graph_ok QS (by rw [nm]; exact nd) (by omega) (ixP NS) M.ok at_ (LH x QS EU G)
  have sm := sd_rows (ixP NS) QS (by omega) (fun p hp => by
    rw [row_same nd c lc (Sts.ps p.2) (M.inn p hp)]
    have := List.length_filter_le (fun j => (Sts.ps p.2).any (hitP NS j)) (intR 0 c)
    have l2 : (intR 0 c).length = c := by unfold intR; rw [List.length_map, List.length_range]
    omega) (LH x QS EU G)
  rw [← M.du] at sm gr
  refine ⟨LH x QS EU G, ?_⟩
  have h0 : LH y [] [] [] = [y.o, .lst [], .lst []] := rfl
  rw [h0] at e3
  have rg : ∀ hh : Hep, fRng1 hh [.int (c : Int)] = some (rng 0 c, fun _ => true) := fun hh => by rw [fRng1_of (by omega) (by omega), Int.toNat_natCast]
  have e3' : forT (gNam 6) (fun _ => true) L_law_3 (rng 0 c) [some (.fl (ns.map .int)), some (.ref 0), some (.int c), some (.fl (NS.map .str)), some (.ref 1), some (.ref 2), none, none, none, none, none, none, none, none] [y.o, .lst [], .lst []] .mk = .nx [some (.fl (ns.map .int)), some (.ref 0), some (.int c), some (.fl (NS.map .str)), some (.ref 1), some (.ref 2), w6, w7, w8, w9, w10, w11, none, none] (LH x QS EU G) := e3
  have l1 : ([y.o] : Hep).length = 1 := rfl
  have l2 : ([y.o, .lst []] : Hep).length = 2 := rfl
  have gp := LH_p x QS EU G
  have gu := LH_u x QS EU G
  rw [e1]
  unfold T_c
  simp_all only [e2, l1, l2, rg, e3', gp, gu, gr, sm]
end Law

set_option Elab.async false
set_option linter.all false
set_option maxRecDepth 100000
set_option maxHeartbeats 4000000
namespace Ok
open PySem PySem.Spec PyProof.Rows L2 Cb Mir
def top (i : Nat) : Stmt := PySem.Challenge.pw_cardhouse_k40_performed_paragraphs.main.body.getD i (.Pass ⟨0, 0, 0, 0⟩)
abbrev s_v_law_draw : Stmt := top 5
theorem sc_v_law_draw : FnScope ["draws", "limit", "cell", "value"] ["draws", "limit"] (defScope s_v_law_draw) := ⟨rfl, rfl, rfl, by decide +kernel, rfl, by decide +kernel, by decide +kernel⟩
abbrev s_v_law_draws : Stmt := top 4
theorem sc_v_law_draws : FnScope ["script"] ["script"] (defScope s_v_law_draws) := ⟨rfl, rfl, rfl, by decide +kernel, rfl, by decide +kernel, by decide +kernel⟩
abbrev s_v_law_reserved : Stmt := top 7
theorem sc_v_law_reserved : FnScope ["words"] [] (defScope s_v_law_reserved) := ⟨rfl, rfl, rfl, by decide +kernel, rfl, by decide +kernel, by decide +kernel⟩
abbrev s_v_law_name : Stmt := top 8
theorem sc_v_law_name : FnScope ["draws", "letters", "size", "name", "k", "marks"] ["draws"] (defScope s_v_law_name) := ⟨rfl, rfl, rfl, by decide +kernel, rfl, by decide +kernel, by decide +kernel⟩
abbrev s_v_law_names : Stmt := top 9
theorem sc_v_law_names : FnScope ["draws", "count", "names", "k", "name", "j"] ["draws", "count"] (defScope s_v_law_names) := ⟨rfl, rfl, rfl, by decide +kernel, rfl, by decide +kernel, by decide +kernel⟩
abbrev s_v_law_same : Stmt := top 6
theorem sc_v_law_same : FnScope ["actual", "expected", "k"] ["actual", "expected"] (defScope s_v_law_same) := ⟨rfl, rfl, rfl, by decide +kernel, rfl, by decide +kernel, by decide +kernel⟩
abbrev s_v_law_perform : Stmt := top 10
theorem sc_v_law_perform : FnScope ["draws", "names", "found", "first", "last", "condition", "ways"] ["draws", "names", "found"] (defScope s_v_law_perform) := ⟨rfl, rfl, rfl, by decide +kernel, rfl, by decide +kernel, by decide +kernel⟩
abbrev s_v_law_block : Stmt := top 11
theorem sc_v_law_block : FnScope ["draws", "names", "found", "levels", "least", "statements", "k"] ["draws", "names", "found", "levels", "least"] (defScope s_v_law_block) := ⟨rfl, rfl, rfl, by decide +kernel, rfl, by decide +kernel, by decide +kernel⟩
abbrev s_v_law_statement : Stmt := top 12
theorem sc_v_law_statement : FnScope ["draws", "names", "found", "levels", "kind", "others", "then", "at_end", "inner"] ["draws", "names", "found", "levels"] (defScope s_v_law_statement) := ⟨rfl, rfl, rfl, by decide +kernel, rfl, by decide +kernel, by decide +kernel⟩
abbrev s_performed : Stmt := top 1
theorem sc_performed : FnScope ["statements", "pairs", "statement"] ["statements"] (defScope s_performed) := ⟨rfl, rfl, rfl, by decide +kernel, rfl, by decide +kernel, by decide +kernel⟩
abbrev s_graph_of : Stmt := top 2
theorem sc_graph_of : FnScope ["paragraphs", "places", "rows", "_", "statements", "found", "start", "last", "index", "name"] ["paragraphs"] (defScope s_graph_of) := ⟨rfl, rfl, rfl, by decide +kernel, rfl, by decide +kernel, by decide +kernel⟩
abbrev s_law : Stmt := top 13
theorem sc_law : FnScope ["script", "draws", "count", "names", "paragraphs", "due", "k", "found", "statements", "pairs", "places", "j", "first", "last"] ["script"] (defScope s_law) := ⟨rfl, rfl, rfl, by decide +kernel, rfl, by decide +kernel, by decide +kernel⟩
structure Txt (K : PySem.W.Frag) (mg : Str → Option Value) (w : World) : Type where
  f_v_law_draw : Addr
  fd_v_law_draw : FuncData
  F_v_law_draw : Fun K "_law_draw" "_law_draw" s_v_law_draw f_v_law_draw fd_v_law_draw
  g_v_law_draw : mg "_law_draw" = some (.ref f_v_law_draw)
  b_v_law_draw : Binds K fd_v_law_draw ["draws", "limit"] []
  f_v_law_draws : Addr
  fd_v_law_draws : FuncData
  F_v_law_draws : Fun K "_law_draws" "_law_draws" s_v_law_draws f_v_law_draws fd_v_law_draws
  g_v_law_draws : mg "_law_draws" = some (.ref f_v_law_draws)
  b_v_law_draws : Binds K fd_v_law_draws ["script"] []
  f_v_law_reserved : Addr
  fd_v_law_reserved : FuncData
  F_v_law_reserved : Fun K "_law_reserved" "_law_reserved" s_v_law_reserved f_v_law_reserved fd_v_law_reserved
  g_v_law_reserved : mg "_law_reserved" = some (.ref f_v_law_reserved)
  b_v_law_reserved : Binds K fd_v_law_reserved [] []
  f_v_law_name : Addr
  fd_v_law_name : FuncData
  F_v_law_name : Fun K "_law_name" "_law_name" s_v_law_name f_v_law_name fd_v_law_name
  g_v_law_name : mg "_law_name" = some (.ref f_v_law_name)
  b_v_law_name : Binds K fd_v_law_name ["draws"] []
  f_v_law_names : Addr
  fd_v_law_names : FuncData
  F_v_law_names : Fun K "_law_names" "_law_names" s_v_law_names f_v_law_names fd_v_law_names
  g_v_law_names : mg "_law_names" = some (.ref f_v_law_names)
  b_v_law_names : Binds K fd_v_law_names ["draws", "count"] []
  f_v_law_same : Addr
  fd_v_law_same : FuncData
  F_v_law_same : Fun K "_law_same" "_law_same" s_v_law_same f_v_law_same fd_v_law_same
  g_v_law_same : mg "_law_same" = some (.ref f_v_law_same)
  b_v_law_same : Binds K fd_v_law_same ["actual", "expected"] []
  f_v_law_perform : Addr
  fd_v_law_perform : FuncData
  F_v_law_perform : Fun K "_law_perform" "_law_perform" s_v_law_perform f_v_law_perform fd_v_law_perform
  g_v_law_perform : mg "_law_perform" = some (.ref f_v_law_perform)
  b_v_law_perform : Binds K fd_v_law_perform ["draws", "names", "found"] []
  f_v_law_block : Addr
  fd_v_law_block : FuncData
  F_v_law_block : Fun K "_law_block" "_law_block" s_v_law_block f_v_law_block fd_v_law_block
  g_v_law_block : mg "_law_block" = some (.ref f_v_law_block)
  b_v_law_block : Binds K fd_v_law_block ["draws", "names", "found", "levels", "least"] []
  f_v_law_statement : Addr
  fd_v_law_statement : FuncData
  F_v_law_statement : Fun K "_law_statement" "_law_statement" s_v_law_statement f_v_law_statement fd_v_law_statement
  g_v_law_statement : mg "_law_statement" = some (.ref f_v_law_statement)
  b_v_law_statement : Binds K fd_v_law_statement ["draws", "names", "found", "levels"] []
  f_performed : Addr
  fd_performed : FuncData
  F_performed : Fun K "performed" "performed" s_performed f_performed fd_performed
  g_performed : mg "performed" = some (.ref f_performed)
  b_performed : Binds K fd_performed ["statements"] []
  f_graph_of : Addr
  fd_graph_of : FuncData
  F_graph_of : Fun K "graph_of" "graph_of" s_graph_of f_graph_of fd_graph_of
  g_graph_of : mg "graph_of" = some (.ref f_graph_of)
  b_graph_of : Binds K fd_graph_of ["paragraphs"] []
  f_law : Addr
  fd_law : FuncData
  F_law : Fun K "law" "law" s_law f_law fd_law
  g_law : mg "law" = some (.ref f_law)
  b_law : Binds K fd_law ["script"] []
  m_bool : mg "bool" = none
  m_enumerate : mg "enumerate" = none
  m_int : mg "int" = none
  m_isinstance : mg "isinstance" = none
  m_len : mg "len" = none
  m_list : mg "list" = none
  m_max : mg "max" = none
  m_range : mg "range" = none
  m_sorted : mg "sorted" = none
  m_str : mg "str" = none
  m_tuple : mg "tuple" = none
def ca {K : PySem.W.Frag} {mg : Str → Option Value} {w : World} (T : Txt K mg w) : String → Value := fun s =>  .none
section
variable {P : Program} {w : World} {K : PySem.W.Frag} {mg : Str → Option Value} {base : Heap}
theorem ok_v_law_draw (T : Txt K mg w) : FnOk P w K mg base (L2.CX P w) 1 T.f_v_law_draw T.fd_v_law_draw ["draws", "limit"] (spF K (ca T) 2 M_v_law_draw) :=
  fn_gc 4 4 (k_def (N := ["draws", "limit", "cell", "value"]) (body := B_v_law_draw) T.F_v_law_draw sc_v_law_draw (fun cdv A outer s H E hr tk po => (kss_cons (ks_if (kt_pw (kw_and (kt_cmp (op_eqA hr.units) bf_eq (k_idx (k_var 0) k_int) k_int (nomark _)) (kw_and1 (kt_cmp op_ltA bf_lt (k_idx (k_var 0) k_int) (k_callB call_len bf_len T.m_len (ka_cons (k_idx (k_var 0) k_int) ka_nil)) (nomark _))))) (kss_cons (ks_set 2 sc_v_law_draw.nd (k_idx (k_idx (k_var 0) k_int) (k_idx (k_var 0) k_int))) (kss_cons (ks_setIx (k_op op_plus bg_plus (k_idx (k_var 0) k_int) k_int) (k_var 0) k_int (pg := pg_sub (k_var 0) k_int set_list)) (kss_cons (ks_if (kt_cmp op_geA bf_ge (k_var 2) (k_bin op_pow bf_pow k_int k_int) (nomark _)) (kss_one (ks_setIx (k_var 2) (k_var 0) k_int (pg := pg_sub (k_var 0) k_int set_list))) kss_nil) (kss_one (ks_setIx (k_bin op_mod bf_mod (k_callTy (CallR.or call_int1 call_int_str) (BFnF.or bf_int bf_intS) T.m_int (ka_cons (k_op op_plus bg_plus (k_op op_plus bg_plus (k_op op_times bg_times (k_idx (k_var 0) k_int) k_int) (k_var 2)) k_int) ka_nil)) k_int) (k_var 0) k_int (pg := pg_sub (k_var 0) k_int set_list)))))) kss_nil) (kss_cons (ks_if (kt_cmp op_gtA bf_gt (k_idx (k_var 0) k_int) k_int (nomark _)) (kss_cons (ks_set 3 sc_v_law_draw.nd (k_bin op_mod bf_mod (k_callTy (CallR.or call_int1 call_int_str) (BFnF.or bf_int bf_intS) T.m_int (ka_cons (k_idx (k_var 0) k_int) ka_nil)) (k_var 1))) (kss_cons (ks_setIx (k_bin op_fdivW bf_div (k_idx (k_var 0) k_int) (k_var 1)) (k_var 0) k_int (pg := pg_sub (k_var 0) k_int set_list)) (kss_one (ks_ret (k_var 3))))) kss_nil) (kss_cons (ks_setIx (k_bin op_mod bf_mod (k_callTy (CallR.or call_int1 call_int_str) (BFnF.or bf_int bf_intS) T.m_int (ka_cons (k_op op_plus bg_plus (k_op op_times bg_times (k_idx (k_var 0) k_int) k_int) k_int) ka_nil)) k_int) (k_var 0) k_int (pg := pg_sub (k_var 0) k_int set_list)) (kss_one (ks_ret (k_bin op_mod bf_mod (k_callTy (CallR.or call_int1 call_int_str) (BFnF.or bf_int bf_intS) T.m_int (ka_cons (k_bin op_fdivW bf_div (k_idx (k_var 0) k_int) k_int) ka_nil)) (k_var 1)))))))))
theorem ok_v_law_draws (T : Txt K mg w) : FnOk P w K mg base (L2.CX P w) 1 T.f_v_law_draws T.fd_v_law_draws ["script"] (spF K (ca T) 1 M_v_law_draws) :=
  fn_gc 0 4 (k_def (N := ["script"]) (body := B_v_law_draws) T.F_v_law_draws sc_v_law_draws (fun cdv A outer s H E hr tk po => (kss_one (ks_ret (k_lst (ka_cons (k_gc 4 4 (k_callTy (CallR.or call_list_of (call_listS (by rfl))) (BFnF.or bf_list bf_listS) T.m_list (ka_cons (k_var 0) ka_nil))) (ka_cons k_int (ka_cons k_int (ka_cons k_int ka_nil)))))))))
theorem ok_v_law_reserved (T : Txt K mg w) : FnOk P w K mg base (L2.CX P w) 1 T.f_v_law_reserved T.fd_v_law_reserved [] (spF K (ca T) 0 M_v_law_reserved) :=
  fn_gc 4 4 (k_def (N := ["words"]) (body := B_v_law_reserved) T.F_v_law_reserved sc_v_law_reserved (fun cdv A outer s H E hr tk po => (kss_cons (ks_set 0 sc_v_law_reserved.nd (k_kl (k_lst (ka_cons k_str (ka_cons k_str (ka_cons k_str (ka_cons k_str (ka_cons k_str (ka_cons k_str (ka_cons k_str (ka_cons k_str (ka_cons k_str (ka_cons k_str (ka_cons k_str (ka_cons k_str ka_nil))))))))))))) (l := Mir.K_v_law_reserved_1) (fun _ _ => by rfl) (by decide) (by decide))) (kss_cons (ks_set 0 sc_v_law_reserved.nd (k_gc 4 4 (k_op op_plus bg_plus (k_var 0) (k_kl (k_lst (ka_cons k_str (ka_cons k_str (ka_cons k_str (ka_cons k_str (ka_cons k_str (ka_cons k_str (ka_cons k_str (ka_cons k_str (ka_cons k_str (ka_cons k_str (ka_cons k_str (ka_cons k_str ka_nil))))))))))))) (l := Mir.K_v_law_reserved_2) (fun _ _ => by rfl) (by decide) (by decide))))) (kss_cons (ks_set 0 sc_v_law_reserved.nd (k_gc 4 4 (k_op op_plus bg_plus (k_var 0) (k_kl (k_lst (ka_cons k_str (ka_cons k_str (ka_cons k_str (ka_cons k_str (ka_cons k_str (ka_cons k_str (ka_cons k_str (ka_cons k_str (ka_cons k_str (ka_cons k_str (ka_cons k_str (ka_cons k_str ka_nil))))))))))))) (l := Mir.K_v_law_reserved_3) (fun _ _ => by rfl) (by decide) (by decide))))) (kss_one (ks_ret (k_gc 4 4 (k_op op_plus bg_plus (k_var 0) (k_kl (k_lst (ka_cons k_str (ka_cons k_str (ka_cons k_str (ka_cons k_str (ka_cons k_str (ka_cons k_str ka_nil))))))) (l := Mir.K_v_law_reserved_4) (fun _ _ => by rfl) (by decide) (by decide)))))))))))
theorem ok_v_law_name (T : Txt K mg w) : FnOk P w K mg base (L2.CX P w) 2 T.f_v_law_name T.fd_v_law_name ["draws"] (spF K (ca T) 1 M_v_law_name) :=
  fn_gc 4 4 (k_def (N := ["draws", "letters", "size", "name", "k", "marks"]) (body := B_v_law_name) T.F_v_law_name sc_v_law_name (fun cdv A outer s H E hr tk po => (kss_cons (ks_set 1 sc_v_law_name.nd k_str) (kss_cons (ks_set 2 sc_v_law_name.nd (k_op op_plus bg_plus k_int (k_call (ok_v_law_draw T) tk (hr.mono (by decide)) (by rfl) T.g_v_law_draw T.F_v_law_draw.kp T.b_v_law_draw rfl (ka_cons (k_var 0) (ka_cons k_int ka_nil)) (al_cons (al_cons al_nil))))) (kss_cons (ks_if (kt_cmp (op_eqA hr.units) bf_eq (k_call (ok_v_law_draw T) tk (hr.mono (by decide)) (by rfl) T.g_v_law_draw T.F_v_law_draw.kp T.b_v_law_draw rfl (ka_cons (k_var 0) (ka_cons k_int ka_nil)) (al_cons (al_cons al_nil))) k_int (nomark _)) (kss_one (ks_set 2 sc_v_law_name.nd (k_op op_plus bg_plus k_int (k_call (ok_v_law_draw T) tk (hr.mono (by decide)) (by rfl) T.g_v_law_draw T.F_v_law_draw.kp T.b_v_law_draw rfl (ka_cons (k_var 0) (ka_cons k_int ka_nil)) (al_cons (al_cons al_nil)))))) kss_nil) (kss_cons (ks_set 3 sc_v_law_name.nd (k_idx (k_var 1) (k_call (ok_v_law_draw T) tk (hr.mono (by decide)) (by rfl) T.g_v_law_draw T.F_v_law_draw.kp T.b_v_law_draw rfl (ka_cons (k_var 0) (ka_cons k_int ka_nil)) (al_cons (al_cons al_nil))))) (kss_cons (ks_for po rfl (ki_rng1 T.m_range (ka_cons (k_bin op_sub bf_sub (k_var 2) k_int) ka_nil)) (kg_name 4 sc_v_law_name.nd) (kss_cons (ks_set 5 sc_v_law_name.nd (k_op op_plus bg_plus (k_var 1) k_str)) (kss_cons (ks_if (kt_cmp op_ltA bf_lt (k_var 4) (k_bin op_sub bf_sub (k_var 2) k_int) (nomark _)) (kss_one (ks_set 5 sc_v_law_name.nd (k_op op_plus bg_plus (k_var 5) k_str))) kss_nil) (kss_one (ks_set 3 sc_v_law_name.nd (k_op op_plus bg_plus (k_var 3) (k_idx (k_var 5) (k_call (ok_v_law_draw T) tk (hr.mono (by decide)) (by rfl) T.g_v_law_draw T.F_v_law_draw.kp T.b_v_law_draw rfl (ka_cons (k_var 0) (ka_cons (k_callB call_len bf_len T.m_len (ka_cons (k_var 5) ka_nil)) ka_nil)) (al_cons (al_cons al_nil)))))))))) (kss_cons (ks_if (kt_cmp op_inA bf_in (k_var 3) (k_call0 (ok_v_law_reserved T) tk (hr.mono (by decide)) (by rfl) T.g_v_law_reserved T.F_v_law_reserved.kp T.b_v_law_reserved rfl) (by rfl)) (kss_one (ks_ret (k_op op_plus bg_plus (k_var 3) k_str))) kss_nil) (kss_one (ks_ret (k_var 3)))))))))))
theorem ok_v_law_names (T : Txt K mg w) : FnOk P w K mg base (L2.CX P w) 3 T.f_v_law_names T.fd_v_law_names ["draws", "count"] (spF K (ca T) 2 M_v_law_names) :=
  fn_gc 4 4 (k_def (N := ["draws", "count", "names", "k", "name", "j"]) (body := B_v_law_names) T.F_v_law_names sc_v_law_names (fun cdv A outer s H E hr tk po => (kss_cons (ks_set 2 sc_v_law_names.nd (k_lst ka_nil)) (kss_cons (ks_for po rfl (ki_rng1 T.m_range (ka_cons (k_var 1) ka_nil)) (kg_name 3 sc_v_law_names.nd) (kss_cons (ks_set 4 sc_v_law_names.nd (k_call (ok_v_law_name T) tk (hr.mono (by decide)) (by rfl) T.g_v_law_name T.F_v_law_name.kp T.b_v_law_name rfl (ka_cons (k_var 0) ka_nil) (al_cons al_nil))) (kss_cons (ks_for po rfl (ki_rng1 T.m_range (ka_cons (k_op op_plus bg_plus (k_var 1) k_int) ka_nil)) (kg_name 5 sc_v_law_names.nd) (kss_one (ks_if (kt_cmp op_inA bf_in (k_var 4) (k_var 2) (by rfl)) (kss_one (ks_set 4 sc_v_law_names.nd (k_op op_plus bg_plus (k_gc 4 4 (k_slice (k_var 4) kp_no (kp_some k_int))) (k_callTy call_str_int bf_str T.m_str (ka_cons (k_var 5) ka_nil))))) kss_nil))) (kss_one (ks_expr (k_bm PySem.F.plainAttrs_list PySem.F.slot_list_append PySem.F.type_list_append mt_append mf_append (k_var 2) (ka_cons (k_var 4) ka_nil))))))) (kss_one (ks_ret (k_var 2)))))))
theorem okn_v_law_same (T : Txt K mg w) : ∀ n : Nat, FnOk P w K mg base (L2.CX P w) (0 + n) T.f_v_law_same T.fd_v_law_same ["actual", "expected"] (spF K (ca T) 2 (M_v_law_same_n n))
  | 0 => fnOk_stuck
  | n + 1 => by
    have ih_ := okn_v_law_same T n
    exact fn_gc 4 4 (k_def (N := ["actual", "expected", "k"]) (body := B_v_law_same (M_v_law_same_n n)) T.F_v_law_same sc_v_law_same (fun cdv A outer s H E hr tk po => (kss_cons (ks_if (kt_tru (k_isi "tuple" T.m_isinstance T.m_tuple (k_var 1))) (kss_cons (ks_if (kt_pw (kw_or (kt_not (kt_tru (k_isi "tuple" T.m_isinstance T.m_tuple (k_var 0)))) (kw_or1 (kt_cmp (op_neA hr.units) bf_ne (k_callB call_len bf_len T.m_len (ka_cons (k_var 0) ka_nil)) (k_callB call_len bf_len T.m_len (ka_cons (k_var 1) ka_nil)) (nomark _))))) (kss_one (ks_ret k_bl)) kss_nil) (kss_cons (ks_for po rfl (ki_rng1 T.m_range (ka_cons (k_callB call_len bf_len T.m_len (ka_cons (k_var 1) ka_nil)) ka_nil)) (kg_name 2 sc_v_law_same.nd) (kss_one (ks_if (kt_not (kt_tru (k_call ih_ tk hr (by rfl) T.g_v_law_same T.F_v_law_same.kp T.b_v_law_same rfl (ka_cons (k_idx (k_var 0) (k_var 2)) (ka_cons (k_idx (k_var 1) (k_var 2)) ka_nil)) (al_cons (al_cons al_nil))))) (kss_one (ks_ret k_bl)) kss_nil))) (kss_one (ks_ret k_bl)))) kss_nil) (kss_cons (ks_if (kt_tru (k_isi "str" T.m_isinstance T.m_str (k_var 1))) (kss_one (ks_ret (k_and (k_isi "str" T.m_isinstance T.m_str (k_var 0)) (k_one (k_cmp (op_eqA hr.units) bf_eq (k_var 0) (k_var 1) (nomark _)))))) kss_nil) (kss_cons (ks_if (kt_cmp op_isN bf_isN (k_var 1) k_non (nomark _)) (kss_one (ks_ret (k_cmp op_isN bf_isN (k_var 0) k_non (nomark _)))) kss_nil) (kss_cons (ks_if (kt_pw (kw_or (kt_tru (k_isi "bool" T.m_isinstance T.m_bool (k_var 1))) (kw_or1 (kt_tru (k_isi "bool" T.m_isinstance T.m_bool (k_var 0)))))) (kss_one (ks_ret (k_and (k_isi "bool" T.m_isinstance T.m_bool (k_var 1)) (k_and (k_isi "bool" T.m_isinstance T.m_bool (k_var 0)) (k_one (k_cmp (op_eqA hr.units) bf_eq (k_var 0) (k_var 1) (nomark _))))))) kss_nil) (kss_one (ks_ret (k_and (k_isi "int" T.m_isinstance T.m_int (k_var 0)) (k_one (k_cmp (op_eqA hr.units) bf_eq (k_var 0) (k_var 1) (nomark _))))))))))))
theorem ok_v_law_same (T : Txt K mg w) : FnOk P w K mg base (L2.CX P w) 6 T.f_v_law_same T.fd_v_law_same ["actual", "expected"] (spF K (ca T) 2 M_v_law_same) := okn_v_law_same T 6
theorem ok_v_law_perform (T : Txt K mg w) : FnOk P w K mg base (L2.CX P w) 2 T.f_v_law_perform T.fd_v_law_perform ["draws", "names", "found"] (spF K (ca T) 3 M_v_law_perform) :=
  fn_gc 4 4 (k_def (N := ["draws", "names", "found", "first", "last", "condition", "ways"]) (body := B_v_law_perform) T.F_v_law_perform sc_v_law_perform (fun cdv A outer s H E hr tk po => (kss_cons (ks_set 3 sc_v_law_perform.nd (k_call (ok_v_law_draw T) tk (hr.mono (by decide)) (by rfl) T.g_v_law_draw T.F_v_law_draw.kp T.b_v_law_draw rfl (ka_cons (k_var 0) (ka_cons (k_callB call_len bf_len T.m_len (ka_cons (k_var 1) ka_nil)) ka_nil)) (al_cons (al_cons al_nil)))) (kss_cons (ks_set 4 sc_v_law_perform.nd (k_op op_plus bg_plus (k_var 3) (k_idx (k_gc 4 4 (k_lst (ka_cons k_int (ka_cons (k_call (ok_v_law_draw T) tk (hr.mono (by decide)) (by rfl) T.g_v_law_draw T.F_v_law_draw.kp T.b_v_law_draw rfl (ka_cons (k_var 0) (ka_cons (k_bin op_sub bf_sub (k_callB call_len bf_len T.m_len (ka_cons (k_var 1) ka_nil)) (k_var 3)) ka_nil)) (al_cons (al_cons al_nil))) ka_nil)))) (k_call (ok_v_law_draw T) tk (hr.mono (by decide)) (by rfl) T.g_v_law_draw T.F_v_law_draw.kp T.b_v_law_draw rfl (ka_cons (k_var 0) (ka_cons k_int ka_nil)) (al_cons (al_cons al_nil)))))) (kss_cons (ks_expr (k_bm PySem.F.plainAttrs_list PySem.F.slot_list_append PySem.F.type_list_append mt_append mf_append (k_var 2) (ka_cons (k_tup (ka_cons (k_idx (k_var 1) (k_var 3)) (ka_cons (k_idx (k_var 1) (k_var 4)) ka_nil))) ka_nil))) (kss_cons (ks_set 5 sc_v_law_perform.nd (k_tup (ka_cons k_str (ka_cons k_str (ka_cons (k_tup (ka_cons k_str (ka_cons (k_tup (ka_cons k_str (ka_cons (k_tup ka_nil) ka_nil))) ka_nil))) (ka_cons (k_tup (ka_cons k_str (ka_cons (k_tup (ka_cons k_int (ka_cons k_int ka_nil))) ka_nil))) ka_nil)))))) (kss_cons (ks_set 6 sc_v_law_perform.nd (k_lst (ka_cons (k_tup (ka_cons k_str ka_nil)) (ka_cons (k_tup (ka_cons k_str (ka_cons (k_tup (ka_cons k_str (ka_cons (k_tup (ka_cons k_int (ka_cons k_int ka_nil))) ka_nil))) ka_nil))) (ka_cons (k_tup (ka_cons k_str (ka_cons (k_var 5) ka_nil))) ka_nil))))) (kss_cons (ks_expr (k_bm PySem.F.plainAttrs_list PySem.F.slot_list_append PySem.F.type_list_append mt_append mf_append (k_var 6) (ka_cons (k_tup (ka_cons k_str (ka_cons (k_tup (ka_cons k_str (ka_cons (k_tup ka_nil) ka_nil))) (ka_cons (k_tup (ka_cons k_str (ka_cons (k_tup (ka_cons k_int (ka_cons k_int ka_nil))) ka_nil))) (ka_cons (k_tup (ka_cons k_str (ka_cons (k_tup (ka_cons k_int (ka_cons k_int ka_nil))) ka_nil))) (ka_cons (k_var 5) ka_nil)))))) ka_nil))) (kss_one (ks_ret (k_tup (ka_cons k_str (ka_cons (k_idx (k_var 1) (k_var 3)) (ka_cons (k_idx (k_var 1) (k_var 4)) (ka_cons (k_idx (k_var 6) (k_call (ok_v_law_draw T) tk (hr.mono (by decide)) (by rfl) T.g_v_law_draw T.F_v_law_draw.kp T.b_v_law_draw rfl (ka_cons (k_var 0) (ka_cons k_int ka_nil)) (al_cons (al_cons al_nil)))) ka_nil)))))))))))))))
theorem okn_v_law_block (T : Txt K mg w) : ∀ n : Nat, FnOk P w K mg base (L2.CX P w) (2 + n) T.f_v_law_block T.fd_v_law_block ["draws", "names", "found", "levels", "least"] (spF K (ca T) 5 (M_v_law_block_g n 0)) ∧ FnOk P w K mg base (L2.CX P w) (2 + n) T.f_v_law_statement T.fd_v_law_statement ["draws", "names", "found", "levels"] (spF K (ca T) 4 (M_v_law_block_g n 1))
  | 0 => ⟨fnOk_stuck, fnOk_stuck⟩
  | n + 1 => by
    obtain ⟨ih_0, ih_1⟩ := okn_v_law_block T n
    exact ⟨fn_gc 4 4 (k_def (N := ["draws", "names", "found", "levels", "least", "statements", "k"]) (body := B_v_law_block (M_v_law_block_g n)) T.F_v_law_block sc_v_law_block (fun cdv A outer s H E hr tk po => (kss_cons (ks_set 5 sc_v_law_block.nd (k_lst ka_nil)) (kss_cons (ks_for po rfl (ki_rng1 T.m_range (ka_cons (k_callB (call_max2 rfl) bf_max2 T.m_max (ka_cons (k_var 4) (ka_cons (k_bin op_sub bf_sub (k_call (ok_v_law_draw T) tk (hr.mono (Nat.le_trans (by decide) (Nat.le_add_right 2 n))) (by rfl) T.g_v_law_draw T.F_v_law_draw.kp T.b_v_law_draw rfl (ka_cons (k_var 0) (ka_cons k_int ka_nil)) (al_cons (al_cons al_nil))) k_int) ka_nil))) ka_nil)) (kg_name 6 sc_v_law_block.nd) (kss_one (ks_expr (k_bm PySem.F.plainAttrs_list PySem.F.slot_list_append PySem.F.type_list_append mt_append mf_append (k_var 5) (ka_cons (k_call ih_1 tk hr (by rfl) T.g_v_law_statement T.F_v_law_statement.kp T.b_v_law_statement rfl (ka_cons (k_var 0) (ka_cons (k_var 1) (ka_cons (k_var 2) (ka_cons (k_var 3) ka_nil)))) (al_cons (al_cons (al_cons (al_cons al_nil))))) ka_nil))))) (kss_one (ks_ret (k_callTy call_tuple_of bf_tuple T.m_tuple (ka_cons (k_var 5) ka_nil)))))))),
      fn_gc 4 4 (k_def (N := ["draws", "names", "found", "levels", "kind", "others", "then", "at_end", "inner"]) (body := B_v_law_statement (M_v_law_block_g n)) T.F_v_law_statement sc_v_law_statement (fun cdv A outer s H E hr tk po => (kss_cons (ks_set 4 sc_v_law_statement.nd (k_call (ok_v_law_draw T) tk (hr.mono (Nat.le_trans (by decide) (Nat.le_add_right 2 n))) (by rfl) T.g_v_law_draw T.F_v_law_draw.kp T.b_v_law_draw rfl (ka_cons (k_var 0) (ka_cons k_int ka_nil)) (al_cons (al_cons al_nil)))) (kss_cons (ks_if (kt_cmp op_ltA bf_lt (k_var 4) k_int (nomark _)) (kss_one (ks_ret (k_call (ok_v_law_perform T) tk (hr.mono (Nat.le_trans (by decide) (Nat.le_add_right 2 n))) (by rfl) T.g_v_law_perform T.F_v_law_perform.kp T.b_v_law_perform rfl (ka_cons (k_var 0) (ka_cons (k_var 1) (ka_cons (k_var 2) ka_nil))) (al_cons (al_cons (al_cons al_nil)))))) kss_nil) (kss_cons (ks_if (kt_pw (kw_or (kt_cmp op_ltA bf_lt (k_var 4) k_int (nomark _)) (kw_or1 (kt_cmp (op_eqA hr.units) bf_eq (k_var 3) k_int (nomark _))))) (kss_cons (ks_set 5 sc_v_law_statement.nd (k_gc 4 4 (k_lst (ka_cons (k_tup (ka_cons k_str ka_nil)) (ka_cons (k_tup (ka_cons k_str (ka_cons k_str ka_nil))) (ka_cons (k_tup (ka_cons k_str (ka_cons (k_tup (ka_cons k_str (ka_cons (k_tup ka_nil) ka_nil))) ka_nil))) (ka_cons (k_tup (ka_cons k_str (ka_cons (k_tup (ka_cons (k_tup (ka_cons k_str (ka_cons k_str ka_nil))) ka_nil)) ka_nil))) (ka_cons (k_tup (ka_cons k_str (ka_cons k_str (ka_cons k_str (ka_cons k_bl ka_nil))))) ka_nil)))))))) (kss_one (ks_ret (k_idx (k_gc 4 4 (k_op op_plus bg_plus (k_var 5) (k_gc 4 4 (k_lst (ka_cons (k_tup (ka_cons k_str (ka_cons (k_tup (ka_cons k_str (ka_cons (k_tup (ka_cons k_int (ka_cons k_int ka_nil))) ka_nil))) (ka_cons (k_tup (ka_cons k_str (ka_cons (k_tup ka_nil) ka_nil))) ka_nil)))) ka_nil))))) (k_call (ok_v_law_draw T) tk (hr.mono (Nat.le_trans (by decide) (Nat.le_add_right 2 n))) (by rfl) T.g_v_law_draw T.F_v_law_draw.kp T.b_v_law_draw rfl (ka_cons (k_var 0) (ka_cons k_int ka_nil)) (al_cons (al_cons al_nil))))))) kss_nil) (kss_cons (ks_if (kt_cmp (op_eqA hr.units) bf_eq (k_var 4) k_int (nomark _)) (kss_cons (ks_set 6 sc_v_law_statement.nd (k_call ih_0 tk hr (by rfl) T.g_v_law_block T.F_v_law_block.kp T.b_v_law_block rfl (ka_cons (k_var 0) (ka_cons (k_var 1) (ka_cons (k_var 2) (ka_cons (k_bin op_sub bf_sub (k_var 3) k_int) (ka_cons k_int ka_nil))))) (al_cons (al_cons (al_cons (al_cons (al_cons al_nil))))))) (kss_one (ks_ret (k_tup (ka_cons k_str (ka_cons (k_tup (ka_cons k_str (ka_cons (k_tup (ka_cons k_str (ka_cons (k_tup ka_nil) ka_nil))) ka_nil))) (ka_cons (k_var 6) (ka_cons (k_call ih_0 tk hr (by rfl) T.g_v_law_block T.F_v_law_block.kp T.b_v_law_block rfl (ka_cons (k_var 0) (ka_cons (k_var 1) (ka_cons (k_var 2) (ka_cons (k_bin op_sub bf_sub (k_var 3) k_int) (ka_cons k_int ka_nil))))) (al_cons (al_cons (al_cons (al_cons (al_cons al_nil)))))) ka_nil)))))))) kss_nil) (kss_cons (ks_if (kt_cmp (op_eqA hr.units) bf_eq (k_var 4) k_int (nomark _)) (kss_cons (ks_set 7 sc_v_law_statement.nd (k_call ih_0 tk hr (by rfl) T.g_v_law_block T.F_v_law_block.kp T.b_v_law_block rfl (ka_cons (k_var 0) (ka_cons (k_var 1) (ka_cons (k_var 2) (ka_cons (k_bin op_sub bf_sub (k_var 3) k_int) (ka_cons k_int ka_nil))))) (al_cons (al_cons (al_cons (al_cons (al_cons al_nil))))))) (kss_one (ks_ret (k_tup (ka_cons k_str (ka_cons k_str (ka_cons (k_var 7) (ka_cons (k_call ih_0 tk hr (by rfl) T.g_v_law_block T.F_v_law_block.kp T.b_v_law_block rfl (ka_cons (k_var 0) (ka_cons (k_var 1) (ka_cons (k_var 2) (ka_cons (k_bin op_sub bf_sub (k_var 3) k_int) (ka_cons k_int ka_nil))))) (al_cons (al_cons (al_cons (al_cons (al_cons al_nil)))))) ka_nil)))))))) kss_nil) (kss_cons (ks_set 8 sc_v_law_statement.nd (k_call ih_0 tk hr (by rfl) T.g_v_law_block T.F_v_law_block.kp T.b_v_law_block rfl (ka_cons (k_var 0) (ka_cons (k_var 1) (ka_cons (k_var 2) (ka_cons (k_bin op_sub bf_sub (k_var 3) k_int) (ka_cons k_int ka_nil))))) (al_cons (al_cons (al_cons (al_cons (al_cons al_nil))))))) (kss_cons (ks_if (kt_cmp (op_eqA hr.units) bf_eq (k_var 4) k_int (nomark _)) (kss_one (ks_ret (k_tup (ka_cons k_str (ka_cons (k_tup (ka_cons k_str (ka_cons (k_tup ka_nil) ka_nil))) (ka_cons k_bl (ka_cons (k_tup (ka_cons k_str (ka_cons (k_tup (ka_cons k_int (ka_cons k_int ka_nil))) ka_nil))) (ka_cons (k_var 8) ka_nil)))))))) kss_nil) (kss_one (ks_ret (k_tup (ka_cons k_str (ka_cons (k_tup (ka_cons k_str (ka_cons (k_tup (ka_cons k_int (ka_cons k_int ka_nil))) ka_nil))) (ka_cons (k_tup (ka_cons k_str (ka_cons (k_tup (ka_cons k_int (ka_cons k_int ka_nil))) ka_nil))) (ka_cons (k_tup (ka_cons k_str (ka_cons (k_tup ka_nil) ka_nil))) (ka_cons k_bl (ka_cons (k_idx (k_gc 4 4 (k_lst (ka_cons k_non (ka_cons (k_tup (ka_cons k_str (ka_cons (k_tup ka_nil) ka_nil))) ka_nil)))) (k_call (ok_v_law_draw T) tk (hr.mono (Nat.le_trans (by decide) (Nat.le_add_right 2 n))) (by rfl) T.g_v_law_draw T.F_v_law_draw.kp T.b_v_law_draw rfl (ka_cons (k_var 0) (ka_cons k_int ka_nil)) (al_cons (al_cons al_nil)))) (ka_cons (k_var 8) ka_nil)))))))))))))))))))⟩
theorem ok_v_law_block (T : Txt K mg w) : FnOk P w K mg base (L2.CX P w) 10 T.f_v_law_block T.fd_v_law_block ["draws", "names", "found", "levels", "least"] (spF K (ca T) 5 M_v_law_block) := (okn_v_law_block T 8).1
theorem ok_v_law_statement (T : Txt K mg w) : FnOk P w K mg base (L2.CX P w) 10 T.f_v_law_statement T.fd_v_law_statement ["draws", "names", "found", "levels"] (spF K (ca T) 4 M_v_law_statement) := (okn_v_law_block T 8).2
theorem okn_performed (T : Txt K mg w) : ∀ n : Nat, FnOk P w K mg base (L2.CX P w) (0 + n) T.f_performed T.fd_performed ["statements"] (spF K (ca T) 1 (M_performed_n n))
  | 0 => fnOk_stuck
  | n + 1 => by
    have ih_ := okn_performed T n
    exact fn_gc 0 4 (k_def (N := ["statements", "pairs", "statement"]) (body := B_performed (M_performed_n n)) T.F_performed sc_performed (fun cdv A outer s H E hr tk po => (kss_cons (ks_set 1 sc_performed.nd (k_lst ka_nil)) (kss_cons (ks_for po rfl (ki_val (k_var 0)) (kg_name 2 sc_performed.nd) (kss_one (ks_if (kt_cmp (op_eqA hr.units) bf_eq (k_idx (k_var 2) k_int) k_str (nomark _)) (kss_one (ks_expr (k_bm PySem.F.plainAttrs_list PySem.F.slot_list_append PySem.F.type_list_append mt_append mf_append (k_var 1) (ka_cons (k_tup (ka_cons (k_idx (k_var 2) k_int) (ka_cons (k_idx (k_var 2) k_int) ka_nil))) ka_nil)))) (kss_one (ks_if (kt_cmp op_inA bf_in (k_idx (k_var 2) k_int) (k_tup (ka_cons k_str (ka_cons k_str ka_nil))) (by rfl)) (kss_one (ks_expr (k_gc 4 4 (k_bm PySem.F.plainAttrs_list PySem.F.slot_list_extend PySem.F.type_list_extend mt_extend mf_extend (k_var 1) (ka_cons (k_op op_plus bg_plus (k_call ih_ tk hr (by rfl) T.g_performed T.F_performed.kp T.b_performed rfl (ka_cons (k_idx (k_var 2) k_int) ka_nil) (al_cons al_nil)) (k_call ih_ tk hr (by rfl) T.g_performed T.F_performed.kp T.b_performed rfl (ka_cons (k_idx (k_var 2) k_int) ka_nil) (al_cons al_nil))) ka_nil))))) (kss_one (ks_if (kt_cmp op_inA bf_in (k_idx (k_var 2) k_int) (k_tup (ka_cons k_str (ka_cons k_str ka_nil))) (by rfl)) (kss_one (ks_expr (k_gc 4 4 (k_bm PySem.F.plainAttrs_list PySem.F.slot_list_extend PySem.F.type_list_extend mt_extend mf_extend (k_var 1) (ka_cons (k_call ih_ tk hr (by rfl) T.g_performed T.F_performed.kp T.b_performed rfl (ka_cons (k_idx (k_var 2) (k_un un_neg uf_neg k_int)) ka_nil) (al_cons al_nil)) ka_nil))))) kss_nil))))))) (kss_one (ks_ret (k_var 1)))))))
theorem ok_performed (T : Txt K mg w) : FnOk P w K mg base (L2.CX P w) 6 T.f_performed T.fd_performed ["statements"] (spF K (ca T) 1 M_performed) := okn_performed T 6
theorem ok_graph_of (T : Txt K mg w) : FnOk P w K mg base (L2.CX P w) 7 T.f_graph_of T.fd_graph_of ["paragraphs"] (spF K (ca T) 1 M_graph_of) :=
  fn_gc 4 4 (k_def (N := ["paragraphs", "places", "rows", "_", "statements", "found", "start", "last", "index", "name"]) (body := B_graph_of) T.F_graph_of sc_graph_of (fun cdv A outer s H E hr tk po => (kss_cons (ks_setDcG 1 ([("index", 8), ("name", 9), ("_", 3)] : List (Str × Nat)) rfl sc_graph_of.nd (ki_enum T.m_enumerate (ka_cons (k_var 0) ka_nil)) (by rfl) (sw_trueD rfl rfl rfl (by rfl)) (fun _ _ _ _ _ => kts_nil) (fun _ _ _ _ _ => (k_var 9)) (fun _ _ _ _ _ => (k_var 8)) (fun _ _ _ _ _ => (pg_tup rfl (pgs_cons (pg_name (i := 8) sc_graph_of.nd rfl (Or.inl rfl)) (pgs_cons (pg_tup rfl (pgs_cons (pg_name (i := 9) sc_graph_of.nd rfl (Or.inl rfl)) (pgs_cons (pg_name (i := 3) sc_graph_of.nd rfl (Or.inl rfl)) pgs_nil))) pgs_nil)))) (own_tup (own_cons (own_name 8) (own_cons (own_tup (own_cons (own_name 9) (own_cons (own_name 3) own_nil (by decide)) (by decide)) (gl_cons (gl_cons gl_nil))) own_nil (by decide)) (by decide)) (gl_cons (gl_cons gl_nil)))) (kss_cons (ks_set 2 sc_graph_of.nd (k_lst ka_nil)) (kss_cons (ks_for po rfl (ki_val (k_var 0)) (kg_tup rfl (kgs_cons (kg_name 3 sc_graph_of.nd) (kgs_cons (kg_name 4 sc_graph_of.nd) kgs_nil)) (gl_cons (gl_cons gl_nil))) (kss_cons (ks_set 5 sc_graph_of.nd k_dnew) (kss_cons (ks_for po rfl (ki_val (k_call (ok_performed T) tk (hr.mono (by decide)) (by rfl) T.g_performed T.F_performed.kp T.b_performed rfl (ka_cons (k_var 4) ka_nil) (al_cons al_nil))) (kg_tup rfl (kgs_cons (kg_name 6 sc_graph_of.nd) (kgs_cons (kg_name 7 sc_graph_of.nd) kgs_nil)) (gl_cons (gl_cons gl_nil))) (kss_one (ks_for po rfl (ki_rng2 T.m_range (ka_cons (k_didx (room1 hr) (k_var 1) (k_var 6) (fun _ _ => rfl)) (ka_cons (k_op op_plus bg_plus (k_didx (room1 hr) (k_var 1) (k_var 7) (fun _ _ => rfl)) k_int) ka_nil))) (kg_name 8 sc_graph_of.nd) (kss_one (ks_setDx k_bl (k_var 5) (k_var 8) (pg := pg_sub (k_var 5) (k_var 8) (set_dict (room1 hr)))))))) (kss_one (ks_expr (k_bm PySem.F.plainAttrs_list PySem.F.slot_list_append PySem.F.type_list_append mt_append mf_append (k_var 2) (ka_cons (k_callTy call_tuple_of bf_tuple T.m_tuple (ka_cons (k_gc 4 4 (k_callB (CallR.or cr_sortedI (call_sortedDA (by rfl))) (BFnF.or bf_sortI bf_sortD) T.m_sorted (ka_cons (k_var 5) ka_nil))) ka_nil)) ka_nil))))))) (kss_one (ks_ret (k_callTy call_tuple_of bf_tuple T.m_tuple (ka_cons (k_var 2) ka_nil)))))))))
theorem ok_law (T : Txt K mg w) : FnOk P w K mg base (L2.CX P w) 11 T.f_law T.fd_law ["script"] (spF K (ca T) 1 M_law) :=
  k_def (N := ["script", "draws", "count", "names", "paragraphs", "due", "k", "found", "statements", "pairs", "places", "j", "first", "last"]) (body := B_law) T.F_law sc_law (fun cdv A outer s H E hr tk po => (kss_cons (ks_set 1 sc_law.nd (k_call (ok_v_law_draws T) tk (hr.mono (by decide)) (by rfl) T.g_v_law_draws T.F_v_law_draws.kp T.b_v_law_draws rfl (ka_cons (k_var 0) ka_nil) (al_cons al_nil))) (kss_cons (ks_set 2 sc_law.nd (k_op op_plus bg_plus k_int (k_call (ok_v_law_draw T) tk (hr.mono (by decide)) (by rfl) T.g_v_law_draw T.F_v_law_draw.kp T.b_v_law_draw rfl (ka_cons (k_var 1) (ka_cons (k_idx (k_kl (k_lst (ka_cons k_int (ka_cons k_int ka_nil))) (l := Mir.K_law_1) (fun _ _ => by rfl) (by decide) (by decide)) (k_callTy (CallR.or call_int1 call_int_str) (BFnF.or bf_int bf_intS) T.m_int (ka_cons (k_cmp (op_eqA hr.units) bf_eq (k_call (ok_v_law_draw T) tk (hr.mono (by decide)) (by rfl) T.g_v_law_draw T.F_v_law_draw.kp T.b_v_law_draw rfl (ka_cons (k_var 1) (ka_cons k_int ka_nil)) (al_cons (al_cons al_nil))) k_int (nomark _)) ka_nil))) ka_nil)) (al_cons (al_cons al_nil))))) (kss_cons (ks_set 3 sc_law.nd (k_call (ok_v_law_names T) tk (hr.mono (by decide)) (by rfl) T.g_v_law_names T.F_v_law_names.kp T.b_v_law_names rfl (ka_cons (k_var 1) (ka_cons (k_var 2) ka_nil)) (al_cons (al_cons al_nil)))) (kss_cons (ks_set 4 sc_law.nd (k_lst ka_nil)) (kss_cons (ks_set 5 sc_law.nd (k_lst ka_nil)) (kss_cons (ks_for po rfl (ki_rng1 T.m_range (ka_cons (k_var 2) ka_nil)) (kg_name 6 sc_law.nd) (kss_cons (ks_set 7 sc_law.nd (k_lst ka_nil)) (kss_cons (ks_set 8 sc_law.nd (k_callTy call_tuple_of bf_tuple T.m_tuple (ka_cons (k_gc 4 4 (k_lc1 11 rfl sc_law.nd (ki_rng1 T.m_range (ka_cons (k_call (ok_v_law_draw T) tk (hr.mono (by decide)) (by rfl) T.g_v_law_draw T.F_v_law_draw.kp T.b_v_law_draw rfl (ka_cons (k_var 1) (ka_cons k_int ka_nil)) (al_cons (al_cons al_nil))) ka_nil)) (by rfl) (fun _ _ _ _ _ => kts_nil) (fun _ _ _ _ _ => (k_call (ok_v_law_statement T) takes0 (hr.mono (by decide)) (by rfl) T.g_v_law_statement T.F_v_law_statement.kp T.b_v_law_statement rfl (ka_cons (k_var 1) (ka_cons (k_var 3) (ka_cons (k_var 7) (ka_cons k_int ka_nil)))) (al_cons (al_cons (al_cons (al_cons al_nil)))))) (fun _ _ _ _ _ => pg_name (i := 11) sc_law.nd rfl (Or.inl rfl)))) ka_nil))) (kss_cons (ks_expr (k_bm PySem.F.plainAttrs_list PySem.F.slot_list_append PySem.F.type_list_append mt_append mf_append (k_var 4) (ka_cons (k_tup (ka_cons (k_idx (k_var 3) (k_var 6)) (ka_cons (k_var 8) ka_nil))) ka_nil))) (kss_cons (ks_set 9 sc_law.nd (k_call (ok_performed T) tk (hr.mono (by decide)) (by rfl) T.g_performed T.F_performed.kp T.b_performed rfl (ka_cons (k_var 8) ka_nil) (al_cons al_nil))) (kss_cons (ks_if (kt_pw (kw_or (kt_not (kt_tru (k_isi "list" T.m_isinstance T.m_list (k_var 9)))) (kw_or1 (kt_not (kt_tru (k_call (ok_v_law_same T) tk (hr.mono (by decide)) (by rfl) T.g_v_law_same T.F_v_law_same.kp T.b_v_law_same rfl (ka_cons (k_callTy call_tuple_of bf_tuple T.m_tuple (ka_cons (k_var 9) ka_nil)) (ka_cons (k_callTy call_tuple_of bf_tuple T.m_tuple (ka_cons (k_var 7) ka_nil)) ka_nil)) (al_cons (al_cons al_nil)))))))) (kss_one (ks_ret k_bl)) kss_nil) (kss_cons (ks_set 10 sc_law.nd (k_lst ka_nil)) (kss_cons (ks_for po rfl (ki_rng1 T.m_range (ka_cons (k_var 2) ka_nil)) (kg_name 11 sc_law.nd) (kss_one (ks_if (kt_cmp op_gtA bf_gt (k_callB call_len bf_len T.m_len (ka_cons (k_gc 4 4 (k_lc2n 12 13 (by decide) rfl sc_law.nd (ki_val (k_var 7)) (by rfl) (fun _ _ _ _ _ => (kts_one (kt_pw (kw_and (kt_cmp op_leA bf_le (k_bm PySem.F.plainAttrs_list PySem.F.slot_list_index PySem.F.type_list_index mt_index mf_index (k_var 3) (ka_cons (k_var 12) ka_nil)) (k_var 11) (nomark _)) (kw_and1 (kt_cmp op_leA bf_le (k_var 11) (k_bm PySem.F.plainAttrs_list PySem.F.slot_list_index PySem.F.type_list_index mt_index mf_index (k_var 3) (ka_cons (k_var 13) ka_nil)) (nomark _))))))) (fun _ _ _ _ _ => k_int) (fun _ _ _ _ _ => pg_tup rfl (pgs_cons (pg_name (i := 12) sc_law.nd rfl (Or.inl rfl)) (pgs_cons (pg_name (i := 13) sc_law.nd rfl (Or.inl rfl)) pgs_nil))))) ka_nil)) k_int (nomark _)) (kss_one (ks_expr (k_bm PySem.F.plainAttrs_list PySem.F.slot_list_append PySem.F.type_list_append mt_append mf_append (k_var 10) (ka_cons (k_var 11) ka_nil)))) kss_nil))) (kss_one (ks_expr (k_bm PySem.F.plainAttrs_list PySem.F.slot_list_append PySem.F.type_list_append mt_append mf_append (k_var 5) (ka_cons (k_callTy call_tuple_of bf_tuple T.m_tuple (ka_cons (k_var 10) ka_nil)) ka_nil)))))))))))) (kss_one (ks_ret (k_call (ok_v_law_same T) tk (hr.mono (by decide)) (by rfl) T.g_v_law_same T.F_v_law_same.kp T.b_v_law_same rfl (ka_cons (k_call (ok_graph_of T) tk (hr.mono (by decide)) (by rfl) T.g_graph_of T.F_graph_of.kp T.b_graph_of rfl (ka_cons (k_callTy call_tuple_of bf_tuple T.m_tuple (ka_cons (k_var 4) ka_nil)) ka_nil) (al_cons al_nil)) (ka_cons (k_callTy call_tuple_of bf_tuple T.m_tuple (ka_cons (k_var 5) ka_nil)) ka_nil)) (al_cons (al_cons al_nil))))))))))))
end
theorem all_mk {l : PySem.W.OpenLaw} {w : World} {K : PySem.W.Frag} {h : Heap} {mg : Str → Option Value} {fa : Addr} (X : K.In h) (G : h.Ns mainGlobals mg) (hfa : mg "law" = some (.ref fa))
    {f0 : Addr} {od0 an0 : Option Addr} {sl0 : Array (Option Value)} {oc0 kV0 dc0 pm0 cd0 ct0 : Value}
    (a0 : PySem.W.nsIn K mainGlobals "_law_draw" = some (some (.ref f0))) (l0 : K.lookup f0 = some ⟨oc0, od0, .func (PySem.W.fnOf "_law_draw" "_law_draw" (defArgs s_v_law_draw) (defBody s_v_law_draw) (defScope s_v_law_draw) .none kV0 dc0 pm0 an0 cd0 ct0), sl0⟩) (c0 : PySem.W.codeIn K cd0 "_law_draw" = true) (k0 : PySem.W.keepIn K (.ref f0) = true)
    {f1 : Addr} {od1 an1 : Option Addr} {sl1 : Array (Option Value)} {oc1 kV1 dc1 pm1 cd1 ct1 : Value}
    (a1 : PySem.W.nsIn K mainGlobals "_law_draws" = some (some (.ref f1))) (l1 : K.lookup f1 = some ⟨oc1, od1, .func (PySem.W.fnOf "_law_draws" "_law_draws" (defArgs s_v_law_draws) (defBody s_v_law_draws) (defScope s_v_law_draws) .none kV1 dc1 pm1 an1 cd1 ct1), sl1⟩) (c1 : PySem.W.codeIn K cd1 "_law_draws" = true) (k1 : PySem.W.keepIn K (.ref f1) = true)
    {f2 : Addr} {od2 an2 : Option Addr} {sl2 : Array (Option Value)} {oc2 kV2 dc2 pm2 cd2 ct2 : Value}
    (a2 : PySem.W.nsIn K mainGlobals "_law_reserved" = some (some (.ref f2))) (l2 : K.lookup f2 = some ⟨oc2, od2, .func (PySem.W.fnOf "_law_reserved" "_law_reserved" (defArgs s_v_law_reserved) (defBody s_v_law_reserved) (defScope s_v_law_reserved) .none kV2 dc2 pm2 an2 cd2 ct2), sl2⟩) (c2 : PySem.W.codeIn K cd2 "_law_reserved" = true) (k2 : PySem.W.keepIn K (.ref f2) = true)
    {f3 : Addr} {od3 an3 : Option Addr} {sl3 : Array (Option Value)} {oc3 kV3 dc3 pm3 cd3 ct3 : Value}
    (a3 : PySem.W.nsIn K mainGlobals "_law_name" = some (some (.ref f3))) (l3 : K.lookup f3 = some ⟨oc3, od3, .func (PySem.W.fnOf "_law_name" "_law_name" (defArgs s_v_law_name) (defBody s_v_law_name) (defScope s_v_law_name) .none kV3 dc3 pm3 an3 cd3 ct3), sl3⟩) (c3 : PySem.W.codeIn K cd3 "_law_name" = true) (k3 : PySem.W.keepIn K (.ref f3) = true)
    {f4 : Addr} {od4 an4 : Option Addr} {sl4 : Array (Option Value)} {oc4 kV4 dc4 pm4 cd4 ct4 : Value}
    (a4 : PySem.W.nsIn K mainGlobals "_law_names" = some (some (.ref f4))) (l4 : K.lookup f4 = some ⟨oc4, od4, .func (PySem.W.fnOf "_law_names" "_law_names" (defArgs s_v_law_names) (defBody s_v_law_names) (defScope s_v_law_names) .none kV4 dc4 pm4 an4 cd4 ct4), sl4⟩) (c4 : PySem.W.codeIn K cd4 "_law_names" = true) (k4 : PySem.W.keepIn K (.ref f4) = true)
    {f5 : Addr} {od5 an5 : Option Addr} {sl5 : Array (Option Value)} {oc5 kV5 dc5 pm5 cd5 ct5 : Value}
    (a5 : PySem.W.nsIn K mainGlobals "_law_same" = some (some (.ref f5))) (l5 : K.lookup f5 = some ⟨oc5, od5, .func (PySem.W.fnOf "_law_same" "_law_same" (defArgs s_v_law_same) (defBody s_v_law_same) (defScope s_v_law_same) .none kV5 dc5 pm5 an5 cd5 ct5), sl5⟩) (c5 : PySem.W.codeIn K cd5 "_law_same" = true) (k5 : PySem.W.keepIn K (.ref f5) = true)
    {f6 : Addr} {od6 an6 : Option Addr} {sl6 : Array (Option Value)} {oc6 kV6 dc6 pm6 cd6 ct6 : Value}
    (a6 : PySem.W.nsIn K mainGlobals "_law_perform" = some (some (.ref f6))) (l6 : K.lookup f6 = some ⟨oc6, od6, .func (PySem.W.fnOf "_law_perform" "_law_perform" (defArgs s_v_law_perform) (defBody s_v_law_perform) (defScope s_v_law_perform) .none kV6 dc6 pm6 an6 cd6 ct6), sl6⟩) (c6 : PySem.W.codeIn K cd6 "_law_perform" = true) (k6 : PySem.W.keepIn K (.ref f6) = true)
    {f7 : Addr} {od7 an7 : Option Addr} {sl7 : Array (Option Value)} {oc7 kV7 dc7 pm7 cd7 ct7 : Value}
    (a7 : PySem.W.nsIn K mainGlobals "_law_block" = some (some (.ref f7))) (l7 : K.lookup f7 = some ⟨oc7, od7, .func (PySem.W.fnOf "_law_block" "_law_block" (defArgs s_v_law_block) (defBody s_v_law_block) (defScope s_v_law_block) .none kV7 dc7 pm7 an7 cd7 ct7), sl7⟩) (c7 : PySem.W.codeIn K cd7 "_law_block" = true) (k7 : PySem.W.keepIn K (.ref f7) = true)
    {f8 : Addr} {od8 an8 : Option Addr} {sl8 : Array (Option Value)} {oc8 kV8 dc8 pm8 cd8 ct8 : Value}
    (a8 : PySem.W.nsIn K mainGlobals "_law_statement" = some (some (.ref f8))) (l8 : K.lookup f8 = some ⟨oc8, od8, .func (PySem.W.fnOf "_law_statement" "_law_statement" (defArgs s_v_law_statement) (defBody s_v_law_statement) (defScope s_v_law_statement) .none kV8 dc8 pm8 an8 cd8 ct8), sl8⟩) (c8 : PySem.W.codeIn K cd8 "_law_statement" = true) (k8 : PySem.W.keepIn K (.ref f8) = true)
    {f9 : Addr} {od9 an9 : Option Addr} {sl9 : Array (Option Value)} {oc9 kV9 dc9 pm9 cd9 ct9 : Value}
    (a9 : PySem.W.nsIn K mainGlobals "performed" = some (some (.ref f9))) (l9 : K.lookup f9 = some ⟨oc9, od9, .func (PySem.W.fnOf "performed" "performed" (defArgs s_performed) (defBody s_performed) (defScope s_performed) .none kV9 dc9 pm9 an9 cd9 ct9), sl9⟩) (c9 : PySem.W.codeIn K cd9 "performed" = true) (k9 : PySem.W.keepIn K (.ref f9) = true)
    {f10 : Addr} {od10 an10 : Option Addr} {sl10 : Array (Option Value)} {oc10 kV10 dc10 pm10 cd10 ct10 : Value}
    (a10 : PySem.W.nsIn K mainGlobals "graph_of" = some (some (.ref f10))) (l10 : K.lookup f10 = some ⟨oc10, od10, .func (PySem.W.fnOf "graph_of" "graph_of" (defArgs s_graph_of) (defBody s_graph_of) (defScope s_graph_of) .none kV10 dc10 pm10 an10 cd10 ct10), sl10⟩) (c10 : PySem.W.codeIn K cd10 "graph_of" = true) (k10 : PySem.W.keepIn K (.ref f10) = true)
    {f11 : Addr} {od11 an11 : Option Addr} {sl11 : Array (Option Value)} {oc11 kV11 dc11 pm11 cd11 ct11 : Value}
    (a11 : PySem.W.nsIn K mainGlobals "law" = some (some (.ref f11))) (l11 : K.lookup f11 = some ⟨oc11, od11, .func (PySem.W.fnOf "law" "law" (defArgs s_law) (defBody s_law) (defScope s_law) .none kV11 dc11 pm11 an11 cd11 ct11), sl11⟩) (c11 : PySem.W.codeIn K cd11 "law" = true) (k11 : PySem.W.keepIn K (.ref f11) = true)
    (z0 : PySem.W.nsIn K mainGlobals "bool" = some none)
    (z1 : PySem.W.nsIn K mainGlobals "enumerate" = some none)
    (z2 : PySem.W.nsIn K mainGlobals "int" = some none)
    (z3 : PySem.W.nsIn K mainGlobals "isinstance" = some none)
    (z4 : PySem.W.nsIn K mainGlobals "len" = some none)
    (z5 : PySem.W.nsIn K mainGlobals "list" = some none)
    (z6 : PySem.W.nsIn K mainGlobals "max" = some none)
    (z7 : PySem.W.nsIn K mainGlobals "range" = some none)
    (z8 : PySem.W.nsIn K mainGlobals "sorted" = some none)
    (z9 : PySem.W.nsIn K mainGlobals "str" = some none)
    (z10 : PySem.W.nsIn K mainGlobals "tuple" = some none)
    : ∃ fd : FuncData, (∀ (s : Shared) (v : Value), BindsTo s fd ⟨[v], []⟩ [("script", v)]) ∧ ∀ base : Heap, K.In base → base.Ns mainGlobals mg → FnOk l.prog w K mg base (L2.CX l.prog w) 11 fa fd ["script"] (spO K 1 M_law) := by
  have e := hfa.symm.trans (PySem.W.mg_of X G a11)
  cases e
  have F0 := fun_mk (st := s_v_law_draw) l0 c0 k0
  have F1 := fun_mk (st := s_v_law_draws) l1 c1 k1
  have F2 := fun_mk (st := s_v_law_reserved) l2 c2 k2
  have F3 := fun_mk (st := s_v_law_name) l3 c3 k3
  have F4 := fun_mk (st := s_v_law_names) l4 c4 k4
  have F5 := fun_mk (st := s_v_law_same) l5 c5 k5
  have F6 := fun_mk (st := s_v_law_perform) l6 c6 k6
  have F7 := fun_mk (st := s_v_law_block) l7 c7 k7
  have F8 := fun_mk (st := s_v_law_statement) l8 c8 k8
  have F9 := fun_mk (st := s_performed) l9 c9 k9
  have F10 := fun_mk (st := s_graph_of) l10 c10 k10
  have F11 := fun_mk (st := s_law) l11 c11 k11
  let T : Txt K mg w := {
    f_v_law_draw := f0,
    fd_v_law_draw := _,
    F_v_law_draw := F0,
    g_v_law_draw := PySem.W.mg_of X G a0,
    b_v_law_draw := (F0.binds (ps := ["draws", "limit"]) (fun _ _ _ _ _ _ us hl => match us, hl with | [_, _], _ => rfl)),
    f_v_law_draws := f1,
    fd_v_law_draws := _,
    F_v_law_draws := F1,
    g_v_law_draws := PySem.W.mg_of X G a1,
    b_v_law_draws := (F1.binds (ps := ["script"]) (fun _ _ _ _ _ _ us hl => match us, hl with | [_], _ => rfl)),
    f_v_law_reserved := f2,
    fd_v_law_reserved := _,
    F_v_law_reserved := F2,
    g_v_law_reserved := PySem.W.mg_of X G a2,
    b_v_law_reserved := (F2.binds (ps := []) (fun _ _ _ _ _ _ us hl => match us, hl with | [], _ => rfl)),
    f_v_law_name := f3,
    fd_v_law_name := _,
    F_v_law_name := F3,
    g_v_law_name := PySem.W.mg_of X G a3,
    b_v_law_name := (F3.binds (ps := ["draws"]) (fun _ _ _ _ _ _ us hl => match us, hl with | [_], _ => rfl)),
    f_v_law_names := f4,
    fd_v_law_names := _,
    F_v_law_names := F4,
    g_v_law_names := PySem.W.mg_of X G a4,
    b_v_law_names := (F4.binds (ps := ["draws", "count"]) (fun _ _ _ _ _ _ us hl => match us, hl with | [_, _], _ => rfl)),
    f_v_law_same := f5,
    fd_v_law_same := _,
    F_v_law_same := F5,
    g_v_law_same := PySem.W.mg_of X G a5,
    b_v_law_same := (F5.binds (ps := ["actual", "expected"]) (fun _ _ _ _ _ _ us hl => match us, hl with | [_, _], _ => rfl)),
    f_v_law_perform := f6,
    fd_v_law_perform := _,
    F_v_law_perform := F6,
    g_v_law_perform := PySem.W.mg_of X G a6,
    b_v_law_perform := (F6.binds (ps := ["draws", "names", "found"]) (fun _ _ _ _ _ _ us hl => match us, hl with | [_, _, _], _ => rfl)),
    f_v_law_block := f7,
    fd_v_law_block := _,
    F_v_law_block := F7,
    g_v_law_block := PySem.W.mg_of X G a7,
    b_v_law_block := (F7.binds (ps := ["draws", "names", "found", "levels", "least"]) (fun _ _ _ _ _ _ us hl => match us, hl with | [_, _, _, _, _], _ => rfl)),
    f_v_law_statement := f8,
    fd_v_law_statement := _,
    F_v_law_statement := F8,
    g_v_law_statement := PySem.W.mg_of X G a8,
    b_v_law_statement := (F8.binds (ps := ["draws", "names", "found", "levels"]) (fun _ _ _ _ _ _ us hl => match us, hl with | [_, _, _, _], _ => rfl)),
    f_performed := f9,
    fd_performed := _,
    F_performed := F9,
    g_performed := PySem.W.mg_of X G a9,
    b_performed := (F9.binds (ps := ["statements"]) (fun _ _ _ _ _ _ us hl => match us, hl with | [_], _ => rfl)),
    f_graph_of := f10,
    fd_graph_of := _,
    F_graph_of := F10,
    g_graph_of := PySem.W.mg_of X G a10,
    b_graph_of := (F10.binds (ps := ["paragraphs"]) (fun _ _ _ _ _ _ us hl => match us, hl with | [_], _ => rfl)),
    f_law := fa,
    fd_law := _,
    F_law := F11,
    g_law := PySem.W.mg_of X G a11,
    b_law := (F11.binds (ps := ["script"]) (fun _ _ _ _ _ _ us hl => match us, hl with | [_], _ => rfl)),
    m_bool := PySem.W.mg_none_of X G z0,
    m_enumerate := PySem.W.mg_none_of X G z1,
    m_int := PySem.W.mg_none_of X G z2,
    m_isinstance := PySem.W.mg_none_of X G z3,
    m_len := PySem.W.mg_none_of X G z4,
    m_list := PySem.W.mg_none_of X G z5,
    m_max := PySem.W.mg_none_of X G z6,
    m_range := PySem.W.mg_none_of X G z7,
    m_sorted := PySem.W.mg_none_of X G z8,
    m_str := PySem.W.mg_none_of X G z9,
    m_tuple := PySem.W.mg_none_of X G z10 }
  exact ⟨PySem.W.fnOf "law" "law" (defArgs s_law) (defBody s_law) (defScope s_law) .none kV11 dc11 pm11 an11 cd11 ct11, fun s v => .of_eq rfl, fun base _ _ => (ok_law T).imp spO_of⟩
theorem walk {l : PySem.W.OpenLaw} {q : Program} {loose : List Str} {XP : (Str → Option Value) → Heap → Prop} {YP : World → Heap → Prop} {d : DefRec} {K : Params → PySem.W.Frag} (hn : l.most = some 63) (hdf : d.params.defaults = [])
    (hY : ∀ (w : World) (h : Heap), YP w h → (K w.params).In h)
    (F : ∀ (w : World) (mg : Str → Option Value) (fa : Addr) (h : Heap), (K w.params).In h → h.Ns mainGlobals mg → mg d.name = some (.ref fa) →
      ∃ fd : FuncData, (∀ (s : Shared) (u : Value), BindsTo s fd ⟨[u], []⟩ [("script", u)]) ∧ ∀ base : Heap, (K w.params).In base → base.Ns mainGlobals mg → FnOk l.prog w (K w.params) mg base (L2.CX l.prog w) 11 fa fd ["script"] (spO (K w.params) 1 M_law))
    (hlaw : ∀ ns : List Int, ns.length ≤ 63 → ∃ h, M_law [.fl (ns.map .int)] [] = .ok (.bl true) h) :
    PySem.W.WalkO q loose XP YP l.row.toRowW d [] (fun f vs => PySem.call f vs) := by
  refine L2.walk_of (n := 63) (k := 11) (x := "script") (CX := fun w => L2.CX l.prog w) (sp := fun w => spO (K w.params) 1 M_law) hn (by decide) hdf ⟨rfl, by decide, by decide⟩ hY F (fun w H a ns hl hO hS => ?_) (fun w H s e s' h => ?_)
  · obtain ⟨h, e⟩ := hlaw ns hl
    exact law_spO hO hS e
  · exact cx_no h
end Ok

set_option Elab.async false
open PySem PySem.W PyProof.Rows in
set_option maxRecDepth 100000 in
set_option maxHeartbeats 0 in
theorem PySem.Challenge.cw_cardhouse_k40_performed_paragraphs_holds : PySem.Challenge.rw_cardhouse_k40_performed_paragraphs.Holds := by
  w_on; o_law; k_head; (case hw => w_witness2)
  k_fill
  refine Ok.walk (l := PySem.Challenge.rw_cardhouse_k40_performed_paragraphs) rfl rfl (fun w h Y => PySem.W.kIn_of Y) ?F Law.law_true
  case F =>
    intro w mg fa h KX G hmg
    refine' Ok.all_mk KX G hmg ?a0 ?l0 ?c0 ?k0 ?a1 ?l1 ?c1 ?k1 ?a2 ?l2 ?c2 ?k2 ?a3 ?l3 ?c3 ?k3 ?a4 ?l4 ?c4 ?k4 ?a5 ?l5 ?c5 ?k5 ?a6 ?l6 ?c6 ?k6 ?a7 ?l7 ?c7 ?k7 ?a8 ?l8 ?c8 ?k8 ?a9 ?l9 ?c9 ?k9 ?a10 ?l10 ?c10 ?k10 ?a11 ?l11 ?c11 ?k11 ?z0 ?z1 ?z2 ?z3 ?z4 ?z5 ?z6 ?z7 ?z8 ?z9 ?z10
    (case a0 => k_is)
    (case l0 => k_is)
    (case c0 => k_is)
    (case k0 => k_is)
    (case a1 => k_is)
    (case l1 => k_is)
    (case c1 => k_is)
    (case k1 => k_is)
    (case a2 => k_is)
    (case l2 => k_is)
    (case c2 => k_is)
    (case k2 => k_is)
    (case a3 => k_is)
    (case l3 => k_is)
    (case c3 => k_is)
    (case k3 => k_is)
    (case a4 => k_is)
    (case l4 => k_is)
    (case c4 => k_is)
    (case k4 => k_is)
    (case a5 => k_is)
    (case l5 => k_is)
    (case c5 => k_is)
    (case k5 => k_is)
    (case a6 => k_is)
    (case l6 => k_is)
    (case c6 => k_is)
    (case k6 => k_is)
    (case a7 => k_is)
    (case l7 => k_is)
    (case c7 => k_is)
    (case k7 => k_is)
    (case a8 => k_is)
    (case l8 => k_is)
    (case c8 => k_is)
    (case k8 => k_is)
    (case a9 => k_is)
    (case l9 => k_is)
    (case c9 => k_is)
    (case k9 => k_is)
    (case a10 => k_is)
    (case l10 => k_is)
    (case c10 => k_is)
    (case k10 => k_is)
    (case a11 => k_is)
    (case l11 => k_is)
    (case c11 => k_is)
    (case k11 => k_is)
    (case z0 => k_is)
    (case z1 => k_is)
    (case z2 => k_is)
    (case z3 => k_is)
    (case z4 => k_is)
    (case z5 => k_is)
    (case z6 => k_is)
    (case z7 => k_is)
    (case z8 => k_is)
    (case z9 => k_is)
    (case z10 => k_is)
#print axioms PySem.Challenge.cw_cardhouse_k40_performed_paragraphs_holds

