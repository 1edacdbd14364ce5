import PyProof.Rows.All
import PySem.Syntax
import PyProof.CompFree
import PyProof.WalksMore
import PyProof.Rows.Top
import PyProof.Rows.ListMulArg
import PyProof.AutoIntOps
import PyProof.P3In
import PyProof.IsiNone
import PyProof.IsInstanceH
import PyProof.Rows.StrItems
import PyProof.CallStr
import PyProof.StrLawsTight
import KE.KIntText
import PyProof.Draws
import PyProof.EnumMake
import PyProof.ZipIter
import PyProof.Rows.ZipForRows
import PyProof.ForAny
import PyProof.StationsW
import PyProof.ExcClass3
import PyProof.ExcArgsOwn
import PyProof.IsiH_tuple
import PyProof.IsInstance
import PyProof.ExcBaseAll.ValueError
import PyProof.ExcAttrAll.ValueError
import PyProof.RulesAs
import Wide.All
import OpenK.AllK
import Wide.FinOn
import PySem.Challenge.RW_uf060010_07
set_option Elab.async false
set_option maxRecDepth 100000
set_option autoImplicit false
set_option linter.all false
/-! ## MCore -/
namespace Mine

/-- plain data of the programs -/
inductive Dat where
  | none
  | bool (b : Bool)
  | int (i : Int)
  | str (s : List Nat)
  | tup (l : List Dat)
  | lst (l : List Dat)

/-- what a name holds: data, a list that may still grow, an exception -/
inductive Val where
  | dat (d : Dat)
  | ref (k : Nat)
  | exc (c : Nat)

/-- the lists that may grow: (may it still?, its items) -/
abbrev Sto := List (Bool × List Dat)

inductive Out (α : Type) where
  | val (a : α) (σ : Sto)
  | exn (c : Nat) (σ : Sto)
  | bad

noncomputable def Out.bind {α β : Type} (o : Out α) (f : α → Sto → Out β) : Out β :=
  match o with
  | .val a σ => f a σ
  | .exn _ _ => .bad
  | .bad => .bad
/-- the same, where an exception may pass -/
noncomputable def Out.bindX {α β : Type} (o : Out α) (f : α → Sto → Out β) : Out β :=
  match o with
  | .val a σ => f a σ
  | .exn c σ => .exn c σ
  | .bad => .bad
noncomputable def Out.noX {α : Type} (o : Out α) : Out α := match o with
  | .exn .. => .bad
  | o => o
@[simp] theorem Out.noX_val {α : Type} (a : α) (σ : Sto) : (Out.val a σ).noX = .val a σ := rfl
@[simp] theorem Out.bindX_val {α β : Type} (a : α) (σ : Sto) (f : α → Sto → Out β) : (Out.val a σ).bindX f = f a σ := rfl
@[simp] theorem Out.bindX_exn {α β : Type} (c : Nat) (σ : Sto) (f : α → Sto → Out β) : (Out.exn c σ).bindX f = .exn c σ := rfl
@[simp] theorem Out.bindX_bad {α β : Type} (f : α → Sto → Out β) : (Out.bad : Out α).bindX f = .bad := rfl
@[simp] theorem Out.bind_val {α β : Type} (a : α) (σ : Sto) (f : α → Sto → Out β) : (Out.val a σ).bind f = f a σ := rfl
@[simp] theorem Out.bind_exn {α β : Type} (c : Nat) (σ : Sto) (f : α → Sto → Out β) : (Out.exn c σ).bind f = .bad := rfl
@[simp] theorem Out.bind_bad {α β : Type} (f : α → Sto → Out β) : (Out.bad : Out α).bind f = .bad := rfl

noncomputable def ofOpt {α : Type} (o : Option α) (σ : Sto) : Out α := match o with | some a => .val a σ | Option.none => .bad
@[simp] theorem ofOpt_some {α : Type} (a : α) (σ : Sto) : ofOpt (some a) σ = .val a σ := rfl
@[simp] theorem ofOpt_none {α : Type} (σ : Sto) : (ofOpt (Option.none : Option α) σ) = .bad := rfl


inductive Ty where | bool | int | str | tuple | list | own (c : Nat)
  deriving DecidableEq
inductive BOp where | add | sub | mul | fdiv | mod | pow
  deriving DecidableEq
inductive COp where | eq | ne | lt | le | gt | ge | is | isnot | isin | notin
  deriving DecidableEq
inductive Prim where | len | abs | all | int
  deriving DecidableEq
inductive Prim2 where | max | min | join | split
  deriving DecidableEq

set_option genInjectivity false
set_option genSizeOfSpec false
set_option genSizeOf false
mutual
inductive IE where
  | lit (d : Dat)
  | con (x : String) (d : Dat)
  | var (i : Nat)
  | tup (es : IEs)
  | lst (es : IEs)
  | bin (op : BOp) (a b : IE)
  | neg (a : IE)
  | not (a : IE)
  | and (es : IEs)
  | or (es : IEs)
  | cmp (a : IE) (cs : ICs)
  | call (f : Nat) (as : IEs)
  | prim (p : Prim) (a : IE)
  | prim2 (p : Prim2) (a b : IE)
  | isinst (a : IE) (t : Ty)
  | idx (a i : IE)
  | slFrom (a i : IE)
  | slTo (a i : IE)
  | comp (x : Nat) (it : II) (ifs : IEs) (elt : IE)
inductive IEs where
  | nil
  | cons (e : IE) (es : IEs)
inductive ICs where
  | nil
  | cons (op : COp) (e : IE) (cs : ICs)
inductive II where
  | of (e : IE)
  | range1 (e : IE)
end

/-- what a handler asks of the exception, or of a name -/
inductive Atom where
  | isi (c : Nat)
  | var (i : Nat)
/-- except CLASS as NAME: return ATOM and .. (each with 'not', or without) -/
structure Hnd where
  cls : Nat
  x : Nat
  atoms : List (Bool × Atom)

mutual
inductive IS where
  | assign (i : Nat) (e : IE)
  | newlst (i : Nat) (es : IEs)
  | append (i : Nat) (e : IE)
  | drop (e : IE)
  | ret (e : IE)
  | ite (c : IE) (a b : ISs)
  | for1 (x : Nat) (it : II) (body : ISs)
  | raise (c : Nat) (msg : List Nat)
  | tryc (f : Nat) (as : IEs) (hs : List Hnd)
inductive ISs where
  | nil
  | cons (s : IS) (ss : ISs)
end

/-- out of a comprehension an exception comes from a call alone -/
noncomputable def isCallE : IE → Bool
  | .call .. => true
  | _ => false
noncomputable def Out.keepX {α : Type} (o : Out α) (b : Bool) : Out α := match b with
  | true => o
  | false => o.noX
@[simp] theorem Out.keepX_val {α : Type} (a : α) (σ : Sto) (b : Bool) : (Out.val a σ).keepX b = .val a σ := by cases b <;> rfl

set_option genInjectivity true
set_option genSizeOfSpec true
set_option genSizeOf true
/-! ## data operations -/

noncomputable def boolsOf : List Dat → Option (List Bool)
  | [] => some []
  | .bool b :: l => (boolsOf l).map (b :: ·)
  | _ => Option.none
@[simp] theorem boolsOf_map (l : List Bool) : boolsOf (l.map Dat.bool) = some l := by
  induction l with
  | nil => rfl
  | cons x l ih => simp [boolsOf, ih]
theorem boolsOf_some : ∀ {l : List Dat} {is : List Bool}, boolsOf l = some is → l = is.map Dat.bool
  | [], is, h => by cases h; rfl
  | d :: l, is, h => by
    cases d <;> simp only [boolsOf] at h <;> try cases h
    cases h' : boolsOf l with
    | none => rw [h'] at h; cases h
    | some js => rw [h'] at h; cases h; rw [boolsOf_some h']; rfl
mutual
/-- == of two data, where it is served -/
noncomputable def eqD : Dat → Dat → Option Bool
  | .none, .none => some true
  | .bool a, .bool b => some (a == b)
  | .int a, .int b => some (a == b)
  | .str a, .str b => some (a == b)
  | .tup a, .tup b => eqDs a b
  | .lst a, .lst b => eqDs a b
  | .bool _, .int _ => Option.none
  | .int _, .bool _ => Option.none
  | _, _ => some false
noncomputable def eqDs : List Dat → List Dat → Option Bool
  | [], [] => some true
  | [], _ :: _ => some false
  | _ :: _, [] => some false
  | a :: as, b :: bs => match eqD a b with
    | some true => eqDs as bs
    | r => r
end

mutual
/-- how deep tuples and lists stand in one another -/
noncomputable def depthD : Dat → Nat
  | .tup l => depthDs l + 1
  | .lst l => depthDs l + 1
  | _ => 0
noncomputable def depthDs : List Dat → Nat
  | [] => 0
  | d :: ds => max (depthD d) (depthDs ds)
end
mutual
/-- texts of signs alone -/
noncomputable def fineD : Dat → Bool
  | .tup l => fineDs l
  | .lst l => fineDs l
  | .str s => s.all fun c => decide (c < 1114112)
  | _ => true
noncomputable def fineDs : List Dat → Bool
  | [] => true
  | d :: ds => fineD d && fineDs ds
end
noncomputable def okD (d : Dat) : Bool := fineD d && decide (depthD d ≤ 40)

noncomputable def inDs (x : Dat) : List Dat → Option Bool
  | [] => some false
  | y :: ys => match eqD y x with
    | some true => some true
    | some false => inDs x ys
    | Option.none => Option.none

noncomputable def inD (x : Dat) : Dat → Option Bool
  | .lst l => if okD x && okD (.lst l) then inDs x l else Option.none
  | .tup l => if okD x && okD (.tup l) then inDs x l else Option.none
  | .str s => match x with
    | .str [c] => some (s.contains c)
    | _ => Option.none
  | _ => Option.none

noncomputable def eq2 (a b : Dat) : Option Bool := if okD a && okD b then eqD a b else Option.none

noncomputable def isNoneD (a : Dat) : Bool := match a with | .none => true | _ => false
noncomputable def intC (f : Int → Int → Bool) (a b : Dat) : Option Bool := match a with
  | .int x => (match b with | .int y => some (f x y) | _ => Option.none)
  | _ => Option.none
noncomputable def isC (f : Bool → Bool) (a b : Dat) : Option Bool := match b with
  | .none => some (f (isNoneD a))
  | _ => Option.none
noncomputable def cmp2 (op : COp) (a b : Dat) : Option Bool := match op with
  | .eq => eq2 a b
  | .ne => (eq2 a b).map (!·)
  | .lt => intC (fun x y => decide (x < y)) a b
  | .le => intC (fun x y => decide (x ≤ y)) a b
  | .gt => intC (fun x y => decide (y < x)) a b
  | .ge => intC (fun x y => decide (y ≤ x)) a b
  | .is => isC id a b
  | .isnot => isC (!·) a b
  | .isin => inD a b
  | .notin => (inD a b).map (!·)

/-- an int of at most 64 bits -/
noncomputable def shortInt (a : Int) : Bool := decide (-18446744073709551616 < a ∧ a < 18446744073709551616)

noncomputable def addD (a b : Dat) : Option Dat := match a with
  | .int x => (match b with | .int y => some (.int (x + y)) | _ => Option.none)
  | .str x => (match b with | .str y => if x.length + y.length ≤ 1000000 then some (.str (x ++ y)) else Option.none | _ => Option.none)
  | .lst x => (match b with | .lst y => if x.length + y.length ≤ 1000000 then some (.lst (x ++ y)) else Option.none | _ => Option.none)
  | _ => Option.none
noncomputable def intB (f : Int → Int → Option Dat) (a b : Dat) : Option Dat := match a with
  | .int x => (match b with | .int y => f x y | _ => Option.none)
  | _ => Option.none
noncomputable def mulD (a b : Dat) : Option Dat := match a with
  | .int x => (match b with | .int y => if (shortInt x || shortInt y) = true then some (.int (x * y)) else Option.none | _ => Option.none)
  | .str x => (match b with | .int n => if x.length * n.toNat ≤ 1000000 ∧ n < 1000000 ∧ -1000000 < n then some (.str (List.replicate n.toNat x).flatten) else Option.none | _ => Option.none)
  | .lst x => (match b with | .int n => if x.length * n.toNat ≤ 1000000 ∧ n < 1000000 ∧ -1000000 < n then some (.lst (List.replicate n.toNat x).flatten) else Option.none | _ => Option.none)
  | _ => Option.none
noncomputable def bin2 (op : BOp) (a b : Dat) : Option Dat := match op with
  | .add => addD a b
  | .sub => intB (fun x y => some (.int (x - y))) a b
  | .mul => mulD a b
  | .fdiv => intB (fun x y => if 0 < y ∧ y < 18446744073709551616 then some (.int (x / y)) else Option.none) a b
  | .mod => intB (fun x y => if 0 < y ∧ y < 18446744073709551616 then some (.int (x % y)) else Option.none) a b
  | .pow => intB (fun x y => if x = 10 ∧ y = 30 then some (.int 1000000000000000000000000000000) else Option.none) a b

theorem nos {α : Type} {P : Prop} {x : α} (h : (none : Option α) = some x) : P := by cases h
theorem nof {P : Prop} (h : false = true) : P := by cases h
theorem iff_some {α : Type} {c : Prop} [Decidable c] {o : Option α} {d : α} (h : (if c then o else Option.none) = some d) : c ∧ o = some d := by
  by_cases hc : c
  · rw [if_pos hc] at h; exact ⟨hc, h⟩
  · rw [if_neg hc] at h; cases h

noncomputable def truthD : Dat → Option Bool
  | .bool b => some b
  | _ => Option.none

noncomputable def lenD (a : Dat) : Option Dat := match a with
  | .lst l => if l.length ≤ 1000000 then some (.int l.length) else Option.none
  | .tup l => if l.length ≤ 1000000 then some (.int l.length) else Option.none
  | .str l => if l.length ≤ 1000000 then some (.int l.length) else Option.none
  | _ => Option.none
noncomputable def absD (a : Dat) : Option Dat := match a with | .int i => some (.int i.natAbs) | _ => Option.none
noncomputable def allD (a : Dat) : Option Dat := match a with | .lst l => (boolsOf l).map fun bs => .bool (bs.all id) | _ => Option.none
/-! texts -/
noncomputable def strsOf : List Dat → Option (List (List Nat))
  | [] => some []
  | .str i :: l => (strsOf l).map (i :: ·)
  | _ => Option.none
@[simp] theorem strsOf_map (l : List (List Nat)) : strsOf (l.map Dat.str) = some l := by
  induction l with
  | nil => rfl
  | cons x l ih => simp [strsOf, ih]
theorem strsOf_some : ∀ {l : List Dat} {is : List (List Nat)}, strsOf l = some is → l = is.map Dat.str
  | [], is, h => by cases h; rfl
  | d :: l, is, h => by
    cases d <;> simp only [strsOf] at h <;> try cases h
    cases h' : strsOf l with
    | none => rw [h'] at h; cases h
    | some js => rw [h'] at h; cases h; rw [strsOf_some h']; rfl
noncomputable def joinC (sep : List Nat) : List (List Nat) → List Nat
  | [] => []
  | x :: r => if r.isEmpty then x else x ++ sep ++ joinC sep r
noncomputable def splitC (c : Nat) : List Nat → List (List Nat)
  | [] => [[]]
  | x :: r => if x = c then [] :: splitC c r else match splitC c r with
    | [] => [[x]]
    | p :: q => (x :: p) :: q
theorem joinC_cons {sep x y : List Nat} {r : List (List Nat)} : joinC sep (x :: y :: r) = x ++ sep ++ joinC sep (y :: r) := rfl
theorem splitC_ne (c : Nat) (x : List Nat) : splitC c x ≠ [] := by
  cases x with
  | nil => simp [splitC]
  | cons a r =>
    unfold splitC
    split
    · simp
    · split <;> simp
theorem splitC_cons (c a : Nat) (r : List Nat) : splitC c (a :: r) = if a = c then [] :: splitC c r else match splitC c r with
    | [] => [[a]]
    | p :: q => (a :: p) :: q := rfl
theorem splitC_free {c : Nat} {x : List Nat} (h : c ∉ x) : splitC c x = [x] := by
  induction x with
  | nil => rfl
  | cons a r ih =>
    simp only [List.mem_cons, not_or] at h
    unfold splitC
    rw [if_neg (fun q => h.1 q.symm), ih h.2]
theorem splitC_app {c : Nat} {x y : List Nat} (h : c ∉ x) : splitC c (x ++ c :: y) = x :: splitC c y := by
  induction x with
  | nil => show splitC c (c :: y) = _; rw [splitC_cons, if_pos rfl]
  | cons a r ih =>
    simp only [List.mem_cons, not_or] at h
    show splitC c (a :: (r ++ c :: y)) = _
    rw [splitC_cons, if_neg (fun q => h.1 q.symm), ih h.2]
theorem splitC_join {c : Nat} : ∀ {l : List (List Nat)}, l ≠ [] → (∀ p ∈ l, c ∉ p) → splitC c (joinC [c] l) = l
  | [], h, _ => absurd rfl h
  | [x], _, h => splitC_free (h x (.head _))
  | x :: y :: r, _, h => by
    rw [joinC_cons, List.append_assoc]
    rw [List.singleton_append, splitC_app (h x (.head _)), splitC_join (by simp) fun p hp => h p (.tail _ hp)]
noncomputable def figVal (l : List Nat) : Nat := l.foldl (fun a c => a * 10 + (c - 48)) 0
noncomputable def isFig (c : Nat) : Bool := decide (48 ≤ c ∧ c ≤ 57)
noncomputable def intD (a : Dat) : Option Dat := match a with
  | .str x => if x ≠ [] ∧ x.length ≤ 600 ∧ x.all isFig = true then some (.int (figVal x)) else Option.none
  | _ => Option.none
noncomputable def joinD (a b : Dat) : Option Dat := match a with
  | .str x => (match b with | .lst l => (strsOf l).bind fun ts => if (ts.map List.length).sum + ts.length * x.length ≤ 1000000 then some (.str (joinC x ts)) else Option.none | _ => Option.none)
  | _ => Option.none
noncomputable def splitD (a b : Dat) : Option Dat := match a with
  | .str x => (match b with | .str [c] => if x.length ≤ 1000000 then some (.lst ((splitC c x).map .str)) else Option.none | _ => Option.none)
  | _ => Option.none
noncomputable def prim1 (p : Prim) (a : Dat) : Option Dat := match p with
  | .len => lenD a
  | .abs => absD a
  | .all => allD a
  | .int => intD a

noncomputable def maxD (x y : Int) : Int := if y > x then y else x
noncomputable def minD (x y : Int) : Int := if y < x then y else x
noncomputable def prim2 (p : Prim2) (a b : Dat) : Option Dat := match p with
  | .max => intB (fun x y => some (.int (maxD x y))) a b
  | .min => intB (fun x y => some (.int (minD x y))) a b
  | .join => joinD a b
  | .split => splitD a b

noncomputable def isTy (t : Ty) (d : Dat) : Bool := match t with
  | .bool => (match d with | .bool _ => true | _ => false)
  | .int => (match d with | .bool _ => true | .int _ => true | _ => false)
  | .str => (match d with | .str _ => true | _ => false)
  | .tuple => (match d with | .tup _ => true | _ => false)
  | .list => (match d with | .lst _ => true | _ => false)
  | .own _ => false

/-- the place of an item -/
noncomputable def place (n : Nat) (k : Int) : Option Nat :=
  if 0 ≤ k then (if k < n then some k.toNat else Option.none) else (if -n ≤ k then some (k + n).toNat else Option.none)

noncomputable def idx2 : Dat → Dat → Option Dat
  | .lst l, .int k => if l.length ≤ 1000000 then (place l.length k).bind fun i => l[i]? else Option.none
  | .tup l, .int k => if l.length ≤ 1000000 then (place l.length k).bind fun i => l[i]? else Option.none
  | .str l, .int k => if l.length ≤ 1000000 then (place l.length k).bind fun i => l[i]?.map fun c => .str [c] else Option.none
  | _, _ => Option.none
noncomputable def slFrom2 : Dat → Dat → Option Dat
  | .lst l, .int k => if 0 ≤ k ∧ k ≤ 1000000 ∧ l.length ≤ 1000000 then some (.lst (l.drop k.toNat)) else Option.none
  | .str l, .int k => if 0 ≤ k ∧ k ≤ 1000000 ∧ l.length ≤ 1000000 then some (.str (l.drop k.toNat)) else Option.none
  | _, _ => Option.none
noncomputable def slTo2 : Dat → Dat → Option Dat
  | .lst l, .int k => if 0 ≤ k ∧ k ≤ 1000000 ∧ l.length ≤ 1000000 then some (.lst (l.take k.toNat)) else Option.none
  | .str l, .int k => if 0 ≤ k ∧ k ≤ 1000000 ∧ l.length ≤ 1000000 then some (.str (l.take k.toNat)) else Option.none
  | _, _ => Option.none

/-- what a loop takes, one by one -/
noncomputable def itemsOf : Dat → Option (List Dat)
  | .lst l => some l
  | .tup l => some l
  | .str s => some (s.map fun c => .str [c])
  | _ => Option.none
noncomputable def rangeD (a b : Int) : List Dat := (List.range (b - a).toNat).map fun i : Nat => Dat.int (a + i)
/-! ## names, the store -/

noncomputable def look (σ : Sto) : Val → Option Dat
  | .dat d => some d
  | .ref k => (σ[k]?).map fun e => .lst e.2
  | .exc _ => Option.none
@[simp] theorem look_dat (σ : Sto) (d : Dat) : look σ (.dat d) = some d := rfl

/-- data of a value; a list that may grow stops growing -/
noncomputable def toDat (v : Val) (σ : Sto) : Out Dat := match v with
  | .dat d => .val d σ
  | .ref k => match σ[k]? with
    | some e => .val (.lst e.2) (σ.set k (false, e.2))
    | Option.none => .bad
  | .exc _ => .bad
@[simp] theorem toDat_dat (σ : Sto) (d : Dat) : toDat (.dat d) σ = .val d σ := rfl

/-- a list a loop goes over: the items, and what must stay as it is while it goes -/
structure Src where
  items : List Dat
  held : Option Nat

open Classical in
noncomputable def Src.still (s : Src) (σ : Sto) : Bool := match s.held with
  | Option.none => true
  | some k => decide (σ[k]?.map (·.2) = some s.items)
@[simp] theorem still_none (l : List Dat) (σ : Sto) : (Src.mk l Option.none).still σ = true := rfl

abbrev Oracle := Nat → List Val → Sto → Out Dat
abbrev Loc := List (Option Val)

noncomputable def d1 (f : Dat → Option Dat) (v : Val) (σ : Sto) : Out Val := match (look σ v).bind f with
  | some d => .val (.dat d) σ
  | Option.none => .bad
noncomputable def d2 (f : Dat → Dat → Option Dat) (v w : Val) (σ : Sto) : Out Val := match (look σ v).bind fun a => (look σ w).bind fun b => f a b with
  | some d => .val (.dat d) σ
  | Option.none => .bad
noncomputable def c2 (op : COp) (v w : Val) (σ : Sto) : Option Bool := (look σ v).bind fun a => (look σ w).bind fun b => cmp2 op a b
@[simp] theorem d1_dat (f : Dat → Option Dat) (a : Dat) (σ : Sto) : d1 f (.dat a) σ = match f a with | some d => .val (.dat d) σ | Option.none => .bad := rfl
@[simp] theorem d2_dat (f : Dat → Dat → Option Dat) (a b : Dat) (σ : Sto) : d2 f (.dat a) (.dat b) σ = match f a b with | some d => .val (.dat d) σ | Option.none => .bad := rfl
@[simp] theorem c2_dat (op : COp) (a b : Dat) (σ : Sto) : c2 op (.dat a) (.dat b) σ = cmp2 op a b := rfl

noncomputable def compL (s : Src) (f : Dat → Sto → Out (Option Dat)) : List Dat → Sto → Out (List Dat)
  | [], σ => if s.still σ then .val [] σ else .bad
  | d :: ds, σ => if s.still σ then (f d σ).bindX fun o σ => (compL s f ds σ).bindX fun r σ => .val (o.toList ++ r) σ else .bad

noncomputable def truthOf (v : Val) (σ : Sto) : Out Bool := ofOpt ((look σ v).bind truthD) σ
@[simp] theorem truthOf_bool (b : Bool) (σ : Sto) : truthOf (.dat (.bool b)) σ = .val b σ := rfl

noncomputable def isinstOf (t : Ty) (v : Val) (sub : Nat → Nat → Bool) (σ : Sto) : Out Val := match t with
  | .own c' => (match v with | .exc c => .val (.dat (.bool (sub c c'))) σ | _ => .bad)
  | t => ofOpt ((look σ v).map fun d => Val.dat (.bool (isTy t d))) σ

section
variable (sub : Nat → Nat → Bool) (C : Oracle)
mutual
noncomputable def ev : IE → Loc → Sto → Out Val
  | .lit d, _, σ => .val (.dat d) σ
  | .con _ d, _, σ => .val (.dat d) σ
  | .var i, ρ, σ => match ρ[i]? with
    | some (some v) => .val v σ
    | _ => .bad
  | .tup es, ρ, σ => (evs es ρ σ).bind fun ds σ => .val (.dat (.tup ds)) σ
  | .lst es, ρ, σ => (evs es ρ σ).bind fun ds σ => .val (.dat (.lst ds)) σ
  | .bin op a b, ρ, σ => (ev a ρ σ).bind fun v σ => (ev b ρ σ).bind fun w σ => d2 (bin2 op) v w σ
  | .neg a, ρ, σ => (ev a ρ σ).bind fun v σ => d1 (fun d => match d with | .int i => some (.int (-i)) | _ => Option.none) v σ
  | .not a, ρ, σ => (ev a ρ σ).bind fun v σ => (truthOf v σ).bind fun b σ => .val (.dat (.bool (!b))) σ
  | .and es, ρ, σ => evAnd es ρ σ
  | .or es, ρ, σ => evOr es ρ σ
  | .cmp a cs, ρ, σ => (ev a ρ σ).bind fun v σ => (evCmp v cs ρ σ).bind fun b σ => .val (.dat (.bool b)) σ
  | .call f as, ρ, σ => (evArgs as ρ σ).bind fun vs σ => (C f vs σ).bindX fun d σ => .val (.dat d) σ
  | .prim p a, ρ, σ => (ev a ρ σ).bind fun v σ => d1 (prim1 p) v σ
  | .prim2 p a b, ρ, σ => (ev a ρ σ).bind fun v σ => (ev b ρ σ).bind fun w σ => d2 (prim2 p) v w σ
  | .isinst a t, ρ, σ => (ev a ρ σ).bind fun v σ => isinstOf t v sub σ
  | .idx a i, ρ, σ => (ev a ρ σ).bindX fun v σ => (ev i ρ σ).bind fun w σ => d2 idx2 v w σ
  | .slFrom a i, ρ, σ => (ev a ρ σ).bind fun v σ => (ev i ρ σ).bind fun w σ => d2 slFrom2 v w σ
  | .slTo a i, ρ, σ => (ev a ρ σ).bind fun v σ => (ev i ρ σ).bind fun w σ => d2 slTo2 v w σ
  | .comp x it ifs elt, ρ, σ => (evI it ρ σ).bind fun s σ => if s.items.length ≤ 1000000 then
      (compL s (fun d σ => (evIfs ifs (ρ.set x (some (.dat d))) σ).bind fun b σ =>
        if b then ((ev elt (ρ.set x (some (.dat d))) σ).keepX (isCallE elt)).bindX fun v σ => (toDat v σ).bind fun e σ => .val (some e) σ else .val Option.none σ) s.items σ).bindX fun ds σ => .val (.dat (.lst ds)) σ
      else .bad
noncomputable def evs : IEs → Loc → Sto → Out (List Dat)
  | .nil, _, σ => .val [] σ
  | .cons e es, ρ, σ => (ev e ρ σ).bind fun v σ => (toDat v σ).bind fun d σ => (evs es ρ σ).bind fun ds σ => .val (d :: ds) σ
noncomputable def evArgs : IEs → Loc → Sto → Out (List Val)
  | .nil, _, σ => .val [] σ
  | .cons e es, ρ, σ => (ev e ρ σ).bind fun v σ => (evArgs es ρ σ).bind fun vs σ => .val (v :: vs) σ
noncomputable def evAnd : IEs → Loc → Sto → Out Val
  | .nil, _, _ => .bad
  | .cons e .nil, ρ, σ => (ev e ρ σ).noX
  | .cons e es, ρ, σ => (ev e ρ σ).bind fun v σ => (truthOf v σ).bind fun b σ => if b then evAnd es ρ σ else .val v σ
noncomputable def evOr : IEs → Loc → Sto → Out Val
  | .nil, _, _ => .bad
  | .cons e .nil, ρ, σ => (ev e ρ σ).noX
  | .cons e es, ρ, σ => (ev e ρ σ).bind fun v σ => (truthOf v σ).bind fun b σ => if b then .val v σ else evOr es ρ σ
noncomputable def evCmp : Val → ICs → Loc → Sto → Out Bool
  | _, .nil, _, σ => .val true σ
  | v, .cons op e cs, ρ, σ => (ev e ρ σ).bind fun w σ => match c2 op v w σ with
    | some true => evCmp w cs ρ σ
    | some false => .val false σ
    | Option.none => .bad
noncomputable def evI : II → Loc → Sto → Out Src
  | .of e, ρ, σ => (ev e ρ σ).bind fun v σ => match v with
    | .dat d => ofOpt ((itemsOf d).map fun l => ⟨l, Option.none⟩) σ
    | .ref k => ofOpt ((σ[k]?).map fun e => ⟨e.2, some k⟩) σ
    | .exc _ => .bad
  | .range1 e, ρ, σ => (ev e ρ σ).bind fun v σ => match v with
    | .dat (.int n) => if n ≤ 1000000 ∧ -1000000 ≤ n then .val ⟨rangeD 0 n, Option.none⟩ σ else .bad
    | _ => .bad
noncomputable def evIfs : IEs → Loc → Sto → Out Bool
  | .nil, _, σ => .val true σ
  | .cons e es, ρ, σ => (evB e ρ σ).bind fun b σ => if b then evIfs es ρ σ else .val false σ
noncomputable def evB : IE → Loc → Sto → Out Bool
  | .not a, ρ, σ => (evB a ρ σ).bindX fun b σ => .val (!b) σ
  | .and es, ρ, σ => evAll es ρ σ
  | .or es, ρ, σ => evAny es ρ σ
  | .cmp a cs, ρ, σ => (ev a ρ σ).bind fun v σ => evCmp v cs ρ σ
  | .lit d, ρ, σ => truthOf (.dat d) σ
  | .con x d, ρ, σ => truthOf (.dat d) σ
  | .var i, ρ, σ => (match ρ[i]? with | some (some v) => truthOf v σ | _ => .bad)
  | .call f as, ρ, σ => (evArgs as ρ σ).bind fun vs σ => (C f vs σ).bind fun d σ => truthOf (.dat d) σ
  | .prim p a, ρ, σ => (ev a ρ σ).bind fun v σ => (d1 (prim1 p) v σ).bind truthOf
  | .isinst a t, ρ, σ => (ev a ρ σ).bind fun v σ => (isinstOf t v sub σ).bind truthOf
  | .idx a i, ρ, σ => (ev a ρ σ).bindX fun v σ => (ev i ρ σ).bind fun w σ => (d2 idx2 v w σ).bind truthOf
  | _, _, _ => .bad
noncomputable def evAll : IEs → Loc → Sto → Out Bool
  | .nil, _, σ => .val true σ
  | .cons e es, ρ, σ => (evB e ρ σ).bind fun b σ => if b then evAll es ρ σ else .val false σ
noncomputable def evAny : IEs → Loc → Sto → Out Bool
  | .nil, _, σ => .val false σ
  | .cons e es, ρ, σ => (evB e ρ σ).bind fun b σ => if b then .val true σ else evAny es ρ σ
end

inductive SOut where
  | next (ρ : Loc) (σ : Sto)
  | ret (d : Dat) (σ : Sto)
  | exn (c : Nat) (ρ : Loc) (σ : Sto)
  | bad

noncomputable def SOut.bind (o : SOut) (f : Loc → Sto → SOut) : SOut := match o with
  | .next ρ σ => f ρ σ
  | o => o
@[simp] theorem SOut.bind_next (ρ : Loc) (σ : Sto) (f : Loc → Sto → SOut) : (SOut.next ρ σ).bind f = f ρ σ := rfl
@[simp] theorem SOut.bind_ret (d : Dat) (σ : Sto) (f : Loc → Sto → SOut) : (SOut.ret d σ).bind f = .ret d σ := rfl
@[simp] theorem SOut.bind_exn (c : Nat) (ρ : Loc) (σ : Sto) (f : Loc → Sto → SOut) : (SOut.exn c ρ σ).bind f = .exn c ρ σ := rfl
@[simp] theorem SOut.bind_bad (f : Loc → Sto → SOut) : SOut.bad.bind f = .bad := rfl

noncomputable def Out.stm {α : Type} (o : Out α) (ρ : Loc) (f : α → Sto → SOut) : SOut := match o with
  | .val a σ => f a σ
  | .exn c σ => .exn c ρ σ
  | .bad => .bad
/-- the same, where no exception may pass -/
noncomputable def Out.stmK {α : Type} (o : Out α) (f : α → Sto → SOut) : SOut := match o with
  | .val a σ => f a σ
  | _ => .bad
@[simp] theorem Out.stmK_val {α : Type} (a : α) (σ : Sto) (f : α → Sto → SOut) : (Out.val a σ).stmK f = f a σ := rfl
noncomputable def SOut.noX (o : SOut) : SOut := match o with
  | .exn .. => .bad
  | o => o
@[simp] theorem Out.stm_val {α : Type} (a : α) (σ : Sto) (ρ : Loc) (f : α → Sto → SOut) : (Out.val a σ).stm ρ f = f a σ := rfl
@[simp] theorem Out.stm_exn {α : Type} (c : Nat) (σ : Sto) (ρ : Loc) (f : α → Sto → SOut) : (Out.exn c σ : Out α).stm ρ f = .exn c ρ σ := rfl
@[simp] theorem Out.stm_bad {α : Type} (ρ : Loc) (f : α → Sto → SOut) : (Out.bad : Out α).stm ρ f = .bad := rfl

noncomputable def forL (s : Src) (f : Dat → Loc → Sto → SOut) : List Dat → Loc → Sto → SOut
  | [], ρ, σ => if s.still σ then .next ρ σ else .bad
  | d :: ds, ρ, σ => if s.still σ then (f d ρ σ).bind fun ρ σ => forL s f ds ρ σ else .bad

/-- the classes: 0 WishError, 1 BadGame, 2 BadRow, 3 BadText; 9 ValueError -/
noncomputable def subC (c c' : Nat) : Bool := c == c' || c' == 0 || c' == 9
noncomputable def atomV (c : Nat) (ρ : Loc) : Atom → Option Bool
  | .isi c' => some (subC c c')
  | .var i => match ρ[i]? with
    | some (some (.dat (.bool b))) => some b
    | _ => Option.none
noncomputable def atomsV (c : Nat) (ρ : Loc) : List (Bool × Atom) → Option Bool
  | [] => some true
  | (n, a) :: l => (atomV c ρ a).bind fun b => (atomsV c ρ l).map fun r => (b != n) && r
noncomputable def ofHnd (c : Nat) (ρ : Loc) (σ : Sto) : Option Hnd → SOut
  | some h => (match atomsV c ρ h.atoms with | some b => .ret (.bool b) σ | Option.none => .bad)
  | Option.none => .bad

mutual
noncomputable def ex : IS → Loc → Sto → SOut
  | .assign i e, ρ, σ => (ev sub C e ρ σ).stm ρ fun v σ => .next (ρ.set i (some v)) σ
  | .newlst i es, ρ, σ => (evs sub C es ρ σ).stm ρ fun ds σ => .next (ρ.set i (some (.ref σ.length))) (σ ++ [(true, ds)])
  | .append i e, ρ, σ => match ρ[i]? with
    | some (some (.ref k)) => (ev sub C e ρ σ).stmK fun v σ => match toDat v σ with
      | .val d σ => (match σ[k]? with
        | some (true, l) => if l.length < 1000000 then .next ρ (σ.set k (true, l ++ [d])) else .bad
        | _ => .bad)
      | _ => .bad
    | _ => .bad
  | .drop e, ρ, σ => (ev sub C e ρ σ).stm ρ fun v σ => match v with
    | .dat .none => .next ρ σ
    | _ => .bad
  | .ret e, ρ, σ => (ev sub C e ρ σ).stm ρ fun v σ => (toDat v σ).stm ρ fun d σ => .ret d σ
  | .ite c a b, ρ, σ => (evB sub C c ρ σ).stm ρ fun t σ => if t then exs a ρ σ else exs b ρ σ
  | .for1 x it body, ρ, σ => (evI sub C it ρ σ).stm ρ fun s σ => if s.items.length ≤ 1000000 then forL s (fun d ρ σ => exs body (ρ.set x (some (.dat d))) σ) s.items ρ σ else .bad
  | .raise c _, ρ, σ => .exn c ρ σ
  | .tryc f as hs, ρ, σ => (evArgs sub C as ρ σ).stmK fun vs σ => match C f vs σ with
    | .exn c _ => if (σ.all (fun e => !e.1) && decide (c < 4)) = true then ofHnd c ρ σ (hs.find? fun h => subC c h.cls) else .bad
    | _ => .bad
noncomputable def exs : ISs → Loc → Sto → SOut
  | .nil, ρ, σ => .next ρ σ
  | .cons s ss, ρ, σ => (ex s ρ σ).bind fun ρ σ => exs ss ρ σ
end
end

structure Fn where
  arity : Nat
  slots : Nat
  body : ISs

noncomputable def SOut.back (o : SOut) (n : Nat) : Out Dat := match o with
  | .ret d σ => .val d (σ.take n)
  | .next _ σ => .val .none (σ.take n)
  | .exn c _ σ => .exn c (σ.take n)
  | .bad => .bad
@[simp] theorem SOut.back_ret (d : Dat) (σ : Sto) (n : Nat) : (SOut.ret d σ).back n = .val d (σ.take n) := rfl
@[simp] theorem SOut.back_next (ρ : Loc) (σ : Sto) (n : Nat) : (SOut.next ρ σ).back n = .val .none (σ.take n) := rfl
@[simp] theorem SOut.back_exn (c : Nat) (ρ : Loc) (σ : Sto) (n : Nat) : (SOut.exn c ρ σ).back n = .exn c (σ.take n) := rfl
@[simp] theorem SOut.back_bad (n : Nat) : SOut.bad.back n = .bad := rfl

/-- a call of a def, at most n calls deep -/
noncomputable def callF (sub : Nat → Nat → Bool) (Δ : Nat → Option Fn) : Nat → Oracle
  | 0, _, _, _ => .bad
  | n + 1, f, args, σ => match Δ f with
    | Option.none => .bad
    | some fn => if args.length = fn.arity then
        (exs sub (callF sub Δ n) fn.body (args.map some ++ List.replicate (fn.slots - fn.arity) Option.none) σ).back σ.length
      else .bad
end Mine

/-! ## MTab -/
namespace Mine
open PySem
abbrev Tab := List (Nat × Str × List Str × Fn)
noncomputable def Tab.fnm (t : Tab) (f : Nat) : Option Str := (t.lookup f).map (·.1)
noncomputable def Tab.Δ (t : Tab) (f : Nat) : Option Fn := (t.lookup f).map (·.2.2)
end Mine

/-! ## MSim -/
namespace Mine
open PySem

/-! ## a value stands for data -/
mutual
noncomputable def Rep (h : Heap) (γ : List Addr) : Dat → Value → Prop
  | .none, v => v = .none
  | .bool b, v => v = .bool b
  | .int i, v => ∃ t, v = .int i t
  | .str s, v => ∃ t, v = .str ⟨s.toArray⟩ t
  | .tup ds, v => ∃ a vs, v = .ref a ∧ a ∉ γ ∧ h.IsTuple a vs ∧ Reps h γ ds vs.toList
  | .lst ds, v => ∃ a vs, v = .ref a ∧ a ∉ γ ∧ h.IsList a vs ∧ Reps h γ ds vs.toList
noncomputable def Reps (h : Heap) (γ : List Addr) : List Dat → List Value → Prop
  | [], [] => True
  | d :: ds, v :: vs => Rep h γ d v ∧ Reps h γ ds vs
  | [], _ :: _ => False
  | _ :: _, [] => False
end

/-- what a step keeps of the made tuples and lists -/
noncomputable def SeqKeep (γ γ' : List Addr) (h h' : Heap) : Prop :=
  ∀ a o xs n, h.get? a = some o → o.data = .seq xs n → a ∉ γ → a ∉ γ' ∧ h'.get? a = some o

mutual
theorem Rep.mono {h h' : Heap} {γ γ' : List Addr} (hk : SeqKeep γ γ' h h') : ∀ {d : Dat} {v : Value}, Rep h γ d v → Rep h' γ' d v
  | .none, v, r => by simpa only [Rep] using r
  | .bool b, v, r => by simpa only [Rep] using r
  | .int i, v, r => by simpa only [Rep] using r
  | .str s, v, r => by simpa only [Rep] using r
  | .tup ds, v, r => by
    simp only [Rep] at r ⊢
    obtain ⟨a, vs, e, ha, ⟨o, ho, hc, n, hd⟩, hr⟩ := r
    have := hk a o vs n ho hd ha
    exact ⟨a, vs, e, this.1, ⟨o, this.2, hc, n, hd⟩, Reps.mono hk hr⟩
  | .lst ds, v, r => by
    simp only [Rep] at r ⊢
    obtain ⟨a, vs, e, ha, ⟨o, ho, hc, n, hd⟩, hr⟩ := r
    have := hk a o vs n ho hd ha
    exact ⟨a, vs, e, this.1, ⟨o, this.2, hc, n, hd⟩, Reps.mono hk hr⟩
theorem Reps.mono {h h' : Heap} {γ γ' : List Addr} (hk : SeqKeep γ γ' h h') : ∀ {ds : List Dat} {vs : List Value}, Reps h γ ds vs → Reps h' γ' ds vs
  | [], [], _ => by simp only [Reps]
  | d :: ds, v :: vs, r => by
    simp only [Reps] at r ⊢
    exact ⟨Rep.mono hk r.1, Reps.mono hk r.2⟩
  | [], _ :: _, r => by simp only [Reps] at r
  | _ :: _, [], r => by simp only [Reps] at r
end

theorem Reps.length {h : Heap} {γ : List Addr} : ∀ {ds : List Dat} {vs : List Value}, Reps h γ ds vs → ds.length = vs.length
  | [], [], _ => rfl
  | d :: ds, v :: vs, r => by simp only [Reps] at r; simp [Reps.length r.2]
  | [], _ :: _, r => by simp only [Reps] at r
  | _ :: _, [], r => by simp only [Reps] at r
theorem Reps.get {h : Heap} {γ : List Addr} : ∀ {ds : List Dat} {vs : List Value} {i : Nat} {d : Dat}, Reps h γ ds vs → ds[i]? = some d → ∃ v, vs[i]? = some v ∧ Rep h γ d v
  | [], [], i, d, _, e => by simp at e
  | d' :: ds, v :: vs, 0, d, r, e => by simp only [Reps] at r; simp at e; subst e; exact ⟨v, by simp, r.1⟩
  | d' :: ds, v :: vs, i + 1, d, r, e => by simp only [Reps] at r; simp at e; simpa using Reps.get r.2 e
  | [], _ :: _, _, _, r, _ => by simp only [Reps] at r
  | _ :: _, [], _, _, r, _ => by simp only [Reps] at r
theorem Reps.append {h : Heap} {γ : List Addr} : ∀ {ds es : List Dat} {vs ws : List Value}, Reps h γ ds vs → Reps h γ es ws → Reps h γ (ds ++ es) (vs ++ ws)
  | [], _, [], _, _, r' => by simpa using r'
  | d :: ds, _, v :: vs, _, r, r' => by
    simp only [Reps] at r
    simp only [List.cons_append, Reps]
    exact ⟨r.1, Reps.append r.2 r'⟩
  | [], _, _ :: _, _, r, _ => by simp only [Reps] at r
  | _ :: _, _, [], _, r, _ => by simp only [Reps] at r
theorem Reps.drop {h : Heap} {γ : List Addr} : ∀ {ds : List Dat} {vs : List Value} (n : Nat), Reps h γ ds vs → Reps h γ (ds.drop n) (vs.drop n)
  | ds, vs, 0, r => by simpa using r
  | [], [], n + 1, _ => by simp [Reps]
  | d :: ds, v :: vs, n + 1, r => by simp only [Reps] at r; simpa using Reps.drop n r.2
  | [], _ :: _, _, r => by simp only [Reps] at r
  | _ :: _, [], _, r => by simp only [Reps] at r
theorem Reps.take {h : Heap} {γ : List Addr} : ∀ {ds : List Dat} {vs : List Value} (n : Nat), Reps h γ ds vs → Reps h γ (ds.take n) (vs.take n)
  | ds, vs, 0, r => by simp [Reps]
  | [], [], n + 1, _ => by simp [Reps]
  | d :: ds, v :: vs, n + 1, r => by simp only [Reps] at r; simp only [List.take_succ_cons, Reps]; exact ⟨r.1, Reps.take n r.2⟩
  | [], _ :: _, _, r => by simp only [Reps] at r
  | _ :: _, [], _, r => by simp only [Reps] at r
theorem Reps.snoc {h : Heap} {γ : List Addr} {ds : List Dat} {vs : List Value} {d : Dat} {v : Value} (r : Reps h γ ds vs) (x : Rep h γ d v) : Reps h γ (ds ++ [d]) (vs ++ [v]) :=
  r.append (by simp only [Reps]; exact ⟨x, trivial⟩)
/-! ## the store -/

/-- the places of the lists that may still grow -/
noncomputable def growS (σ : Sto) (β : List Addr) : List Addr := ((σ.zip β).filter (·.1.1)).map (·.2)
/-- and of those that are being made -/
noncomputable def grow (π : List Addr) (σ : Sto) (β : List Addr) : List Addr := π ++ growS σ β

theorem mem_growS {σ : Sto} {β : List Addr} {a : Addr} : a ∈ growS σ β ↔ ∃ (k : Nat) (l : List Dat), σ[k]? = some (true, l) ∧ β[k]? = some a := by
  unfold growS
  simp only [List.mem_map, List.mem_filter]
  constructor
  · rintro ⟨⟨⟨b, l⟩, a'⟩, ⟨hm, hb⟩, rfl⟩
    obtain ⟨k, hk, e⟩ := List.mem_iff_getElem.mp hm
    simp only at hb
    subst hb
    rw [List.getElem_zip] at e
    rw [List.length_zip] at hk
    have h1 : k < σ.length := by omega
    have h2 : k < β.length := by omega
    exact ⟨k, l, by rw [List.getElem?_eq_getElem h1]; exact congrArg some (Prod.mk.inj e).1, by rw [List.getElem?_eq_getElem h2]; exact congrArg some (Prod.mk.inj e).2⟩
  · rintro ⟨k, l, h1, h2⟩
    refine ⟨((true, l), a), ⟨?_, rfl⟩, rfl⟩
    obtain ⟨k1, e1⟩ := List.getElem?_eq_some_iff.mp h1
    obtain ⟨k2, e2⟩ := List.getElem?_eq_some_iff.mp h2
    refine List.mem_iff_getElem.mpr ⟨k, by rw [List.length_zip]; omega, ?_⟩
    rw [List.getElem_zip, e1, e2]
theorem mem_grow {π : List Addr} {σ : Sto} {β : List Addr} {a : Addr} : a ∈ grow π σ β ↔ a ∈ π ∨ a ∈ growS σ β := List.mem_append
theorem grow_mono {π : List Addr} {σ σ' : Sto} {β β' : List Addr} (h : ∀ a, a ∈ growS σ' β' → a ∈ growS σ β) {a : Addr} (x : a ∈ grow π σ' β') : a ∈ grow π σ β :=
  mem_grow.mpr ((mem_grow.mp x).imp id (h a))
theorem growS_grow {π : List Addr} {σ : Sto} {β : List Addr} {a : Addr} (h : a ∉ grow π σ β) : a ∉ growS σ β := fun q => h (mem_grow.mpr (.inr q))

structure Sim (B : Heap) (π : List Addr) (h : Heap) (σ : Sto) (β : List Addr) : Prop where
  len : β.length = σ.length
  nodup : β.Nodup
  base : ∀ b o, B.get? b = some o → h.get? b = some o
  new : ∀ a ∈ β, B.objs.size ≤ a
  ent : ∀ (k : Nat) (e : Bool × List Dat) (a : Addr), σ[k]? = some e → β[k]? = some a → ∃ vs, h.PlainList a vs ∧ Reps h (grow π σ β) e.2 vs.toList
  priv : ∀ a ∈ π, (h.get? a).isSome = true ∧ a ∉ β

noncomputable def RelV (h : Heap) (π β : List Addr) (σ : Sto) : Val → Value → Prop
  | .dat d, v' => Rep h (grow π σ β) d v'
  | .ref k, v' => ∃ a, β[k]? = some a ∧ v' = .ref a
  | .exc _, _ => False

/-- an object stands, but for a table's slots -/
noncomputable def Kept (h : Heap) (b : Addr) (o : Obj) : Prop := (∃ sl, h.get? b = some { o with slots := sl }) ∧ ((∀ es ep, o.data ≠ .dict es ep) → h.get? b = some o)
theorem Kept.of {h : Heap} {b : Addr} {o : Obj} (e : h.get? b = some o) : Kept h b o := ⟨⟨o.slots, e⟩, fun _ => e⟩
theorem Kept.step {h h' : Heap} {b : Addr} {o : Obj} (x : Kept h b o) (k : ∀ o', h.get? b = some o' → Kept h' b o') : Kept h' b o := by
  obtain ⟨⟨sl, e⟩, f⟩ := x
  obtain ⟨⟨sl', e'⟩, _⟩ := k _ e
  exact ⟨⟨sl', e'⟩, fun hn => (k o (f hn)).2 hn⟩
theorem Kept.seq {h : Heap} {b : Addr} {o : Obj} {xs : Array Value} {n : Nat} (x : Kept h b o) (hd : o.data = .seq xs n) : h.get? b = some o := x.2 fun es ep q => by rw [hd] at q; cases q
theorem Kept.fields {h : Heap} {b : Addr} {o : Obj} {vs : Array Value} (x : Kept h b o) (hd : o.data = .fields vs) : h.get? b = some o := x.2 fun es ep q => by rw [hd] at q; cases q
theorem Kept.cell {h : Heap} {b : Addr} {o : Obj} {v : Option Value} (x : Kept h b o) (hd : o.data = .cell v) : h.get? b = some o := x.2 fun es ep q => by rw [hd] at q; cases q
theorem Kept.is {h : Heap} {b : Addr} {o : Obj} (x : Kept h b o) : (h.get? b).isSome = true := by obtain ⟨⟨sl, e⟩, _⟩ := x; rw [e]; rfl
theorem Kept.ns {h h' : Heap} {a : Addr} {m : Str → Option Value} (hn : h.Ns a m) (k : ∀ o, h.get? a = some o → Kept h' a o) : h'.Ns a m := by
  obtain ⟨o, es, ep, ho, hd, r⟩ := hn
  obtain ⟨⟨sl, e⟩, _⟩ := k o ho
  exact ⟨_, es, ep, e, hd, r⟩

/-- from s to s' an expression was reckoned: what was there stands, but for the lists that may grow and the frame's own table -/
structure Ok (B : Heap) (π : List Addr) (L : Addr) (β : List Addr) (s s' : Shared) (σ σ' : Sto) : Prop where
  sh : ∃ h' tk, s' = { s with heap := h', toks := tk }
  sim : Sim B π s'.heap σ' β
  keep : ∀ b o, s.heap.get? b = some o → b ∉ growS σ β → b ≠ L → Kept s'.heap b o
  ns : ∀ m, s.heap.Ns L m → s'.heap.Ns L m
  mon : ∀ a, a ∈ growS σ' β → a ∈ growS σ β

theorem Ok.refl {B : Heap} {L : Addr} {π β : List Addr} {s : Shared} {σ : Sto} (S : Sim B π s.heap σ β) : Ok B π L β s s σ σ :=
  ⟨⟨s.heap, s.toks, rfl⟩, S, fun _ _ e _ _ => .of e, fun _ x => x, fun _ x => x⟩
theorem Ok.trans {B : Heap} {L : Addr} {π β : List Addr} {s s₁ s₂ : Shared} {σ σ₁ σ₂ : Sto} (x : Ok B π L β s s₁ σ σ₁) (y : Ok B π L β s₁ s₂ σ₁ σ₂) : Ok B π L β s s₂ σ σ₂ where
  sh := by obtain ⟨h1, t1, rfl⟩ := x.sh; obtain ⟨h2, t2, rfl⟩ := y.sh; exact ⟨h2, t2, rfl⟩
  sim := y.sim
  keep := fun b o e hb hL => (x.keep b o e hb hL).step fun o' e' => y.keep b o' e' (fun q => hb (x.mon b q)) hL
  ns := fun m q => y.ns m (x.ns m q)
  mon := fun a q => x.mon a (y.mon a q)

theorem Ok.seq {B : Heap} {L : Addr} {π β : List Addr} {s s' : Shared} {σ σ' : Sto} {m : Str → Option Value} (x : Ok B π L β s s' σ σ') (hL : s.heap.Ns L m) : SeqKeep (grow π σ β) (grow π σ' β) s.heap s'.heap := by
  intro a o xs n ho hd ha
  refine ⟨fun q => ha (grow_mono x.mon q), (x.keep a o ho (growS_grow ha) ?_).seq hd⟩
  rintro rfl
  obtain ⟨o', es, ep, ho', hd', _⟩ := hL
  rw [ho] at ho'; cases ho'
  rw [hd] at hd'; cases hd'

theorem RelV.ok {B : Heap} {L : Addr} {π β : List Addr} {s s' : Shared} {σ σ' : Sto} {m : Str → Option Value} {v : Val} {v' : Value} (x : Ok B π L β s s' σ σ') (hL : s.heap.Ns L m) (r : RelV s.heap π β σ v v') : RelV s'.heap π β σ' v v' := by
  cases v with
  | dat d => exact Rep.mono (x.seq hL) r
  | ref k => exact r
  | exc c => exact r

/-! ## heaps that only grew, by what is no list of the store -/

theorem Sim.keeps {B h h' : Heap} {σ : Sto} {π β : List Addr} (S : Sim B π h σ β) (hk : ∀ b o, h.get? b = some o → h'.get? b = some o) : Sim B π h' σ β where
  len := S.len
  nodup := S.nodup
  base := fun b o e => hk b o (S.base b o e)
  new := S.new
  ent := fun k e a h1 h2 => by
    obtain ⟨vs, hp, hr⟩ := S.ent k e a h1 h2
    exact ⟨vs, hp.at fun o e => hk _ o e, Reps.mono (fun a o xs n ho hd ha => ⟨ha, hk _ _ ho⟩) hr⟩
  priv := fun a ha => ⟨by obtain ⟨o, ho⟩ := Option.isSome_iff_exists.mp (S.priv a ha).1; rw [hk a o ho]; rfl, (S.priv a ha).2⟩

theorem Ok.keeps {B : Heap} {L : Addr} {π β : List Addr} {s s' : Shared} {σ : Sto} (S : Sim B π s.heap σ β) (hs : ∃ h' tk, s' = { s with heap := h', toks := tk })
    (hk : ∀ b o, s.heap.get? b = some o → s'.heap.get? b = some o) : Ok B π L β s s' σ σ where
  sh := hs
  sim := S.keeps hk
  keep := fun b o e _ _ => .of (hk b o e)
  ns := fun m q => q.keeps hk
  mon := fun _ q => q
theorem Ok.toks {B : Heap} {L : Addr} {π β : List Addr} {s : Shared} {σ : Sto} (S : Sim B π s.heap σ β) (tk : Nat) : Ok B π L β s { s with toks := tk } σ σ :=
  Ok.keeps S ⟨s.heap, tk, rfl⟩ (fun _ _ e => e)
theorem Ok.push {B : Heap} {L : Addr} {π β : List Addr} {s : Shared} {σ : Sto} (S : Sim B π s.heap σ β) (o : Obj) : Ok B π L β s { s with heap := s.heap.push o } σ σ :=
  Ok.keeps S ⟨_, s.toks, rfl⟩ (fun _ _ e => Heap.get?_push_of_some _ e)

theorem Sim.lt {B h : Heap} {σ : Sto} {π β : List Addr} (S : Sim B π h σ β) {a : Addr} (ha : a ∈ β) : a < h.objs.size := by
  obtain ⟨k, hk, e⟩ := List.mem_iff_getElem.mp ha
  have hk' : k < σ.length := by rw [← S.len]; exact hk
  obtain ⟨vs, ⟨n, hp⟩, _⟩ := S.ent k σ[k] a (List.getElem?_eq_getElem hk') (by rw [List.getElem?_eq_getElem hk, e])
  exact Heap.lt_size hp
theorem growS_sub {σ : Sto} {β : List Addr} {a : Addr} (h : a ∈ growS σ β) : a ∈ β := by
  obtain ⟨k, l, _, e⟩ := mem_growS.mp h
  exact List.mem_of_getElem? e
theorem Sim.fresh {B h : Heap} {σ : Sto} {π β : List Addr} (S : Sim B π h σ β) : h.objs.size ∉ grow π σ β := fun q => by
  rcases mem_grow.mp q with q | q
  · obtain ⟨o, ho⟩ := Option.isSome_iff_exists.mp (S.priv _ q).1
    exact Nat.lt_irrefl _ (Heap.lt_size ho)
  · exact Nat.lt_irrefl _ (S.lt (growS_sub q))

/-- a new tuple or list -/
theorem Rep.newTuple {h : Heap} {γ : List Addr} {ds : List Dat} {vs : List Value} (hr : Reps h γ ds vs) (hf : h.objs.size ∉ γ) :
    Rep (h.push { cls := .type "tuple", data := .seq vs.toArray }) γ (.tup ds) (.ref h.objs.size) := by
  simp only [Rep]
  refine ⟨_, vs.toArray, rfl, hf, ⟨_, Heap.get?_push_size _ rfl, rfl, _, rfl⟩, ?_⟩
  simpa using Reps.mono (fun a o xs n ho hd ha => ⟨ha, Heap.get?_push_of_some _ ho⟩) hr
theorem Rep.newList {h : Heap} {γ : List Addr} {ds : List Dat} {vs : List Value} (hr : Reps h γ ds vs) (hf : h.objs.size ∉ γ) :
    Rep (h.push { cls := .type "list", data := .seq vs.toArray }) γ (.lst ds) (.ref h.objs.size) := by
  simp only [Rep]
  refine ⟨_, vs.toArray, rfl, hf, ⟨_, Heap.get?_push_size _ rfl, rfl, _, rfl⟩, ?_⟩
  simpa using Reps.mono (fun a o xs n ho hd ha => ⟨ha, Heap.get?_push_of_some _ ho⟩) hr

/-! ## freezing -/
theorem mem_grow_set {σ : Sto} {β : List Addr} {k : Nat} {l : List Dat} (a : Addr) (h : a ∈ growS (σ.set k (false, l)) β) : a ∈ growS σ β := by
  obtain ⟨j, l', h1, h2⟩ := mem_growS.mp h
  by_cases hjk : k = j
  · subst hjk
    rw [List.getElem?_set_self'] at h1
    cases hq : σ[k]? with
    | none => rw [hq] at h1; cases h1
    | some e => rw [hq] at h1; simp at h1
  · rw [List.getElem?_set_ne hjk] at h1
    exact mem_growS.mpr ⟨j, l', h1, h2⟩

theorem Sim.freeze {B h : Heap} {σ : Sto} {π β : List Addr} (S : Sim B π h σ β) {k : Nat} {e : Bool × List Dat} (he : σ[k]? = some e) : Sim B π h (σ.set k (false, e.2)) β where
  len := by simpa using S.len
  nodup := S.nodup
  base := S.base
  new := S.new
  ent := fun j e' a h1 h2 => by
    have sk : SeqKeep (grow π σ β) (grow π (σ.set k (false, e.2)) β) h h := fun a o xs n ho hd ha => ⟨fun q => ha (grow_mono mem_grow_set q), ho⟩
    by_cases hjk : k = j
    · subst hjk
      have hlt : k < σ.length := (List.getElem?_eq_some_iff.mp he).1
      rw [List.getElem?_set_self hlt] at h1
      cases h1
      obtain ⟨vs, hp, hr⟩ := S.ent k e a he h2
      exact ⟨vs, hp, Reps.mono sk hr⟩
    · rw [List.getElem?_set_ne hjk] at h1
      obtain ⟨vs, hp, hr⟩ := S.ent j e' a h1 h2
      exact ⟨vs, hp, Reps.mono sk hr⟩
  priv := S.priv

theorem Ok.freeze {B : Heap} {L : Addr} {π β : List Addr} {s : Shared} {σ : Sto} (S : Sim B π s.heap σ β) {k : Nat} {e : Bool × List Dat} (he : σ[k]? = some e) : Ok B π L β s s σ (σ.set k (false, e.2)) where
  sh := ⟨s.heap, s.toks, rfl⟩
  sim := S.freeze he
  keep := fun _ _ x _ _ => .of x
  ns := fun _ x => x
  mon := mem_grow_set

theorem nodup_get {β : List Addr} (hn : β.Nodup) {i j : Nat} {a : Addr} (h1 : β[i]? = some a) (h2 : β[j]? = some a) : i = j := by
  obtain ⟨k1, e1⟩ := List.getElem?_eq_some_iff.mp h1
  obtain ⟨k2, e2⟩ := List.getElem?_eq_some_iff.mp h2
  rcases Nat.lt_trichotomy i j with h | h | h
  · exact absurd (e1.trans e2.symm) (List.pairwise_iff_getElem.mp hn i j k1 k2 h)
  · exact h
  · exact absurd (e2.trans e1.symm) (List.pairwise_iff_getElem.mp hn j i k2 k1 h)

/-- the data of a value, and the step that freezes it -/
theorem toDat_sound {B : Heap} {L : Addr} {π β : List Addr} {s : Shared} {σ σ' : Sto} {v : Val} {d : Dat} {v' : Value} (S : Sim B π s.heap σ β) (r : RelV s.heap π β σ v v') (e : toDat v σ = .val d σ') :
    Rep s.heap (grow π σ' β) d v' ∧ Ok B π L β s s σ σ' := by
  cases v with
  | dat d' => simp only [toDat] at e; cases e; exact ⟨r, Ok.refl S⟩
  | ref k =>
    simp only [toDat] at e
    cases hk : σ[k]? with
    | none => rw [hk] at e; cases e
    | some en =>
      rw [hk] at e; cases e
      obtain ⟨a, ha, rfl⟩ := r
      refine ⟨?_, Ok.freeze S hk⟩
      obtain ⟨vs, hp, hr⟩ := S.ent k en a hk ha
      have hr' := Reps.mono (γ' := grow π (σ.set k (false, en.2)) β) (fun a o xs n ho hd ha => ⟨fun q => ha (grow_mono mem_grow_set q), ho⟩) hr
      simp only [Rep]
      refine ⟨a, vs, rfl, fun q => ?_, hp.isList, hr'⟩
      rcases mem_grow.mp q with q | q
      · exact (S.priv a q).2 (List.mem_of_getElem? ha)
      · obtain ⟨j, l, h1, h2⟩ := mem_growS.mp q
        have hjk := nodup_get S.nodup ha h2
        subst hjk
        rw [List.getElem?_set_self (List.getElem?_eq_some_iff.mp hk).1] at h1
        cases h1
  | exc c => cases e

/-- reading: the outermost list may still grow -/
noncomputable def Seen (h : Heap) (γ : List Addr) : Dat → Value → Prop
  | .lst ds, v => ∃ a vs, v = .ref a ∧ h.IsList a vs ∧ Reps h γ ds vs.toList
  | .tup ds, v => ∃ a vs, v = .ref a ∧ h.IsTuple a vs ∧ Reps h γ ds vs.toList
  | d, v => Rep h γ d v

theorem Rep.seen {h : Heap} {γ : List Addr} {d : Dat} {v : Value} (r : Rep h γ d v) : Seen h γ d v := by
  cases d with
  | lst ds => simp only [Rep] at r; obtain ⟨a, vs, e, _, h1, h2⟩ := r; exact ⟨a, vs, e, h1, h2⟩
  | tup ds => simp only [Rep] at r; obtain ⟨a, vs, e, _, h1, h2⟩ := r; exact ⟨a, vs, e, h1, h2⟩
  | _ => exact r
theorem look_seen {B h : Heap} {π β : List Addr} {σ : Sto} {v : Val} {d : Dat} {v' : Value} (S : Sim B π h σ β) (r : RelV h π β σ v v') (e : look σ v = some d) : Seen h (grow π σ β) d v' := by
  cases v with
  | dat d' => simp only [look] at e; cases e; exact Rep.seen r
  | ref k =>
    simp only [look] at e
    cases hk : σ[k]? with
    | none => rw [hk] at e; cases e
    | some en =>
      rw [hk] at e; cases e
      obtain ⟨a, ha, rfl⟩ := r
      obtain ⟨vs, hp, hr⟩ := S.ent k en a hk ha
      exact ⟨a, vs, rfl, hp.isList, hr⟩
  | exc c => cases e
end Mine

/-! ## MBin -/
namespace Mine
open PySem PyProof.Rows

noncomputable def VPost (B : Heap) (π : List Addr) (L : Addr) (β : List Addr) (σ : Sto) (s : Shared) (d : Dat) (v' : Value) (s' : Shared) : Prop := Rep s'.heap (grow π σ β) d v' ∧ Ok B π L β s s' σ σ

theorem str_app (a b : List Nat) : (Str.mk a.toArray) ++ (Str.mk b.toArray) = Str.mk (a ++ b).toArray := by
  show Str.append _ _ = _
  simp [Str.append]
theorem str_len (a : List Nat) : (Str.mk a.toArray).length = a.length := by simp [Str.length]

section
variable {prog : Program} {w : World} {A : Around} {E : Value → Shared → Prop} {s : Shared} {B : Heap} {L : Addr} {π β : List Addr} {σ : Sto}

theorem vInt (S : Sim B π s.heap σ β) (i : Int) (t tk : Nat) : VPost B π L β σ s (.int i) (.int i t) { s with toks := tk } := ⟨⟨t, rfl⟩, Ok.toks S tk⟩
theorem vInt0 (S : Sim B π s.heap σ β) (i : Int) (t : Nat) : VPost B π L β σ s (.int i) (.int i t) s := ⟨⟨t, rfl⟩, Ok.refl S⟩
theorem vStr (S : Sim B π s.heap σ β) (x : List Nat) (t tk : Nat) : VPost B π L β σ s (.str x) (.str ⟨x.toArray⟩ t) { s with toks := tk } := ⟨⟨t, rfl⟩, Ok.toks S tk⟩
theorem vBool (S : Sim B π s.heap σ β) (b : Bool) : VPost B π L β σ s (.bool b) (.bool b) s := ⟨rfl, Ok.refl S⟩
theorem vBoolT (S : Sim B π s.heap σ β) (b : Bool) (tk : Nat) : VPost B π L β σ s (.bool b) (.bool b) { s with toks := tk } := ⟨rfl, Ok.toks S tk⟩

noncomputable def chkB (op : BOp) (o : Operator) : Bool := match op with
  | .add => (match o with | .Add => true | _ => false)
  | .sub => (match o with | .Sub => true | _ => false)
  | .mul => (match o with | .Mult => true | _ => false)
  | .fdiv => (match o with | .FloorDiv => true | _ => false)
  | .mod => (match o with | .Mod => true | _ => false)
  | .pow => (match o with | .Pow => true | _ => false)

theorem shortInt_bits {a : Int} (h : shortInt a = true) : Builtin.Int.intBits a ≤ 64 := by
  simp only [shortInt, decide_eq_true_eq] at h
  exact intBits_le_64 (by omega) (by omega)

theorem flat_rep (a : List Nat) (n : Nat) : (List.replicate n a.toArray).foldl (· ++ ·) #[] = ((List.replicate n a).flatten).toArray := by
  suffices h : ∀ acc : Array Nat, (List.replicate n a.toArray).foldl (· ++ ·) acc = acc ++ ((List.replicate n a).flatten).toArray by simpa using h #[]
  induction n with
  | zero => intro acc; simp
  | succ n ih => intro acc; rw [List.replicate_succ, List.foldl_cons, ih]; simp [List.replicate_succ]

theorem txt_mul (a : List Nat) (n : Int) : Txt.mul ⟨a.toArray⟩ n = ⟨((List.replicate n.toNat a).flatten).toArray⟩ := by
  unfold Txt.mul
  split
  · rename_i h
    have : n.toNat = 0 := by omega
    simp [this]; rfl
  · split
    · rename_i h1 h2
      simp only [Bool.or_eq_true, beq_iff_eq] at h2
      rcases h2 with h2 | h2
      · subst h2; simp
      · have : a = [] := by simpa [Str.length] using h2
        subst this; simp
    · rw [flat_rep]

/-- a list, n times -/
theorem mul_list_any {l : Addr} {vs : Array Value} {x : Int} {u : Tok} {Q : Value → Shared → Prop} (hl : s.heap.IsList l vs) (hlo : -(2 ^ 63 : Int) ≤ x) (hhi : x < 2 ^ 63) (hsz : vs.size * x.toNat ≤ 2 ^ 24)
    (h : Q (.ref s.heap.objs.size) { s with heap := s.heap.push { cls := .type "list", data := .seq (List.replicate x.toNat vs.toList).flatten.toArray } }) : wpAny (model prog w) A (binaryOp .Mult (.ref l) (.int x u)) Q E s := by
  obtain ⟨⟨cls, d, data, sl⟩, ho, hcl, k, hd⟩ := id hl
  simp only at hcl hd
  subst hcl hd
  refine wpAny_binaryOp_repeat_ref (T := "list") (U := "int") (by decide) ⟨_, ho, rfl⟩ (fun s' => typeIs_int s' x u) noFill_list_mul PySem.F.fills_int_mul PySem.F.slot_int_rmul repeat_list PySem.F.slot_int_index.lookup
    (call_meets PySem.F.slot_int_rmul (typeIs_int s x u) PySem.F.entry_int_rmul (PySem.F.args_int_rmul_2 _ _) (lm_int_rmul_list_any x u l vs k d sl)
      ⟨ho, rfl, ⟨_, ho, rfl⟩, call_meets PySem.F.slot_list_mul ⟨_, ho, rfl⟩ PySem.F.entry_list_mul (PySem.F.args_list_mul_2 _ _)
        (lm_list_mul_any l vs k d sl x u (by simp [Builtin.List.listFitsIndex]; omega) (by omega) (by simp [Builtin.List.listTooLong, sizeLine]; omega))
        ⟨ho, ?_⟩⟩)
  rw [listMul_foldl_if]
  exact h
theorem Reps.rep {h : Heap} {γ : List Addr} {ds : List Dat} {vs : List Value} (r : Reps h γ ds vs) : ∀ n : Nat, Reps h γ (List.replicate n ds).flatten (List.replicate n vs).flatten
  | 0 => by simp [Reps]
  | n + 1 => by simp only [List.replicate_succ, List.flatten_cons]; exact r.append (Reps.rep r n)

theorem bin2_sound {op : BOp} {op' : Operator} {a b d : Dat} {va vb : Value} (S : Sim B π s.heap σ β) (hop : chkB op op' = true) (ha : Seen s.heap (grow π σ β) a va) (hb : Seen s.heap (grow π σ β) b vb) (e : bin2 op a b = some d) :
    wpAny (model prog w) A (binaryOp op' va vb) (VPost B π L β σ s d) E s := by
  have hij : ∀ {i j : Int}, a = .int i → b = .int j → ∃ t u, va = .int i t ∧ vb = .int j u := by
    rintro i j rfl rfl
    obtain ⟨t, rfl⟩ := ha; obtain ⟨u, rfl⟩ := hb; exact ⟨t, u, rfl, rfl⟩
  cases op <;> cases op' <;> first | exact nof hop | skip
  · -- add
    cases a <;> cases b <;> first | exact nos e | skip
    · cases Option.some.inj e
      obtain ⟨t, u, rfl, rfl⟩ := hij rfl rfl
      exact add_int (vInt S _ _ _)
    · rename_i x y
      · obtain ⟨hsz, e⟩ := iff_some e
        cases e
        obtain ⟨t, rfl⟩ := ha; obtain ⟨u, rfl⟩ := hb
        refine add_str (fun t' tk => ?_) (by rw [str_len, str_len]; show _ ≤ 2 ^ 24; omega)
        rw [str_app]; exact vStr S _ _ _
    · rename_i x y
      · obtain ⟨hsz, e⟩ := iff_some e
        cases e
        obtain ⟨la, va, rfl, hl, hr⟩ := ha
        obtain ⟨lb, vb, rfl, hl', hr'⟩ := hb
        obtain ⟨⟨cls, dd, data, sl⟩, ho, hc, n, hd⟩ := id hl
        obtain ⟨⟨cls2, dd2, data2, sl2⟩, ho2, hc2, n2, hd2⟩ := id hl'
        simp only at hc hd hc2 hd2
        subst hc hd hc2 hd2
        have h1 := hr.length
        have h2 := hr'.length
        refine concat_meets ⟨_, ho, rfl⟩ ⟨_, ho2, rfl⟩ noFill_list_add seq_list_add PySem.F.slot_list_add PySem.F.entry_list_add (PySem.F.args_list_add_2 _ _) (list_addW la lb va vb n n2 dd dd2 sl sl2 (by simp only [Array.length_toList] at h1 h2; show _ ≤ 2 ^ 24; omega)) ⟨ho, ho2, ?_⟩
        have q : va ++ vb = (va.toList ++ vb.toList).toArray := by simp
        rw [q]
        exact ⟨Rep.newList (hr.append hr') S.fresh, Ok.push S _⟩
  · -- sub
    cases a <;> cases b <;> first | exact nos e | skip
    cases Option.some.inj e
    obtain ⟨t, u, rfl, rfl⟩ := hij rfl rfl
    exact sub_int (vInt S _ _ _)
  · -- mul
    cases a <;> cases b <;> first | exact nos e | skip
    · rename_i x y
      · obtain ⟨hsz, e⟩ := iff_some e
        cases e
        obtain ⟨t, u, rfl, rfl⟩ := hij rfl rfl
        refine PyProof.Rows.mul_int (vInt S _ _ _) ?_
        simp only [Bool.or_eq_true] at hsz
        rcases hsz with h | h
        · exact IntMulOk.of_left (shortInt_bits h)
        · exact IntMulOk.of_right (shortInt_bits h)
    · rename_i x n
      · obtain ⟨hsz, e⟩ := iff_some e
        cases e
        obtain ⟨t, rfl⟩ := ha; obtain ⟨u, rfl⟩ := hb
        refine SB.mul ⟨?_, ?_, ?_⟩ fun t' k => ?_
        · simp; omega
        · intro h1 h2
          rw [str_len]
          have h3 : (x.length : Int) ≤ 1000000 ∨ n.toNat = 0 := by
            rcases Nat.eq_zero_or_pos n.toNat with h | h
            · exact .inr h
            · left
              have := Nat.le_trans (Nat.le_mul_of_pos_right x.length h) hsz.1
              omega
          have h4 : (1000000 : Int) ≤ (2 ^ 63 - 1) / n := by
            rw [Int.le_ediv_iff_mul_le (by omega)]
            omega
          omega
        · intro h1 h2
          rw [str_len]
          simp [Builtin.Str.tooLong, sizeLine]
          omega
        · rw [txt_mul]; exact vStr S _ _ _
    · rename_i x n
      obtain ⟨hsz, e⟩ := iff_some e
      cases e
      obtain ⟨la, va, rfl, hl, hr⟩ := ha
      obtain ⟨u, rfl⟩ := hb
      have h1 := hr.length
      simp only [Array.length_toList] at h1
      refine mul_list_any hl (by omega) (by omega) (by rw [← h1]; omega) ?_
      exact ⟨Rep.newList (hr.rep _) S.fresh, Ok.push S _⟩
  · -- fdiv
    cases a <;> cases b <;> first | exact nos e | skip
    rename_i x y
    · obtain ⟨hsz, e⟩ := iff_some e
      cases e
      obtain ⟨t, u, rfl, rfl⟩ := hij rfl rfl
      refine floordiv_int (by omega) ?_ (.inl ?_)
      · rw [Int.fdiv_eq_ediv_of_nonneg _ (by omega)]; exact vInt S _ _ _
      · refine PyProof.noPylong_of_log2 ?_
        have : y.natAbs < 2 ^ 64 := by omega
        have := (Nat.log2_lt (n := y.natAbs) (k := 64) (by omega)).mpr this
        omega
  · -- mod
    cases a <;> cases b <;> first | exact nos e | skip
    rename_i x y
    · obtain ⟨hsz, e⟩ := iff_some e
      cases e
      obtain ⟨t, u, rfl, rfl⟩ := hij rfl rfl
      refine mod_int' (by omega) ?_
      rw [Int.fmod_eq_emod_of_nonneg _ (by omega)]; exact vInt S _ _ _
  · -- pow
    cases a <;> cases b <;> first | exact nos e | skip
    rename_i x y
    obtain ⟨⟨rfl, rfl⟩, e⟩ := iff_some e
    cases e
    obtain ⟨t, u, rfl, rfl⟩ := hij rfl rfl
    exact PySem.AutoIntOps.pow_4 (by decide) (by decide) (by decide) (by decide) (by decide +kernel) (vInt S _ _ _)

theorem neg_sound {a : Int} {va : Value} (S : Sim B π s.heap σ β) (ha : Seen s.heap (grow π σ β) (.int a) va) :
    wpAny (model prog w) A (unaryOp .USub va) (VPost B π L β σ s (.int (-a))) E s := by
  obtain ⟨t, rfl⟩ := ha
  exact P.neg_int (vInt S _ _ _)
end
end Mine

/-! ## MCmp -/
namespace Mine
open PySem PyProof.Rows

mutual
noncomputable def toPy : Dat → PyData
  | .none => .none
  | .bool b => .bool b
  | .int i => .int i
  | .str s => .str ⟨s.toArray⟩
  | .tup l => .tuple (toPys l)
  | .lst l => .list (toPys l)
noncomputable def toPys : List Dat → List PyData
  | [] => []
  | d :: ds => toPy d :: toPys ds
end

mutual
theorem Rep.reads {h : Heap} {γ : List Addr} : ∀ {d : Dat} {v : Value}, Rep h γ d v → ∃ as, Reads h v (toPy d) as
  | .none, v, r => by simp only [Rep] at r; subst r; exact ⟨_, Reads.none⟩
  | .bool b, v, r => by simp only [Rep] at r; subst r; exact ⟨_, Reads.bool b⟩
  | .int i, v, r => by simp only [Rep] at r; obtain ⟨t, rfl⟩ := r; exact ⟨_, Reads.int i t⟩
  | .str s, v, r => by simp only [Rep] at r; obtain ⟨t, rfl⟩ := r; exact ⟨_, Reads.str _ t⟩
  | .tup ds, v, r => by
    simp only [Rep] at r
    obtain ⟨a, vs, rfl, _, ⟨o, ho, hc, n, hd⟩, hr⟩ := r
    obtain ⟨as, q⟩ := Reps.reads hr
    exact ⟨_, Reads.tuple ho hc hd q⟩
  | .lst ds, v, r => by
    simp only [Rep] at r
    obtain ⟨a, vs, rfl, _, ⟨o, ho, hc, n, hd⟩, hr⟩ := r
    obtain ⟨as, q⟩ := Reps.reads hr
    exact ⟨_, Reads.list ho hc hd q⟩
theorem Reps.reads {h : Heap} {γ : List Addr} : ∀ {ds : List Dat} {vs : List Value}, Reps h γ ds vs → ∃ as, ReadsAll h vs (toPys ds) as
  | [], [], _ => ⟨_, ReadsAll.nil⟩
  | d :: ds, v :: vs, r => by
    simp only [Reps] at r
    obtain ⟨as, q⟩ := Rep.reads r.1
    obtain ⟨bs, q'⟩ := Reps.reads r.2
    exact ⟨_, ReadsAll.cons q q'⟩
  | [], _ :: _, r => by simp only [Reps] at r
  | _ :: _, [], r => by simp only [Reps] at r
end
theorem Seen.reads {h : Heap} {γ : List Addr} {d : Dat} {v : Value} (r : Seen h γ d v) : ∃ as, Reads h v (toPy d) as := by
  cases d with
  | tup ds =>
    obtain ⟨a, vs, rfl, ⟨o, ho, hc, n, hd⟩, hr⟩ := r
    obtain ⟨as, q⟩ := Reps.reads hr
    exact ⟨_, Reads.tuple ho hc hd q⟩
  | lst ds =>
    obtain ⟨a, vs, rfl, ⟨o, ho, hc, n, hd⟩, hr⟩ := r
    obtain ⟨as, q⟩ := Reps.reads hr
    exact ⟨_, Reads.list ho hc hd q⟩
  | none => exact Rep.reads (d := .none) (γ := γ) r
  | bool b => exact Rep.reads (d := .bool b) (γ := γ) r
  | int i => exact Rep.reads (d := .int i) (γ := γ) r
  | str x => exact Rep.reads (d := .str x) (γ := γ) r

mutual
theorem fine_py : ∀ d : Dat, (toPy d).canLay0 = fineD d
  | .none => rfl
  | .bool _ => rfl
  | .int _ => rfl
  | .str s => by simp [toPy, PyData.canLay0, PyData.strOk, fineD]
  | .tup l => by simp only [toPy, PyData.canLay0, fineD]; exact fine_pys l
  | .lst l => by simp only [toPy, PyData.canLay0, fineD]; exact fine_pys l
theorem fine_pys : ∀ ds : List Dat, PyData.canLayAll0 (toPys ds) = fineDs ds
  | [] => rfl
  | d :: ds => by simp only [toPys, PyData.canLayAll0, fineDs, fine_py d, fine_pys ds]
end
mutual
theorem depth_py : ∀ d : Dat, (toPy d).depth = depthD d
  | .none => rfl
  | .bool _ => rfl
  | .int _ => rfl
  | .str s => rfl
  | .tup l => by simp only [toPy, PyData.depth, depthD]; rw [depth_pys l]
  | .lst l => by simp only [toPy, PyData.depth, depthD]; rw [depth_pys l]
theorem depth_pys : ∀ ds : List Dat, PyData.depthAll (toPys ds) = depthDs ds
  | [] => rfl
  | d :: ds => by simp only [toPys, PyData.depthAll, depthDs, depth_py d, depth_pys ds]
end
theorem shaped_py {d : Dat} (h : okD d = true) : SeqAt.shaped (toPy d) = true := by
  simp only [okD, Bool.and_eq_true, decide_eq_true_eq] at h
  unfold SeqAt.shaped
  rw [fine_py, depth_py, h.1, Bool.true_and]
  exact decide_eq_true (by omega)

theorem str_beq (a b : List Nat) : (Str.mk a.toArray == Str.mk b.toArray) = (a == b) := by
  by_cases h : a = b
  · subst h; simp
  · have h2 : Str.mk a.toArray ≠ Str.mk b.toArray := by
      intro q; apply h
      have := congrArg (fun x : Str => x.cps.toList) q
      simpa using this
    rw [beq_eq_false_iff_ne.mpr h, beq_eq_false_iff_ne.mpr h2]

mutual
theorem eqv_py : ∀ (a b : Dat) {r : Bool}, eqD a b = some r → PyData.eqv (toPy a) (toPy b) = r
  | .none, b, r, h => by cases b <;> simp [eqD] at h <;> simp [toPy, PyData.eqv, h]
  | .bool x, b, r, h => by cases b <;> simp [eqD] at h <;> simp [toPy, PyData.eqv, h]
  | .int x, b, r, h => by cases b <;> simp [eqD] at h <;> simp [toPy, PyData.eqv, h]
  | .str x, b, r, h => by
    cases b <;> simp only [eqD, Option.some.injEq] at h <;> simp only [toPy, PyData.eqv, str_beq, h]
    all_goals first | exact h | skip
  | .tup x, b, r, h => by
    cases b <;> simp only [eqD, Option.some.injEq] at h <;> simp only [toPy, PyData.eqv]
    all_goals first | exact h | exact eqv_pys _ _ h
  | .lst x, b, r, h => by
    cases b <;> simp only [eqD, Option.some.injEq] at h <;> simp only [toPy, PyData.eqv]
    all_goals first | exact h | exact eqv_pys _ _ h
theorem eqv_pys : ∀ (as bs : List Dat) {r : Bool}, eqDs as bs = some r → PyData.eqvAll (toPys as) (toPys bs) = r
  | [], [], r, h => by simp [eqDs] at h; simp [toPys, PyData.eqvAll, h]
  | [], _ :: _, r, h => by simp [eqDs] at h; simp [toPys, PyData.eqvAll, h]
  | _ :: _, [], r, h => by simp [eqDs] at h; simp [toPys, PyData.eqvAll, h]
  | a :: as, b :: bs, r, h => by
    simp only [eqDs] at h
    simp only [toPys, PyData.eqvAll]
    cases q : eqD a b with
    | none => rw [q] at h; cases h
    | some t =>
      rw [q] at h
      rw [eqv_py a b q]
      cases t with
      | true => simp only at h; rw [Bool.true_and]; exact eqv_pys as bs h
      | false => simp only [Option.some.injEq] at h; rw [Bool.false_and]; exact h
end
theorem any_py (x : Dat) : ∀ (l : List Dat) {r : Bool}, inDs x l = some r → ((toPys l).any fun y => PyData.eqv y (toPy x)) = r
  | [], r, h => by simp [inDs] at h; simp [toPys, h]
  | y :: ys, r, h => by
    simp only [inDs] at h
    simp only [toPys, List.any_cons]
    cases q : eqD y x with
    | none => rw [q] at h; cases h
    | some t =>
      rw [q] at h
      rw [eqv_py y x q]
      cases t with
      | true => simp only [Option.some.injEq] at h; rw [Bool.true_or]; exact h
      | false => simp only at h; rw [Bool.false_or]; exact any_py x ys h

noncomputable def chkCmp (op : COp) (o : CmpOp) : Bool := match op with
  | .eq => (match o with | .Eq => true | _ => false)
  | .ne => (match o with | .NotEq => true | _ => false)
  | .lt => (match o with | .Lt => true | _ => false)
  | .le => (match o with | .LtE => true | _ => false)
  | .gt => (match o with | .Gt => true | _ => false)
  | .ge => (match o with | .GtE => true | _ => false)
  | .is => (match o with | .Is => true | _ => false)
  | .isnot => (match o with | .IsNot => true | _ => false)
  | .isin => (match o with | .In => true | _ => false)
  | .notin => (match o with | .NotIn => true | _ => false)

section
variable {prog : Program} {w : World} {A : Around} {E : Value → Shared → Prop} {s : Shared} {B : Heap} {L : Addr} {π β : List Addr} {σ : Sto}

theorem notNone_of_seen {h : Heap} {γ : List Addr} {d : Dat} {v : Value} (r : Seen h γ d v) : (v == Value.none) = (match d with | .none => true | _ => false) := by
  cases d with
  | none => have r : v = Value.none := r; subst r; rfl
  | bool b => have r : v = .bool b := r; subst r; rfl
  | int i => obtain ⟨t, rfl⟩ := r; rfl
  | str x => obtain ⟨t, rfl⟩ := r; rfl
  | tup l => obtain ⟨a, vs, rfl, _⟩ := r; rfl
  | lst l => obtain ⟨a, vs, rfl, _⟩ := r; rfl

theorem in_sound {a b : Dat} {va vb : Value} {r : Bool} (ha : Seen s.heap (grow π σ β) a va) (hb : Seen s.heap (grow π σ β) b vb) (hu : A.units + 200 < cLine) (e : inD a b = some r) {Q : Value → Shared → Prop} (q : Q (.bool r) s) :
    wpAny (model prog w) A (compareOp .In va vb) Q E s := by
  cases b with
  | lst l =>
    simp only [inD] at e
    split at e
    · rename_i hok
      simp only [Bool.and_eq_true] at hok
      obtain ⟨as, ra⟩ := ha.reads
      obtain ⟨bs, rb⟩ := hb.reads
      have h1 := hok.1; have h2 := hok.2
      simp only [okD, fineD, depthD, Bool.and_eq_true, decide_eq_true_eq] at h1 h2
      refine SeqAt.in_list_reads rb ra (by rw [fine_pys]; exact h2.1) (by rw [fine_py]; exact h1.1) ?_ (by rw [any_py a l e]; exact q)
      rw [depth_pys, depth_py]; omega
    · cases e
  | tup l =>
    simp only [inD] at e
    split at e
    · rename_i hok
      simp only [Bool.and_eq_true] at hok
      obtain ⟨as, ra⟩ := ha.reads
      obtain ⟨bs, rb⟩ := hb.reads
      have h1 := hok.1; have h2 := hok.2
      simp only [okD, fineD, depthD, Bool.and_eq_true, decide_eq_true_eq] at h1 h2
      refine SeqAt.in_tuple_reads rb ra (by rw [fine_pys]; exact h2.1) (by rw [fine_py]; exact h1.1) ?_ (by rw [any_py a l e]; exact q)
      rw [depth_pys, depth_py]; omega
    · cases e
  | str x =>
    obtain ⟨u, rfl⟩ := hb
    simp only [inD] at e
    split at e
    · rename_i c
      obtain ⟨t, rfl⟩ := ha
      cases e
      refine in_str ?_
      have := StrLaws.found_one ⟨x.toArray⟩ c
      rw [this]
      simpa [List.contains_eq_mem] using q
    · cases e
  | none => simp [inD] at e
  | bool _ => simp [inD] at e
  | int _ => simp [inD] at e
theorem notin_sound {a b : Dat} {va vb : Value} {r : Bool} (ha : Seen s.heap (grow π σ β) a va) (hb : Seen s.heap (grow π σ β) b vb) (hu : A.units + 200 < cLine) (e : inD a b = some r) {Q : Value → Shared → Prop} (q : Q (.bool (!r)) s) :
    wpAny (model prog w) A (compareOp .NotIn va vb) Q E s := by
  cases b with
  | lst l =>
    simp only [inD] at e
    split at e
    · rename_i hok
      simp only [Bool.and_eq_true] at hok
      obtain ⟨as, ra⟩ := ha.reads
      obtain ⟨bs, rb⟩ := hb.reads
      have h1 := hok.1; have h2 := hok.2
      simp only [okD, fineD, depthD, Bool.and_eq_true, decide_eq_true_eq] at h1 h2
      refine SeqAt.notIn_list_reads rb ra (by rw [fine_pys]; exact h2.1) (by rw [fine_py]; exact h1.1) ?_ (by rw [any_py a l e]; exact q)
      rw [depth_pys, depth_py]; omega
    · cases e
  | tup l =>
    simp only [inD] at e
    split at e
    · rename_i hok
      simp only [Bool.and_eq_true] at hok
      obtain ⟨as, ra⟩ := ha.reads
      obtain ⟨bs, rb⟩ := hb.reads
      have h1 := hok.1; have h2 := hok.2
      simp only [okD, fineD, depthD, Bool.and_eq_true, decide_eq_true_eq] at h1 h2
      refine SeqAt.notIn_tuple_reads rb ra (by rw [fine_pys]; exact h2.1) (by rw [fine_py]; exact h1.1) ?_ (by rw [any_py a l e]; exact q)
      rw [depth_pys, depth_py]; omega
    · cases e
  | str x =>
    obtain ⟨u, rfl⟩ := hb
    simp only [inD] at e
    split at e
    · rename_i c
      obtain ⟨t, rfl⟩ := ha
      cases e
      refine notIn_str ?_
      have := StrLaws.found_one ⟨x.toArray⟩ c
      rw [this]
      simpa [List.contains_eq_mem] using q
    · cases e
  | none => simp [inD] at e
  | bool _ => simp [inD] at e
  | int _ => simp [inD] at e

theorem cmp2_sound {op : COp} {op' : CmpOp} {a b : Dat} {va vb : Value} {r : Bool} (hop : chkCmp op op' = true) (ha : Seen s.heap (grow π σ β) a va) (hb : Seen s.heap (grow π σ β) b vb) (hu : A.units + 200 < cLine) (e : cmp2 op a b = some r)
    {Q : Value → Shared → Prop} (q : Q (.bool r) s) : wpAny (model prog w) A (compareOp op' va vb) Q E s := by
  cases op <;> cases op' <;> first | exact nof hop | skip
  · have e : eq2 a b = some r := e
    · obtain ⟨hok, e⟩ := iff_some e
      have hok := Bool.and_eq_true_iff.mp hok
      obtain ⟨as, ra⟩ := ha.reads
      obtain ⟨bs, rb⟩ := hb.reads
      exact eq_dataH ra rb (shaped_py hok.1) (shaped_py hok.2) (by omega) (by rw [eqv_py a b e]; exact q)
  · have e : (eq2 a b).map (!·) = some r := e
    · obtain ⟨t, h, e⟩ := Option.map_eq_some_iff.mp e
      obtain ⟨hok, h⟩ := iff_some h
      have hok := Bool.and_eq_true_iff.mp hok
      obtain ⟨as, ra⟩ := ha.reads
      obtain ⟨bs, rb⟩ := hb.reads
      cases e
      exact ne_dataH ra rb (shaped_py hok.1) (shaped_py hok.2) (by omega) (by rw [eqv_py a b h]; exact q)
  · cases a <;> cases b <;> first | exact nos e | skip
    cases Option.some.inj e
    obtain ⟨t, rfl⟩ := ha
    obtain ⟨u, rfl⟩ := hb
    exact lt_int q
  · cases a <;> cases b <;> first | exact nos e | skip
    cases Option.some.inj e
    obtain ⟨t, rfl⟩ := ha
    obtain ⟨u, rfl⟩ := hb
    exact le_int q
  · cases a <;> cases b <;> first | exact nos e | skip
    cases Option.some.inj e
    obtain ⟨t, rfl⟩ := ha
    obtain ⟨u, rfl⟩ := hb
    exact gt_int q
  · cases a <;> cases b <;> first | exact nos e | skip
    cases Option.some.inj e
    obtain ⟨t, rfl⟩ := ha
    obtain ⟨u, rfl⟩ := hb
    exact ge_int q
  · cases b <;> first | exact nos e | skip
    have hb : vb = Value.none := hb
    subst hb
    cases Option.some.inj e
    exact is_none_gen (by rw [notNone_of_seen ha]; cases a <;> exact q)
  · cases b <;> first | exact nos e | skip
    have hb : vb = Value.none := hb
    subst hb
    cases Option.some.inj e
    exact isnot_none_gen (by rw [notNone_of_seen ha]; cases a <;> exact q)
  · exact in_sound ha hb hu e q
  · have e : (inD a b).map (!·) = some r := e
    obtain ⟨t, h, e⟩ := Option.map_eq_some_iff.mp e
    cases e
    exact notin_sound ha hb hu h q
end
end Mine

/-! ## MPrim -/
namespace Mine
open PySem PyProof.Rows

section
variable {prog : Program} {w : World} {A : Around} {E : Value → Shared → Prop} {s : Shared} {B : Heap} {L : Addr} {π β : List Addr} {σ : Sto}

theorem Reps.size {h : Heap} {γ : List Addr} {ds : List Dat} {vs : Array Value} (r : Reps h γ ds vs.toList) : ds.length = vs.size := by
  have := r.length
  simpa using this
theorem sub_ty {a b : String} {r : Bool} (h : isSubtype (.type a) (.type b) = pure r) : isSubtype (.type a) (.type b) = pure r := h
/-! ### items and cuts -/
theorem place_index {n : Nat} {k : Int} {j : Nat} (h : place n k = some j) : seqIndex? k n = some j ∧ j < n ∧ (0 ≤ k → k.toNat = j) := by
  unfold place at h
  unfold seqIndex?
  split at h
  · split at h
    · cases h
      refine ⟨?_, by omega, fun _ => rfl⟩
      have h3 : ¬ k < 0 := by omega
      simp [*]
    · cases h
  · split at h
    · cases h
      rename_i h1 h2
      refine ⟨?_, by omega, fun h => absurd h (by omega)⟩
      have h3 : k < 0 := by omega
      have h4 : 0 ≤ k + (n : Int) := by omega
      have h5 : k + (n : Int) < n := by omega
      simp [*]
    · cases h

theorem item_sound {a b d : Dat} {va vb : Value} (S : Sim B π s.heap σ β) (ha : Seen s.heap (grow π σ β) a va) (hb : Seen s.heap (grow π σ β) b vb) (e : idx2 a b = some d) :
    wpAny (model prog w) A (getItem va vb) (VPost B π L β σ s d) E s := by
  cases a with
  | lst l =>
    cases b <;> first | exact nos e | skip
    rename_i k
    obtain ⟨t, rfl⟩ := hb
    obtain ⟨p, vs, rfl, hl, hr⟩ := ha
    obtain ⟨hsz, e⟩ := iff_some e
    · cases hp : place l.length k with
      | none => rw [hp] at e; cases e
      | some j =>
        rw [hp] at e
        obtain ⟨h1, h2, h3⟩ := place_index hp
        obtain ⟨v, hv, rv⟩ := hr.get e
        have hlen := hr.size
        rw [Array.getElem?_toList] at hv
        by_cases h0 : 0 ≤ k
        · refine wpAny_getItem_list hl h0 (by have := h3 h0; omega) (by rw [h3 h0]; exact hv) ⟨rv, Ok.refl S⟩
        · unfold place at hp
          rw [if_neg h0] at hp
          split at hp
          · cases hp
            refine wpAny_getItem_list_neg hl (by omega) (by rw [← hlen]; omega) (by omega) (by rw [← hlen]; exact hv) ⟨rv, Ok.refl S⟩
          · cases hp
  | tup l =>
    cases b <;> first | exact nos e | skip
    rename_i k
    obtain ⟨t, rfl⟩ := hb
    obtain ⟨p, vs, rfl, hl, hr⟩ := ha
    obtain ⟨hsz, e⟩ := iff_some e
    · cases hp : place l.length k with
      | none => rw [hp] at e; cases e
      | some j =>
        rw [hp] at e
        obtain ⟨h1, h2, h3⟩ := place_index hp
        obtain ⟨v, hv, rv⟩ := hr.get e
        have hlen := hr.size
        rw [Array.getElem?_toList] at hv
        have hb : -1000000 ≤ k ∧ k < 1000000 := by
          unfold place at hp
          split at hp
          · split at hp
            · omega
            · cases hp
          · split at hp
            · omega
            · cases hp
        exact PyProof.Rows.getItem_tuple hl (by omega) (by omega) (by rw [← hlen]; exact h1) hv ⟨rv, Ok.refl S⟩
  | str x =>
    cases b <;> first | exact nos e | skip
    rename_i k
    obtain ⟨t, rfl⟩ := hb
    obtain ⟨u, rfl⟩ := ha
    obtain ⟨hsz, e⟩ := iff_some e
    · cases hp : place x.length k with
      | none => rw [hp] at e; cases e
      | some j =>
        rw [hp] at e
        obtain ⟨h1, h2, h3⟩ := place_index hp
        have hb : -1000000 ≤ k ∧ k < 1000000 := by
          unfold place at hp
          split at hp
          · split at hp
            · omega
            · cases hp
          · split at hp
            · omega
            · cases hp
        simp only [Option.bind_some] at e
        cases hc : x[j]? with
        | none => rw [hc] at e; cases e
        | some c =>
          rw [hc] at e; cases e
          refine PyProof.Rows.getItem_str (c := c) ?_ ?_ (vStr S [c] _ _)
          · have : ¬ k < -(2 ^ 63 : Int) := by omega
            have : ¬ k ≥ 2 ^ 63 := by omega
            simp; omega
          · rw [str_len, h1]; simpa using hc
  | none => exact nos e
  | bool _ => exact nos e
  | int _ => exact nos e

/-! ### built-in functions of one argument -/
theorem len_sound {a d : Dat} {va : Value} (S : Sim B π s.heap σ β) (ha : Seen s.heap (grow π σ β) a va) (e : prim1 .len a = some d) :
    wpAny (model prog w) A (call (.builtin "len") [va]) (VPost B π L β σ s d) E s := by
  cases a <;> first | exact nos e | skip
  · obtain ⟨t, rfl⟩ := ha
    obtain ⟨hsz, e⟩ := iff_some e
    · cases e
      refine PyProof.Rows.len_str (by rw [str_len]; omega) ?_
      rw [str_len]; exact vInt S _ _ _
  · obtain ⟨p, vs, rfl, hl, hr⟩ := ha
    have hlen := hr.size
    obtain ⟨hsz, e⟩ := iff_some e
    · cases e
      refine PyProof.Rows.len_tuple hl (by omega) ?_
      rw [← hlen]; exact vInt S _ _ _
  · obtain ⟨p, vs, rfl, hl, hr⟩ := ha
    have hlen := hr.size
    obtain ⟨hsz, e⟩ := iff_some e
    · cases e
      refine Calls.call_len_list hl (by omega) ?_
      rw [← hlen]; exact vInt S _ _ _

theorem abs_sound {i : Int} {va : Value} (S : Sim B π s.heap σ β) (ha : Seen s.heap (grow π σ β) (.int i) va) :
    wpAny (model prog w) A (call (.builtin "abs") [va]) (VPost B π L β σ s (.int i.natAbs)) E s := by
  obtain ⟨t, rfl⟩ := ha
  refine call_abs_int fun u tk => ?_
  have : (if i < 0 then -i else i) = (i.natAbs : Int) := by split <;> omega
  rw [this]; exact vInt S _ _ _

theorem bool_items {l : List Bool} {vs : List Value} {h : Heap} {γ : List Addr} (hr : Reps h γ (l.map .bool) vs) {i : Nat} {v : Value} (hv : vs[i]? = some v) : v = .bool (l.getD i false) ∧ i < l.length := by
  have hlen := hr.length
  have hi : i < vs.length := (List.getElem?_eq_some_iff.mp hv).1
  have hi' : i < l.length := by simpa [← hlen] using hi
  obtain ⟨v', hv', r⟩ := hr.get (i := i) (d := .bool l[i]) (by simp [hi'])
  rw [hv] at hv'; cases hv'
  have r : v = .bool l[i] := r
  exact ⟨by rw [r]; simp [List.getD, hi'], hi'⟩
theorem range_any (l : List Bool) : (List.range l.length).any (fun i => l.getD i false) = l.any id := by
  rw [Bool.eq_iff_iff]
  simp only [List.any_eq_true, List.mem_range, id]
  constructor
  · rintro ⟨i, hi, h⟩
    exact ⟨l[i], List.getElem_mem hi, by simpa [List.getD, hi] using h⟩
  · rintro ⟨b, hb, rfl⟩
    obtain ⟨i, hi, e⟩ := List.mem_iff_getElem.mp hb
    exact ⟨i, hi, by simp [List.getD, hi, e]⟩
theorem range_all (l : List Bool) : (List.range l.length).all (fun i => l.getD i false) = l.all id := by
  rw [Bool.eq_iff_iff]
  simp only [List.all_eq_true, List.mem_range, id]
  constructor
  · intro h b hb
    obtain ⟨i, hi, e⟩ := List.mem_iff_getElem.mp hb
    have := h i hi
    rw [← e]; simpa [List.getD, hi] using this
  · intro h i hi
    simpa [List.getD, hi] using h l[i] (List.getElem_mem hi)

theorem all_sound {l : List Bool} {va : Value} (hh : A.handled = none) (S : Sim B π s.heap σ β) (ha : Seen s.heap (grow π σ β) (.lst (l.map .bool)) va) :
    wpAny (model prog w) A (call (.builtin "all") [va]) (VPost B π L β σ s (.bool (l.all id))) E s := by
  obtain ⟨p, vs, rfl, hl, hr⟩ := ha
  have hlen := hr.size
  rw [List.length_map] at hlen
  have hp : p ≠ s.heap.objs.size := fun q => by obtain ⟨o, ho, _⟩ := hl; exact Nat.lt_irrefl _ (q ▸ Heap.lt_size ho)
  refine call_all_walk (wpAny_pyIter_list hl ?_)
  refine ⟨_, _, _, _, _, _, fun i => l.getD i false, rfl, Walks.list (A := A.in1) hh s.heap.objs.size p hp vs, ⟨⟨_, Heap.get?_push_size _ rfl, rfl, rfl⟩, hl.push _⟩, ?_, ?_⟩
  · intro i v s' Q E' hP hQ
    obtain ⟨rfl, _⟩ := bool_items hr (by rw [Array.getElem?_toList]; exact hP)
    exact wpAny_truthy_bool hQ
  · intro h' tk hk
    rw [← hlen, range_all]
    exact ⟨rfl, Ok.keeps S ⟨_, _, rfl⟩ fun b o e => hk b o (fun q => by simp at q; exact Nat.lt_irrefl _ (q ▸ Heap.lt_size e)) (Heap.get?_push_of_some _ e)⟩

theorem max_sound {i j : Int} {va vb : Value} (hh : A.handled = none) (S : Sim B π s.heap σ β) (ha : Seen s.heap (grow π σ β) (.int i) va) (hb : Seen s.heap (grow π σ β) (.int j) vb) :
    wpAny (model prog w) A (call (.builtin "max") [va, vb]) (VPost B π L β σ s (.int (maxD i j))) E s := by
  obtain ⟨t, rfl⟩ := ha
  obtain ⟨u, rfl⟩ := hb
  refine max_two_ints hh fun h' tk hk => ?_
  have ok : Ok B π L β s { s with heap := h', toks := tk } σ σ := Ok.keeps S ⟨_, _, rfl⟩ hk
  unfold maxD
  split
  · exact ⟨⟨_, rfl⟩, ok⟩
  · exact ⟨⟨_, rfl⟩, ok⟩
theorem min_sound {i j : Int} {va vb : Value} (hh : A.handled = none) (S : Sim B π s.heap σ β) (ha : Seen s.heap (grow π σ β) (.int i) va) (hb : Seen s.heap (grow π σ β) (.int j) vb) :
    wpAny (model prog w) A (call (.builtin "min") [va, vb]) (VPost B π L β σ s (.int (minD i j))) E s := by
  obtain ⟨t, rfl⟩ := ha
  obtain ⟨u, rfl⟩ := hb
  refine min_two_ints hh fun h' tk hk => ?_
  have ok : Ok B π L β s { s with heap := h', toks := tk } σ σ := Ok.keeps S ⟨_, _, rfl⟩ hk
  unfold minD
  split
  · exact ⟨⟨_, rfl⟩, ok⟩
  · exact ⟨⟨_, rfl⟩, ok⟩

/-! ### isinstance -/
noncomputable def tyName : Ty → Option String
  | .bool => some "bool"
  | .int => some "int"
  | .str => some "str"
  | .tuple => some "tuple"
  | .list => some "list"
  | .own _ => none

theorem isinst_sound {t : Ty} {T : String} {d : Dat} {va : Value} (S : Sim B π s.heap σ β) (ht : tyName t = some T) (ha : Seen s.heap (grow π σ β) d va) :
    wpAny (model prog w) A (call (.builtin "isinstance") [va, .type T]) (VPost B π L β σ s (.bool (isTy t d))) E s := by
  cases d with
  | none =>
    have ha : va = Value.none := ha
    subst ha
    cases t <;> cases ht <;> exact call_isinstance (isinstance_false_none (by decide) (by kernel_rfl) (by kernel_rfl)) (vBoolT S _ _)
  | bool b =>
    have ha : va = Value.bool b := ha
    subst ha
    cases t <;> cases ht <;> first
      | exact call_isinstance (isinstance_false_bool (by decide) (by kernel_rfl) (by kernel_rfl)) (vBoolT S _ _)
      | exact call_isinstance (isinstance_true (Tx := "bool") (by kernel_rfl) (by kernel_rfl)) ⟨PySem.typeIs_bool s b, vBool S _⟩
  | int i =>
    obtain ⟨u, rfl⟩ := ha
    cases t <;> cases ht <;> first
      | exact call_isinstance (isinstance_false_int (by decide) (by kernel_rfl) (by kernel_rfl)) (vBoolT S _ _)
      | exact call_isinstance (isinstance_true (Tx := "int") (by kernel_rfl) (by kernel_rfl)) ⟨typeIs_int s i u, vBool S _⟩
  | str x =>
    obtain ⟨u, rfl⟩ := ha
    cases t <;> cases ht <;> first
      | exact call_isinstance (isinstance_false_str (by decide) (by kernel_rfl) (by kernel_rfl)) (vBoolT S _ _)
      | exact call_isinstance (isinstance_true (Tx := "str") (by kernel_rfl) (by kernel_rfl)) ⟨typeIs_str s _ u, vBool S _⟩
  | tup l =>
    obtain ⟨p, vs, rfl, ⟨o, ho, hc, n, hd⟩, hr⟩ := ha
    cases t <;> cases ht <;> first
      | exact call_isinstance (isinstance_false_tuple (by decide) (by kernel_rfl) (by kernel_rfl)) ⟨⟨o, ho, hc⟩, vBoolT S _ _⟩
      | exact call_isinstance (isinstance_true (Tx := "tuple") (by kernel_rfl) (by kernel_rfl)) ⟨⟨o, ho, hc⟩, vBool S _⟩
  | lst l =>
    obtain ⟨p, vs, rfl, ⟨o, ho, hc, n, hd⟩, hr⟩ := ha
    cases t <;> cases ht <;> first
      | exact call_isinstance (isinstance_false_list (by decide) (by kernel_rfl) (by kernel_rfl)) ⟨⟨o, ho, hc⟩, vBoolT S _ _⟩
      | exact call_isinstance (isinstance_true (Tx := "list") (by kernel_rfl) (by kernel_rfl)) ⟨⟨o, ho, hc⟩, vBool S _⟩
end
end Mine

/-! ## MText -/
namespace Mine
open PySem PySem.W PyProof.Rows Builtin Builtin.Str

/-! ### texts joined and split -/
theorem join_toList (sep : Str) : ∀ l : List Str, (Str.join sep l).cps.toList = joinC sep.cps.toList (l.map (·.cps.toList))
  | [] => rfl
  | [x] => rfl
  | x :: y :: r => by
    show (x ++ sep ++ Str.join sep (y :: r)).cps.toList = _
    rw [Str.cps_append, Str.cps_append, Array.toList_append, Array.toList_append, join_toList sep (y :: r)]
    rfl
theorem split_toList (x : Str) (c : Nat) : (Txt.split x ⟨#[c]⟩).map (·.cps.toList) = splitC c x.cps.toList := by
  have h1 := StrLaws.join_split x ⟨#[c]⟩
  have h2 := StrLaws.split_free x c
  have h3 := join_toList ⟨#[c]⟩ (Txt.split x ⟨#[c]⟩)
  rw [h1] at h3
  rw [h3]
  refine (splitC_join ?_ ?_).symm
  · have := split_pos x ⟨#[c]⟩
    intro e
    rw [List.map_eq_nil_iff] at e
    rw [e] at this
    exact absurd this (by decide)
  · intro p hp
    obtain ⟨q, hq, rfl⟩ := List.mem_map.mp hp
    exact h2 q hq

section
variable {prog : Program} {w : World} {A : Around} {E : Value → Shared → Prop} {s : Shared} {B : Heap} {L : Addr} {π β : List Addr} {σ : Sto}

theorem reps_strs {h : Heap} {γ : List Addr} : ∀ {ts : List (List Nat)} {vs : List Value}, Reps h γ (ts.map .str) vs → ∃ l : List (Str × Tok), vs = strValues l ∧ l.map (fun p => p.1) = ts.map fun x => (⟨x.toArray⟩ : Str)
  | [], [], _ => ⟨[], rfl, rfl⟩
  | [], _ :: _, h => by simp [Reps] at h
  | _ :: _, [], h => by simp [Reps] at h
  | x :: ts, v :: vs, h => by
    simp only [List.map_cons, Reps] at h
    obtain ⟨⟨t, rfl⟩, h2⟩ := h
    obtain ⟨l, rfl, e⟩ := reps_strs h2
    exact ⟨(⟨x.toArray⟩, t) :: l, rfl, by simp [e]⟩
theorem strs_reps {h : Heap} {γ : List Addr} : ∀ {l : List (Str × Tok)} {ts : List (List Nat)}, l.map (fun p => p.1.cps.toList) = ts → Reps h γ (ts.map .str) (strValues l)
  | [], _, rfl => by simp [Reps, strValues]
  | (⟨⟨x⟩⟩, t) :: l, _, rfl => by
    simp only [List.map_cons, strValues, Reps]
    exact ⟨⟨t, rfl⟩, strs_reps rfl⟩

theorem join_sound {x : List Nat} {ts : List (List Nat)} {t : Tok} {pos : Pos} {a : Sem Value} {Q : Value → Shared → Prop} (hsz : (ts.map List.length).sum + ts.length * x.length ≤ 1000000)
    (h : wpAny (model prog w) A a (fun v s₁ => ∃ γ, Seen s₁.heap γ (.lst (ts.map .str)) v ∧ ∀ t' k, Q (.str ⟨(joinC x ts).toArray⟩ t') { s₁ with toks := k }) E s) :
    MethodOnS prog w A E "join" (.str ⟨x.toArray⟩ t) pos [(false, a)] Q s := by
  refine SB.join (wpAny_mono h (fun v s₁ r => ?_) fun _ _ z => z)
  obtain ⟨γ, ⟨D, vs, rfl, hl, hr⟩, hq⟩ := r
  obtain ⟨l, e, e2⟩ := reps_strs hr
  refine ⟨D, l, rfl, by rw [← e]; exact hl, _, e2, ?_, fun t' k => ?_⟩
  · unfold JoinOk
    rw [StrLaws.joinTotal]
    have : ((ts.map fun x => (⟨x.toArray⟩ : Str)).map (·.length)) = ts.map List.length := by
      rw [List.map_map]; refine List.map_congr_left fun y _ => ?_; simp [Str.length]
    rw [this, List.length_map]
    have e3 : (⟨x.toArray⟩ : Str).length = x.length := by simp [Str.length]
    rw [e3]
    unfold tooLong sizeLine
    simp; omega
  · have : Txt.join ⟨x.toArray⟩ (ts.map fun x => (⟨x.toArray⟩ : Str)) = ⟨(joinC x ts).toArray⟩ := by
      show glued _ _ = _
      rw [StrLaws.glued_eq_join]
      have e4 := join_toList ⟨x.toArray⟩ (ts.map fun x => (⟨x.toArray⟩ : Str))
      rw [List.map_map] at e4
      have e5 : (ts.map ((fun z : Str => z.cps.toList) ∘ fun x => (⟨x.toArray⟩ : Str))) = ts := by
        simp [Function.comp_def]
      rw [e5] at e4
      apply Str.ext'
      apply Array.toList_inj.mp
      rw [e4]
    rw [this]
    exact hq t' k

theorem split_on {x y : Str} {t : Tok} {pos : Pos} {a : Sem Value} {Q : Value → Shared → Prop} (hx : x.length ≤ 1000000) (hy : (y.length == 0) = false)
    (h : wpAny (model prog w) A a (fun v s₁ => ∃ u, v = .str y u ∧ ∀ l tk, l.map (·.1) = Txt.split x y →
      Q (.ref s₁.heap.objs.size) { s₁ with toks := tk, heap := s₁.heap.push { cls := .type "list", data := .seq (strValues l).toArray } }) E s) :
    MethodOnS prog w A E "split" (.str x t) pos [(false, a)] Q s := by
  refine ⟨"str", _, F.plainAttrs_str, F.slot_str_split, F.type_str_split, typeIs_str _ _ _, (fun _ e => nomatch e),
    method1_meets F.slot_str_split F.entry_str_split (wpAny_mono h (fun v s₁ h₁ => ?_) fun _ _ e => e)⟩
  obtain ⟨u, rfl, hq⟩ := h₁
  refine ⟨typeIs_str _ _ _, F.args_str_split_2 _ _, ?_⟩
  have hsl : sizeLine = 16777216 := rfl
  cases h1 : (decide (x.length < y.length) || decide (strKind x < strKind y))
  · cases hf : (occurrences x y 0 x.length (x.length + 1)).isEmpty
    · have e : Txt.split x y = partsBetween x (occurrences x y 0 x.length (x.length + 1)) y.length := ((if_neg (ne_true_of_eq_false h1)).trans (if_neg (ne_true_of_eq_false hf)))
      have hn := split_le x y
      rw [e] at hn
      refine ⟨_, meets_str_split_sep x y t u h1 hy hf (by omega) (by omega), ?_⟩
      show wants Q E _ { s₁ with toks := _, heap := s₁.heap.push { cls := .type "list", data := .seq (strsFrom s₁.toks (partsBetween x (occurrences x y 0 x.length (x.length + 1)) y.length)).toArray } }
      rw [strsFrom_eq]
      exact hq (numbered s₁.toks _) _ ((numbered_texts _ _).trans e.symm)
    · exact ⟨_, meets_str_split_not_found x y t u h1 hy hf, hq [(x, t)] _ ((if_neg (ne_true_of_eq_false h1)).trans (if_pos hf)).symm⟩
  · exact ⟨_, meets_str_split_cannot_occur x y t u h1, hq [(x, t)] _ (if_pos h1).symm⟩

theorem int_text_sound {x : List Nat} {d : Dat} {va : Value} (S : Sim B π s.heap σ β) (ha : Seen s.heap (grow π σ β) (.str x) va) (e : intD (.str x) = some d) :
    wpAny (model prog w) A (call (.type "int") [va]) (VPost B π L β σ s d) E s := by
  obtain ⟨t, rfl⟩ := ha
  obtain ⟨⟨h1, h2, h3⟩, e⟩ := iff_some e
  cases e
  have hl : (⟨x.toArray⟩ : Str).length = x.length := by simp [Str.length]
  refine PySem.W.KIN.call_text (n := (figVal x : Nat)) ?_ (by omega) ⟨⟨_, rfl⟩, Ok.toks S _⟩
  refine PySem.intText_digits (x := ⟨x.toArray⟩) ?_ h1 (by omega)
  intro c hc
  exact of_decide_eq_true (List.all_eq_true.mp h3 c hc)
end
end Mine

/-! ## MChk -/
namespace Mine
open PySem PyProof.Rows

structure Cx where
  scope : Scope
  name : Nat → Option Str
  fn : Nat → Option Str
  con : Str → Option Dat
  top : Bool

/-- the module's constants, and the frame of the function that is being run -/
structure Con where
  tab : Str → Option Dat
  env0 : Env
  lone : Bool
/-- functions that catch an exception -/
noncomputable def isSp (f : Nat) : Bool := decide (1000 ≤ f)

noncomputable def Cx.isVar (cx : Cx) (x : Str) : Bool := cx.scope.names.lookup x == some .local || cx.scope.names.lookup x == some .cell
noncomputable def Cx.isGlob (cx : Cx) (x : Str) : Bool := cx.scope.names.lookup x == some .globalImplicit && !(x == ("__debug__" : Str))

/-- the built-ins that are used -/
noncomputable def bis : List (Str × Value) := [("len", .builtin "len"), ("abs", .builtin "abs"), ("any", .builtin "any"), ("all", .builtin "all"), ("max", .builtin "max"), ("min", .builtin "min"), ("sorted", .builtin "sorted"),
  ("isinstance", .builtin "isinstance"), ("list", .type "list"), ("range", .type "range"), ("int", .type "int"), ("str", .type "str"), ("bool", .type "bool"), ("tuple", .type "tuple"), ("reversed", .type "reversed"),
  ("enumerate", .type "enumerate"), ("zip", .type "zip"), ("ValueError", .type "ValueError")]

theorem bi_ValueError : (("ValueError" : Str), Value.type "ValueError") ∈ bis := .tail _ (.tail _ (.tail _ (.tail _ (.tail _ (.tail _ (.tail _ (.tail _ (.tail _ (.tail _ (.tail _ (.tail _ (.tail _ (.tail _ (.tail _ (.tail _ (.tail _ (.head _)))))))))))))))))
theorem bi_len : (("len" : Str), Value.builtin "len") ∈ bis := .head _
theorem bi_abs : (("abs" : Str), Value.builtin "abs") ∈ bis := .tail _ (.head _)
theorem bi_any : (("any" : Str), Value.builtin "any") ∈ bis := .tail _ (.tail _ (.head _))
theorem bi_all : (("all" : Str), Value.builtin "all") ∈ bis := .tail _ (.tail _ (.tail _ (.head _)))
theorem bi_max : (("max" : Str), Value.builtin "max") ∈ bis := .tail _ (.tail _ (.tail _ (.tail _ (.head _))))
theorem bi_min : (("min" : Str), Value.builtin "min") ∈ bis := .tail _ (.tail _ (.tail _ (.tail _ (.tail _ (.head _)))))
theorem bi_sorted : (("sorted" : Str), Value.builtin "sorted") ∈ bis := .tail _ (.tail _ (.tail _ (.tail _ (.tail _ (.tail _ (.head _))))))
theorem bi_isinstance : (("isinstance" : Str), Value.builtin "isinstance") ∈ bis := .tail _ (.tail _ (.tail _ (.tail _ (.tail _ (.tail _ (.tail _ (.head _)))))))
theorem bi_list : (("list" : Str), Value.type "list") ∈ bis := .tail _ (.tail _ (.tail _ (.tail _ (.tail _ (.tail _ (.tail _ (.tail _ (.head _))))))))
theorem bi_range : (("range" : Str), Value.type "range") ∈ bis := .tail _ (.tail _ (.tail _ (.tail _ (.tail _ (.tail _ (.tail _ (.tail _ (.tail _ (.head _)))))))))
theorem bi_int : (("int" : Str), Value.type "int") ∈ bis := .tail _ (.tail _ (.tail _ (.tail _ (.tail _ (.tail _ (.tail _ (.tail _ (.tail _ (.tail _ (.head _))))))))))
theorem bi_str : (("str" : Str), Value.type "str") ∈ bis := .tail _ (.tail _ (.tail _ (.tail _ (.tail _ (.tail _ (.tail _ (.tail _ (.tail _ (.tail _ (.tail _ (.head _)))))))))))
theorem bi_bool : (("bool" : Str), Value.type "bool") ∈ bis := .tail _ (.tail _ (.tail _ (.tail _ (.tail _ (.tail _ (.tail _ (.tail _ (.tail _ (.tail _ (.tail _ (.tail _ (.head _))))))))))))
theorem bi_tuple : (("tuple" : Str), Value.type "tuple") ∈ bis := .tail _ (.tail _ (.tail _ (.tail _ (.tail _ (.tail _ (.tail _ (.tail _ (.tail _ (.tail _ (.tail _ (.tail _ (.tail _ (.head _)))))))))))))
theorem bi_reversed : (("reversed" : Str), Value.type "reversed") ∈ bis := .tail _ (.tail _ (.tail _ (.tail _ (.tail _ (.tail _ (.tail _ (.tail _ (.tail _ (.tail _ (.tail _ (.tail _ (.tail _ (.tail _ (.head _))))))))))))))
theorem bi_enumerate : (("enumerate" : Str), Value.type "enumerate") ∈ bis := .tail _ (.tail _ (.tail _ (.tail _ (.tail _ (.tail _ (.tail _ (.tail _ (.tail _ (.tail _ (.tail _ (.tail _ (.tail _ (.tail _ (.tail _ (.head _)))))))))))))))
theorem bi_zip : (("zip" : Str), Value.type "zip") ∈ bis := .tail _ (.tail _ (.tail _ (.tail _ (.tail _ (.tail _ (.tail _ (.tail _ (.tail _ (.tail _ (.tail _ (.tail _ (.tail _ (.tail _ (.tail _ (.tail _ (.head _))))))))))))))))
noncomputable def primName : Prim → Option (Str × Value)
  | .len => some ("len", .builtin "len")
  | .abs => some ("abs", .builtin "abs")
  | .all => some ("all", .builtin "all")
  | .int => some ("int", .type "int")
noncomputable def prim2Name : Prim2 → Str × String
  | .max => ("max", "max")
  | .min => ("min", "min")
  | .join => ("join", "join")
  | .split => ("split", "split")
noncomputable def isMeth : Prim2 → Bool
  | .join => true
  | .split => true
  | _ => false
noncomputable def plainO : Expr → Bool
  | .Constant .. => true
  | .Name .. => true
  | _ => false

noncomputable def chkC : Const → Dat → Bool
  | .none, .none => true
  | .bool a, .bool b => a == b
  | .int a, .int b => a == b
  | .str a, .str b => a.cps.toList == b
  | _, _ => false

noncomputable def notSlice : Expr → Bool
  | .Slice .. => false
  | _ => true

noncomputable def relabelS (scope outer : Scope) : Scope :=
  { scope with names := scope.names.map fun (n, k) => if (k == .free && outer.kind == .function && outer.names.lookup n == some .cell) then (n, .cell) else (n, k) }

noncomputable def noneNames (p : Str × NameKind → Bool) (sc : Scope) : Bool := sc.names.all fun x => !p x

/-- a comprehension's scope is as it must be -/
noncomputable def chkScope (x : Str) (sc outer : Scope) : Bool :=
  sc.kind == .function && (sc.names.all fun y => !(y.2 == .cell)) && (sc.names.all fun y => !(y.2 == .local) || sc.names.lookup y.1 == some .local) && sc.names.lookup x == some .local &&
  (sc.names.all fun y => !(y.2 == .free) || outer.names.lookup y.1 == some .cell) && decide ((sc.names.map (·.1)).Nodup)

noncomputable def Cx.inner (cx : Cx) (x : Str) (k : Nat) (sc : Scope) : Cx :=
  { cx with scope := relabelS sc cx.scope, name := fun i => if i = k then some x else match cx.name i with
    | some y => if y ≠ x ∧ sc.names.lookup y = some .free then some y else none
    | none => none, top := false }

/-! ### taking expressions apart -/
noncomputable def asConst : Expr → Option Const
  | .Constant c _ _ => some c
  | _ => none
noncomputable def asName : Expr → Option Str
  | .Name x _ => some x
  | _ => none
noncomputable def asTuple : Expr → Option (List Expr)
  | .Tuple xs _ _ => some xs
  | _ => none
noncomputable def asList : Expr → Option (List Expr)
  | .List xs _ => some xs
  | _ => none
noncomputable def asBin : Expr → Option (Expr × Operator × Expr)
  | .BinOp l o r _ => some (l, o, r)
  | _ => none
noncomputable def rawUn : Expr → Option (UnaryOp × Expr)
  | .UnaryOp o x _ => some (o, x)
  | _ => none
noncomputable def rawBool : Expr → Option (BoolOp × List Expr)
  | .BoolOp o xs _ => some (o, xs)
  | _ => none
noncomputable def asCmp : Expr → Option (Expr × List CmpOp × List Expr)
  | .Compare l os rs _ => some (l, os, rs)
  | _ => none
noncomputable def rawCall : Expr → Option (Expr × List Expr × List Keyword × Pos)
  | .Call f xs ks p => some (f, xs, ks, p)
  | _ => none
noncomputable def rawSub : Expr → Option (Expr × Expr)
  | .Subscript v i _ => some (v, i)
  | _ => none
noncomputable def rawSlice : Expr → Option (Option Expr × Option Expr × Option Expr)
  | .Slice l u s _ => some (l, u, s)
  | _ => none
noncomputable def rawComp : Expr → Option (Expr × List Comprehension × Scope)
  | .ListComp e gs sc _ => some (e, gs, sc)
  | _ => none
noncomputable def rawAttr : Expr → Option (Expr × Str × Pos)
  | .Attribute o n p => some (o, n, p)
  | _ => none
noncomputable def isUSub : UnaryOp → Bool
  | .USub => true
  | _ => false
noncomputable def isNotOp : UnaryOp → Bool
  | .Not => true
  | _ => false
noncomputable def isAndOp : BoolOp → Bool
  | .And => true
  | _ => false
noncomputable def one {α : Type} : List α → Option α
  | [] => none
  | y :: l => if l.isEmpty then some y else none
noncomputable def two {α : Type} : List α → Option (α × α)
  | [] => none
  | y :: l => (one l).map fun z => (y, z)
noncomputable def asNeg (e : Expr) : Option Expr := (rawUn e).bind fun u => if isUSub u.1 then some u.2 else none
noncomputable def asNot (e : Expr) : Option Expr := (rawUn e).bind fun u => if isNotOp u.1 then some u.2 else none
noncomputable def asAnd (e : Expr) : Option (List Expr) := (rawBool e).bind fun u => if isAndOp u.1 then some u.2 else none
noncomputable def asOr (e : Expr) : Option (List Expr) := (rawBool e).bind fun u => if isAndOp u.1 then none else some u.2
noncomputable def asCall (e : Expr) : Option (Str × List Expr) := (rawCall e).bind fun c => if c.2.2.1.isEmpty then (asName c.1).map fun n => (n, c.2.1) else none
noncomputable def asCall1 (e : Expr) : Option (Str × Expr) := (asCall e).bind fun c => (one c.2).map fun y => (c.1, y)
noncomputable def asCall2 (e : Expr) : Option (Str × Expr × Expr) := (asCall e).bind fun c => (two c.2).map fun y => (c.1, y)
noncomputable def asSub (e : Expr) : Option (Expr × Expr) := (rawSub e).bind fun v => if notSlice v.2 then some v else none
noncomputable def asFrom (e : Expr) : Option (Expr × Expr) := (rawSub e).bind fun v => (rawSlice v.2).bind fun s => if s.2.1.isNone && s.2.2.isNone then s.1.map fun l => (v.1, l) else none
noncomputable def asTo (e : Expr) : Option (Expr × Expr) := (rawSub e).bind fun v => (rawSlice v.2).bind fun s => if s.1.isNone && s.2.2.isNone then s.2.1.map fun l => (v.1, l) else none
noncomputable def asComp (e : Expr) : Option (Expr × Str × Expr × List Expr × Scope) := (rawComp e).bind fun c => (one c.2.1).bind fun g => if g.is_async == 0 then (asName g.target).map fun x => (c.1, x, g.iter, g.ifs, c.2.2) else none
noncomputable def asMeth (e : Expr) : Option (Expr × Str × Expr) := (rawCall e).bind fun c => if c.2.2.1.isEmpty then (rawAttr c.1).bind fun o => if o.2.2.endLine == c.2.2.2.line then (one c.2.1).map fun y => (o.1, o.2.1, y) else none else none

theorem asConst_eq {e : Expr} {c : Const} (h : asConst e = some c) : ∃ k p, e = .Constant c k p := by
  cases e <;> first | exact nos h | (cases h; exact ⟨_, _, rfl⟩)
theorem asName_eq {e : Expr} {x : Str} (h : asName e = some x) : ∃ p, e = .Name x p := by
  cases e <;> first | exact nos h | (cases h; exact ⟨_, rfl⟩)
theorem asTuple_eq {e : Expr} {xs : List Expr} (h : asTuple e = some xs) : ∃ k p, e = .Tuple xs k p := by
  cases e <;> first | exact nos h | (cases h; exact ⟨_, _, rfl⟩)
theorem asList_eq {e : Expr} {xs : List Expr} (h : asList e = some xs) : ∃ p, e = .List xs p := by
  cases e <;> first | exact nos h | (cases h; exact ⟨_, rfl⟩)
theorem asBin_eq {e l r : Expr} {o : Operator} (h : asBin e = some (l, o, r)) : ∃ p, e = .BinOp l o r p := by
  cases e <;> first | exact nos h | (cases h; exact ⟨_, rfl⟩)
theorem rawUn_eq {e : Expr} {u : UnaryOp × Expr} (h : rawUn e = some u) : ∃ p, e = .UnaryOp u.1 u.2 p := by
  cases e <;> first | exact nos h | (cases h; exact ⟨_, rfl⟩)
theorem rawBool_eq {e : Expr} {u : BoolOp × List Expr} (h : rawBool e = some u) : ∃ p, e = .BoolOp u.1 u.2 p := by
  cases e <;> first | exact nos h | (cases h; exact ⟨_, rfl⟩)
theorem asCmp_eq {e l : Expr} {os : List CmpOp} {rs : List Expr} (h : asCmp e = some (l, os, rs)) : ∃ p, e = .Compare l os rs p := by
  cases e <;> first | exact nos h | (cases h; exact ⟨_, rfl⟩)
theorem rawCall_eq {e : Expr} {c : Expr × List Expr × List Keyword × Pos} (h : rawCall e = some c) : e = .Call c.1 c.2.1 c.2.2.1 c.2.2.2 := by
  cases e <;> first | exact nos h | (cases h; rfl)
theorem rawSub_eq {e : Expr} {v : Expr × Expr} (h : rawSub e = some v) : ∃ p, e = .Subscript v.1 v.2 p := by
  cases e <;> first | exact nos h | (cases h; exact ⟨_, rfl⟩)
theorem rawSlice_eq {e : Expr} {s : Option Expr × Option Expr × Option Expr} (h : rawSlice e = some s) : ∃ p, e = .Slice s.1 s.2.1 s.2.2 p := by
  cases e <;> first | exact nos h | (cases h; exact ⟨_, rfl⟩)
theorem rawComp_eq {e : Expr} {c : Expr × List Comprehension × Scope} (h : rawComp e = some c) : ∃ p, e = .ListComp c.1 c.2.1 c.2.2 p := by
  cases e <;> first | exact nos h | (cases h; exact ⟨_, rfl⟩)
theorem rawAttr_eq {e : Expr} {o : Expr × Str × Pos} (h : rawAttr e = some o) : e = .Attribute o.1 o.2.1 o.2.2 := by
  cases e <;> first | exact nos h | (cases h; rfl)
theorem one_eq {α : Type} {l : List α} {y : α} (h : one l = some y) : l = [y] := by
  cases l with
  | nil => exact nos h
  | cons z r => cases r with
    | nil => cases h; rfl
    | cons _ _ => exact nos h
theorem two_eq {α : Type} {l : List α} {y : α × α} (h : two l = some y) : l = [y.1, y.2] := by
  cases l with
  | nil => exact nos h
  | cons z r =>
    obtain ⟨u, h1, rfl⟩ := Option.map_eq_some_iff.mp h
    rw [one_eq h1]
theorem bnd {α β : Type} {o : Option α} {f : α → Option β} {b : β} (h : o.bind f = some b) : ∃ a, o = some a ∧ f a = some b := Option.bind_eq_some_iff.mp h
theorem ift {α : Type} {c : Bool} {a : Option α} {b : α} (h : (if c = true then a else none) = some b) : c = true ∧ a = some b := by
  cases c with
  | true => exact ⟨rfl, h⟩
  | false => exact nos h
theorem asNeg_eq {e x : Expr} (h : asNeg e = some x) : ∃ p, e = .UnaryOp .USub x p := by
  obtain ⟨⟨o, y⟩, h1, h2⟩ := bnd h
  obtain ⟨p, rfl⟩ := rawUn_eq h1
  obtain ⟨h3, h4⟩ := ift h2
  cases h4
  cases o <;> first | exact ⟨p, rfl⟩ | exact Bool.noConfusion (show false = true from h3)
theorem asNot_eq {e x : Expr} (h : asNot e = some x) : ∃ p, e = .UnaryOp .Not x p := by
  obtain ⟨⟨o, y⟩, h1, h2⟩ := bnd h
  obtain ⟨p, rfl⟩ := rawUn_eq h1
  obtain ⟨h3, h4⟩ := ift h2
  cases h4
  cases o <;> first | exact ⟨p, rfl⟩ | exact Bool.noConfusion (show false = true from h3)
theorem asAnd_eq {e : Expr} {xs : List Expr} (h : asAnd e = some xs) : ∃ p, e = .BoolOp .And xs p := by
  obtain ⟨⟨o, y⟩, h1, h2⟩ := bnd h
  obtain ⟨p, rfl⟩ := rawBool_eq h1
  obtain ⟨h3, h4⟩ := ift h2
  cases h4
  cases o <;> first | exact ⟨p, rfl⟩ | exact Bool.noConfusion (show false = true from h3)
theorem asOr_eq {e : Expr} {xs : List Expr} (h : asOr e = some xs) : ∃ p, e = .BoolOp .Or xs p := by
  obtain ⟨⟨o, y⟩, h1, h2⟩ := bnd h
  obtain ⟨p, rfl⟩ := rawBool_eq h1
  cases o with
  | And => exact nos h2
  | Or => cases h2; exact ⟨p, rfl⟩
theorem asCall_eq {e : Expr} {x : Str} {xs : List Expr} (h : asCall e = some (x, xs)) : ∃ p q, e = .Call (.Name x p) xs [] q := by
  obtain ⟨⟨f, ys, ks, q⟩, h1, h2⟩ := bnd h
  have := rawCall_eq h1
  subst this
  obtain ⟨h3, h4⟩ := ift h2
  obtain ⟨n, h5, h6⟩ := Option.map_eq_some_iff.mp h4
  obtain ⟨p, h7⟩ := asName_eq h5
  cases h6
  have hk : ks = [] := List.isEmpty_iff.mp h3
  exact ⟨p, q, by show Expr.Call f ys ks q = _; rw [show f = _ from h7, hk]⟩
theorem asCall1_eq {e y : Expr} {x : Str} (h : asCall1 e = some (x, y)) : ∃ p q, e = .Call (.Name x p) [y] [] q := by
  obtain ⟨⟨z, ys⟩, h1, h2⟩ := bnd h
  obtain ⟨u, h3, h4⟩ := Option.map_eq_some_iff.mp h2
  obtain ⟨p, q, rfl⟩ := asCall_eq h1
  cases h4
  exact ⟨p, q, by rw [show ys = _ from one_eq h3]⟩
theorem asCall2_eq {e y z : Expr} {x : Str} (h : asCall2 e = some (x, y, z)) : ∃ p q, e = .Call (.Name x p) [y, z] [] q := by
  obtain ⟨⟨w, ys⟩, h1, h2⟩ := bnd h
  obtain ⟨u, h3, h4⟩ := Option.map_eq_some_iff.mp h2
  obtain ⟨p, q, rfl⟩ := asCall_eq h1
  cases h4
  exact ⟨p, q, by rw [show ys = _ from two_eq h3]⟩
theorem asSub_eq {e v i : Expr} (h : asSub e = some (v, i)) : ∃ p, e = .Subscript v i p ∧ notSlice i = true := by
  obtain ⟨⟨a, b⟩, h1, h2⟩ := bnd h
  obtain ⟨p, rfl⟩ := rawSub_eq h1
  obtain ⟨h3, h4⟩ := ift h2
  cases h4
  exact ⟨p, rfl, h3⟩
theorem none_of {α : Type} {o : Option α} (h : o.isNone = true) : o = none := Option.isNone_iff_eq_none.mp h
theorem asFrom_eq {e v i : Expr} (h : asFrom e = some (v, i)) : ∃ p q, e = .Subscript v (.Slice (some i) none none q) p := by
  obtain ⟨⟨a, b⟩, h1, h2⟩ := bnd h
  obtain ⟨p, rfl⟩ := rawSub_eq h1
  obtain ⟨⟨l, u, s⟩, h3, h4⟩ := bnd h2
  obtain ⟨q, hb⟩ := rawSlice_eq h3
  obtain ⟨h5, h6⟩ := ift h4
  rw [Bool.and_eq_true] at h5
  obtain ⟨z, h7, h8⟩ := Option.map_eq_some_iff.mp h6
  cases h8
  refine ⟨p, q, ?_⟩
  rw [show b = _ from hb, show u = none from none_of h5.1, show s = none from none_of h5.2, show l = _ from h7]
theorem asTo_eq {e v i : Expr} (h : asTo e = some (v, i)) : ∃ p q, e = .Subscript v (.Slice none (some i) none q) p := by
  obtain ⟨⟨a, b⟩, h1, h2⟩ := bnd h
  obtain ⟨p, rfl⟩ := rawSub_eq h1
  obtain ⟨⟨l, u, s⟩, h3, h4⟩ := bnd h2
  obtain ⟨q, hb⟩ := rawSlice_eq h3
  obtain ⟨h5, h6⟩ := ift h4
  rw [Bool.and_eq_true] at h5
  obtain ⟨z, h7, h8⟩ := Option.map_eq_some_iff.mp h6
  cases h8
  refine ⟨p, q, ?_⟩
  rw [show b = _ from hb, show l = none from none_of h5.1, show s = none from none_of h5.2, show u = _ from h7]
theorem asComp_eq {e el iter : Expr} {x : Str} {conds : List Expr} {sc : Scope} (h : asComp e = some (el, x, iter, conds, sc)) : ∃ p q, e = .ListComp el [⟨.Name x p, iter, conds, 0⟩] sc q := by
  obtain ⟨⟨a, gs, s⟩, h1, h2⟩ := bnd h
  obtain ⟨q, rfl⟩ := rawComp_eq h1
  obtain ⟨⟨tg, it, fs, as⟩, h3, h4⟩ := bnd h2
  obtain ⟨h5, h6⟩ := ift h4
  obtain ⟨n, h7, h8⟩ := Option.map_eq_some_iff.mp h6
  obtain ⟨p, h9⟩ := asName_eq h7
  cases h8
  refine ⟨p, q, ?_⟩
  rw [show gs = _ from one_eq h3, show tg = _ from h9, show as = 0 from beq_iff_eq.mp h5]
theorem asMeth_eq {e o y : Expr} {n : Str} (h : asMeth e = some (o, n, y)) : ∃ apos pos, e = .Call (.Attribute o n apos) [y] [] pos ∧ (apos.endLine == pos.line) = true := by
  obtain ⟨⟨f, ys, ks, q⟩, h1, h2⟩ := bnd h
  have := rawCall_eq h1
  subst this
  obtain ⟨h3, h4⟩ := ift h2
  obtain ⟨⟨b, m, ap⟩, h5, h6⟩ := bnd h4
  obtain ⟨h7, h8⟩ := ift h6
  obtain ⟨u, h9, h10⟩ := Option.map_eq_some_iff.mp h8
  cases h10
  refine ⟨ap, q, ?_, h7⟩
  show Expr.Call f ys ks q = _
  rw [show f = _ from rawAttr_eq h5, show ys = _ from one_eq h9, show ks = [] from List.isEmpty_iff.mp h3]

noncomputable def plainI : II → Bool
  | .of _ => true
  | .range1 _ => true

noncomputable def chkFrees (cx : Cx) (sc : Scope) : Bool := sc.names.all fun y => !(y.2 == .free) || (List.range 64).any fun i => cx.name i == some y.1

noncomputable def conIs (o : Option Dat) (d : Dat) : Bool := match o with
  | some c => (match c with | .int a => (match d with | .int b => decide (a = b) | _ => false) | .str a => (match d with | .str b => decide (a = b) | _ => false) | _ => false)
  | none => false
theorem conIs_eq {o : Option Dat} {d : Dat} (h : conIs o d = true) : o = some d := by
  cases o with
  | none => exact nof h
  | some c =>
    cases c <;> first | exact nof h | skip
    all_goals cases d <;> first | exact nof h | skip
    all_goals rw [of_decide_eq_true h]
theorem any_ex {α : Type} {o : Option α} {p : α → Bool} (h : o.any p = true) : ∃ c, o = some c ∧ p c = true := by
  cases o with
  | none => exact nof h
  | some c => exact ⟨c, rfl, h⟩
mutual
noncomputable def chkE (cx : Cx) : IE → Expr → Bool
  | .lit d, e => (asConst e).any fun c => chkC c d
  | .con x d, e => (asName e).any fun y => y == Str.ofString x && cx.isGlob y && conIs (cx.con y) d
  | .var i, e => (asName e).any fun x => cx.name i == some x && cx.isVar x && !(x == ("__debug__" : Str))
  | .tup es, e => (asTuple e).any fun xs => chkEs cx es xs && decide (xs.length ≤ 100)
  | .lst es, e => (asList e).any fun xs => chkEs cx es xs && decide (xs.length ≤ 100)
  | .bin op a b, e => (asBin e).any fun (l, o, r) => chkB op o && chkE cx a l && chkE cx b r
  | .neg a, e => (asNeg e).any fun x => chkE cx a x
  | .not a, e => (asNot e).any fun x => chkE cx a x
  | .and es, e => (asAnd e).any fun xs => chkEs cx es xs
  | .or es, e => (asOr e).any fun xs => chkEs cx es xs
  | .cmp a cs, e => (asCmp e).any fun (l, os, rs) => chkE cx a l && chkCs cx cs os rs && !os.isEmpty
  | .call f as, e => (asCall e).any fun (x, xs) => cx.fn f == some x && cx.isGlob x && chkEs cx as xs && (!isSp f || cx.top) && !(x == ("law" : Str))
  | .prim p a, e => (asCall1 e).any fun (x, y) => (primName p).any fun q => q.1 == x && cx.isGlob x && chkE cx a y
  | .prim2 p a b, e => (rawCall e).any fun _ => if isMeth p then (asMeth e).any fun (o, n, y) => (prim2Name p).1 == n && plainO o && chkE cx a o && chkE cx b y
    else (asCall2 e).any fun (x, y, z) => (prim2Name p).1 == x && cx.isGlob x && chkE cx a y && chkE cx b z
  | .isinst a t, e => (asCall2 e).any fun (x, y, z) => (tyName t).any fun T => x == ("isinstance" : Str) && cx.isGlob x && ((asName z).any fun z' => cx.isGlob z' && z' == Str.ofString T) && chkE cx a y
  | .idx a i, e => (asSub e).any fun (v, sl) => chkE cx a v && chkE cx i sl
  | .slFrom a i, e => (asFrom e).any fun (v, l) => chkE cx a v && chkE cx i l
  | .slTo a i, e => (asTo e).any fun (v, l) => chkE cx a v && chkE cx i l
  | .comp k it ifs elt, e => (asComp e).any fun (el, x, iter, conds, sc) => plainI it && chkI cx it iter && chkScope x sc cx.scope && chkFrees cx sc && chkEs (cx.inner x k sc) ifs conds && chkE (cx.inner x k sc) elt el
noncomputable def chkEs (cx : Cx) : IEs → List Expr → Bool
  | .nil, [] => true
  | .cons e es, x :: xs => chkE cx e x && chkEs cx es xs
  | .nil, _ :: _ => false
  | .cons _ _, [] => false
noncomputable def chkCs (cx : Cx) : ICs → List CmpOp → List Expr → Bool
  | .nil, [], [] => true
  | .nil, _ :: _, _ => false
  | .nil, [], _ :: _ => false
  | .cons op e cs, o :: os, x :: xs => chkCmp op o && chkE cx e x && chkCs cx cs os xs
  | .cons _ _ _, [], _ => false
  | .cons _ _ _, _ :: _, [] => false
noncomputable def chkI (cx : Cx) : II → Expr → Bool
  | .of e, x => chkE cx e x
  | .range1 a, e => (asCall1 e).any fun (x, y) => x == ("range" : Str) && cx.isGlob x && chkE cx a y
end

/-! ### statements -/
noncomputable def rawAssign : Stmt → Option (List Expr × Expr)
  | .Assign ts v _ => some (ts, v)
  | _ => none
noncomputable def asExpr : Stmt → Option Expr
  | .Expr v _ => some v
  | _ => none
noncomputable def rawRet : Stmt → Option (Option Expr)
  | .Return v _ => some v
  | _ => none
noncomputable def asIf : Stmt → Option (Expr × List Stmt × List Stmt)
  | .If t a b _ => some (t, a, b)
  | _ => none
noncomputable def rawFor : Stmt → Option (Expr × Expr × List Stmt × List Stmt)
  | .For x it b o _ => some (x, it, b, o)
  | _ => none
noncomputable def rawRaise : Stmt → Option (Option Expr × Option Expr)
  | .Raise e c _ => some (e, c)
  | _ => none
noncomputable def asAssign (st : Stmt) : Option (Str × Expr) := (rawAssign st).bind fun a => (one a.1).bind fun t => (asName t).map fun x => (x, a.2)
/-- the names of the classes -/
noncomputable def cnm : Nat → Option Str
  | 0 => some "WishError"
  | 1 => some "BadGame"
  | 2 => some "BadRow"
  | 3 => some "BadText"
  | _ => none
noncomputable def asRaise (st : Stmt) : Option (Str × Expr) := (rawRaise st).bind fun f => if f.2.isNone then f.1.bind asCall1 else none
noncomputable def asRet (st : Stmt) : Option Expr := (rawRet st).bind id
noncomputable def asFor1 (st : Stmt) : Option (Str × Expr × List Stmt) := (rawFor st).bind fun f => if f.2.2.2.isEmpty then (asName f.1).map fun x => (x, f.2.1, f.2.2.1) else none
noncomputable def asFor2 (st : Stmt) : Option (Str × Str × Expr × List Stmt) := (rawFor st).bind fun f => if f.2.2.2.isEmpty then (asTuple f.1).bind fun l => (two l).bind fun q => (asName q.1).bind fun x => (asName q.2).map fun y => (x, y, f.2.1, f.2.2.1) else none
theorem rawAssign_eq {st : Stmt} {a : List Expr × Expr} (h : rawAssign st = some a) : ∃ q, st = .Assign a.1 a.2 q := by
  cases st <;> first | exact nos h | (cases h; exact ⟨_, rfl⟩)
theorem asExpr_eq {st : Stmt} {v : Expr} (h : asExpr st = some v) : ∃ q, st = .Expr v q := by
  cases st <;> first | exact nos h | (cases h; exact ⟨_, rfl⟩)
theorem rawRet_eq {st : Stmt} {v : Option Expr} (h : rawRet st = some v) : ∃ q, st = .Return v q := by
  cases st <;> first | exact nos h | (cases h; exact ⟨_, rfl⟩)
theorem asIf_eq {st : Stmt} {t : Expr} {a b : List Stmt} (h : asIf st = some (t, a, b)) : ∃ q, st = .If t a b q := by
  cases st <;> first | exact nos h | (cases h; exact ⟨_, rfl⟩)
theorem rawFor_eq {st : Stmt} {f : Expr × Expr × List Stmt × List Stmt} (h : rawFor st = some f) : ∃ q, st = .For f.1 f.2.1 f.2.2.1 f.2.2.2 q := by
  cases st <;> first | exact nos h | (cases h; exact ⟨_, rfl⟩)
theorem asAssign_eq {st : Stmt} {x : Str} {v : Expr} (h : asAssign st = some (x, v)) : ∃ p q, st = .Assign [.Name x p] v q := by
  obtain ⟨⟨ts, w⟩, h1, h2⟩ := bnd h
  obtain ⟨q, rfl⟩ := rawAssign_eq h1
  obtain ⟨t, h3, h4⟩ := bnd h2
  obtain ⟨n, h5, h6⟩ := Option.map_eq_some_iff.mp h4
  obtain ⟨p, h7⟩ := asName_eq h5
  cases h6
  exact ⟨p, q, by rw [show ts = _ from one_eq h3, h7]⟩
theorem rawRaise_eq {st : Stmt} {f : Option Expr × Option Expr} (h : rawRaise st = some f) : ∃ q, st = .Raise f.1 f.2 q := by
  cases st <;> first | exact nos h | (cases h; exact ⟨_, rfl⟩)
theorem asRaise_eq {st : Stmt} {x : Str} {y : Expr} (h : asRaise st = some (x, y)) : ∃ p q r, st = .Raise (some (.Call (.Name x p) [y] [] q)) none r := by
  obtain ⟨⟨e, c⟩, h1, h2⟩ := bnd h
  obtain ⟨r, rfl⟩ := rawRaise_eq h1
  obtain ⟨h3, h4⟩ := ift h2
  obtain ⟨z, h5, h6⟩ := bnd h4
  obtain ⟨p, q, rfl⟩ := asCall1_eq h6
  refine ⟨p, q, r, ?_⟩
  show Stmt.Raise e c r = _
  rw [show e = _ from h5, show c = none from Option.isNone_iff_eq_none.mp h3]
theorem asRet_eq {st : Stmt} {v : Expr} (h : asRet st = some v) : ∃ q, st = .Return (some v) q := by
  obtain ⟨o, h1, h2⟩ := bnd h
  obtain ⟨q, rfl⟩ := rawRet_eq h1
  exact ⟨q, by rw [show o = some v from h2]⟩
theorem asFor1_eq {st : Stmt} {x : Str} {it : Expr} {b : List Stmt} (h : asFor1 st = some (x, it, b)) : ∃ p q, st = .For (.Name x p) it b [] q := by
  obtain ⟨⟨tg, i, bd, el⟩, h1, h2⟩ := bnd h
  obtain ⟨q, rfl⟩ := rawFor_eq h1
  obtain ⟨h3, h4⟩ := ift h2
  obtain ⟨n, h5, h6⟩ := Option.map_eq_some_iff.mp h4
  obtain ⟨p, h7⟩ := asName_eq h5
  cases h6
  exact ⟨p, q, by rw [show tg = _ from h7, show el = [] from List.isEmpty_iff.mp h3]⟩
mutual
noncomputable def chkS (cx : Cx) : IS → Stmt → Bool
  | .assign i e, st => (asAssign st).any fun (x, v) => cx.name i == some x && cx.isVar x && chkE cx e v
  | .newlst i es, st => (asAssign st).any fun (x, v) => cx.name i == some x && cx.isVar x && ((asList v).any fun xs => chkEs cx es xs && decide (xs.length ≤ 100))
  | .append i e, st => (asExpr st).any fun v => (asMeth v).any fun (o, n, y) => n == ("append" : Str) && ((asName o).any fun x => cx.name i == some x && cx.isVar x && !(x == ("__debug__" : Str))) && chkE cx e y
  | .drop e, st => (asExpr st).any fun v => (asCall v).any fun _ => chkE cx e v
  | .ret e, st => (asRet st).any fun v => chkE cx e v
  | .ite c a b, st => (asIf st).any fun (t, x, y) => chkE cx c t && chkSs cx a x && chkSs cx b y
  | .for1 i it body, st => (asFor1 st).any fun (x, iter, b) => cx.name i == some x && cx.isVar x && plainI it && chkI cx it iter && chkSs cx body b
  | .raise c m, st => (asRaise st).any fun (x, y) => cnm c == some x && cx.isGlob x && chkE cx (.lit (.str m)) y
  | .tryc .., _ => false
noncomputable def chkSs (cx : Cx) : ISs → List Stmt → Bool
  | .nil, [] => true
  | .cons s ss, x :: xs => chkS cx s x && chkSs cx ss xs
  | .nil, _ :: _ => false
  | .cons _ _, [] => false
end

/-! functions that catch an exception -/
noncomputable def chkA (cx : Cx) (n : Str) : Atom → Expr → Bool
  | .isi c, x => (asCall2 x).any fun (f, y, z) => f == ("isinstance" : Str) && cx.isGlob f && ((asName y).any fun v => v == n) && ((asName z).any fun X => cx.isGlob X && (if c == 9 then X == ("ValueError" : Str) else cnm c == some X))
  | .var i, x => (asName x).any fun y => cx.name i == some y && cx.scope.names.lookup y == some .local && !(y == n) && !(y == ("__debug__" : Str))
noncomputable def chkNA (cx : Cx) (n : Str) (a : Bool × Atom) (x : Expr) : Bool := if a.1 then (asNot x).any fun y => chkA cx n a.2 y else chkA cx n a.2 x
noncomputable def chkAL (cx : Cx) (n : Str) : List (Bool × Atom) → List Expr → Bool
  | [], [] => true
  | a :: l, x :: xs => chkNA cx n a x && chkAL cx n l xs
  | _, _ => false
noncomputable def chkAs (cx : Cx) (n : Str) : List (Bool × Atom) → Expr → Bool
  | [a], x => chkNA cx n a x
  | a :: b :: l, x => (asAnd x).any fun xs => chkAL cx n (a :: b :: l) xs
  | [], _ => false
noncomputable def rawHnd : ExceptHandler → Option (Option Expr × Option Str × List Stmt)
  | .ExceptHandler t n b _ => some (t, n, b)
noncomputable def asHnd (x : ExceptHandler) : Option (Str × Str × Expr) := (rawHnd x).bind fun f => f.1.bind fun t => f.2.1.bind fun n => (one f.2.2).bind fun st => (asName t).bind fun X => (asRet st).map fun v => (X, n, v)
noncomputable def chkH (cx : Cx) (h : Hnd) (x : ExceptHandler) : Bool := (asHnd x).any fun (X, n, v) => cnm h.cls == some X && cx.isGlob X && cx.scope.names.lookup n == some .local && !(n == ("__debug__" : Str)) && chkAs cx n h.atoms v
noncomputable def chkHs (cx : Cx) : List Hnd → List ExceptHandler → Bool
  | [], [] => true
  | h :: hs, x :: xs => chkH cx h x && chkHs cx hs xs
  | _, _ => false
noncomputable def rawTry : Stmt → Option (List Stmt × List ExceptHandler × List Stmt × List Stmt)
  | .Try b h o f _ => some (b, h, o, f)
  | _ => none
noncomputable def chkT (cx : Cx) (f : Nat) (as : IEs) (hs : List Hnd) (x : Stmt) : Bool := (rawTry x).any fun (b, hh, o, fi) => o.isEmpty && fi.isEmpty && ((one b).any fun st => (asExpr st).any fun v => (asCall v).any fun (nm, xs) => cx.fn f == some nm && cx.isGlob nm && chkEs cx as xs && !isSp f && !(nm == ("law" : Str))) && chkHs cx hs hh && !hs.isEmpty
noncomputable def headS : ISs → Option (IS × ISs)
  | .cons s ss => some (s, ss)
  | .nil => none
noncomputable def tryOf : IS → Option (Nat × IEs × List Hnd)
  | .tryc f as hs => some (f, as, hs)
  | _ => none
noncomputable def chkT1 (cx : Cx) (ss : ISs) (xs : List Stmt) : Bool := (headS ss).any fun (s, _) => xs.head?.any fun x => (tryOf s).any fun (f, as, hs) => chkT cx f as hs x
noncomputable def chkTB (cx : Cx) (ss : ISs) (xs : List Stmt) : Bool := chkT1 cx ss xs

/-- a def stands for an IR function; vars: the names of its places -/
noncomputable def chkFn (f : Nat) (fnm : Nat → Option Str) (con : Str → Option Dat) (vars : List Str) (d : DefRec) (fn : Fn) : Bool :=
  let a := d.params
  a.posonlyargs.isEmpty && a.vararg.isNone && a.kwonlyargs.isEmpty && a.kwarg.isNone && a.defaults.isEmpty && a.kw_defaults.isEmpty &&
  decide (a.args.length = fn.arity) && decide (fn.arity ≤ vars.length) && decide (vars.length ≤ fn.slots) && decide (a.args.map (·.arg) = vars.take fn.arity) && decide vars.Nodup &&
  !d.scope.isCoroutine && !d.scope.isGenerator && d.scope.kind == .function && decide ((d.scope.names.map (·.1)).Nodup) &&
  (vars.all fun x => d.scope.names.lookup x == some .local || d.scope.names.lookup x == some .cell) && (d.scope.names.all fun y => !(y.2 == .cell) || vars.contains y.1) &&
  (if isSp f then chkTB ⟨d.scope, fun i => vars[i]?, fnm, con, false⟩ fn.body d.body else chkSs ⟨d.scope, fun i => vars[i]?, fnm, con, d.name == ("law" : Str)⟩ fn.body d.body)
end Mine

/-! ## MFrame -/
namespace Mine
open PySem PyProof.Rows

structure EnvOk (cx : Cx) (env : Env) : Prop where
  scope : env.scope = cx.scope
  kind : cx.scope.kind = .function
  globals : env.globals = mainGlobals
  builtins : env.builtins = builtinsNs
  apart : env.cells.Pairwise fun x y => x.2 ≠ y.2
  off : ∀ p ∈ env.cells, p.2 ≠ env.locals
  inj : ∀ i j x, cx.name i = some x → cx.name j = some x → i = j

/-- the frame's table and cells hold what the places hold -/
structure FrameOk (cx : Cx) (env : Env) (B : Heap) (π : List Addr) (h : Heap) (ρ : Loc) (σ : Sto) (β : List Addr) : Prop where
  loc : ∃ m, h.Ns env.locals m ∧ ∀ (i : Nat) (x : Str) (v : Val), cx.name i = some x → cx.scope.names.lookup x = some .local → ρ[i]? = some (some v) → ∃ v', m x = some v' ∧ RelV h π β σ v v'
  cell : ∀ (i : Nat) (x : Str), cx.name i = some x → cx.scope.names.lookup x = some .cell → ∃ c o, env.cells.lookup x = some c ∧ h.IsCell c o ∧ ∀ v, ρ[i]? = some (some v) → ∃ v', o = some v' ∧ RelV h π β σ v v'
  off : env.locals ∉ β ∧ B.objs.size ≤ env.locals
  offc : ∀ p ∈ env.cells, B.objs.size ≤ p.2

section
variable {cx : Cx} {env : Env} {B : Heap} {ρ : Loc} {σ σ' : Sto} {π β : List Addr} {s s' : Shared}

theorem cell_not_grow {h : Heap} (S : Sim B π h σ β) {c : Addr} {o : Option Value} (hc : h.IsCell c o) : c ∉ β := by
  intro q
  obtain ⟨k, hk, e⟩ := List.mem_iff_getElem.mp q
  have hk' : k < σ.length := by rw [← S.len]; exact hk
  obtain ⟨vs, ⟨n, hp⟩, _⟩ := S.ent k σ[k] c (List.getElem?_eq_getElem hk') (by rw [List.getElem?_eq_getElem hk, e])
  obtain ⟨ob, ho, hd⟩ := hc
  rw [hp] at ho; cases ho
  cases hd
theorem ns_not_grow {h : Heap} (S : Sim B π h σ β) {c : Addr} {m : Str → Option Value} (hc : h.Ns c m) : c ∉ β := by
  intro q
  obtain ⟨k, hk, e⟩ := List.mem_iff_getElem.mp q
  have hk' : k < σ.length := by rw [← S.len]; exact hk
  obtain ⟨vs, ⟨n, hp⟩, _⟩ := S.ent k σ[k] c (List.getElem?_eq_getElem hk') (by rw [List.getElem?_eq_getElem hk, e])
  obtain ⟨ob, es, ep, ho, hd, _⟩ := hc
  rw [hp] at ho; cases ho
  cases hd

theorem FrameOk.ok (F : FrameOk cx env B π s.heap ρ σ β) (V : EnvOk cx env) (S : Sim B π s.heap σ β) (x : Ok B π env.locals β s s' σ σ') : FrameOk cx env B π s'.heap ρ σ' β where
  loc := by
    obtain ⟨m, hn, hv⟩ := F.loc
    exact ⟨m, x.ns m hn, fun i y v h1 h2 h3 => by obtain ⟨v', e, r⟩ := hv i y v h1 h2 h3; exact ⟨v', e, r.ok x hn⟩⟩
  cell := fun i y h1 h2 => by
    obtain ⟨m, hn, _⟩ := F.loc
    obtain ⟨c, o, hc, hi, hv⟩ := F.cell i y h1 h2
    refine ⟨c, o, hc, ?_, fun v h3 => by obtain ⟨v', e, r⟩ := hv v h3; exact ⟨v', e, r.ok x hn⟩⟩
    obtain ⟨ob, ho, hd⟩ := id hi
    exact ⟨ob, (x.keep c ob ho (fun q => cell_not_grow S hi (growS_sub q)) (V.off _ (mem_of_lookup hc))).cell hd, hd⟩
  off := F.off
  offc := F.offc

/-- loading a name of the frame's -/
theorem load_sound {M : Model} {A : Around} {E : Value → Shared → Prop} {x : Str} {i : Nat} {v : Val} {pos : Pos} {Q : Value → Shared → Prop} (V : EnvOk cx env) (F : FrameOk cx env B π s.heap ρ σ β)
    (hn : cx.name i = some x) (hv : cx.isVar x = true) (hd : (x == ("__debug__" : Str)) = false) (hi : ρ[i]? = some (some v)) (hQ : ∀ v', RelV s.heap π β σ v v' → Q v' s) : wpAny M A (eval (.Name x pos) env) Q E s := by
  have hk : env.scope.kind = .function := V.scope ▸ V.kind
  simp only [Cx.isVar, Bool.or_eq_true, beq_iff_eq] at hv
  refine wpAny_Name ?_ hd
  rcases hv with hv | hv
  · obtain ⟨m, hm, hl⟩ := F.loc
    obtain ⟨v', e, r⟩ := hl i x v hn hv hi
    exact wpAny_loadName_local hk (by show env.scope.names.lookup x = _; rw [V.scope]; exact hv) hm e (hQ v' r)
  · obtain ⟨c, o, hc, hi', hl⟩ := F.cell i x hn hv
    obtain ⟨v', e, r⟩ := hl v hi
    exact wpAny_loadName_cell hk (by show env.scope.names.lookup x = _; rw [V.scope]; exact hv) hc (e ▸ hi') (hQ v' r)

/-- the frame's own objects -/
noncomputable def own (env : Env) : List Addr := env.locals :: env.cells.map (·.2)

theorem Ok.alive {L : Addr} {m : Str → Option Value} (x : Ok B π L β s s' σ σ') (S : Sim B π s.heap σ β) (hL : s.heap.Ns L m) (a : Addr) (h : (s.heap.get? a).isSome = true) : (s'.heap.get? a).isSome = true := by
  obtain ⟨o, ho⟩ := Option.isSome_iff_exists.mp h
  by_cases hg : a ∈ β
  · obtain ⟨k, hk, e'⟩ := List.mem_iff_getElem.mp hg
    have hk' : k < σ'.length := by rw [← x.sim.len]; exact hk
    obtain ⟨vs, ⟨n, hp⟩, _⟩ := x.sim.ent k σ'[k] a (List.getElem?_eq_getElem hk') (by rw [List.getElem?_eq_getElem hk, e'])
    rw [hp]; rfl
  · by_cases hl : a = L
    · subst hl
      obtain ⟨o', _, _, ho', _⟩ := x.ns m hL
      rw [ho']; rfl
    · exact (x.keep a o ho (fun q => hg (growS_sub q)) hl).is

/-- from s to s' statements of a frame were run -/
structure SOk (B : Heap) (π : List Addr) (env : Env) (s s' : Shared) (σ σ' : Sto) (β β' : List Addr) : Prop where
  sh : ∃ h' tk, s' = { s with heap := h', toks := tk }
  sim : Sim B π s'.heap σ' β'
  keep : ∀ b o, s.heap.get? b = some o → b ∉ growS σ β → b ∉ own env → Kept s'.heap b o
  mon : ∀ a, a ∈ growS σ' β' → a ∈ growS σ β ∨ s.heap.get? a = none
  ext : ∃ β₂, β' = β ++ β₂ ∧ ∀ a ∈ β₂, s.heap.get? a = none
  alive : ∀ a, (s.heap.get? a).isSome = true → (s'.heap.get? a).isSome = true

theorem SOk.refl (S : Sim B π s.heap σ β) : SOk B π env s s σ σ β β := ⟨⟨s.heap, s.toks, rfl⟩, S, fun _ _ e _ _ => .of e, fun _ q => .inl q, ⟨[], by simp, fun _ h => nomatch h⟩, fun _ h => h⟩
theorem dead_of {h h' : Heap} (al : ∀ a, (h.get? a).isSome = true → (h'.get? a).isSome = true) {a : Addr} (e : h'.get? a = none) : h.get? a = none := by
  cases q : h.get? a with
  | none => rfl
  | some o => have := al a (by rw [q]; rfl); rw [e] at this; cases this
theorem SOk.trans {s₁ s₂ : Shared} {σ₁ σ₂ : Sto} {β₁ β₂ : List Addr} (x : SOk B π env s s₁ σ σ₁ β β₁) (y : SOk B π env s₁ s₂ σ₁ σ₂ β₁ β₂) : SOk B π env s s₂ σ σ₂ β β₂ where
  sh := by obtain ⟨h1, t1, rfl⟩ := x.sh; obtain ⟨h2, t2, rfl⟩ := y.sh; exact ⟨h2, t2, rfl⟩
  sim := y.sim
  keep := fun b o e hb hL => (x.keep b o e hb hL).step fun o' e' => y.keep b o' e' (fun q => by rcases x.mon b q with h | h; exact hb h; rw [e] at h; cases h) hL
  mon := fun a q => by
    rcases y.mon a q with h | h
    · exact x.mon a h
    · exact .inr (dead_of x.alive h)
  ext := by
    obtain ⟨b1, rfl, f1⟩ := x.ext
    obtain ⟨b2, rfl, f2⟩ := y.ext
    refine ⟨b1 ++ b2, by simp, fun a ha => ?_⟩
    rcases List.mem_append.mp ha with h | h
    · exact f1 a h
    · exact dead_of x.alive (f2 a h)
  alive := fun a h => y.alive a (x.alive a h)

theorem Ok.toS {m : Str → Option Value} (x : Ok B π env.locals β s s' σ σ') (S : Sim B π s.heap σ β) (hL : s.heap.Ns env.locals m) : SOk B π env s s' σ σ' β β where
  sh := x.sh
  sim := x.sim
  keep := fun b o e hb ho => x.keep b o e hb fun q => ho (by rw [q]; exact List.mem_cons_self)
  mon := fun a q => .inl (x.mon a q)
  ext := ⟨[], by simp, fun _ h => nomatch h⟩
  alive := x.alive S hL

/-- storing a name of the frame's -/
theorem store_sound {M : Model} {A : Around} {E : Value → Shared → Prop} {x : Str} {i : Nat} {v : Val} {v' : Value} {Q : Unit → Shared → Prop} (V : EnvOk cx env) (F : FrameOk cx env B π s.heap ρ σ β) (S : Sim B π s.heap σ β)
    (hn : cx.name i = some x) (hv : cx.isVar x = true) (r : RelV s.heap π β σ v v')
    (hQ : ∀ s', FrameOk cx env B π s'.heap (ρ.set i (some v)) σ β → SOk B π env s s' σ σ β β → (∀ w w', RelV s.heap π β σ w w' → RelV s'.heap π β σ w w') → Q () s') : wpAny M A (storeName env x v') Q E s := by
  have hk : env.scope.kind = .function := V.scope ▸ V.kind
  simp only [Cx.isVar, Bool.or_eq_true, beq_iff_eq] at hv
  obtain ⟨m, hm, hl⟩ := F.loc
  rcases hv with hv | hv
  · refine wpAny_storeName_local (by show env.scope.names.lookup x = _; rw [V.scope]; exact hv) hm (fun h' hn' hs' => ?_) (by rw [hk]; rfl)
    have sk : SeqKeep (grow π σ β) (grow π σ β) s.heap h' := fun a o xs n ho hd ha => ⟨ha, by
      rw [hs'.2 a (by rintro rfl; obtain ⟨o', es, ep, ho', hd', _⟩ := hm; rw [ho] at ho'; cases ho'; rw [hd] at hd'; cases hd')]; exact ho⟩
    have hrel : ∀ w w', RelV s.heap π β σ w w' → RelV h' π β σ w w' := fun w w' q => by
      cases w with
      | dat d => exact Rep.mono sk q
      | ref k => exact q
      | exc c => exact q
    have S' : Sim B π h' σ β := by
      refine ⟨S.len, S.nodup, fun b o e => ?_, S.new, fun k e a h1 h2 => ?_, fun a ha => ⟨?_, (S.priv a ha).2⟩⟩
      · rw [hs'.2 b (fun q => Nat.lt_irrefl _ (Nat.lt_of_lt_of_le (Heap.lt_size (q ▸ e)) F.off.2))]; exact S.base b o e
      · obtain ⟨vs, hp, hr⟩ := S.ent k e a h1 h2
        exact ⟨vs, hp.at fun o e => by rw [hs'.2 a (fun q => F.off.1 (q ▸ List.mem_of_getElem? h2))]; exact e, Reps.mono sk hr⟩
      · by_cases hl' : a = env.locals
        · subst hl'; obtain ⟨o', _, _, ho', _⟩ := hn'; rw [ho']; rfl
        · rw [hs'.2 a hl']; exact (S.priv a ha).1
    refine hQ _ ⟨⟨_, hn', fun j y w h1 h2 h3 => ?_⟩, fun j y h1 h2 => ?_, F.off, F.offc⟩ ⟨⟨_, _, rfl⟩, S', fun b o e hb ho => ?_, fun a q => .inl q, ⟨[], by simp, fun _ h => nomatch h⟩, fun a h => ?_⟩ hrel
    · by_cases hj : i = j
      · subst hj
        rw [hn] at h1; cases h1
        rw [List.getElem?_set_self'] at h3
        cases hq : ρ[i]? with
        | none => rw [hq] at h3; cases h3
        | some z => rw [hq] at h3; simp at h3; subst h3; exact ⟨v', by simp, hrel _ _ r⟩
      · rw [List.getElem?_set_ne hj] at h3
        have hxy : y ≠ x := fun q => hj (V.inj i j x hn (q ▸ h1))
        obtain ⟨w', e, rw'⟩ := hl j y w h1 h2 h3
        exact ⟨w', by simp [hxy, e], hrel _ _ rw'⟩
    · obtain ⟨c, o, hc, hi, hw⟩ := F.cell j y h1 h2
      have hcl := V.off _ (mem_of_lookup hc)
      refine ⟨c, o, hc, hi.sameBut hs' hcl, fun w h3 => ?_⟩
      have hj : i ≠ j := by rintro rfl; rw [hn] at h1; cases h1; rw [hv] at h2; cases h2
      rw [List.getElem?_set_ne hj] at h3
      obtain ⟨w', e, rw'⟩ := hw w h3
      exact ⟨w', e, hrel _ _ rw'⟩
    · refine .of ?_
      show h'.get? b = some o
      rw [hs'.2 b (fun q => ho (by rw [q]; exact List.mem_cons_self))]; exact e
    · show (h'.get? a).isSome = true
      by_cases hl' : a = env.locals
      · subst hl'; obtain ⟨o', _, _, ho', _⟩ := hn'; rw [ho']; rfl
      · rw [hs'.2 a hl']; exact h
  · obtain ⟨c, o, hc, hi, hw⟩ := F.cell i x hn hv
    have hcl := V.off _ (mem_of_lookup hc)
    refine wpAny_storeName_cell hk (by show env.scope.names.lookup x = _; rw [V.scope]; exact hv) hc hi fun h' hc' hs' => ?_
    have hcβ := cell_not_grow S hi
    have sk : SeqKeep (grow π σ β) (grow π σ β) s.heap h' := fun a o xs n ho hd ha => ⟨ha, by
      rw [hs'.2 a (by rintro rfl; obtain ⟨o', ho', hd'⟩ := hi; rw [ho] at ho'; cases ho'; rw [hd] at hd'; cases hd')]; exact ho⟩
    have hrel : ∀ w w', RelV s.heap π β σ w w' → RelV h' π β σ w w' := fun w w' q => by
      cases w with
      | dat d => exact Rep.mono sk q
      | ref k => exact q
      | exc c => exact q
    have S' : Sim B π h' σ β := by
      refine ⟨S.len, S.nodup, fun b o e => ?_, S.new, fun k e a h1 h2 => ?_, fun a ha => ⟨?_, (S.priv a ha).2⟩⟩
      · rw [hs'.2 b (fun q => Nat.lt_irrefl _ (Nat.lt_of_lt_of_le (Heap.lt_size (q ▸ e)) (F.offc _ (mem_of_lookup hc))))]; exact S.base b o e
      · obtain ⟨vs, hp, hr⟩ := S.ent k e a h1 h2
        exact ⟨vs, hp.at fun o e => by rw [hs'.2 a (fun q => hcβ (q ▸ List.mem_of_getElem? h2))]; exact e, Reps.mono sk hr⟩
      · by_cases hl' : a = c
        · subst hl'; obtain ⟨o', ho', _⟩ := hc'; rw [ho']; rfl
        · rw [hs'.2 a hl']; exact (S.priv a ha).1
    refine hQ _ ⟨⟨m, hm.sameBut hs' (Ne.symm hcl), fun j y w h1 h2 h3 => ?_⟩, fun j y h1 h2 => ?_, F.off, F.offc⟩ ⟨⟨_, _, rfl⟩, S', fun b o e hb ho => ?_, fun a q => .inl q, ⟨[], by simp, fun _ h => nomatch h⟩, fun a h => ?_⟩ hrel
    · have hj : i ≠ j := by rintro rfl; rw [hn] at h1; cases h1; rw [hv] at h2; cases h2
      rw [List.getElem?_set_ne hj] at h3
      obtain ⟨w', e, rw'⟩ := hl j y w h1 h2 h3
      exact ⟨w', e, hrel _ _ rw'⟩
    · by_cases hj : i = j
      · subst hj
        rw [hn] at h1; cases h1
        refine ⟨c, some v', hc, hc', fun w h3 => ?_⟩
        rw [List.getElem?_set_self'] at h3
        cases hq : ρ[i]? with
        | none => rw [hq] at h3; cases h3
        | some z => rw [hq] at h3; simp at h3; subst h3; exact ⟨v', rfl, hrel _ _ r⟩
      · obtain ⟨c2, o2, hc2, hi2, hw2⟩ := F.cell j y h1 h2
        have hne : c2 ≠ c := fun q => hj (V.inj i j x hn (by rw [name_of_addr V.apart (mem_of_lookup hc) (q ▸ mem_of_lookup hc2)]; exact h1))
        refine ⟨c2, o2, hc2, hi2.sameBut hs' hne, fun w h3 => ?_⟩
        rw [List.getElem?_set_ne hj] at h3
        obtain ⟨w', e, rw'⟩ := hw2 w h3
        exact ⟨w', e, hrel _ _ rw'⟩
    · refine .of ?_
      show h'.get? b = some o
      rw [hs'.2 b (fun q => ho (by rw [q]; exact List.mem_cons_of_mem _ (List.mem_map.mpr ⟨_, mem_of_lookup hc, rfl⟩)))]; exact e
    · show (h'.get? a).isSome = true
      by_cases hl' : a = c
      · subst hl'; obtain ⟨o', ho', _⟩ := hc'; rw [ho']; rfl
      · rw [hs'.2 a hl']; exact h
end

/-! ## what stands at the top -/
structure Wd (prog : Program) (w : World) (B : Heap) (Δ : Nat → Option Fn) (fnm : Nat → Option Str) (con : Str → Option Dat) (mg mb : Str → Option Value) : Prop where
  g : B.Ns mainGlobals mg
  b : B.Ns builtinsNs mb
  nolimit : B.NoLimit
  bi : ∀ x v, (x, v) ∈ bis → mg x = none ∧ mb x = some v
  fn : ∀ f x, fnm f = some x → ∃ fn vars d a o pm code doc, Δ f = some fn ∧ mg x = some (.ref a) ∧ B.get? a = some o ∧ o.data = .func (Calls.docDef d.name d.params d.body d.scope pm code doc) ∧ B.CodeRec code d.name ∧ chkFn f fnm con vars d fn = true ∧ d.name = x
  con : ∀ x d, con x = some d → ∃ v, mg x = some v ∧ ∀ h γ, Rep h γ d v

section
variable {cx : Cx} {env : Env} {B : Heap} {ρ : Loc} {σ σ' : Sto} {π β : List Addr} {s s' : Shared} {prog : Program} {w : World} {Δ : Nat → Option Fn} {mg mb : Str → Option Value}
  {M : Model} {A : Around} {E : Value → Shared → Prop}

theorem glob_sound {x : Str} {pos : Pos} {v : Value} {Q : Value → Shared → Prop} (W : Wd prog w B Δ cx.fn cx.con mg mb) (V : EnvOk cx env) (S : Sim B π s.heap σ β) (hx : cx.isGlob x = true) (hv : mg x = some v) (h : Q v s) :
    wpAny M A (eval (.Name x pos) env) Q E s := by
  simp only [Cx.isGlob, Bool.and_eq_true, beq_iff_eq, Bool.not_eq_true'] at hx
  refine Calls.Name_function_global (V.scope ▸ V.kind) (by show env.scope.names.lookup x = _; rw [V.scope]; exact hx.1) ?_ hx.2
  exact Calls.loadGlobal_global (by rw [V.globals]; exact W.g.keeps S.base) hv h
theorem bi_sound {x : Str} {pos : Pos} {v : Value} {Q : Value → Shared → Prop} (W : Wd prog w B Δ cx.fn cx.con mg mb) (V : EnvOk cx env) (S : Sim B π s.heap σ β) (hx : cx.isGlob x = true) (hv : (x, v) ∈ bis) (h : Q v s) :
    wpAny M A (eval (.Name x pos) env) Q E s := by
  simp only [Cx.isGlob, Bool.and_eq_true, beq_iff_eq, Bool.not_eq_true'] at hx
  refine Calls.Name_function_global (V.scope ▸ V.kind) (by show env.scope.names.lookup x = _; rw [V.scope]; exact hx.1) ?_ hx.2
  have hb := W.bi x v hv
  exact Calls.loadGlobal_builtin (by rw [V.globals]; exact W.g.keeps S.base) hb.1 (by rw [V.builtins]; exact W.b.keeps S.base) hb.2 h
end
end Mine

/-! ## MIter -/
namespace Mine
open PySem PyProof.Rows

/-- the kinds of iterators over one object -/
inductive Kd where
  | list (a : Addr)
  | tuple (a : Addr)
  | ascii (x : List Nat) (t : Tok)
  | wide (x : List Nat) (t : Tok)
  | range (a : Int) (n : Nat)

noncomputable def Kd.St (h : Heap) (I : Addr) : Kd → Nat → Prop
  | .list a, i => h.IsListIter I a i
  | .tuple a, i => h.IsTupleIter I a i
  | .ascii x t, i => h.IsStrIter I "str_ascii_iterator" ⟨x.toArray⟩ t i
  | .wide x t, i => h.IsStrIter I "str_iterator" ⟨x.toArray⟩ t i
  | .range a n, i => IsRangeIter h I (a + i) ((n : Int) - i) 1

noncomputable def Kd.Is (h : Heap) (π β : List Addr) (σ : Sto) (src : Src) : Kd → Prop
  | .list a => (src.held = none ∧ Rep h (grow π σ β) (.lst src.items) (.ref a)) ∨ ∃ k, src.held = some k ∧ β[k]? = some a
  | .tuple a => src.held = none ∧ Rep h (grow π σ β) (.tup src.items) (.ref a)
  | .ascii x _ => src = ⟨x.map fun c => .str [c], none⟩
  | .wide x _ => src = ⟨x.map fun c => .str [c], none⟩
  | .range a n => src = ⟨rangeD a (a + n), none⟩

theorem Kd.St.fields {h : Heap} {I : Addr} {K : Kd} {i : Nat} (x : K.St h I i) : ∃ o vs, h.get? I = some o ∧ o.data = .fields vs := by
  cases K with
  | list a => obtain ⟨o, ho, _, hd⟩ := x; exact ⟨o, _, ho, hd⟩
  | tuple a => obtain ⟨o, ho, _, hd⟩ := x; exact ⟨o, _, ho, hd⟩
  | ascii x t => obtain ⟨o, ho, _, hd⟩ := x; exact ⟨o, _, ho, hd⟩
  | wide x t => obtain ⟨o, ho, _, hd⟩ := x; exact ⟨o, _, ho, hd⟩
  | range a n => exact ⟨_, _, x, rfl⟩
theorem Kd.St.at {h h' : Heap} {I : Addr} {K : Kd} {i : Nat} (x : K.St h I i) (hk : ∀ o, h.get? I = some o → h'.get? I = some o) : K.St h' I i := by
  cases K with
  | list a => obtain ⟨o, ho, r⟩ := x; exact ⟨o, hk o ho, r⟩
  | tuple a => obtain ⟨o, ho, r⟩ := x; exact ⟨o, hk o ho, r⟩
  | ascii x t => obtain ⟨o, ho, r⟩ := x; exact ⟨o, hk o ho, r⟩
  | wide x t => obtain ⟨o, ho, r⟩ := x; exact ⟨o, hk o ho, r⟩
  | range a n => exact hk _ x
theorem Kd.Is.mono {h h' : Heap} {π β : List Addr} {β₂ : List Addr} {σ σ' : Sto} {src : Src} {K : Kd} (x : K.Is h π β σ src) (hk : SeqKeep (grow π σ β) (grow π σ' (β ++ β₂)) h h') : K.Is h' π (β ++ β₂) σ' src := by
  cases K with
  | list a =>
    rcases x with ⟨h1, h2⟩ | ⟨k, h1, h2⟩
    · exact .inl ⟨h1, Rep.mono hk h2⟩
    · exact .inr ⟨k, h1, by rw [List.getElem?_append_left (List.getElem?_eq_some_iff.mp h2).1]; exact h2⟩
  | tuple a => exact ⟨x.1, Rep.mono hk x.2⟩
  | ascii => exact x
  | wide => exact x
  | range => exact x
theorem Kd.Is.mono' {h h' : Heap} {π β : List Addr} {σ σ' : Sto} {src : Src} {K : Kd} (x : K.Is h π β σ src) (hk : SeqKeep (grow π σ β) (grow π σ' β) h h') : K.Is h' π β σ' src := by
  have := Kd.Is.mono (β₂ := []) (σ' := σ') (h' := h') x (by simpa using hk)
  simpa using this

/-- what a step of an iterator leaves -/
theorem iterKeep {h h' : Heap} {I : Addr} {γ : List Addr} {o₀ : Obj} {vs₀ : Array Value} (hI : h.get? I = some o₀) (hd₀ : o₀.data = .fields vs₀) (hk : ∀ b o, b ≠ I → h.get? b = some o → h'.get? b = some o) : SeqKeep γ γ h h' :=
  fun a o xs n ho hd ha => ⟨ha, hk a o (by rintro rfl; rw [hI] at ho; cases ho; rw [hd₀] at hd; cases hd) ho⟩

section
variable {prog : Program} {w : World} {A : Around} {E : Value → Shared → Prop} {s : Shared} {B : Heap} {π β : List Addr} {σ : Sto} {src : Src} {K : Kd} {I : Addr}

theorem rangeD_get {a : Int} {n i : Nat} : (rangeD a (a + n))[i]? = if i < n then some (.int (a + i)) else none := by
  unfold rangeD
  have : (a + n - a).toNat = n := by omega
  rw [this, List.getElem?_map]
  by_cases h : i < n
  · simp [h]
  · simp [h]
theorem rangeD_len {a : Int} {n : Nat} : (rangeD a (a + n)).length = n := by
  unfold rangeD
  simp; omega

theorem next_item {i : Nat} {d : Dat} {Q : Option Value → Shared → Prop} (S : Sim B π s.heap σ β) (hs : src.still σ = true) (hK : K.Is s.heap π β σ src) (hst : K.St s.heap I i) (hi : src.items[i]? = some d)
    (hQ : ∀ v' h' tk, Rep h' (grow π σ β) d v' → K.St h' I (i + 1) → (∀ b o, b ≠ I → s.heap.get? b = some o → h'.get? b = some o) → Q (some v') { s with heap := h', toks := tk }) :
    wpAny (model prog w) A (pyNext (.ref I)) Q E s := by
  obtain ⟨o₀, vs₀, hI, hd₀⟩ := hst.fields
  cases K with
  | list a =>
    have key : ∃ vs, s.heap.IsList a vs ∧ Reps s.heap (grow π σ β) src.items vs.toList := by
      rcases hK with ⟨h1, h2⟩ | ⟨k, h1, h2⟩
      · simp only [Rep] at h2
        obtain ⟨a', vs, e, _, hl, hr⟩ := h2
        cases e
        exact ⟨vs, hl, hr⟩
      · simp only [Src.still, h1, decide_eq_true_eq] at hs
        cases hq : σ[k]? with
        | none => rw [hq] at hs; cases hs
        | some e =>
          rw [hq] at hs
          obtain ⟨vs, hp, hr⟩ := S.ent k e a hq h2
          simp at hs
          exact ⟨vs, hp.isList, hs ▸ hr⟩
    obtain ⟨vs, hl, hr⟩ := key
    obtain ⟨v, hv, rv⟩ := hr.get hi
    refine wpAny_pyNext_list_item hst hl (by rw [← Array.getElem?_toList]; exact hv) fun h' hit' hs' => ?_
    have hk : ∀ b o, b ≠ I → s.heap.get? b = some o → h'.get? b = some o := fun b o hb e => hs'.extBut b o hb e
    exact hQ v h' s.toks (Rep.mono (iterKeep hI hd₀ hk) rv) hit' hk
  | tuple a =>
    obtain ⟨h1, h2⟩ := hK
    simp only [Rep] at h2
    obtain ⟨a', vs, e, _, hl, hr⟩ := h2
    cases e
    obtain ⟨v, hv, rv⟩ := hr.get hi
    refine wpAny_pyNext_tuple_item hst hl (by rw [← Array.getElem?_toList]; exact hv) fun h' hit' hs' => ?_
    have hk : ∀ b o, b ≠ I → s.heap.get? b = some o → h'.get? b = some o := fun b o hb e => hs'.extBut b o hb e
    exact hQ v h' s.toks (Rep.mono (iterKeep hI hd₀ hk) rv) hit' hk
  | ascii x t =>
    have hK : src = _ := hK
    subst hK
    simp only [List.getElem?_map] at hi
    cases hc : x[i]? with
    | none => rw [hc] at hi; cases hi
    | some c =>
      rw [hc] at hi; cases hi
      refine wpAny_pyNext_ascii_item hst (c := c) (by simpa using hc) fun h' hit' hs' => ?_
      exact hQ _ h' _ ⟨_, rfl⟩ hit' fun b o hb e => hs'.extBut b o hb e
  | wide x t =>
    have hK : src = _ := hK
    subst hK
    simp only [List.getElem?_map] at hi
    cases hc : x[i]? with
    | none => rw [hc] at hi; cases hi
    | some c =>
      rw [hc] at hi; cases hi
      refine wpAny_pyNext_wide_item hst (c := c) (by simpa using hc) fun h' hit' hs' => ?_
      exact hQ _ h' _ ⟨_, rfl⟩ hit' fun b o hb e => hs'.extBut b o hb e
  | range a n =>
    have hK : src = _ := hK
    subst hK
    rw [rangeD_get] at hi
    split at hi
    · rename_i hlt
      cases hi
      refine wpAny_pyNext_range_item hst (by omega) fun h' hit' hs' => ?_
      refine hQ _ h' _ ⟨_, rfl⟩ ?_ fun b o hb e => hs'.extBut b o hb e
      show IsRangeIter h' I (a + ((i + 1 : Nat) : Int)) ((n : Int) - ((i + 1 : Nat) : Int)) 1
      have e1 : a + ((i + 1 : Nat) : Int) = a + (i : Int) + 1 := by omega
      have e2 : (n : Int) - ((i + 1 : Nat) : Int) = (n : Int) - (i : Int) - 1 := by omega
      rw [e1, e2]; exact hit'
    · cases hi

theorem next_done {i : Nat} {Q : Option Value → Shared → Prop} (hh : A.handled = none) (S : Sim B π s.heap σ β) (hs : src.still σ = true) (hK : K.Is s.heap π β σ src) (hst : K.St s.heap I i) (hi : src.items.length ≤ i) (hi' : i ≤ src.items.length)
    (hQ : ∀ h' tk, (∀ b o, b ≠ I → s.heap.get? b = some o → h'.get? b = some o) → Q none { s with heap := h', toks := tk }) :
    wpAny (model prog w) A (pyNext (.ref I)) Q E s := by
  cases K with
  | list a =>
    have key : ∃ vs, s.heap.IsList a vs ∧ Reps s.heap (grow π σ β) src.items vs.toList := by
      rcases hK with ⟨h1, h2⟩ | ⟨k, h1, h2⟩
      · simp only [Rep] at h2
        obtain ⟨a', vs, e, _, hl, hr⟩ := h2
        cases e
        exact ⟨vs, hl, hr⟩
      · simp only [Src.still, h1, decide_eq_true_eq] at hs
        cases hq : σ[k]? with
        | none => rw [hq] at hs; cases hs
        | some e =>
          rw [hq] at hs
          obtain ⟨vs, hp, hr⟩ := S.ent k e a hq h2
          simp at hs
          exact ⟨vs, hp.isList, hs ▸ hr⟩
    obtain ⟨vs, hl, hr⟩ := key
    have := hr.size
    exact wpAny_pyNext_list_end hh hst hl (by simp; omega) fun h' he' => hQ h' s.toks fun b o hb e => he' b o hb e
  | tuple a =>
    obtain ⟨h1, h2⟩ := hK
    simp only [Rep] at h2
    obtain ⟨a', vs, e, _, hl, hr⟩ := h2
    cases e
    have := hr.size
    exact wpAny_pyNext_tuple_end hh hst hl (by simp; omega) fun h' he' => hQ h' s.toks fun b o hb e => he' b o hb e
  | ascii x t =>
    have hK : src = _ := hK
    subst hK
    simp only [List.length_map] at hi hi'
    exact wpAny_pyNext_ascii_end hh hst (by simp; omega) fun h' he' => hQ h' s.toks fun b o hb e => he' b o hb e
  | wide x t =>
    have hK : src = _ := hK
    subst hK
    simp only [List.length_map] at hi hi'
    exact wpAny_pyNext_wide_end hh hst (by simp; omega) fun h' he' => hQ h' s.toks fun b o hb e => he' b o hb e
  | range a n =>
    have hK : src = _ := hK
    subst hK
    rw [rangeD_len] at hi hi'
    exact wpAny_pyNext_range_end hh hst (by omega) fun h' he' => hQ h' s.toks fun b o hb e => he' b o hb e

theorem iter_self {i : Nat} {Q : Value → Shared → Prop} (hst : K.St s.heap I i) (hQ : Q (.ref I) s) : wpAny (model prog w) A (pyIter (.ref I)) Q E s := by
  cases K with
  | list a => exact wpAny_pyIter_listiter hst hQ
  | tuple a => exact wpAny_pyIter_tupleiter hst hQ
  | ascii x t => exact wpAny_pyIter_striter_ascii hst hQ
  | wide x t => exact wpAny_pyIter_striter_wide hst hQ
  | range a n => exact wpAny_pyIter_rangeiter hst hQ

/-- a value that a loop goes over -/
inductive IterVal (h : Heap) (π β : List Addr) (σ : Sto) : Src → Value → Prop where
  | dat {d : Dat} {l : List Dat} {v : Value} : Rep h (grow π σ β) d v → itemsOf d = some l → IterVal h π β σ ⟨l, none⟩ v
  | held {k : Nat} {e : Bool × List Dat} {a : Addr} : σ[k]? = some e → β[k]? = some a → IterVal h π β σ ⟨e.2, some k⟩ (.ref a)
  | range {r : Addr} {a b : Int} {t u v : Tok} : IsRange h r a b 1 t u v → -1000000 ≤ a → a ≤ 1000000 → -1000000 ≤ b → b ≤ 1000000 → IterVal h π β σ ⟨rangeD a b, none⟩ (.ref r)

theorem rangeD_pos {a b : Int} (h : a ≤ b) : rangeD a b = rangeD a (a + ((b - a).toNat : Nat)) := by
  unfold rangeD
  have : (a + ((b - a).toNat : Nat) - a).toNat = (b - a).toNat := by omega
  rw [this]
theorem rangeD_neg {a b : Int} (h : ¬ a ≤ b) : rangeD a b = rangeD a (a + (0 : Nat)) := by
  unfold rangeD
  have : (b - a).toNat = 0 := by omega
  rw [this]
  simp

theorem iter_start {xv : Value} {Q : Value → Shared → Prop} (S : Sim B π s.heap σ β) (hv : IterVal s.heap π β σ src xv)
    (hQ : ∀ K o, (K : Kd).Is s.heap π β σ src → K.St (s.heap.push o) s.heap.objs.size 0 → o.isFreed = false → Q (.ref s.heap.objs.size) { s with heap := s.heap.push o }) :
    wpAny (model prog w) A (pyIter xv) Q E s := by
  cases hv with
  | @dat d l v r hl =>
    cases d with
    | lst ds =>
      simp only [itemsOf, Option.some.injEq] at hl
      subst hl
      have r0 := r
      simp only [Rep] at r
      obtain ⟨a, vs, rfl, _, h1, _⟩ := r
      refine wpAny_pyIter_list h1 (hQ (.list a) _ (.inl ⟨rfl, r0⟩) ⟨_, Heap.get?_push_size _ rfl, rfl, rfl⟩ rfl)
    | tup ds =>
      simp only [itemsOf, Option.some.injEq] at hl
      subst hl
      have r0 := r
      simp only [Rep] at r
      obtain ⟨a, vs, rfl, _, h1, _⟩ := r
      refine wpAny_pyIter_tuple h1 (hQ (.tuple a) _ ⟨rfl, r0⟩ ⟨_, Heap.get?_push_size _ rfl, rfl, rfl⟩ rfl)
    | str x =>
      simp only [itemsOf, Option.some.injEq] at hl
      subst hl
      obtain ⟨t, rfl⟩ := r
      by_cases ha : (Str.mk x.toArray).cps.all (· < 128) = true
      · exact wpAny_pyIter_ascii ha (hQ (.ascii x t) _ rfl ⟨_, Heap.get?_push_size _ rfl, rfl, rfl⟩ rfl)
      · exact wpAny_pyIter_wide (by simpa using ha) (hQ (.wide x t) _ rfl ⟨_, Heap.get?_push_size _ rfl, rfl, rfl⟩ rfl)
    | none => cases hl
    | bool _ => cases hl
    | int _ => cases hl
  | @held k e a h1 h2 =>
    obtain ⟨vs, hp, _⟩ := S.ent k e a h1 h2
    exact wpAny_pyIter_list hp.isList (hQ (.list a) _ (.inr ⟨k, rfl, h2⟩) ⟨_, Heap.get?_push_size _ rfl, rfl, rfl⟩ rfl)
  | @range r a b t u v hr h1 h2 h3 h4 =>
    have hsz : Builtin.Range.rangeSize a b 1 = if a ≤ b then b - a else 0 := by
      unfold Builtin.Range.rangeSize
      split <;> simp <;> omega
    have hsm : Builtin.Range.small a b 1 = true := by
      unfold Builtin.Range.small
      rw [hsz]
      simp only [Builtin.Range.rangeFitsLong]
      split <;> simp <;> omega
    refine wpAny_pyIter_range hr hsm ?_
    rw [hsz]
    by_cases hab : a ≤ b
    · rw [if_pos hab]
      refine hQ (.range a (b - a).toNat) _ (by show _ = _; rw [rangeD_pos hab]) ?_ rfl
      show IsRangeIter _ _ _ _ _
      have e1 : a + ((0 : Nat) : Int) = a := by omega
      have e2 : (((b - a).toNat : Nat) : Int) - ((0 : Nat) : Int) = b - a := by omega
      rw [e1, e2]
      exact Heap.get?_push_size _ rfl
    · rw [if_neg hab]
      refine hQ (.range a 0) _ (by show _ = _; rw [rangeD_neg hab]) ?_ rfl
      show IsRangeIter _ _ _ _ _
      have e1 : a + ((0 : Nat) : Int) = a := by omega
      have e2 : ((0 : Nat) : Int) - ((0 : Nat) : Int) = 0 := by omega
      rw [e1, e2]
      exact Heap.get?_push_size _ rfl
end
end Mine

/-! ## MEv -/
namespace Mine
open PySem PyProof.Rows

theorem Out.bind_eq {α β : Type} {o : Out α} {f : α → Sto → Out β} {b : β} {σ : Sto} (h : o.bind f = .val b σ) : ∃ a σ₁, o = .val a σ₁ ∧ f a σ₁ = .val b σ := by
  cases o with
  | val a σ₁ => exact ⟨a, σ₁, rfl, h⟩
  | exn c σ₁ => cases h
  | bad => cases h
theorem Out.keepX_eq {α : Type} {o : Out α} {b : Bool} {a : α} {σ : Sto} (h : o.keepX b = .val a σ) : o = .val a σ := by
  cases b with
  | true => exact h
  | false => cases o <;> first | exact h | cases h
theorem Out.bindX_eq {α β : Type} {o : Out α} {f : α → Sto → Out β} {b : β} {σ : Sto} (h : o.bindX f = .val b σ) : ∃ a σ₁, o = .val a σ₁ ∧ f a σ₁ = .val b σ := by
  cases o with
  | val a σ₁ => exact ⟨a, σ₁, rfl, h⟩
  | exn c σ₁ => cases h
  | bad => cases h
theorem Out.noX_eq {α : Type} {o : Out α} {a : α} {σ : Sto} (h : o.noX = .val a σ) : o = .val a σ := by
  cases o with
  | val => exact h
  | exn => cases h
  | bad => cases h
theorem d1_eq {f : Dat → Option Dat} {v x : Val} {σ σ' : Sto} (h : d1 f v σ = .val x σ') : ∃ a d, look σ v = some a ∧ f a = some d ∧ x = .dat d ∧ σ' = σ := by
  unfold d1 at h
  cases ha : look σ v with
  | none => rw [ha] at h; cases h
  | some a =>
    rw [ha] at h
    simp only [Option.bind_some] at h
    cases hf : f a with
    | none => rw [hf] at h; cases h
    | some d => rw [hf] at h; cases h; exact ⟨a, d, rfl, hf, rfl, rfl⟩
theorem d2_eq {f : Dat → Dat → Option Dat} {v w x : Val} {σ σ' : Sto} (h : d2 f v w σ = .val x σ') : ∃ a b d, look σ v = some a ∧ look σ w = some b ∧ f a b = some d ∧ x = .dat d ∧ σ' = σ := by
  unfold d2 at h
  cases ha : look σ v with
  | none => rw [ha] at h; cases h
  | some a =>
    rw [ha] at h
    cases hb : look σ w with
    | none => rw [hb] at h; cases h
    | some b =>
      rw [hb] at h
      simp only [Option.bind_some] at h
      cases hf : f a b with
      | none => rw [hf] at h; cases h
      | some d => rw [hf] at h; cases h; exact ⟨a, b, d, rfl, rfl, hf, rfl, rfl⟩
theorem c2_eq {op : COp} {v w : Val} {σ : Sto} {r : Bool} (h : c2 op v w σ = some r) : ∃ a b, look σ v = some a ∧ look σ w = some b ∧ cmp2 op a b = some r := by
  unfold c2 at h
  cases ha : look σ v with
  | none => rw [ha] at h; cases h
  | some a =>
    rw [ha] at h
    cases hb : look σ w with
    | none => rw [hb] at h; cases h
    | some b => rw [hb] at h; exact ⟨a, b, rfl, rfl, h⟩
theorem ofOpt_eq {α : Type} {o : Option α} {a : α} {σ σ' : Sto} (h : ofOpt o σ = .val a σ') : o = some a ∧ σ' = σ := by
  cases o with
  | none => cases h
  | some x => cases h; exact ⟨rfl, rfl⟩
theorem truthOf_eq {v : Val} {σ σ' : Sto} {b : Bool} (h : truthOf v σ = .val b σ') : look σ v = some (.bool b) ∧ σ' = σ := by
  obtain ⟨h1, h2⟩ := ofOpt_eq h
  cases ha : look σ v with
  | none => rw [ha] at h1; cases h1
  | some a =>
    rw [ha] at h1
    cases a <;> simp only [Option.bind_some, truthD, reduceCtorEq, Option.some.injEq] at h1
    subst h1
    exact ⟨rfl, h2⟩

noncomputable def RelVs (h : Heap) (π β : List Addr) (σ : Sto) : List Val → List Value → Prop
  | [], [] => True
  | v :: vs, v' :: vs' => RelV h π β σ v v' ∧ RelVs h π β σ vs vs'
  | _, _ => False

structure At (fnm : Nat → Option Str) (con : Con) (B : Heap) (π : List Addr) (cx : Cx) (env : Env) (s : Shared) (ρ : Loc) (σ : Sto) (β : List Addr) : Prop where
  fn : cx.fn = fnm
  con : cx.con = con.tab ∧ (cx.top = true → env = con.env0 ∧ con.lone = true)
  V : EnvOk cx env
  F : FrameOk cx env B π s.heap ρ σ β
  S : Sim B π s.heap σ β

structure Hyp (prog : Program) (w : World) (A : Around) (B : Heap) (Δ : Nat → Option Fn) (fnm : Nat → Option Str) (con : Con) (mg mb : Str → Option Value) (C : Oracle) : Prop where
  W : Wd prog w B Δ fnm con.tab mg mb
  hh : A.handled = none
  hu : A.units + 1000 < cLine
  hC : ∀ (f : Nat) (x : Str) (args : List Val) (vals : List Value) (σ σ' : Sto) (d : Dat) (π β : List Addr) (s : Shared) (E : Value → Shared → Prop) (a : Addr), fnm f = some x → mg x = some (.ref a) → x ≠ ("law" : Str) → (isSp f = true → con.lone = true ∧ ∃ m, s.heap.Ns con.env0.locals m) → C f args σ = .val d σ' →
    RelVs s.heap π β σ args vals → Sim B π s.heap σ β → B.objs.size ≤ s.heap.objs.size → wpAny (model prog w) A (call (.ref a) vals) (fun v' s' => Rep s'.heap (grow π σ' β) d v' ∧ ∀ L, Ok B π L β s s' σ σ') E s

section
variable {prog : Program} {w : World} {A : Around} {B : Heap} {Δ : Nat → Option Fn} {fnm : Nat → Option Str} {con : Con} {mg mb : Str → Option Value} {sub : Nat → Nat → Bool} {C : Oracle}
  {cx : Cx} {env : Env} {s s' : Shared} {ρ : Loc} {σ σ' : Sto} {π β : List Addr} {E : Value → Shared → Prop}

theorem At.ok (a : At fnm con B π cx env s ρ σ β) (x : Ok B π env.locals β s s' σ σ') : At fnm con B π cx env s' ρ σ' β := ⟨a.fn, a.con, a.V, a.F.ok a.V a.S x, x.sim⟩
theorem At.baseLe (a : At fnm con B π cx env s ρ σ β) : B.objs.size ≤ s.heap.objs.size := by
  obtain ⟨m, h, _⟩ := a.F.loc
  have h1 : @LT.lt Nat instLTNat env.locals s.heap.objs.size := h.lt
  have h2 : @LE.le Nat instLENat B.objs.size env.locals := a.F.off.2
  omega
theorem At.ns (a : At fnm con B π cx env s ρ σ β) : ∃ m, s.heap.Ns env.locals m := let ⟨m, h, _⟩ := a.F.loc; ⟨m, h⟩
theorem At.rel (a : At fnm con B π cx env s ρ σ β) (x : Ok B π env.locals β s s' σ σ') {v : Val} {v' : Value} (r : RelV s.heap π β σ v v') : RelV s'.heap π β σ' v v' := by
  obtain ⟨m, hm⟩ := a.ns
  exact r.ok x hm
theorem At.rep (a : At fnm con B π cx env s ρ σ β) (x : Ok B π env.locals β s s' σ σ') {d : Dat} {v' : Value} (r : Rep s.heap (grow π σ β) d v') : Rep s'.heap (grow π σ' β) d v' := a.rel (v := .dat d) x r
theorem At.reps (a : At fnm con B π cx env s ρ σ β) (x : Ok B π env.locals β s s' σ σ') {ds : List Dat} {vs : List Value} (r : Reps s.heap (grow π σ β) ds vs) : Reps s'.heap (grow π σ' β) ds vs := by
  obtain ⟨m, hm⟩ := a.ns
  exact Reps.mono (x.seq hm) r
abbrev EP (B : Heap) (π : List Addr) (env : Env) (β : List Addr) (s : Shared) (σ : Sto) (v : Val) (σ' : Sto) (v' : Value) (s' : Shared) : Prop := RelV s'.heap π β σ' v v' ∧ Ok B π env.locals β s s' σ σ'

theorem ep_of_vpost {s₁ s₂ : Shared} {σ₁ : Sto} {d : Dat} {v' : Value} (o : Ok B π env.locals β s s₁ σ σ₁) (p : VPost B π env.locals β σ₁ s₁ d v' s₂) : EP B π env β s σ (.dat d) σ₁ v' s₂ := ⟨p.1, o.trans p.2⟩

theorem const_sound {c : Const} {d : Dat} {k : Nat} {pos : Pos} {M : Model} (S : Sim B π s.heap σ β) (h : chkC c d = true) : wpAny M A (eval (.Constant c k pos) env) (EP B π env β s σ (.dat d) σ) E s := by
  rw [eval_Constant]
  cases c <;> cases d <;> simp only [chkC, Bool.false_eq_true] at h
  · exact wpAny_pure ⟨rfl, Ok.refl S⟩
  · simp only [beq_iff_eq] at h; subst h
    exact wpAny_pure ⟨rfl, Ok.refl S⟩
  · simp only [beq_iff_eq] at h; subst h
    exact wpAny_mkInt ⟨⟨_, rfl⟩, Ok.toks S _⟩
  · simp only [beq_iff_eq] at h; subst h
    rename_i x
    show wpAny M A (mkText x) _ _ _
    exact fun _ _ _ => ⟨⟨s.toks, by cases x; simp⟩, Ok.toks S _⟩

/-- trees of plain arguments -/
theorem trees_cons {x : Expr} {xs : List Expr} {pos : Pos} (h : ∀ y p, x ≠ .Starred y p) : backTo pos (starEach (x :: xs) env) = (false, eval x env) :: backTo pos (starEach xs env) := by
  have : starEach (x :: xs) env = (false, eval x env) :: starEach xs env := by
    cases x <;> first | rfl | exact absurd rfl (h _ _)
  rw [this]; rfl
theorem chk_starred (cx : Cx) (ie : IE) (y : Expr) (p : Pos) : chkE cx ie (.Starred y p) = false := by cases ie <;> rfl
theorem chk_set (cx : Cx) (ie : IE) (l : List Expr) (k : Nat) (p : Pos) : chkE cx ie (.Set l k p) = false := by cases ie <;> rfl
theorem not_starred {ie : IE} {x : Expr} (h : chkE cx ie x = true) : ∀ y p, x ≠ .Starred y p := by
  rintro y p rfl
  rw [chk_starred] at h; cases h
theorem trees_plain {pos : Pos} : ∀ {es : IEs} {xs : List Expr}, chkEs cx es xs = true → (backTo pos (starEach xs env)).any (·.1) = false
  | .nil, [], _ => rfl
  | .cons e es, x :: xs, h => by
    have h := Bool.and_eq_true_iff.mp (show (_ && _) = true from h)
    rw [trees_cons (not_starred h.1), List.any_cons, trees_plain h.2]; rfl
  | .nil, _ :: _, h => by simp [chkEs] at h
  | .cons _ _, [], h => by simp [chkEs] at h
theorem notSet {ie : IE} {x : Expr} (h : chkE cx ie x = true) : ∀ l k p, x ≠ .Set l k p := by
  rintro l k p rfl
  rw [chk_set] at h; cases h
theorem notSetI {it : II} {x : Expr} (h : chkI cx it x = true) : ∀ l k p, x ≠ .Set l k p := by
  rintro l k p rfl
  cases it with
  | of e => exact absurd rfl (notSet (show chkE cx e _ = true from h) _ _ _)
  | _ => exact Bool.noConfusion (show false = true from h)
theorem folded_none {x : Expr} {v : Value} (h : ∀ l k p, x ≠ .Set l k p) : foldedSetIterable x env v = pure v := by
  cases x <;> first | rfl | exact absurd rfl (h _ _ _)
theorem markedEach_none : ∀ {cs : ICs} {ops : List CmpOp} {xs : List Expr}, chkCs cx cs ops xs = true → markedEach ops xs (evalEach xs env) = evalEach xs env
  | .nil, [], [], _ => rfl
  | .cons op e .nil, [o], [x], h => by
    simp only [chkCs, Bool.and_eq_true] at h
    have : behindInMarks o x = false := by
      have := notSet h.1.2
      cases x <;> first | rfl | exact absurd rfl (this _ _ _)
    show [markedBehindIn o x (eval x env)] = [eval x env]
    rw [markedBehindIn_of_false this]
  | .cons op e (.cons op' e' cs), o :: o' :: os, x :: x' :: xs, h => by
    have h' := h
    simp only [chkCs, Bool.and_eq_true] at h
    have ih := markedEach_none (cs := .cons op' e' cs) (ops := o' :: os) (xs := x' :: xs) (by simp only [chkCs, Bool.and_eq_true]; exact h.2)
    show eval x env :: markedEach (o' :: os) (x' :: xs) (evalEach (x' :: xs) env) = _
    rw [ih]; rfl
  | .nil, _ :: _, _, h => by simp [chkCs] at h
  | .nil, [], _ :: _, h => by simp [chkCs] at h
  | .cons _ _ _, [], _, h => by simp [chkCs] at h
  | .cons _ _ _, _ :: _, [], h => by simp [chkCs] at h
  | .cons _ _ .nil, _ :: _ :: _, _ :: _, h => by simp [chkCs] at h
  | .cons _ _ .nil, [_], _ :: _ :: _, h => by simp [chkCs] at h
  | .cons _ _ (.cons _ _ _), [_], _ :: _, h => by simp [chkCs] at h
  | .cons _ _ (.cons _ _ _), _ :: _ :: _, [_], h => by simp [chkCs] at h
end
end Mine

/-! ## MPoke -/
namespace Mine
open PySem PyProof.Rows

section
variable {fnm : Nat → Option Str} {con : Con} {B : Heap} {π : List Addr} {cx : Cx} {env : Env} {s s' : Shared} {ρ : Loc} {σ σ' : Sto} {β : List Addr} {p : Addr}

/-- one object that is none of the frame's, the store's or the data's has changed -/
structure Foreign (B : Heap) (π : List Addr) (β : List Addr) (env : Env) (h : Heap) (p : Addr) : Prop where
  seq : p ∈ π ∨ ∀ o xs n, h.get? p = some o → o.data ≠ .seq xs n
  cell : ∀ o v, h.get? p = some o → o.data ≠ .cell v
  loc : p ≠ env.locals
  sto : p ∉ β
  base : B.get? p = none

theorem Foreign.seqKeep {h h' : Heap} (f : Foreign B π β env h p) (hk : ∀ b o, b ≠ p → h.get? b = some o → h'.get? b = some o) : SeqKeep (grow π σ β) (grow π σ β) h h' := by
  intro a o xs n ho hd ha
  refine ⟨ha, hk a o ?_ ho⟩
  rintro rfl
  rcases f.seq with q | q
  · exact ha (mem_grow.mpr (.inl q))
  · exact q o xs n ho hd

theorem Sim.poke (S : Sim B π s.heap σ β) (f : Foreign B π β env s.heap p) (hk : ∀ b o, b ≠ p → s.heap.get? b = some o → s'.heap.get? b = some o) (hal : (s'.heap.get? p).isSome = true) : Sim B π s'.heap σ β where
  len := S.len
  nodup := S.nodup
  base := fun b o e => hk b o (by rintro rfl; rw [f.base] at e; cases e) (S.base b o e)
  new := S.new
  ent := fun k e a h1 h2 => by
    obtain ⟨vs, hp, hr⟩ := S.ent k e a h1 h2
    exact ⟨vs, hp.at fun o e => hk _ o (by rintro rfl; exact f.sto (List.mem_of_getElem? h2)) e, Reps.mono (f.seqKeep hk) hr⟩
  priv := fun a ha => ⟨by
    by_cases hq : a = p
    · subst hq; exact hal
    · obtain ⟨o, ho⟩ := Option.isSome_iff_exists.mp (S.priv a ha).1; rw [hk a o hq ho]; rfl, (S.priv a ha).2⟩

theorem RelV.seq {h h' : Heap} {v : Val} {v' : Value} (k : SeqKeep (grow π σ β) (grow π σ' β) h h') (r : RelV h π β σ v v') : RelV h' π β σ' v v' := by
  cases v with
  | dat d => exact Rep.mono k r
  | ref k => exact r
  | exc c => exact r

theorem FrameOk.poke (F : FrameOk cx env B π s.heap ρ σ β) (f : Foreign B π β env s.heap p) (hk : ∀ b o, b ≠ p → s.heap.get? b = some o → s'.heap.get? b = some o) : FrameOk cx env B π s'.heap ρ σ β where
  loc := by
    obtain ⟨m, hn, hv⟩ := F.loc
    exact ⟨m, hn.at' fun o e => hk _ o (Ne.symm f.loc) e, fun i y v h1 h2 h3 => by obtain ⟨v', e, r⟩ := hv i y v h1 h2 h3; exact ⟨v', e, r.seq (f.seqKeep hk)⟩⟩
  cell := fun i y h1 h2 => by
    obtain ⟨c, o, hc, hi, hv⟩ := F.cell i y h1 h2
    refine ⟨c, o, hc, ?_, fun v h3 => by obtain ⟨v', e, r⟩ := hv v h3; exact ⟨v', e, r.seq (f.seqKeep hk)⟩⟩
    obtain ⟨ob, ho, hd⟩ := hi
    exact ⟨ob, hk c ob (by rintro rfl; exact f.cell ob o ho hd) ho, hd⟩
  off := F.off
  offc := F.offc

theorem At.poke (a : At fnm con B π cx env s ρ σ β) (f : Foreign B π β env s.heap p) (hk : ∀ b o, b ≠ p → s.heap.get? b = some o → s'.heap.get? b = some o) (hal : (s'.heap.get? p).isSome = true) : At fnm con B π cx env s' ρ σ β :=
  ⟨a.fn, a.con, a.V, a.F.poke f hk, a.S.poke f hk hal⟩

theorem At.keeps (a : At fnm con B π cx env s ρ σ β) (hk : ∀ b o, s.heap.get? b = some o → s'.heap.get? b = some o) : At fnm con B π cx env s' ρ σ β := by
  have sk : SeqKeep (grow π σ β) (grow π σ β) s.heap s'.heap := fun a o xs n ho hd ha => ⟨ha, hk a o ho⟩
  refine ⟨a.fn, a.con, a.V, ⟨?_, fun i y h1 h2 => ?_, a.F.off, a.F.offc⟩, a.S.keeps hk⟩
  · obtain ⟨m, hn, hv⟩ := a.F.loc
    exact ⟨m, hn.keeps hk, fun i y v h1 h2 h3 => by obtain ⟨v', e, r⟩ := hv i y v h1 h2 h3; exact ⟨v', e, r.seq sk⟩⟩
  · obtain ⟨c, o, hc, hi, hv⟩ := a.F.cell i y h1 h2
    exact ⟨c, o, hc, hi.keeps hk, fun v h3 => by obtain ⟨v', e, r⟩ := hv v h3; exact ⟨v', e, r.seq sk⟩⟩

/-- a list that is being made comes to be, one that is made goes -/
theorem At.private (a : At fnm con B π cx env s ρ σ β) (hk : ∀ b o, s.heap.get? b = some o → s'.heap.get? b = some o) (hp : s.heap.get? p = none) (hp' : (s'.heap.get? p).isSome = true) : At fnm con B (p :: π) cx env s' ρ σ β := by
  have sk : SeqKeep (grow π σ β) (grow (p :: π) σ β) s.heap s'.heap := fun b o xs n ho hd ha => ⟨fun q => by
    rcases mem_grow.mp q with q | q
    · rcases List.mem_cons.mp q with rfl | q
      · rw [hp] at ho; cases ho
      · exact ha (mem_grow.mpr (.inl q))
    · exact ha (mem_grow.mpr (.inr q)), hk b o ho⟩
  have rv : ∀ {v : Val} {v' : Value}, RelV s.heap π β σ v v' → RelV s'.heap (p :: π) β σ v v' := fun {v} {v'} r => by
    cases v with
    | dat d => exact Rep.mono sk r
    | ref k => exact r
    | exc c => exact r
  refine ⟨a.fn, a.con, a.V, ⟨?_, fun i y h1 h2 => ?_, a.F.off, a.F.offc⟩, ⟨a.S.len, a.S.nodup, fun b o e => hk b o (a.S.base b o e), a.S.new, fun k e b h1 h2 => ?_, fun b hb => ?_⟩⟩
  · obtain ⟨m, hn, hv⟩ := a.F.loc
    exact ⟨m, hn.keeps hk, fun i y v h1 h2 h3 => by obtain ⟨v', e, r⟩ := hv i y v h1 h2 h3; exact ⟨v', e, rv r⟩⟩
  · obtain ⟨c, o, hc, hi, hv⟩ := a.F.cell i y h1 h2
    exact ⟨c, o, hc, hi.keeps hk, fun v h3 => by obtain ⟨v', e, r⟩ := hv v h3; exact ⟨v', e, rv r⟩⟩
  · obtain ⟨vs, hq, hr⟩ := a.S.ent k e b h1 h2
    exact ⟨vs, hq.at fun o e => hk _ o e, Reps.mono sk hr⟩
  · rcases List.mem_cons.mp hb with rfl | hb
    · refine ⟨hp', fun q => ?_⟩
      have := a.S.lt q
      obtain ⟨k, hk2, e⟩ := List.mem_iff_getElem.mp q
      have hk3 : k < σ.length := by rw [← a.S.len]; exact hk2
      obtain ⟨vs, ⟨n, hq⟩, _⟩ := a.S.ent k σ[k] b (List.getElem?_eq_getElem hk3) (by rw [List.getElem?_eq_getElem hk2, e])
      rw [hp] at hq; cases hq
    · obtain ⟨o, ho⟩ := Option.isSome_iff_exists.mp (a.S.priv b hb).1
      exact ⟨by rw [hk b o ho]; rfl, (a.S.priv b hb).2⟩
theorem unpriv {h : Heap} : SeqKeep (grow (p :: π) σ β) (grow π σ β) h h := fun b o xs n ho hd ha => ⟨fun q => ha (by
  rcases mem_grow.mp q with q | q
  · exact mem_grow.mpr (.inl (List.mem_cons_of_mem _ q))
  · exact mem_grow.mpr (.inr q)), ho⟩
theorem Sim.public {h : Heap} (S : Sim B (p :: π) h σ β) : Sim B π h σ β where
  len := S.len
  nodup := S.nodup
  base := S.base
  new := S.new
  ent := fun k e a h1 h2 => by obtain ⟨vs, hp, hr⟩ := S.ent k e a h1 h2; exact ⟨vs, hp, Reps.mono unpriv hr⟩
  priv := fun a ha => S.priv a (List.mem_cons_of_mem _ ha)

/-- what an inner frame (a comprehension's) has reckoned, seen from the outer one -/
theorem At.inner {C : Addr} {m : Str → Option Value} (a : At fnm con B π cx env s ρ σ β) (x : Ok B π C β s s' σ σ') (hC : s.heap.Ns C m) (hne : C ≠ env.locals) : At fnm con B π cx env s' ρ σ' β := by
  have sk := x.seq hC
  refine ⟨a.fn, a.con, a.V, ⟨?_, fun i y h1 h2 => ?_, a.F.off, a.F.offc⟩, x.sim⟩
  · obtain ⟨m', hn, hv⟩ := a.F.loc
    exact ⟨m', Kept.ns hn fun o e => x.keep _ o e (fun q => a.F.off.1 (growS_sub q)) (Ne.symm hne), fun i y v h1 h2 h3 => by obtain ⟨v', e, r⟩ := hv i y v h1 h2 h3; exact ⟨v', e, r.seq sk⟩⟩
  · obtain ⟨c, o, hc, hi, hv⟩ := a.F.cell i y h1 h2
    refine ⟨c, o, hc, ?_, fun v h3 => by obtain ⟨v', e, r⟩ := hv v h3; exact ⟨v', e, r.seq sk⟩⟩
    obtain ⟨ob, ho, hd⟩ := id hi
    refine ⟨ob, (x.keep c ob ho (fun q => cell_not_grow a.S hi (growS_sub q)) ?_).cell hd, hd⟩
    rintro rfl
    obtain ⟨o', es, ep, ho', hd', _⟩ := hC
    rw [ho] at ho'; cases ho'
    rw [hd] at hd'; cases hd'
end
end Mine

/-! ## MComp -/
namespace Mine
open PySem PyProof.Rows

/-! ## a comprehension's closure -/
noncomputable def frees (names : List (Str × NameKind)) : List Str := (names.filter (·.2 == .free)).map (·.1)
noncomputable def cellAddr (env : Env) (n : Str) : Addr := (env.cells.lookup n).getD 0
noncomputable def closOf (env : Env) (names : List (Str × NameKind)) : List (Str × Addr) := ((frees names).map fun n => (n, cellAddr env n)).reverse

theorem closureFor_is {env : Env} {sc : Scope} (h : ∀ n ∈ frees sc.names, ∃ c, env.cells.lookup n = some c) : closureFor sc env = pure (closOf env sc.names) := by
  unfold closureFor closOf
  suffices key : ∀ (names : List (Str × NameKind)) (acc : List (Str × Addr)), (∀ n ∈ frees names, ∃ c, env.cells.lookup n = some c) →
      (forIn names acc fun (x : Str × NameKind) (cs : List (Str × Addr)) => (if (x.2 == NameKind.free) = true then do
        let a ← cellOf env x.1
        pure (ForInStep.yield ((x.1, a) :: cs)) else pure (ForInStep.yield cs) : Sem (ForInStep (List (Str × Addr))))) = pure (((frees names).map fun n => (n, cellAddr env n)).reverse ++ acc) by
    have := key sc.names [] h
    simp only [List.append_nil] at this
    rw [← this]
    simp only [bind_pure]
  intro names
  induction names with
  | nil => intro acc _; simp [frees]
  | cons x r ih =>
    intro acc hx
    obtain ⟨n, k⟩ := x
    rw [List.forIn_cons]
    by_cases hk : (k == NameKind.free) = true
    · have hf : frees ((n, k) :: r) = n :: frees r := by simp [frees, List.filter_cons, hk]
      rw [hf] at hx ⊢
      obtain ⟨c, hc⟩ := hx n (List.mem_cons_self)
      have hco : cellOf env n = pure c := by unfold cellOf; rw [hc]
      simp only [hk, if_true, hco, pure_bind]
      rw [ih _ fun m hm => hx m (List.mem_cons_of_mem _ hm)]
      simp [cellAddr, hc]
    · have hf : frees ((n, k) :: r) = frees r := by simp [frees, List.filter_cons, hk]
      rw [hf] at hx ⊢
      simp only [hk, Bool.false_eq_true, if_false, pure_bind]
      exact ih acc hx

theorem lookup_mem_nodup {α : Type} : ∀ {l : List (Str × α)} {n : Str} {c : α}, (l.map (·.1)).Nodup → (n, c) ∈ l → l.lookup n = some c
  | (k, v) :: r, n, c, hn, hm => by
    rw [List.map_cons, List.nodup_cons] at hn
    rw [List.lookup_cons]
    rcases List.mem_cons.mp hm with e | hm'
    · cases e; simp
    · have : n ≠ k := by rintro rfl; exact hn.1 (List.mem_map.mpr ⟨_, hm', rfl⟩)
      rw [beq_eq_false_iff_ne.mpr this]
      exact lookup_mem_nodup hn.2 hm'
theorem lookup_some_mem {α : Type} {l : List (Str × α)} {n : Str} {c : α} (h : l.lookup n = some c) : (n, c) ∈ l := mem_of_lookup h

theorem frees_nodup {names : List (Str × NameKind)} (h : (names.map (·.1)).Nodup) : (frees names).Nodup := by
  unfold frees
  exact List.Nodup.sublist ((List.filter_sublist).map _) h
theorem mem_frees {names : List (Str × NameKind)} {n : Str} : n ∈ frees names ↔ (n, NameKind.free) ∈ names := by
  unfold frees
  simp only [List.mem_map, List.mem_filter]
  constructor
  · rintro ⟨⟨m, k⟩, ⟨h1, h2⟩, rfl⟩
    simp at h2; subst h2; exact h1
  · intro h; exact ⟨_, ⟨h, by simp⟩, rfl⟩

theorem closOf_keys (env : Env) (names : List (Str × NameKind)) : (closOf env names).map (·.1) = (frees names).reverse := by
  unfold closOf
  rw [List.map_reverse, List.map_map]
  congr 1
  exact List.map_id _
theorem closOf_lookup {env : Env} {names : List (Str × NameKind)} (hn : (names.map (·.1)).Nodup) {n : Str} (h : n ∈ frees names) {c : Addr} (hc : env.cells.lookup n = some c) : (closOf env names).lookup n = some c := by
  refine lookup_mem_nodup ?_ ?_
  · rw [closOf_keys]; exact List.pairwise_reverse.mpr ((frees_nodup hn).imp fun h => Ne.symm h)
  · unfold closOf
    rw [List.mem_reverse, List.mem_map]
    exact ⟨n, h, by simp [cellAddr, hc]⟩
theorem closOf_mem {env : Env} {names : List (Str × NameKind)} (hf : ∀ n ∈ frees names, ∃ c, env.cells.lookup n = some c) {p : Str × Addr} (h : p ∈ closOf env names) : p ∈ env.cells := by
  unfold closOf at h
  rw [List.mem_reverse, List.mem_map] at h
  obtain ⟨n, hn, rfl⟩ := h
  obtain ⟨c, hc⟩ := hf n hn
  simp only [cellAddr, hc, Option.getD_some]
  exact mem_of_lookup hc
theorem closOf_apart {env : Env} {names : List (Str × NameKind)} (hn : (names.map (·.1)).Nodup) (hf : ∀ n ∈ frees names, ∃ c, env.cells.lookup n = some c) (ha : env.cells.Pairwise fun x y => x.2 ≠ y.2) :
    (closOf env names).Pairwise fun x y => x.2 ≠ y.2 := by
  have hk : (closOf env names).Pairwise fun x y => x.1 ≠ y.1 := by
    have : ((closOf env names).map (·.1)).Nodup := by rw [closOf_keys]; exact List.pairwise_reverse.mpr ((frees_nodup hn).imp fun h => Ne.symm h)
    exact List.pairwise_map.mp this
  refine List.Pairwise.imp_of_mem (fun {x y} hx hy hne e => ?_) hk
  obtain ⟨n, c⟩ := x
  obtain ⟨n', c'⟩ := y
  simp only at e hne
  subst e
  exact hne (name_of_addr ha (closOf_mem hf hx) (closOf_mem hf hy))

theorem relabel_is {env : Env} {cx : Cx} (V : EnvOk cx env) (sc : Scope) : relabel sc env = relabelS sc cx.scope := by
  unfold relabel relabelS Env.kindOf
  rw [V.scope]
theorem relabelS_local {sc outer : Scope} {x : Str} (h : sc.names.lookup x = some .local) : (relabelS sc outer).names.lookup x = some .local := by
  unfold relabelS
  simp only
  generalize sc.names = names at h ⊢
  induction names with
  | nil => simp at h
  | cons y r ih =>
    obtain ⟨n, k⟩ := y
    rw [List.lookup_cons] at h
    rw [List.map_cons]
    cases hx : x == n with
    | true =>
      rw [hx] at h; simp only at h
      cases h
      simp [List.lookup_cons, hx]
    | false =>
      rw [hx] at h; simp only at h
      have := ih h
      split <;> (rw [List.lookup_cons, hx]; exact this)
theorem relabelS_free {sc outer : Scope} {x : Str} (hk : outer.kind = .function) (h : sc.names.lookup x = some .free) (ho : outer.names.lookup x = some .cell) : (relabelS sc outer).names.lookup x = some .cell := by
  unfold relabelS
  simp only
  generalize sc.names = names at h ⊢
  induction names with
  | nil => simp at h
  | cons y r ih =>
    obtain ⟨n, k⟩ := y
    rw [List.lookup_cons] at h
    rw [List.map_cons]
    cases hx : x == n with
    | true =>
      rw [hx] at h; simp only at h
      cases h
      have : x = n := by simpa using hx
      subst this
      simp [hk, ho]
    | false =>
      rw [hx] at h; simp only at h
      have := ih h
      split <;> (rw [List.lookup_cons, hx]; exact this)

structure ScopeOk (x : Str) (sc outer : Scope) : Prop where
  kind : sc.kind = .function
  nocell : ∀ y ∈ sc.names, y.2 ≠ .cell
  locs : ∀ y ∈ sc.names, y.2 = .local → sc.names.lookup y.1 = some .local
  var : sc.names.lookup x = some .local
  outs : ∀ y ∈ sc.names, y.2 = .free → outer.names.lookup y.1 = some .cell
  nodup : (sc.names.map (·.1)).Nodup
theorem scopeOk {x : Str} {sc outer : Scope} (h : chkScope x sc outer = true) : ScopeOk x sc outer := by
  simp only [chkScope, Bool.and_eq_true, beq_iff_eq, List.all_eq_true, decide_eq_true_eq, Bool.not_eq_true', Bool.or_eq_true, beq_eq_false_iff_ne] at h
  obtain ⟨⟨⟨⟨⟨h1, h2⟩, h3⟩, h4⟩, h5⟩, h6⟩ := h
  exact ⟨h1, h2, fun y hy e => (h3 y hy).resolve_left (fun q => q e), h4, fun y hy e => (h5 y hy).resolve_left (fun q => q e), h6⟩

section
variable {fnm : Nat → Option Str} {con : Con} {B : Heap} {π : List Addr} {cx : Cx} {env : Env} {s s' : Shared} {ρ : Loc} {σ σ' : Sto} {β : List Addr} {x : Str} {k : Nat} {sc : Scope}

theorem frees_cells (V : EnvOk cx env) (F : FrameOk cx env B π s.heap ρ σ β) (hs : ScopeOk x sc cx.scope) (hv : ∀ n ∈ frees sc.names, ∃ i, cx.name i = some n) : ∀ n ∈ frees sc.names, ∃ c, env.cells.lookup n = some c := by
  intro n hn
  obtain ⟨i, hi⟩ := hv n hn
  obtain ⟨c, o, hc, _⟩ := F.cell i n hi (hs.outs _ (mem_frees.mp hn) rfl)
  exact ⟨c, hc⟩

/-- the frame of a comprehension's turn -/
theorem inner_at {C : Addr} {m : Str → Option Value} {d : Dat} {v' : Value} (a : At fnm con B π cx env s ρ σ β) (hs : ScopeOk x sc cx.scope) (hv : ∀ n ∈ frees sc.names, ∃ i, cx.name i = some n)
    (hC : s.heap.Ns C m) (hm : m x = some v') (r : Rep s.heap (grow π σ β) d v') (hB : B.objs.size ≤ C) :
    At fnm con B π (cx.inner x k sc) (compEnvC sc (closOf env sc.names) C env) s (ρ.set k (some (.dat d))) σ β := by
  have hfc := frees_cells a.V a.F hs hv
  have hnm : ∀ i y, (cx.inner x k sc).name i = some y → (i = k ∧ y = x) ∨ (i ≠ k ∧ y ≠ x ∧ cx.name i = some y ∧ sc.names.lookup y = some .free) := by
    intro i y h
    simp only [Cx.inner] at h
    split at h
    · rename_i e; cases h; exact .inl ⟨e, rfl⟩
    · rename_i e
      split at h
      · rename_i z hz
        split at h
        · rename_i hh; cases h; exact .inr ⟨e, hh.1, hz, hh.2⟩
        · cases h
      · cases h
  refine ⟨a.fn, ⟨a.con.1, fun q => nomatch q⟩, ⟨?_, hs.kind, a.V.globals, a.V.builtins, closOf_apart hs.nodup hfc a.V.apart, fun p hp => ?_, fun i j y h1 h2 => ?_⟩, ⟨⟨m, hC, fun i y v h1 h2 h3 => ?_⟩, fun i y h1 h2 => ?_, ⟨ns_not_grow a.S hC, hB⟩, fun p hp => a.F.offc p (closOf_mem hfc hp)⟩, a.S⟩
  · show relabel sc env = relabelS sc cx.scope
    exact relabel_is a.V sc
  · show p.2 ≠ C
    replace hp : p ∈ closOf env sc.names := hp
    unfold closOf at hp
    rw [List.mem_reverse, List.mem_map] at hp
    obtain ⟨n, hn, rfl⟩ := hp
    obtain ⟨i, hi⟩ := hv n hn
    obtain ⟨c, o, hc, hcell, _⟩ := a.F.cell i n hi (hs.outs _ (mem_frees.mp hn) rfl)
    simp only [cellAddr, hc, Option.getD_some]
    rintro rfl
    obtain ⟨o1, ho1, hd1⟩ := hcell
    obtain ⟨o2, es, ep, ho2, hd2, _⟩ := hC
    rw [ho1] at ho2; cases ho2
    rw [hd1] at hd2; cases hd2
  · rcases hnm i y h1 with ⟨e1, e2⟩ | ⟨e1, e2, e3, e4⟩ <;> rcases hnm j y h2 with ⟨f1, f2⟩ | ⟨f1, f2, f3, f4⟩
    · exact e1.trans f1.symm
    · exact absurd e2 f2
    · exact absurd f2 e2
    · exact a.V.inj i j y e3 f3
  · rcases hnm i y h1 with ⟨rfl, rfl⟩ | ⟨e1, e2, e3, e4⟩
    · rw [List.getElem?_set_self'] at h3
      cases hq : ρ[i]? with
      | none => rw [hq] at h3; cases h3
      | some z => rw [hq] at h3; simp at h3; subst h3; exact ⟨v', hm, r⟩
    · have := relabelS_free a.V.kind e4 (hs.outs (y, .free) (mem_of_lookup e4) rfl)
      rw [show (cx.inner x k sc).scope = relabelS sc cx.scope from rfl, this] at h2
      cases h2
  · rcases hnm i y h1 with ⟨rfl, rfl⟩ | ⟨e1, e2, e3, e4⟩
    · have := relabelS_local (outer := cx.scope) hs.var
      rw [show (cx.inner y i sc).scope = relabelS sc cx.scope from rfl, this] at h2
      cases h2
    · obtain ⟨c, o, hc, hi, hvv⟩ := a.F.cell i y e3 (hs.outs (y, .free) (mem_of_lookup e4) rfl)
      refine ⟨c, o, closOf_lookup hs.nodup (mem_frees.mpr (mem_of_lookup e4)) hc, hi, fun v h3 => ?_⟩
      rw [List.getElem?_set_ne (Ne.symm e1)] at h3
      exact hvv v h3
end
end Mine

/-! ## MLoop -/
namespace Mine
open PySem PyProof.Rows

theorem Kd.St.kept {h h' : Heap} {I : Addr} {K : Kd} {i : Nat} (x : K.St h I i) (hk : ∀ o, h.get? I = some o → Kept h' I o) : K.St h' I i :=
  x.at fun o e => by obtain ⟨o₀, vs, h0, hd⟩ := x.fields; rw [e] at h0; cases h0; exact (hk o e).fields hd
theorem plain_kept {h h' : Heap} {D : Addr} {vs : Array Value} (x : h.PlainList D vs) (hk : ∀ o, h.get? D = some o → Kept h' D o) : h'.PlainList D vs := by
  obtain ⟨n, e⟩ := x
  exact ⟨n, (hk _ e).seq rfl⟩
theorem nx1 {a b : Nat} (h : b = a + 1) : a ≤ b ∧ a ≠ b := by omega
theorem nx2 {a b : Nat} (h : b = a + 2) : a ≤ b ∧ a ≠ b := by omega
theorem nx3 {a b c : Nat} (h : b = a + 1) (h' : c = a + 2) : b ≠ c := by omega
theorem neA {a b : Nat} (h : @Ne Nat a b) : @Ne Addr a b := h
theorem ltSz {h : Heap} {a : Nat} {o : Obj} (e : h.get? a = some o) : @LT.lt Nat instLTNat a h.objs.size := Heap.lt_size e
theorem ltNs {h : Heap} {a : Nat} {m : Str → Option Value} (e : h.Ns a m) : @LT.lt Nat instLTNat a h.objs.size := e.lt
theorem ltSim {B h : Heap} {π β : List Addr} {σ : Sto} (S : Sim B π h σ β) {a : Nat} (ha : a ∈ β) : @LT.lt Nat instLTNat a h.objs.size := S.lt ha
theorem offN {cx : Cx} {env : Env} {B h : Heap} {π β : List Addr} {ρ : Loc} {σ : Sto} (F : FrameOk cx env B π h ρ σ β) : @LE.le Nat instLENat B.objs.size env.locals := F.off.2

theorem compL_cons {s : Src} {f : Dat → Sto → Out (Option Dat)} {d : Dat} {ds done : List Dat} {σ : Sto} {out : Out (List Dat)} (hne : out ≠ .bad) (h : (compL s f (d :: ds) σ).bindX (fun r σ => .val (done ++ r) σ) = out) :
    s.still σ = true ∧ ((∃ o σ₁, f d σ = .val o σ₁ ∧ (compL s f ds σ₁).bindX (fun r σ => .val ((done ++ o.toList) ++ r) σ) = out) ∨ ∃ c σ₁, f d σ = .exn c σ₁ ∧ out = .exn c σ₁) := by
  simp only [compL] at h
  split at h
  · rename_i hs
    refine ⟨hs, ?_⟩
    cases hf : f d σ with
    | val o σ₁ =>
      rw [hf, Out.bindX_val] at h
      refine .inl ⟨o, σ₁, rfl, h ▸ ?_⟩
      cases compL s f ds σ₁ with
      | val r σ₂ => simp only [Out.bindX_val, List.append_assoc]
      | exn => rfl
      | bad => rfl
    | exn c σ₁ => rw [hf] at h; exact .inr ⟨c, σ₁, rfl, h.symm⟩
    | bad => rw [hf] at h; exact absurd h.symm hne
  · exact absurd h.symm hne
theorem compL_nil {s : Src} {f : Dat → Sto → Out (Option Dat)} {done : List Dat} {σ : Sto} {out : Out (List Dat)} (hne : out ≠ .bad) (h : (compL s f [] σ).bindX (fun r σ => .val (done ++ r) σ) = out) : s.still σ = true ∧ out = .val done σ := by
  simp only [compL] at h
  split at h
  · rename_i hs; exact ⟨hs, by rw [← h, Out.bindX_val, List.append_nil]⟩
  · exact absurd h.symm hne

section
variable {prog : Program} {w : World} {A : Around} {fnm : Nat → Option Str} {con : Con} {B : Heap} {π : List Addr} {cx : Cx} {env : Env} {s s' : Shared} {ρ : Loc} {σ σ' : Sto} {β : List Addr} {x : Str} {k : Nat} {sc : Scope}
  {E : Value → Shared → Prop}

theorem comp_run {elt iter : Expr} {px cpos : Pos} {conds : List Expr} {src : Src} {f : Dat → Sto → Out (Option Dat)} {xv : Value} {out : Out (List Dat)} {RR : Value → Addr → Result → Shared → Prop}
    (hh : A.handled = none) (a : At fnm con B π cx env s ρ σ β) (hs : ScopeOk x sc cx.scope) (hv : ∀ n ∈ frees sc.names, ∃ i, cx.name i = some n)
    (hiv : IterVal s.heap π β σ src xv) (hlen : src.items.length ≤ 1000000)
    (turn : ∀ (cenv : Env) (π' : List Addr) (s₂ : Shared) (σ₂ σ₃ : Sto) (d : Dat) (o : Option Dat) (E' : Value → Shared → Prop), At fnm con B π' (cx.inner x k sc) cenv s₂ (ρ.set k (some (.dat d))) σ₂ β → f d σ₂ = .val o σ₃ →
      wpAny (model prog w) A (forIn conds true fun c r => if r = true then do let ok ← isTrue c cenv (eval c cenv); pure (ForInStep.yield ok) else pure (ForInStep.yield r))
        (fun ok s₃ => if ok = true then ∃ e, o = some e ∧ wpAny (model prog w) A (eval elt cenv) (fun y s₄ => Rep s₄.heap (grow π' σ₃ β) e y ∧ Ok B π' cenv.locals β s₂ s₄ σ₂ σ₃) E' s₃
          else o = none ∧ Ok B π' cenv.locals β s₂ s₃ σ₂ σ₃) E' s₂)
    (turnX : ∀ (c : Nat) (σ₂ σ₃ : Sto) (D C : Addr) (s₂ : Shared) (m : Str → Option Value) (d : Dat), out = .exn c σ₃ → At fnm con B (D :: π) (cx.inner x k sc) (compEnvC sc (closOf env sc.names) C env) s₂ (ρ.set k (some (.dat d))) σ₂ β → f d σ₂ = .exn c σ₃ →
      Ok B π env.locals β s s₂ σ σ₂ → s.heap.get? C = none → s₂.heap.Ns C m →
      wpAny (model prog w) A (forIn conds true fun c r => if r = true then do let ok ← isTrue c (compEnvC sc (closOf env sc.names) C env) (eval c (compEnvC sc (closOf env sc.names) C env)); pure (ForInStep.yield ok) else pure (ForInStep.yield r))
        (fun ok s₃ => ok = true ∧ wpAny (model prog w) A (eval elt (compEnvC sc (closOf env sc.names) C env)) (fun _ _ => False) (notedBy (model prog w) A (compEnvC sc (closOf env sc.names) C env) fun e s' => RR (.ref D) C (.error e) s') s₃)
        (notedBy (model prog w) A (compEnvC sc (closOf env sc.names) C env) fun e s' => RR (.ref D) C (.error e) s') s₂)
    (e : compL src f src.items σ = out) (hne : out ≠ .bad)
    (hRR : ∀ (ds : List Dat) (σ' : Sto), out = .val ds σ' → ∀ (D C : Addr) (s' : Shared) (m' : Str → Option Value) (vs : Array Value), (∃ h' tk, s' = { s with heap := h', toks := tk }) → s.heap.get? D = none → s.heap.get? C = none → D ≠ C → s'.heap.Ns C m' → s'.heap.PlainList D vs →
      Reps s'.heap (grow π σ' β) ds vs.toList → D ∉ grow π σ' β → Sim B π s'.heap σ' β → (∀ b o, s.heap.get? b = some o → b ∉ growS σ β → Kept s'.heap b o) → (∀ a, a ∈ growS σ' β → a ∈ growS σ β) → RR (.ref D) C (.ok .next) s') :
    wpAny (model prog w) A (pyIter xv) (fun it s₂ => wpAny (model prog w) A (newList []) (fun acc s₃ =>
      wpAny (model prog w) A (newFunctionEnv sc env.globals (closOf env sc.names) [] env.qual none .none (some env)) (fun cenv s₄ =>
        codeAny (model prog w) A (.compStart (.ListComp elt [⟨.Name x px, iter, conds, 0⟩] sc cpos) 0 it acc { cenv with scope := relabel sc env }) (RR acc cenv.locals) s₄) E s₃) E s₂) E s := by
  refine iter_start a.S hiv fun K ob hK hst hfree => ?_
  refine wpAny_newObj_type (wpAny_newFunctionEnv hs.nocell (by intro y hy; simp at hy) (fun h₁ hns₁ hsb₁ => ?_) hs.kind)
  dsimp only at hns₁ hsb₁ ⊢
  generalize hH1 : s.heap.push ob = H1 at hst hns₁ hsb₁ ⊢
  have hDsz : H1.objs.size = s.heap.objs.size + 1 := by rw [← hH1, Heap.size_push]
  generalize hH2 : H1.push { cls := .type "list", dict := none, data := .seq ([] : List Value).toArray } = H2 at hns₁ hsb₁ ⊢
  have hCsz : H2.objs.size = s.heap.objs.size + 2 := by rw [← hH2, Heap.size_push, hDsz]
  generalize hDD : H1.objs.size = D at *
  generalize hCC : H2.objs.size = C at *
  generalize hII : s.heap.objs.size = I at *
  have dead : ∀ p : Nat, I ≤ p → s.heap.get? p = none := fun p hp => by
    cases q : s.heap.get? p with
    | none => rfl
    | some o => have := ltSz q; omega
  have leD : @LE.le Nat instLENat I D := (nx1 hDsz).1
  have leC : @LE.le Nat instLENat I C := (nx2 hCsz).1
  have nID : @Ne Addr I D := neA (nx1 hDsz).2
  have nIC : @Ne Addr I C := neA (nx2 hCsz).2
  have nDC : @Ne Addr D C := neA (nx3 hDsz hCsz)
  have nof : ∀ {b p : Addr} {o : Obj}, @LE.le Nat instLENat I p → s.heap.get? b = some o → b ≠ p := fun {b p o} hp q e => by rw [e, dead p hp] at q; cases q
  have nb : ∀ {b : Addr} {o : Obj}, s.heap.get? b = some o → b ≠ I ∧ b ≠ D ∧ b ≠ C := fun q => ⟨nof (Nat.le_refl _) q, nof leD q, nof leC q⟩
  have fr : ∀ p : Addr, @LE.le Nat instLENat I p → p ≠ env.locals ∧ p ∉ β ∧ B.get? p = none := fun p hp => by
    refine ⟨fun e => ?_, fun q => ?_, ?_⟩
    · obtain ⟨m, o, _, _, ho, _⟩ := a.ns
      exact nof hp ho e.symm
    · obtain ⟨j, hj, ej⟩ := List.mem_iff_getElem.mp q
      obtain ⟨vs', ⟨n', hq'⟩, _⟩ := a.S.ent j (σ[j]'(by rw [← a.S.len]; exact hj)) p (List.getElem?_eq_getElem _) (by rw [List.getElem?_eq_getElem hj, ej])
      exact nof hp hq' rfl
    · cases q : B.get? p with
      | none => rfl
      | some o => exact absurd rfl (nof hp (a.S.base p o q))
  have old : ∀ b o, s.heap.get? b = some o → h₁.get? b = some o := fun b o q => by
    refine hsb₁.extBut b o (nb q).2.2 (Heap.get?_push_of_some _ ?_)
    rw [← hH2]; refine Heap.get?_push_of_some _ ?_
    rw [← hH1]; exact Heap.get?_push_of_some _ q
  have hD₁ : h₁.PlainList D #[] := ⟨_, hsb₁.extBut _ _ nDC (Heap.get?_push_of_some _ (by rw [← hH2, ← hDD]; exact Heap.get?_push_size _ rfl))⟩
  have hst₁ : K.St h₁ I 0 := hst.at fun o q => hsb₁.extBut I o nIC (Heap.get?_push_of_some _ (by rw [← hH2]; exact Heap.get?_push_of_some _ q))
  have hBle : B.objs.size ≤ I := by
    rw [← hII]
    rcases Nat.lt_or_ge s.heap.objs.size B.objs.size with h | h
    · exfalso
      obtain ⟨m, hm⟩ := a.ns
      have h1 := offN a.F
      have h2 := ltNs hm
      omega
    · exact h
  have loop : ∀ s₃ : Shared, s₃ = { s with heap := h₁, toks := s.toks + ([] : List (Str × Value)).length } →
      codeAny (model prog w) A (.compLoop (.ListComp elt [⟨.Name x px, iter, conds, 0⟩] sc cpos) 0 (.ref I) (.ref D) (compEnvC sc (closOf env sc.names) C env)) (RR (.ref D) C) s₃ := by
    rintro s₃ rfl
    refine codeAny_compLoop_tests (fun n s₂ => ∃ i σ₂ done vs m, (∃ h' tk, s₂ = { s with heap := h', toks := tk }) ∧ At fnm con B (D :: π) cx env s₂ ρ σ₂ β ∧ K.Is s₂.heap (D :: π) β σ₂ src ∧ K.St s₂.heap I i ∧
      s₂.heap.PlainList D vs ∧ Reps s₂.heap (grow (D :: π) σ₂ β) done vs.toList ∧ done.length ≤ i ∧ s₂.heap.Ns C m ∧ (compL src f (src.items.drop i) σ₂).bindX (fun r σ => .val (done ++ r) σ) = out ∧ i ≤ src.items.length ∧ n = src.items.length + 1 - i ∧
      (∀ b o, s.heap.get? b = some o → b ∉ growS σ β → Kept s₂.heap b o) ∧ (∀ a, a ∈ growS σ₂ β → a ∈ growS σ β)) ?_ (src.items.length + 1) ?_
    · rintro n s₂ ⟨i, σ₂, done, vs, m, ⟨h₂, tk₂, rfl⟩, a₂, hK₂, hst₂, hD₂, hr₂, hdl, hC₂, he, hi, rfl, hk₂, hm₂⟩
      -- foreign objects
      have fI : ∀ {h : Heap} {j : Nat}, K.St h I j → Foreign B (D :: π) β env h I := fun {h} {j} st => by
        obtain ⟨o₀, vs₀, hI, hd₀⟩ := st.fields
        refine ⟨.inr (fun o xs n' ho hd => by rw [hI] at ho; cases ho; rw [hd₀] at hd; cases hd), (fun o v ho hd => by rw [hI] at ho; cases ho; rw [hd₀] at hd; cases hd), ?_, fun q => ?_, ?_⟩
        · exact (fr I (Nat.le_refl _)).1
        · exact (fr I (Nat.le_refl _)).2.1 q
        · exact (fr I (Nat.le_refl _)).2.2
      have fC : ∀ {h : Heap} {m : Str → Option Value}, h.Ns C m → Foreign B (D :: π) β env h C := fun {h} {m} hn => by
        obtain ⟨o₀, es, ep, hI, hd₀, _⟩ := hn
        refine ⟨.inr (fun o xs n' ho hd => by rw [hI] at ho; cases ho; rw [hd₀] at hd; cases hd), (fun o v ho hd => by rw [hI] at ho; cases ho; rw [hd₀] at hd; cases hd), ?_, fun q => ?_, ?_⟩
        · exact (fr C leC).1
        · exact (fr C leC).2.1 q
        · exact (fr C leC).2.2
      have fD : ∀ {h : Heap} {vs : Array Value}, h.PlainList D vs → Foreign B (D :: π) β env h D := fun {h} {vs} hp => by
        obtain ⟨n', hp⟩ := hp
        refine ⟨.inl List.mem_cons_self, (fun o v ho hd => by rw [hp] at ho; cases ho; cases hd), ?_, fun q => ?_, ?_⟩
        · exact (fr D leD).1
        · exact (fr D leD).2.1 q
        · exact (fr D leD).2.2
      by_cases hlt : i < src.items.length
      · have hd : src.items.drop i = src.items[i] :: src.items.drop (i + 1) := List.drop_eq_getElem_cons hlt
        rw [hd] at he
        obtain ⟨hstill, he⟩ := compL_cons hne he
        refine next_item a₂.S hstill hK₂ hst₂ (List.getElem?_eq_getElem hlt) fun v' h₃ tk₃ rv hst₃ hk₃ => ?_
        have hk₃' : ∀ b o, b ≠ I → h₂.get? b = some o → h₃.get? b = some o := hk₃
        have al₃ : (h₃.get? I).isSome = true := by obtain ⟨o₀, _, hI, _⟩ := hst₃.fields; rw [hI]; rfl
        have a₃ : At fnm con B (D :: π) cx env { s with heap := h₃, toks := tk₃ } ρ σ₂ β := a₂.poke (fI hst₂) hk₃' al₃
        have sk₃ : SeqKeep (grow (D :: π) σ₂ β) (grow (D :: π) σ₂ β) h₂ h₃ := (fI hst₂).seqKeep hk₃'
        have hC₃ : h₃.Ns C m := hC₂.at' fun o q => hk₃' C o nIC.symm q
        have hD₃ : h₃.PlainList D vs := hD₂.at fun o q => hk₃' D o nID.symm q
        refine wpAny_assign_Name (wpAny_storeName_local (env := compEnvC sc (closOf env sc.names) C env) (by show (relabel sc env).names.lookup x = _; rw [relabel_is a.V]; exact relabelS_local hs.var) hC₃ (fun h₄ hn₄ hs₄ => ?_) (by simp [compEnvC, relabel, hs.kind]))
        have hk₄ : ∀ b o, b ≠ C → h₃.get? b = some o → h₄.get? b = some o := fun b o hb q => hs₄.extBut b o hb q
        have al₄ : (h₄.get? C).isSome = true := by obtain ⟨o₀, _, _, hI, _⟩ := hn₄; have hI : h₄.get? C = some o₀ := hI; rw [hI]; rfl
        have a₄ : At fnm con B (D :: π) cx env { s with heap := h₄, toks := tk₃ + 1 } ρ σ₂ β := a₃.poke (fC hC₃) hk₄ al₄
        have sk₄ : SeqKeep (grow (D :: π) σ₂ β) (grow (D :: π) σ₂ β) h₃ h₄ := (fC hC₃).seqKeep hk₄
        have ai := inner_at (k := k) a₄ hs hv hn₄ (by simp) (Rep.mono sk₄ rv) (show B.objs.size ≤ C from Nat.le_trans hBle leC)
        have kp : ∀ b o, s.heap.get? b = some o → b ∉ growS σ β → Kept h₄ b o := fun b o q hb => (hk₂ b o q hb).step fun o' q' => .of (hk₄ b o' (nb q).2.2 (hk₃' b o' (nb q).1 q'))
        rcases he with ⟨o, σ₃, hf, he'⟩ | ⟨c, σ₃, hf, hout⟩
        rotate_left
        · refine wpAny_mono (turnX c σ₂ σ₃ D C _ _ src.items[i] hout ai hf ⟨⟨_, _, rfl⟩, a₄.S.public, fun b o q hb _ => kp b o q hb, fun m hm => Kept.ns hm fun o q => kp _ o q fun z => a.F.off.1 (growS_sub z), hm₂⟩ (dead C leC) hn₄) (fun ok s₅ h₅ => ?_) fun _ _ q => q
          obtain ⟨rfl, h₅⟩ := h₅
          simp only [if_true]
          exact wpAny_mono h₅ (fun _ _ q => q.elim) fun _ _ q => q
        refine wpAny_mono (turn _ _ _ σ₂ σ₃ src.items[i] o _ ai hf) (fun ok s₅ h₅ => ?_) fun _ _ q => q
        have hne : C ≠ env.locals := (fr C leC).1
        -- what stands after a step of the inner frame
        have inn : ∀ {s₆ : Shared}, Ok B (D :: π) C β { s with heap := h₄, toks := tk₃ + 1 } s₆ σ₂ σ₃ →
            (∃ h' tk, s₆ = { s with heap := h', toks := tk }) ∧ At fnm con B (D :: π) cx env s₆ ρ σ₃ β ∧ K.Is s₆.heap (D :: π) β σ₃ src ∧ K.St s₆.heap I (i + 1) ∧ s₆.heap.PlainList D vs ∧ Reps s₆.heap (grow (D :: π) σ₃ β) done vs.toList ∧ (∃ m, s₆.heap.Ns C m) ∧
            (∀ b o, s.heap.get? b = some o → b ∉ growS σ β → Kept s₆.heap b o) ∧ (∀ a, a ∈ growS σ₃ β → a ∈ growS σ β) := fun {s₆} ok => by
          have sk₆ := ok.seq hn₄
          refine ⟨by obtain ⟨h', tk, rfl⟩ := ok.sh; exact ⟨h', tk, rfl⟩, a₄.inner ok hn₄ hne, ((hK₂.mono' sk₃).mono' sk₄).mono' sk₆, (hst₃.at fun o q => hk₄ I o nIC q).kept fun o q => ok.keep I o q (fun q => (fI hst₂).sto (growS_sub q)) nIC,
            plain_kept (hD₃.at fun o q => hk₄ D o nDC q) fun o q => ok.keep D o q (fun q => (fD hD₂).sto (growS_sub q)) nDC, Reps.mono sk₆ (Reps.mono sk₄ (Reps.mono sk₃ hr₂)), ⟨_, ok.ns _ hn₄⟩, fun b o q hb => ?_, fun b q => hm₂ b (ok.mon b q)⟩
          exact (kp b o q hb).step fun o' q' => ok.keep b o' q' (fun z => hb (hm₂ b z)) (nb q).2.2
        cases ok with
        | false =>
          simp only [Bool.false_eq_true, if_false] at h₅ ⊢
          obtain ⟨rfl, ok⟩ := h₅
          obtain ⟨q1, q2, q3, q4, q5, q6, ⟨m6, q7⟩, q8, q9⟩ := inn ok
          exact ⟨src.items.length + 1 - (i + 1), by omega, i + 1, σ₃, done, vs, m6, q1, q2, q3, q4, q5, q6, by omega, q7, by simpa using he', by omega, rfl, q8, q9⟩
        | true =>
          simp only [if_true] at h₅ ⊢
          obtain ⟨e1, rfl, h₅⟩ := h₅
          refine wpAny_mono h₅ (fun y s₆ h₆ => ?_) fun _ _ q => q
          obtain ⟨ry, ok⟩ := h₆
          obtain ⟨q1, q2, q3, q4, q5, q6, ⟨m6, q7⟩, q8, q9⟩ := inn ok
          obtain ⟨h', tk', rfl⟩ := q1
          have hsz := q6.size
          refine wpAny_list_append_plain q5 (fun h₇ hl₇ hs₇ => ?_) (by show _ ≤ 2 ^ 24; omega)
          have hk₇ : ∀ b o, b ≠ D → h'.get? b = some o → h₇.get? b = some o := fun b o hb q => hs₇.extBut b o hb q
          have al₇ : (h₇.get? D).isSome = true := by obtain ⟨n', hl₇⟩ := hl₇; rw [hl₇]; rfl
          have sk₇ : SeqKeep (grow (D :: π) σ₃ β) (grow (D :: π) σ₃ β) h' h₇ := (fD q5).seqKeep hk₇
          refine ⟨src.items.length + 1 - (i + 1), by omega, i + 1, σ₃, done ++ [e1], vs.push y, m6, ⟨_, _, rfl⟩, q2.poke (fD q5) hk₇ al₇, q3.mono' sk₇, q4.at fun o q => hk₇ I o nID q, hl₇, ?_, by simp; omega, q7.at' fun o q => hk₇ C o nDC.symm q, he', by omega, rfl,
            fun b o q hb => (q8 b o q hb).step fun o' q' => .of (hk₇ b o' (nb q).2.1 q'), q9⟩
          rw [Array.toList_push]
          exact (Reps.mono sk₇ q6).snoc (Rep.mono sk₇ ry)
      · have hin : i = src.items.length := by omega
        rw [List.drop_of_length_le (by omega)] at he
        obtain ⟨hstill, hout⟩ := compL_nil hne he
        refine next_done hh a₂.S hstill hK₂ hst₂ (by omega) (by omega) fun h₃ tk₃ hk₃ => ?_
        have hk₃' : ∀ b o, b ≠ I → h₂.get? b = some o → h₃.get? b = some o := hk₃
        have hC₃ : h₃.Ns C m := hC₂.at' fun o q => hk₃' C o nIC.symm q
        have hD₃ : h₃.PlainList D vs := hD₂.at fun o q => hk₃' D o nID.symm q
        have sk₃ : SeqKeep (grow (D :: π) σ₂ β) (grow (D :: π) σ₂ β) h₂ h₃ := (fI hst₂).seqKeep hk₃'
        have S₃ : Sim B (D :: π) h₃ σ₂ β := by
          refine ⟨a₂.S.len, a₂.S.nodup, fun b o q => hk₃' b o (nb (a.S.base b o q)).1 (a₂.S.base b o q), a₂.S.new, fun j en p h1 h2 => ?_, fun p hp => ⟨?_, (a₂.S.priv p hp).2⟩⟩
          · obtain ⟨vs', hp, hr⟩ := a₂.S.ent j en p h1 h2
            exact ⟨vs', hp.at fun o q => hk₃' p o (by rintro rfl; exact (fI hst₂).sto (List.mem_of_getElem? h2)) q, Reps.mono sk₃ hr⟩
          · obtain ⟨o, ho⟩ := Option.isSome_iff_exists.mp (a₂.S.priv p hp).1
            rw [hk₃' p o ?_ ho]; rfl
            rintro rfl
            rcases List.mem_cons.mp hp with h | h
            · exact absurd h nID
            · have := (a.S.priv p h).1; rw [dead p (Nat.le_refl _)] at this; cases this
        refine hRR done σ₂ hout D C _ m vs ⟨_, _, rfl⟩ (dead D leD) (dead C leC) nDC hC₃ hD₃ (Reps.mono unpriv (Reps.mono sk₃ hr₂)) (fun q => ?_) S₃.public (fun b o q hb => (hk₂ b o q hb).step fun o' q' => .of (hk₃' b o' (nb q).1 q')) hm₂
        rcases mem_grow.mp q with q | q
        · have := (a.S.priv D q).1; rw [dead D leD] at this; cases this
        · exact (fD hD₂).sto (growS_sub q)
    · refine ⟨0, σ, [], #[], _, ⟨_, _, rfl⟩, a.private old (dead D leD) (by obtain ⟨n', hp⟩ := hD₁; rw [hp]; rfl), ?_, hst₁, hD₁, by simp [Reps], by simp, hns₁, by rw [List.drop_zero, e]; cases out <;> rfl, by omega, by omega, fun b o q _ => .of (old b o q), fun _ q => q⟩
      have sk : SeqKeep (grow π σ β) (grow (D :: π) σ β) s.heap h₁ := fun b o xs n ho hd hb => ⟨fun q => by
        rcases mem_grow.mp q with q | q
        · rcases List.mem_cons.mp q with rfl | q
          · rw [dead b leD] at ho; cases ho
          · exact hb (mem_grow.mpr (.inl q))
        · exact hb (mem_grow.mpr (.inr q)), old b o ho⟩
      cases K with
      | list p =>
        rcases hK with ⟨h1, h2⟩ | ⟨j, h1, h2⟩
        · exact .inl ⟨h1, Rep.mono sk h2⟩
        · exact .inr ⟨j, h1, h2⟩
      | tuple p => exact ⟨hK.1, Rep.mono sk hK.2⟩
      | ascii => exact hK
      | wide => exact hK
      | range => exact hK
  exact codeAny_compStart_list (loop _ rfl) (iter_self hst₁ (loop _ rfl))
end
end Mine

/-! ## MSound -/
namespace Mine
open PySem PyProof.Rows

section
variable {prog : Program} {w : World} {A : Around} {B : Heap} {Δ : Nat → Option Fn} {fnm : Nat → Option Str} {con : Con} {mg mb : Str → Option Value} {sub : Nat → Nat → Bool} {C : Oracle}

theorem newTuple_sound {M : Model} {E : Value → Shared → Prop} {env : Env} {s s₁ : Shared} {σ σ₁ : Sto} {π β : List Addr} {ds : List Dat} {vs : List Value} (o : Ok B π env.locals β s s₁ σ σ₁) (r : Reps s₁.heap (grow π σ₁ β) ds vs) (hl : vs.length ≤ 1000000) :
    wpAny M A (newTuple vs) (EP B π env β s σ (.dat (.tup ds)) σ₁) E s₁ :=
  wpAny_newObj_type ⟨Rep.newTuple r o.sim.fresh, o.trans (Ok.push o.sim _)⟩ (by show vs.toArray.size ≤ 2 ^ 24; simp; omega)
theorem newList_sound {M : Model} {E : Value → Shared → Prop} {env : Env} {s s₁ : Shared} {σ σ₁ : Sto} {π β : List Addr} {ds : List Dat} {vs : List Value} (o : Ok B π env.locals β s s₁ σ σ₁) (r : Reps s₁.heap (grow π σ₁ β) ds vs) (hl : vs.length ≤ 1000000) :
    wpAny M A (newList vs) (EP B π env β s σ (.dat (.lst ds)) σ₁) E s₁ :=
  wpAny_newObj_type ⟨Rep.newList r o.sim.fresh, o.trans (Ok.push o.sim _)⟩ (by show vs.toArray.size ≤ 2 ^ 24; simp; omega)

theorem truthy_sound {M : Model} {E : Value → Shared → Prop} {s : Shared} {σ : Sto} {π β : List Addr} {v : Val} {v' : Value} {b : Bool} {Q : Bool → Shared → Prop} (S : Sim B π s.heap σ β) (r : RelV s.heap π β σ v v') (h : look σ v = some (.bool b)) (q : Q b s) : wpAny M A (truthy v') Q E s := by
  have := look_seen S r h
  have e : v' = .bool b := this
  subst e
  exact wpAny_truthy_bool q

theorem idx_from (k n : Nat) : Builtin.Str.strSliceIndices (some (k : Int)) none 1 n = Builtin.Str.strSliceIndices (some ((min k n : Nat) : Int)) (some (n : Int)) 1 n := by
  have h0 : ¬ ((k : Int) < 0) := Int.not_lt.mpr (Int.natCast_nonneg k)
  have h1 : ¬ (((min k n : Nat) : Int) < 0) := Int.not_lt.mpr (Int.natCast_nonneg _)
  have h2 : ¬ ((n : Int) < 0) := Int.not_lt.mpr (Int.natCast_nonneg n)
  simp only [Builtin.Str.strSliceIndices, h0, h1, h2, if_false, show ((1 : Int) > 0) = True from by simp, if_true]
  congr 1 <;> omega
theorem idx_to (k n : Nat) : Builtin.Str.strSliceIndices none (some (k : Int)) 1 n = Builtin.Str.strSliceIndices (some ((0 : Nat) : Int)) (some ((min k n : Nat) : Int)) 1 n := by
  have h0 : ¬ ((k : Int) < 0) := Int.not_lt.mpr (Int.natCast_nonneg k)
  have h1 : ¬ (((min k n : Nat) : Int) < 0) := Int.not_lt.mpr (Int.natCast_nonneg _)
  have h2 : ¬ (((0 : Nat) : Int) < 0) := Int.not_lt.mpr (Int.natCast_nonneg 0)
  simp only [Builtin.Str.strSliceIndices, h0, h1, h2, if_false, show ((1 : Int) > 0) = True from by simp, if_true]
  congr 1 <;> omega
theorem idx_len {a b n : Nat} (hab : a ≤ b) (hb : b ≤ n) : (Builtin.Str.strSliceIndices (some (a : Int)) (some (b : Int)) 1 n).length = b - a := by
  rw [StrLaws.strSliceIndices_plain hab hb]; simp
theorem txt_from (l : List Nat) (k : Nat) : Txt.slice ⟨l.toArray⟩ (some (k : Int)) none = ⟨(l.drop k).toArray⟩ := by
  have hl : (Str.mk l.toArray).length = l.length := by simp [Str.length]
  unfold Txt.slice
  rw [hl, idx_from, idx_len (by omega) (by omega)]
  have hp := StrLaws.sliced_plain ⟨l.toArray⟩ (a := min k l.length) (b := l.length) (by omega) (by rw [hl]; omega)
  rw [hl] at hp
  split
  · rename_i h
    simp at h
    have : k = 0 ∨ l = [] := by
      cases l with
      | nil => exact .inr rfl
      | cons x l => left; simp at h; omega
    rcases this with rfl | rfl
    · rfl
    · simp
  · rw [hp]
    congr 2
    simp only
    rcases Nat.le_total k l.length with h | h
    · rw [Nat.min_eq_left h, List.take_of_length_le (by simp)]
    · rw [Nat.min_eq_right h, List.drop_of_length_le (by simp), List.drop_of_length_le h]; simp
theorem txt_to (l : List Nat) (k : Nat) : Txt.slice ⟨l.toArray⟩ none (some (k : Int)) = ⟨(l.take k).toArray⟩ := by
  have hl : (Str.mk l.toArray).length = l.length := by simp [Str.length]
  unfold Txt.slice
  rw [hl, idx_to, idx_len (by omega) (by omega)]
  have hp := StrLaws.sliced_plain ⟨l.toArray⟩ (a := 0) (b := min k l.length) (by omega) (by rw [hl]; omega)
  rw [hl] at hp
  split
  · rename_i h
    simp at h
    rw [List.take_of_length_le (by omega)]
  · rw [hp]
    congr 2
    simp only [List.drop_zero, Nat.sub_zero]
    rcases Nat.le_total k l.length with h | h
    · rw [Nat.min_eq_left h]
    · rw [Nat.min_eq_right h, List.take_of_length_le (by simp), List.take_of_length_le h]
theorem slFrom_sound {E : Value → Shared → Prop} {s : Shared} {σ : Sto} {π β : List Addr} {L : Addr} {a d : Dat} {va : Value} {k : Int} {u : Tok} {value : Expr} {p : Pos} {lo : Option Expr} (S : Sim B π s.heap σ β) (ha : Seen s.heap (grow π σ β) a va) (e : slFrom2 a (.int k) = some d) :
    wpAny (model prog w) A (subscriptTail value (.Slice lo none none p) va (.ref s.heap.objs.size)) (VPost B π L β σ s d) E { s with heap := s.heap.push { cls := .type "slice", data := .fields #[.int k u, .none, .none] } } := by
  have ok1 : Ok B π L β s { s with heap := s.heap.push { cls := .type "slice", data := .fields #[.int k u, .none, .none] } } σ σ := Ok.push S _
  cases a with
  | lst l =>
    simp only [slFrom2] at e
    split at e
    · rename_i hb
      cases e
      obtain ⟨q, vs, rfl, hl, hr⟩ := ha
      have hl' : (s.heap.push { cls := .type "slice", data := .fields #[.int k u, .none, .none] }).IsList q vs := hl.push _
      have hk : k = (k.toNat : Int) := by omega
      have hsz := hr.size
      refine tail_any (s := { s with heap := s.heap.push { cls := .type "slice", data := .fields #[.int k u, .none, .none] } }) (ops := [.ref s.heap.objs.size, .ref q]) hl'.typeIs list_getitem_lookup ?_ (by with_unfolding_all rfl)
      refine wpAny_getItem_list_slice (lo := some (k.toNat : Int)) (hi := none) (st := none) hl' ⟨_, Heap.get?_push_size _ rfl, rfl, rfl⟩ (by first | exact .none | (rw [← hk]; exact .int _ _)) (by first | exact .none | (rw [← hk]; exact .int _ _)) (by first | exact .none | (rw [← hk]; exact .int _ _)) (by simp) ?_ (by show _ ≤ 2 ^ 24; omega)
      rw [slicePick_from']
      refine ⟨?_, ok1.trans (Ok.push ok1.sim _)⟩
      refine Rep.newList (vs := (vs.toList.drop k.toNat)) ?_ ok1.sim.fresh
      exact Reps.mono (fun a o xs n ho hd ha => ⟨ha, Heap.get?_push_of_some _ ho⟩) (hr.drop _)
    · cases e
  | str l =>
    simp only [slFrom2] at e
    split at e
    · rename_i hb
      cases e
      obtain ⟨t, rfl⟩ := ha
      have hk : k = (k.toNat : Int) := by omega
      obtain ⟨T, id, h1, h2, h3⟩ := SBH.sliceItem_sn (prog := prog) (w := w) (A := A) (E := E) (P := fun h' => ∀ b o, s.heap.get? b = some o → h'.get? b = some o) (s := s) (x := ⟨l.toArray⟩) (t := t) (i := k) (ui := u) (Q := VPost B π L β σ s (.str (l.drop k.toNat)))
        (fun h ob hp b o q => Heap.get?_push_of_some ob (hp b o q)) (fun b o q => q) (fun h' t' k' hp => by
          refine ⟨?_, Ok.keeps S ⟨_, _, rfl⟩ hp⟩
          rw [hk, txt_from]
          rw [← hk]
          exact ⟨t', rfl⟩) (by show _ ≤ 2 ^ 24; simp [Str.length]; omega)
      exact tail_any h2 h1 h3 (ops := [.ref s.heap.objs.size, .str ⟨l.toArray⟩ t]) (by with_unfolding_all rfl)
    · cases e
  | none => simp [slFrom2] at e
  | bool _ => simp [slFrom2] at e
  | int _ => simp [slFrom2] at e
  | tup _ => simp [slFrom2] at e
theorem slTo_sound {E : Value → Shared → Prop} {s : Shared} {σ : Sto} {π β : List Addr} {L : Addr} {a d : Dat} {va : Value} {k : Int} {u : Tok} {value : Expr} {p : Pos} {lo : Option Expr} (S : Sim B π s.heap σ β) (ha : Seen s.heap (grow π σ β) a va) (e : slTo2 a (.int k) = some d) :
    wpAny (model prog w) A (subscriptTail value (.Slice none lo none p) va (.ref s.heap.objs.size)) (VPost B π L β σ s d) E { s with heap := s.heap.push { cls := .type "slice", data := .fields #[.none, .int k u, .none] } } := by
  have ok1 : Ok B π L β s { s with heap := s.heap.push { cls := .type "slice", data := .fields #[.none, .int k u, .none] } } σ σ := Ok.push S _
  cases a with
  | lst l =>
    simp only [slTo2] at e
    split at e
    · rename_i hb
      cases e
      obtain ⟨q, vs, rfl, hl, hr⟩ := ha
      have hl' : (s.heap.push { cls := .type "slice", data := .fields #[.none, .int k u, .none] }).IsList q vs := hl.push _
      have hk : k = (k.toNat : Int) := by omega
      have hsz := hr.size
      refine tail_any (s := { s with heap := s.heap.push { cls := .type "slice", data := .fields #[.none, .int k u, .none] } }) (ops := [.ref s.heap.objs.size, .ref q]) hl'.typeIs list_getitem_lookup ?_ (by with_unfolding_all rfl)
      refine wpAny_getItem_list_slice (lo := none) (hi := some (k.toNat : Int)) (st := none) hl' ⟨_, Heap.get?_push_size _ rfl, rfl, rfl⟩ (by first | exact .none | (rw [← hk]; exact .int _ _)) (by first | exact .none | (rw [← hk]; exact .int _ _)) (by first | exact .none | (rw [← hk]; exact .int _ _)) (by simp) ?_ (by show _ ≤ 2 ^ 24; omega)
      rw [slicePick_upto']
      refine ⟨?_, ok1.trans (Ok.push ok1.sim _)⟩
      refine Rep.newList (vs := (vs.toList.take k.toNat)) ?_ ok1.sim.fresh
      exact Reps.mono (fun a o xs n ho hd ha => ⟨ha, Heap.get?_push_of_some _ ho⟩) (hr.take _)
    · cases e
  | str l =>
    simp only [slTo2] at e
    split at e
    · rename_i hb
      cases e
      obtain ⟨t, rfl⟩ := ha
      have hk : k = (k.toNat : Int) := by omega
      obtain ⟨T, id, h1, h2, h3⟩ := SBH.sliceItem_ns (prog := prog) (w := w) (A := A) (E := E) (P := fun h' => ∀ b o, s.heap.get? b = some o → h'.get? b = some o) (s := s) (x := ⟨l.toArray⟩) (t := t) (j := k) (uj := u) (Q := VPost B π L β σ s (.str (l.take k.toNat)))
        (fun h ob hp b o q => Heap.get?_push_of_some ob (hp b o q)) (fun b o q => q) (fun h' t' k' hp => by
          refine ⟨?_, Ok.keeps S ⟨_, _, rfl⟩ hp⟩
          rw [hk, txt_to]
          rw [← hk]
          exact ⟨t', rfl⟩) (by show _ ≤ 2 ^ 24; simp [Str.length]; omega)
      exact tail_any h2 h1 h3 (ops := [.ref s.heap.objs.size, .str ⟨l.toArray⟩ t]) (by with_unfolding_all rfl)
    · cases e
  | none => simp [slTo2] at e
  | bool _ => simp [slTo2] at e
  | int _ => simp [slTo2] at e
  | tup _ => simp [slTo2] at e
/-- the head of a call by name -/
theorem call1_bi {E : Value → Shared → Prop} {cx : Cx} {env : Env} {s : Shared} {ρ : Loc} {σ : Sto} {π β : List Addr} {x : Str} {id : String} {y : Expr} {p q : Pos} {Q : Value → Shared → Prop} (H : Hyp prog w A B Δ fnm con mg mb C) (a : At fnm con B π cx env s ρ σ β)
    (hx : cx.isGlob x = true) (hb : (x, Value.builtin id) ∈ bis) (hy : ∀ z r, y ≠ .Starred z r) (h : wpAny (model prog w) A (eval y env) (fun v s₁ => wpAny (model prog w) A (call (.builtin id) [v]) Q E s₁) E s) :
    wpAny (model prog w) A (eval (.Call (.Name x p) [y] [] q) env) Q E s := by
  refine Call_Name rfl (bi_sound (a.fn ▸ a.con.1 ▸ H.W) a.V a.S hx hb ?_)
  rw [trees_cons hy]
  refine Calls.callWith_builtin rfl (Calls.evalArgs_plain (Calls.spliced_cons (wpAny_mono h (fun v s₁ h₁ => Calls.spliced_nil h₁) fun _ _ z => z)))
theorem call1_ty {E : Value → Shared → Prop} {cx : Cx} {env : Env} {s : Shared} {ρ : Loc} {σ : Sto} {π β : List Addr} {x : Str} {T : String} {y : Expr} {p q : Pos} {Q : Value → Shared → Prop} (H : Hyp prog w A B Δ fnm con mg mb C) (a : At fnm con B π cx env s ρ σ β)
    (hx : cx.isGlob x = true) (hb : (x, Value.type T) ∈ bis) (hy : ∀ z r, y ≠ .Starred z r) (h : wpAny (model prog w) A (eval y env) (fun v s₁ => wpAny (model prog w) A (call (.type T) [v]) Q E s₁) E s) :
    wpAny (model prog w) A (eval (.Call (.Name x p) [y] [] q) env) Q E s := by
  refine Call_Name rfl (bi_sound (a.fn ▸ a.con.1 ▸ H.W) a.V a.S hx hb ?_)
  rw [trees_cons hy]
  refine PySem.callWith_type rfl (Calls.evalArgs_plain (Calls.spliced_cons (wpAny_mono h (fun v s₁ h₁ => Calls.spliced_nil h₁) fun _ _ z => z)))
theorem call2_bi {E : Value → Shared → Prop} {cx : Cx} {env : Env} {s : Shared} {ρ : Loc} {σ : Sto} {π β : List Addr} {x : Str} {id : String} {y z : Expr} {p q : Pos} {Q : Value → Shared → Prop} (H : Hyp prog w A B Δ fnm con mg mb C) (a : At fnm con B π cx env s ρ σ β)
    (hx : cx.isGlob x = true) (hb : (x, Value.builtin id) ∈ bis) (hy : ∀ t r, y ≠ .Starred t r) (hz : ∀ t r, z ≠ .Starred t r)
    (h : wpAny (model prog w) A (eval y env) (fun v s₁ => wpAny (model prog w) A (eval z env) (fun u s₂ => wpAny (model prog w) A (call (.builtin id) [v, u]) Q E s₂) E s₁) E s) :
    wpAny (model prog w) A (eval (.Call (.Name x p) [y, z] [] q) env) Q E s := by
  refine Call_Name rfl (bi_sound (a.fn ▸ a.con.1 ▸ H.W) a.V a.S hx hb ?_)
  rw [trees_cons hy, trees_cons hz]
  refine Calls.callWith_builtin rfl (Calls.evalArgs_plain (Calls.spliced_cons (wpAny_mono h (fun v s₁ h₁ => Calls.spliced_cons (wpAny_mono h₁ (fun u s₂ h₂ => Calls.spliced_nil h₂) fun _ _ z => z)) fun _ _ z => z)))
theorem evalArgs_any {M : Model} {E : Value → Shared → Prop} {s : Shared} {f : Value} {trees : List (Bool × Sem Value)} {Q : Args → Shared → Prop} (hp : trees.any (·.1) = false) (h : wpAny M A (spliced trees) (fun vs s' => Q ⟨vs, []⟩ s') E s) : wpAny M A (evalArgs f true trees []) Q E s := by
  cases trees with
  | nil =>
    unfold evalArgs
    show wpAny M A (spliced [] >>= _) Q E s
    refine wpAny_bind (wpAny_mono h (fun vs s' h' => ?_) fun _ _ z => z)
    refine wpAny_bind (wpAny_pure ?_)
    refine wpAny_holding ?_
    exact wpAny_bind (wpAny_pure (wpAny_bind (wpAny_pure (wpAny_pure h'))))
  | cons t r =>
    obtain ⟨b, t⟩ := t
    rw [List.any_cons] at hp
    cases b with
    | true => simp at hp
    | false => exact Calls.evalArgs_plain h
end
end Mine

/-! ## MCase -/
namespace Mine
open PySem PyProof.Rows

section
variable {prog : Program} {w : World} {A : Around} {B : Heap} {Δ : Nat → Option Fn} {fnm : Nat → Option Str} {con : Con} {mg mb : Str → Option Value} {sub : Nat → Nat → Bool} {C : Oracle}

theorem glob_is {cx : Cx} {x : Str} {v : Value} (h : (x, v) ∈ bis) : (x, v) ∈ bis := h

theorem chkFrees_ok {cx : Cx} {sc : Scope} (h : chkFrees cx sc = true) : ∀ n ∈ frees sc.names, ∃ i, cx.name i = some n := by
  intro n hn
  simp only [chkFrees, List.all_eq_true, Bool.or_eq_true, Bool.not_eq_true', beq_eq_false_iff_ne, List.any_eq_true, beq_iff_eq] at h
  rcases h _ (mem_frees.mp hn) with q | ⟨i, _, q⟩
  · exact absurd rfl q
  · exact ⟨i, q⟩

theorem forIn_ifs {conds : List Expr} {cenv : Env} {E : Value → Shared → Prop} {s : Shared} {Q : Bool → Shared → Prop} {c : Expr} (h : wpAny (model prog w) A (isTrue c cenv (eval c cenv)) (fun b s₁ => if b = true then
      wpAny (model prog w) A (forIn conds true fun c r => if r = true then do let ok ← isTrue c cenv (eval c cenv); pure (ForInStep.yield ok) else pure (ForInStep.yield r)) Q E s₁ else Q false s₁) E s) :
    wpAny (model prog w) A (forIn (c :: conds) true fun c r => if r = true then do let ok ← isTrue c cenv (eval c cenv); pure (ForInStep.yield ok) else pure (ForInStep.yield r)) Q E s := by
  rw [List.forIn_cons]
  simp only [if_true]
  refine wpAny_bind (wpAny_bind (wpAny_mono h (fun b s₁ h₁ => ?_) fun _ _ z => z))
  refine wpAny_pure ?_
  cases b with
  | true => simpa using h₁
  | false =>
    simp only [Bool.false_eq_true, if_false] at h₁
    suffices k : ∀ l : List Expr, wpAny (model prog w) A (forIn l false fun c r => if r = true then do let ok ← isTrue c cenv (eval c cenv); pure (ForInStep.yield ok) else pure (ForInStep.yield r)) Q E s₁ from k conds
    intro l
    induction l with
    | nil => rw [List.forIn_nil]; exact wpAny_pure h₁
    | cons y l ih =>
      rw [List.forIn_cons]
      simp only [Bool.false_eq_true, if_false]
      exact wpAny_bind (wpAny_pure ih)

abbrev SndE (prog : Program) (w : World) (A : Around) (B : Heap) (fnm : Nat → Option Str) (con : Con) (sub : Nat → Nat → Bool) (C : Oracle) (ie : IE) : Prop :=
  ∀ {cx : Cx} {e : Expr} {env : Env} {s : Shared} {ρ : Loc} {σ σ' : Sto} {π β : List Addr} {v : Val} {E : Value → Shared → Prop}, At fnm con B π cx env s ρ σ β → chkE cx ie e = true → ev sub C ie ρ σ = .val v σ' →
    wpAny (model prog w) A (eval e env) (EP B π env β s σ v σ') E s
abbrev SndEs (prog : Program) (w : World) (A : Around) (B : Heap) (fnm : Nat → Option Str) (con : Con) (sub : Nat → Nat → Bool) (C : Oracle) (es : IEs) : Prop :=
  ∀ {cx : Cx} {xs : List Expr} {env : Env} {pos : Pos} {s : Shared} {ρ : Loc} {σ σ' : Sto} {π β : List Addr} {ds : List Dat} {E : Value → Shared → Prop}, At fnm con B π cx env s ρ σ β → chkEs cx es xs = true → evs sub C es ρ σ = .val ds σ' →
    wpAny (model prog w) A (spliced (backTo pos (starEach xs env))) (fun vs s' => Reps s'.heap (grow π σ' β) ds vs ∧ Ok B π env.locals β s s' σ σ' ∧ vs.length = xs.length) E s
abbrev SndAs (prog : Program) (w : World) (A : Around) (B : Heap) (fnm : Nat → Option Str) (con : Con) (sub : Nat → Nat → Bool) (C : Oracle) (es : IEs) : Prop :=
  ∀ {cx : Cx} {xs : List Expr} {env : Env} {pos : Pos} {s : Shared} {ρ : Loc} {σ σ' : Sto} {π β : List Addr} {vs : List Val} {E : Value → Shared → Prop}, At fnm con B π cx env s ρ σ β → chkEs cx es xs = true → evArgs sub C es ρ σ = .val vs σ' →
    wpAny (model prog w) A (spliced (backTo pos (starEach xs env))) (fun us s' => RelVs s'.heap π β σ' vs us ∧ Ok B π env.locals β s s' σ σ') E s
abbrev SndAnd (prog : Program) (w : World) (A : Around) (B : Heap) (fnm : Nat → Option Str) (con : Con) (sub : Nat → Nat → Bool) (C : Oracle) (es : IEs) : Prop :=
  ∀ {cx : Cx} {xs : List Expr} {env : Env} {pos : Pos} {s : Shared} {ρ : Loc} {σ σ' : Sto} {π β : List Addr} {v : Val} {E : Value → Shared → Prop}, At fnm con B π cx env s ρ σ β → chkEs cx es xs = true → evAnd sub C es ρ σ = .val v σ' →
    wpAny (model prog w) A (boolOp pos .And (evalEach xs env)) (EP B π env β s σ v σ') E s
abbrev SndOr (prog : Program) (w : World) (A : Around) (B : Heap) (fnm : Nat → Option Str) (con : Con) (sub : Nat → Nat → Bool) (C : Oracle) (es : IEs) : Prop :=
  ∀ {cx : Cx} {xs : List Expr} {env : Env} {pos : Pos} {s : Shared} {ρ : Loc} {σ σ' : Sto} {π β : List Addr} {v : Val} {E : Value → Shared → Prop}, At fnm con B π cx env s ρ σ β → chkEs cx es xs = true → evOr sub C es ρ σ = .val v σ' →
    wpAny (model prog w) A (boolOp pos .Or (evalEach xs env)) (EP B π env β s σ v σ') E s
/-- the value of a comparison's chain -/
abbrev SndC (prog : Program) (w : World) (A : Around) (B : Heap) (fnm : Nat → Option Str) (con : Con) (sub : Nat → Nat → Bool) (C : Oracle) (cs : ICs) : Prop :=
  ∀ {cx : Cx} {os : List CmpOp} {xs : List Expr} {env : Env} {pos : Pos} {s : Shared} {ρ : Loc} {σ σ' : Sto} {π β : List Addr} {v : Val} {v' : Value} {b : Bool} {E : Value → Shared → Prop}, At fnm con B π cx env s ρ σ β → RelV s.heap π β σ v v' → chkCs cx cs os xs = true → os ≠ [] → evCmp sub C v cs ρ σ = .val b σ' →
    wpAny (model prog w) A (compareChain pos v' os (evalEach xs env)) (EP B π env β s σ (.dat (.bool b)) σ') E s ∧
    wpAny (model prog w) A (testChain pos v' os (evalEach xs env)) (fun b' s' => b' = b ∧ Ok B π env.locals β s s' σ σ') E s
abbrev SndI (prog : Program) (w : World) (A : Around) (B : Heap) (fnm : Nat → Option Str) (con : Con) (sub : Nat → Nat → Bool) (C : Oracle) (it : II) : Prop :=
  ∀ {cx : Cx} {e : Expr} {env : Env} {s : Shared} {ρ : Loc} {σ σ' : Sto} {π β : List Addr} {src : Src} {E : Value → Shared → Prop}, At fnm con B π cx env s ρ σ β → plainI it = true → chkI cx it e = true → evI sub C it ρ σ = .val src σ' →
    wpAny (model prog w) A (eval e env) (fun xv s' => IterVal s'.heap π β σ' src xv ∧ Ok B π env.locals β s s' σ σ') E s
abbrev SndB (prog : Program) (w : World) (A : Around) (B : Heap) (fnm : Nat → Option Str) (con : Con) (sub : Nat → Nat → Bool) (C : Oracle) (ie : IE) : Prop :=
  ∀ {cx : Cx} {e : Expr} {env : Env} {s : Shared} {ρ : Loc} {σ σ' : Sto} {π β : List Addr} {b : Bool} {E : Value → Shared → Prop}, At fnm con B π cx env s ρ σ β → chkE cx ie e = true → evB sub C ie ρ σ = .val b σ' →
    wpAny (model prog w) A (isTrue e env (eval e env)) (fun b' s' => b' = b ∧ Ok B π env.locals β s s' σ σ') E s
abbrev SndAll (prog : Program) (w : World) (A : Around) (B : Heap) (fnm : Nat → Option Str) (con : Con) (sub : Nat → Nat → Bool) (C : Oracle) (es : IEs) : Prop :=
  ∀ {cx : Cx} {xs : List Expr} {env : Env} {s : Shared} {ρ : Loc} {σ σ' : Sto} {π β : List Addr} {b : Bool} {E : Value → Shared → Prop}, At fnm con B π cx env s ρ σ β → chkEs cx es xs = true → evAll sub C es ρ σ = .val b σ' →
    wpAny (model prog w) A (allTrue .And xs env) (fun b' s' => b' = b ∧ Ok B π env.locals β s s' σ σ') E s
abbrev SndAny (prog : Program) (w : World) (A : Around) (B : Heap) (fnm : Nat → Option Str) (con : Con) (sub : Nat → Nat → Bool) (C : Oracle) (es : IEs) : Prop :=
  ∀ {cx : Cx} {xs : List Expr} {env : Env} {s : Shared} {ρ : Loc} {σ σ' : Sto} {π β : List Addr} {b : Bool} {E : Value → Shared → Prop}, At fnm con B π cx env s ρ σ β → chkEs cx es xs = true → evAny sub C es ρ σ = .val b σ' →
    wpAny (model prog w) A (allTrue .Or xs env) (fun b' s' => b' = b ∧ Ok B π env.locals β s s' σ σ') E s
abbrev SndIfs (prog : Program) (w : World) (A : Around) (B : Heap) (fnm : Nat → Option Str) (con : Con) (sub : Nat → Nat → Bool) (C : Oracle) (es : IEs) : Prop :=
  ∀ {cx : Cx} {xs : List Expr} {env : Env} {s : Shared} {ρ : Loc} {σ σ' : Sto} {π β : List Addr} {b : Bool} {E : Value → Shared → Prop}, At fnm con B π cx env s ρ σ β → chkEs cx es xs = true → evIfs sub C es ρ σ = .val b σ' →
    wpAny (model prog w) A (forIn xs true fun c r => if r = true then do let ok ← isTrue c env (eval c env); pure (ForInStep.yield ok) else pure (ForInStep.yield r)) (fun b' s' => b' = b ∧ Ok B π env.locals β s s' σ σ') E s

variable (H : Hyp prog w A B Δ fnm con mg mb C)
include H

theorem case_lit (d : Dat)  : SndE prog w A B fnm con sub C (.lit d) := by
  intro cx e env s ρ σ σ' π β v E a hc he
  replace hc := any_ex hc
  obtain ⟨c, hq, hc⟩ := hc
  · have hq := hq
    obtain ⟨k, p, rfl⟩ := asConst_eq hq
    have he : Out.val _ _ = Out.val v σ' := he
    cases he
    exact const_sound a.S hc

theorem case_con (x : String) (d : Dat)  : SndE prog w A B fnm con sub C (.con x d) := by
  intro cx e env s ρ σ σ' π β v E a hc he
  replace hc := any_ex hc
  obtain ⟨y, hq, hc⟩ := hc
  · have hq := hq
    obtain ⟨p, rfl⟩ := asName_eq hq
    simp only [Bool.and_eq_true] at hc
    have he : Out.val _ _ = Out.val v σ' := he
    cases he
    have W : Wd prog w B Δ cx.fn cx.con mg mb := a.fn ▸ a.con.1 ▸ H.W
    obtain ⟨v', h1, h2⟩ := W.con y d (conIs_eq hc.2)
    exact glob_sound W a.V a.S hc.1.2 h1 ⟨h2 _ _, Ok.refl a.S⟩

theorem case_var (i : Nat)  : SndE prog w A B fnm con sub C (.var i) := by
  intro cx e env s ρ σ σ' π β v E a hc he
  replace hc := any_ex hc
  obtain ⟨y, hq, hc⟩ := hc
  · have hq := hq
    obtain ⟨p, rfl⟩ := asName_eq hq
    simp only [Bool.and_eq_true, beq_iff_eq, Bool.not_eq_true'] at hc
    have he : (match ρ[i]? with | some (some v) => Out.val v σ | _ => Out.bad) = Out.val v σ' := he
    split at he
    · rename_i v₀ hi
      cases he
      exact load_sound a.V a.F hc.1.1 hc.1.2 hc.2 hi fun v' r => ⟨r, Ok.refl a.S⟩
    · cases he

theorem case_tup (es : IEs) (ihs : SndEs prog w A B fnm con sub C es) : SndE prog w A B fnm con sub C (.tup es) := by
  intro cx e env s ρ σ σ' π β v E a hc he
  replace hc := any_ex hc
  obtain ⟨xs, hq, hc⟩ := hc
  · have hq := hq
    obtain ⟨k, p, rfl⟩ := asTuple_eq hq
    simp only [Bool.and_eq_true, decide_eq_true_eq] at hc
    obtain ⟨ds, σ₁, h1, h2⟩ := Out.bind_eq he
    cases h2
    refine Tuple_ (wpAny_mono (ihs a hc.1 h1) (fun vs s₁ h => ?_) fun _ _ z => z)
    exact newTuple_sound h.2.1 h.1 (by rw [h.2.2]; omega)

theorem case_lst (es : IEs) (ihs : SndEs prog w A B fnm con sub C es) : SndE prog w A B fnm con sub C (.lst es) := by
  intro cx e env s ρ σ σ' π β v E a hc he
  replace hc := any_ex hc
  obtain ⟨xs, hq, hc⟩ := hc
  · have hq := hq
    obtain ⟨p, rfl⟩ := asList_eq hq
    simp only [Bool.and_eq_true, decide_eq_true_eq] at hc
    obtain ⟨ds, σ₁, h1, h2⟩ := Out.bind_eq he
    cases h2
    refine List_ (wpAny_mono (ihs a hc.1 h1) (fun vs s₁ h => ?_) fun _ _ z => z)
    exact newList_sound h.2.1 h.1 (by rw [h.2.2]; omega)

theorem case_bin (op : BOp) (x y : IE) (ihx : SndE prog w A B fnm con sub C x) (ihy : SndE prog w A B fnm con sub C y) : SndE prog w A B fnm con sub C (.bin op x y) := by
  intro cx e env s ρ σ σ' π β v E a hc he
  replace hc := any_ex hc
  obtain ⟨⟨l, o, r⟩, hq, hc⟩ := hc
  · have hq := hq
    obtain ⟨p, rfl⟩ := asBin_eq hq
    simp only [Bool.and_eq_true] at hc
    obtain ⟨v1, σ₁, h1, h2⟩ := Out.bind_eq he
    obtain ⟨v2, σ₂, h3, h4⟩ := Out.bind_eq h2
    obtain ⟨d1, d2, d, l1, l2, hb, rfl, rfl⟩ := d2_eq h4
    refine wpAny_BinOp (wpAny_mono (ihx a hc.1.2 h1) (fun u1 s₁ q1 => ?_) fun _ _ z => z)
    have a1 := a.ok q1.2
    refine wpAny_mono (ihy a1 hc.2 h3) (fun u2 s₂ q2 => ?_) fun _ _ z => z
    have a2 := a1.ok q2.2
    exact wpAny_mono (bin2_sound (L := env.locals) a2.S hc.1.1 (look_seen a2.S (a1.rel q2.2 q1.1) l1) (look_seen a2.S q2.1 l2) hb) (fun v' s' q => ep_of_vpost (q1.2.trans q2.2) q) fun _ _ z => z

theorem case_neg (x : IE) (ihx : SndE prog w A B fnm con sub C x) : SndE prog w A B fnm con sub C (.neg x) := by
  intro cx e env s ρ σ σ' π β v E a hc he
  replace hc := any_ex hc
  obtain ⟨y, hq, hc⟩ := hc
  · have hq := hq
    obtain ⟨p, rfl⟩ := asNeg_eq hq
    obtain ⟨v1, σ₁, h1, h2⟩ := Out.bind_eq he
    obtain ⟨d1, d, l1, hb, rfl, rfl⟩ := d1_eq h2
    show wpAny _ _ (do let v ← eval y env; standAt p; holding [v] (unaryOp .USub v)) _ _ _
    refine wpAny_bind (wpAny_mono (ihx a hc h1) (fun u1 s₁ q1 => wpAny_bind (wpAny_standAt (wpAny_holding ?_))) fun _ _ z => z)
    have a1 := a.ok q1.2
    have sn := look_seen a1.S q1.1 l1
    cases d1 <;> simp only [reduceCtorEq, Option.some.injEq] at hb
    subst hb
    exact wpAny_mono (neg_sound (L := env.locals) a1.S sn) (fun v' s' q => ep_of_vpost q1.2 q) fun _ _ z => z

theorem case_not (x : IE) (ihx : SndE prog w A B fnm con sub C x) : SndE prog w A B fnm con sub C (.not x) := by
  intro cx e env s ρ σ σ' π β v E a hc he
  replace hc := any_ex hc
  obtain ⟨y, hq, hc⟩ := hc
  · have hq := hq
    obtain ⟨p, rfl⟩ := asNot_eq hq
    obtain ⟨v1, σ₁, h1, h2⟩ := Out.bind_eq he
    obtain ⟨b, σ₂, h3, h4⟩ := Out.bind_eq h2
    cases h4
    obtain ⟨l1, rfl⟩ := truthOf_eq h3
    show wpAny _ _ (do let v ← eval y env; standAt p; holding [v] (unaryOp .Not v)) _ _ _
    refine wpAny_bind (wpAny_mono (ihx a hc h1) (fun u1 s₁ q1 => wpAny_bind (wpAny_standAt (wpAny_holding ?_))) fun _ _ z => z)
    have a1 := a.ok q1.2
    show wpAny _ _ (holding [u1] _) _ _ _
    refine wpAny_holding ?_
    show wpAny _ _ (do return Value.bool (!(← truthy u1))) _ _ _
    exact wpAny_bind (truthy_sound a1.S q1.1 l1 (wpAny_pure ⟨rfl, q1.2⟩))

theorem case_and (es : IEs) (iha : SndAnd prog w A B fnm con sub C es) : SndE prog w A B fnm con sub C (.and es) := by
  intro cx e env s ρ σ σ' π β v E a hc he
  replace hc := any_ex hc
  obtain ⟨xs, hq, hc⟩ := hc
  · have hq := hq
    obtain ⟨p, rfl⟩ := asAnd_eq hq
    exact iha a hc he

theorem case_or (es : IEs) (iho : SndOr prog w A B fnm con sub C es) : SndE prog w A B fnm con sub C (.or es) := by
  intro cx e env s ρ σ σ' π β v E a hc he
  replace hc := any_ex hc
  obtain ⟨xs, hq, hc⟩ := hc
  · have hq := hq
    obtain ⟨p, rfl⟩ := asOr_eq hq
    exact iho a hc he

theorem case_cmp (x : IE) (cs : ICs) (ihx : SndE prog w A B fnm con sub C x) (ihc : SndC prog w A B fnm con sub C cs) : SndE prog w A B fnm con sub C (.cmp x cs) := by
  intro cx e env s ρ σ σ' π β v E a hc he
  replace hc := any_ex hc
  obtain ⟨⟨l, os, rs⟩, hq, hc⟩ := hc
  · have hq := hq
    obtain ⟨p, rfl⟩ := asCmp_eq hq
    simp only [Bool.and_eq_true] at hc
    obtain ⟨v1, σ₁, h1, h2⟩ := Out.bind_eq he
    obtain ⟨b, σ₂, h3, h4⟩ := Out.bind_eq h2
    cases h4
    show wpAny _ _ (do compareChain p (← eval l env) os (markedEach os rs (evalEach rs env))) _ _ _
    rw [markedEach_none hc.1.2]
    refine wpAny_bind (wpAny_mono (ihx a hc.1.1 h1) (fun u1 s₁ q1 => ?_) fun _ _ z => z)
    exact wpAny_mono ((ihc (pos := p) (a.ok q1.2) q1.1 hc.1.2 (by intro z; subst z; simp at hc) h3).1) (fun v' s' q => ⟨q.1, q1.2.trans q.2⟩) fun _ _ z => z

theorem case_call (f : Nat) (as : IEs) (ihs : SndAs prog w A B fnm con sub C as) : SndE prog w A B fnm con sub C (.call f as) := by
  intro cx e env s ρ σ σ' π β v E a hc he
  replace hc := any_ex hc
  obtain ⟨⟨x, xs⟩, hq, hc⟩ := hc
  · have hq := hq
    obtain ⟨p, q, rfl⟩ := asCall_eq hq
    simp only [Bool.and_eq_true, beq_iff_eq, Bool.or_eq_true, Bool.not_eq_true', beq_eq_false_iff_ne] at hc
    obtain ⟨⟨hc, hsp⟩, hlaw⟩ := hc
    obtain ⟨vs, σ₁, h1, h2⟩ := Out.bind_eq he
    obtain ⟨d, σ₂, h3, h4⟩ := Out.bindX_eq h2
    cases h4
    have W : Wd prog w B Δ cx.fn cx.con mg mb := a.fn ▸ a.con.1 ▸ H.W
    obtain ⟨fn, vars, dr, ad, o, pm, code, doc, e1, e2, e3, e4, e5, e6⟩ := W.fn f x hc.1.1
    refine Call_Name rfl (glob_sound W a.V a.S hc.1.2 e2 ?_)
    refine Calls.callWith_function (o := o) (fd := Calls.docDef dr.name dr.params dr.body dr.scope pm code doc) (evalArgs_any (trees_plain hc.2) (wpAny_mono (ihs a hc.2 h1) (fun us s₁ q1 => ⟨⟨q1.2.sim.base _ _ e3, e4⟩, ?_⟩) fun _ _ z => z))
    have hS : isSp f = true → con.lone = true ∧ ∃ m, s₁.heap.Ns con.env0.locals m := by
      intro hs
      rcases hsp with h | h
      · rw [h] at hs; cases hs
      · have := a.con.2 h
        rw [← this.1]; exact ⟨this.2, (a.ok q1.2).ns⟩
    exact wpAny_mono (H.hC f x vs us σ₁ σ' d π β s₁ E ad (a.fn ▸ hc.1.1) e2 hlaw hS h3 q1.1 q1.2.sim (a.ok q1.2).baseLe) (fun v' s' q => ⟨q.1, q1.2.trans (q.2 _)⟩) fun _ _ z => z

theorem case_prim (p : Prim) (x : IE) (ihx : SndE prog w A B fnm con sub C x) : SndE prog w A B fnm con sub C (.prim p x) := by
  intro cx e env s ρ σ σ' π β v E a hc he
  replace hc := any_ex hc
  obtain ⟨⟨nm, y⟩, hq, hc⟩ := hc
  replace hc := any_ex hc
  obtain ⟨q, hn, hc⟩ := hc
  · have hq := hq
    obtain ⟨p1, q1, rfl⟩ := asCall1_eq hq
    simp only [Bool.and_eq_true, beq_iff_eq] at hc
    obtain ⟨v1, σ₁, h1, h2⟩ := Out.bind_eq he
    obtain ⟨d1, d, l1, hb, rfl, rfl⟩ := d1_eq h2
    have key : ∀ {id : String}, (nm, Value.builtin id) ∈ bis → (∀ s₂ u1, Sim B π s₂.heap σ' β → Seen s₂.heap (grow π σ' β) d1 u1 → wpAny (model prog w) A (call (.builtin id) [u1]) (VPost B π env.locals β σ' s₂ d) E s₂) →
        wpAny (model prog w) A (eval (.Call (.Name nm p1) [y] [] q1) env) (EP B π env β s σ (.dat d) σ') E s := fun {id} hm hop => by
      refine call1_bi H a hc.1.2 hm (not_starred hc.2) (wpAny_mono (ihx a hc.2 h1) (fun u1 s₁ r1 => ?_) fun _ _ z => z)
      have a1 := a.ok r1.2
      exact wpAny_mono (hop s₁ u1 a1.S (look_seen a1.S r1.1 l1)) (fun v' s' q => ep_of_vpost r1.2 q) fun _ _ z => z
    obtain ⟨⟨rfl, hg⟩, hy⟩ := hc
    cases p <;> simp only [primName, reduceCtorEq, Option.some.injEq] at hn
    · subst hn
      exact key (id := "len") bi_len fun s₂ u1 S r1 => len_sound S r1 hb
    · subst hn
      cases d1 <;> first | exact nos hb | skip
      cases Option.some.inj hb
      exact key (id := "abs") bi_abs fun s₂ u1 S r1 => abs_sound S r1
    · subst hn
      cases d1 <;> first | exact nos hb | skip
      rename_i l
      obtain ⟨bs, hl, hb⟩ := Option.map_eq_some_iff.mp (show (boolsOf l).map _ = _ from hb)
      · cases hb
        have := boolsOf_some hl
        subst this
        exact key (id := "all") bi_all fun s₂ u1 S r1 => all_sound H.hh S r1
    · subst hn
      refine call1_ty H a hg (T := "int") bi_int (not_starred hy) (wpAny_mono (ihx a hy h1) (fun u1 s₁ r1 => ?_) fun _ _ z => z)
      have a1 := a.ok r1.2
      have hu := look_seen a1.S r1.1 l1
      cases d1 <;> first | exact nos hb | skip
      · exact wpAny_mono (int_text_sound a1.S hu hb) (fun v' s' q => ep_of_vpost r1.2 q) fun _ _ z => z

omit H in
theorem look_str {σ : Sto} {v : Val} {x : List Nat} (h : look σ v = some (.str x)) : v = .dat (.str x) := by
  cases v with
  | dat d => cases h; rfl
  | ref k =>
    obtain ⟨e, _, h⟩ := Option.map_eq_some_iff.mp (show (σ[k]?).map _ = _ from h)
    cases h
  | exc c => cases h
theorem case_meth (p : Prim2) (x y : IE) (ihx : SndE prog w A B fnm con sub C x) (ihy : SndE prog w A B fnm con sub C y) (hm : isMeth p = true) {cx : Cx} {e : Expr} {env : Env} {s : Shared} {ρ : Loc} {σ σ' : Sto} {π β : List Addr} {v : Val} {E : Value → Shared → Prop}
    (a : At fnm con B π cx env s ρ σ β) (hc : ((asMeth e).any fun (o, n, z) => (prim2Name p).1 == n && plainO o && chkE cx x o && chkE cx y z) = true) (he : ev sub C (.prim2 p x y) ρ σ = .val v σ') :
    wpAny (model prog w) A (eval e env) (EP B π env β s σ v σ') E s := by
  replace hc := any_ex hc
  obtain ⟨⟨o, n, z⟩, hq, hc⟩ := hc
  obtain ⟨p1, q1, rfl, hline⟩ := asMeth_eq hq
  simp only [Bool.and_eq_true, beq_iff_eq] at hc
  obtain ⟨⟨⟨rfl, ho⟩, h5⟩, h6⟩ := hc
  obtain ⟨v1, σ₁, h1, h2⟩ := Out.bind_eq he
  obtain ⟨v2, σ₂, h3, h4⟩ := Out.bind_eq h2
  obtain ⟨d1, d2, d, l1, l2, hb, rfl, rfl⟩ := d2_eq h4
  refine Call_method1 ?_ (by cases z <;> first | rfl | exact absurd rfl (not_starred h6 _ _)) hline (wpAny_mono (ihx a h5 h1) (fun u1 s₁ r1 => ?_) fun _ _ z => z)
  · cases o <;> first | exact nof ho | rfl
  have a1 := a.ok r1.2
  cases p with
  | max => exact nof hm
  | min => exact nof hm
  | join =>
    cases d1 <;> first | exact nos hb | skip
    cases look_str l1
    cases d2 <;> first | exact nos hb | skip
    rename_i x1 l
    obtain ⟨u, rfl⟩ := (show ∃ t, u1 = .str ⟨x1.toArray⟩ t from r1.1)
    obtain ⟨ts, ht, hb⟩ := bnd (show (strsOf l).bind _ = _ from hb)
    obtain ⟨hsz, hb⟩ := iff_some hb
    cases hb
    cases strsOf_some ht
    refine join_sound hsz (wpAny_mono (ihy a1 h6 h3) (fun u2 s₂ r2 => ?_) fun _ _ z => z)
    have a2 := a1.ok r2.2
    exact ⟨_, look_seen a2.S r2.1 l2, fun t' k => ⟨⟨_, rfl⟩, (r1.2.trans r2.2).trans (Ok.toks a2.S _)⟩⟩
  | split =>
    cases d1 <;> first | exact nos hb | skip
    cases look_str l1
    cases d2 <;> first | exact nos hb | skip
    rename_i x1 y1
    obtain ⟨u, rfl⟩ := (show ∃ t, u1 = .str ⟨x1.toArray⟩ t from r1.1)
    cases y1 with
    | nil => exact nos hb
    | cons c r =>
      cases r with
      | cons _ _ => exact nos hb
      | nil =>
        obtain ⟨hsz, hb⟩ := iff_some hb
        cases hb
        refine split_on (y := ⟨#[c]⟩) (by simpa [Str.length] using hsz) rfl (wpAny_mono (ihy a1 h6 h3) (fun u2 s₂ r2 => ?_) fun _ _ z => z)
        have a2 := a1.ok r2.2
        obtain ⟨t2, rfl⟩ := look_seen a2.S r2.1 l2
        refine ⟨t2, rfl, fun l tk hl => ?_⟩
        have hs := split_toList ⟨x1.toArray⟩ c
        rw [← hl, List.map_map] at hs
        refine ⟨?_, (r1.2.trans r2.2).trans (Ok.keeps a2.S ⟨_, _, rfl⟩ fun b o ho => Heap.get?_push_of_some _ ho)⟩
        show Rep _ _ _ _
        simp only [Rep]
        exact ⟨_, (strValues l).toArray, rfl, a2.S.fresh, ⟨_, Heap.get?_push_size _ rfl, rfl, _, rfl⟩, strs_reps hs⟩

theorem case_prim2 (p : Prim2) (x y : IE) (ihx : SndE prog w A B fnm con sub C x) (ihy : SndE prog w A B fnm con sub C y) : SndE prog w A B fnm con sub C (.prim2 p x y) := by
  intro cx e env s ρ σ σ' π β v E a hc he
  replace hc := any_ex hc
  obtain ⟨_, _, hc⟩ := hc
  by_cases hm : isMeth p = true
  · rw [if_pos hm] at hc
    exact case_meth H p x y ihx ihy hm a hc he
  rw [if_neg hm] at hc
  replace hc := any_ex hc
  obtain ⟨⟨nm, y1, z1⟩, hq, hc⟩ := hc
  · have hq := hq
    obtain ⟨p1, q1, rfl⟩ := asCall2_eq hq
    replace hc : ((prim2Name p).1 == nm && cx.isGlob nm && chkE cx x y1 && chkE cx y z1) = true := hc
    simp only [Bool.and_eq_true, beq_iff_eq] at hc
    obtain ⟨v1, σ₁, h1, h2⟩ := Out.bind_eq he
    obtain ⟨v2, σ₂, h3, h4⟩ := Out.bind_eq h2
    obtain ⟨d1, d2, d, l1, l2, hb, rfl, rfl⟩ := d2_eq h4
    have key : ∀ {id : String}, (nm, Value.builtin id) ∈ bis → (∀ s₂ u1 u2, Sim B π s₂.heap σ' β → Seen s₂.heap (grow π σ' β) d1 u1 → Seen s₂.heap (grow π σ' β) d2 u2 → wpAny (model prog w) A (call (.builtin id) [u1, u2]) (VPost B π env.locals β σ' s₂ d) E s₂) →
        wpAny (model prog w) A (eval (.Call (.Name nm p1) [y1, z1] [] q1) env) (EP B π env β s σ (.dat d) σ') E s := fun {id} hm hop => by
      refine call2_bi H a hc.1.1.2 hm (not_starred hc.1.2) (not_starred hc.2) (wpAny_mono (ihx a hc.1.2 h1) (fun u1 s₁ r1 => ?_) fun _ _ z => z)
      have a1 := a.ok r1.2
      refine wpAny_mono (ihy a1 hc.2 h3) (fun u2 s₂ r2 => ?_) fun _ _ z => z
      have a2 := a1.ok r2.2
      exact wpAny_mono (hop s₂ u1 u2 a2.S (look_seen a2.S (a1.rel r2.2 r1.1) l1) (look_seen a2.S r2.1 l2)) (fun v' s' q => ep_of_vpost (r1.2.trans r2.2) q) fun _ _ z => z
    cases p with
    | max =>
      cases d1 <;> cases d2 <;> first | exact nos hb | skip
      cases Option.some.inj hb
      exact key (id := "max") (hc.1.1.1 ▸ bi_max) fun s₂ u1 u2 S r1 r2 => max_sound H.hh S r1 r2
    | min =>
      cases d1 <;> cases d2 <;> first | exact nos hb | skip
      cases Option.some.inj hb
      exact key (id := "min") (hc.1.1.1 ▸ bi_min) fun s₂ u1 u2 S r1 r2 => min_sound H.hh S r1 r2
    | join => exact absurd rfl hm
    | split => exact absurd rfl hm

theorem case_isinst (x : IE) (t : Ty) (ihx : SndE prog w A B fnm con sub C x) : SndE prog w A B fnm con sub C (.isinst x t) := by
  intro cx e env s ρ σ σ' π β v E a hc he
  replace hc := any_ex hc
  obtain ⟨⟨nm, y, z⟩, hq, hc⟩ := hc
  replace hc := any_ex hc
  obtain ⟨T, hn, hc⟩ := hc
  · have hq := hq
    obtain ⟨p1, q1, rfl⟩ := asCall2_eq hq
    simp only [Bool.and_eq_true, beq_iff_eq] at hc
    obtain ⟨⟨⟨rfl, hg⟩, hz⟩, hy⟩ := hc
    replace hz := any_ex hz
    obtain ⟨z', hz', hz⟩ := hz
    · have hz' := hz'
      obtain ⟨p2, rfl⟩ := asName_eq hz'
      simp only [Bool.and_eq_true, beq_iff_eq] at hz
      obtain ⟨v1, σ₁, h1, h2⟩ := Out.bind_eq he
      have hd : ∃ d, look σ₁ v1 = some d ∧ v = .dat (.bool (isTy t d)) ∧ σ' = σ₁ := by
        have h2 : ofOpt ((look σ₁ v1).map fun d => Val.dat (.bool (isTy t d))) σ₁ = .val v σ' := by cases t <;> first | exact h2 | exact nos hn
        cases hl : look σ₁ v1 with
        | none => rw [hl] at h2; cases h2
        | some d => rw [hl] at h2; cases h2; exact ⟨d, rfl, rfl, rfl⟩
      obtain ⟨d, l1, rfl, rfl⟩ := hd
      refine call2_bi H a hg (id := "isinstance") bi_isinstance (not_starred hy) (by intro t r h; cases h) (wpAny_mono (ihx a hy h1) (fun u1 s₁ r1 => ?_) fun _ _ z => z)
      have a1 := a.ok r1.2
      refine bi_sound (x := z') (v := .type T) (a1.fn ▸ a1.con.1 ▸ H.W) a1.V a1.S hz.1 (by rw [hz.2]; cases t <;> first | exact nos hn | (cases Option.some.inj hn; first | exact bi_bool | exact bi_int | exact bi_str | exact bi_tuple | exact bi_list)) ?_
      exact wpAny_mono (isinst_sound (L := env.locals) a1.S hn (look_seen a1.S r1.1 l1)) (fun v' s' q => ep_of_vpost r1.2 q) fun _ _ z => z

omit H in
theorem sub_plain {i : Expr} (h : notSlice i = true) (o k : Value) : subscripted i false o k = operate [o, k] (getItem o k) := by
  cases i <;> first | (with_unfolding_all rfl) | (simp [notSlice] at h)

theorem case_idx (x i : IE) (ihx : SndE prog w A B fnm con sub C x) (ihi : SndE prog w A B fnm con sub C i) : SndE prog w A B fnm con sub C (.idx x i) := by
  intro cx e env s ρ σ σ' π β v E a hc he
  replace hc := any_ex hc
  obtain ⟨⟨y, z⟩, hq, hc⟩ := hc
  · have hq := hq
    obtain ⟨p1, rfl, hsl⟩ := asSub_eq hq
    simp only [Bool.and_eq_true] at hc
    obtain ⟨v1, σ₁, h1, h2⟩ := Out.bindX_eq he
    obtain ⟨v2, σ₂, h3, h4⟩ := Out.bind_eq h2
    obtain ⟨d1, d2, d, l1, l2, hb, rfl, rfl⟩ := d2_eq h4
    refine Subscript_ (wpAny_mono (ihx a hc.1 h1) (fun u1 s₁ q1 => ?_) fun _ _ z => z)
    have a1 := a.ok q1.2
    refine wpAny_mono (ihi a1 hc.2 h3) (fun u2 s₂ q2 => ?_) fun _ _ z => z
    have a2 := a1.ok q2.2
    have r1 := look_seen a2.S (a1.rel q2.2 q1.1) l1
    have r2 := look_seen a2.S q2.1 l2
    have g := wpAny_mono (item_sound (prog := prog) (w := w) (A := A) (E := E) (L := env.locals) a2.S r1 r2 hb) (fun v' s' q => (ep_of_vpost (env := env) (q1.2.trans q2.2) q : EP B π env β s σ (.dat d) σ' v' s')) fun _ _ z => z
    cases d1 with
    | lst l =>
      obtain ⟨q, vs, rfl, hl, hr⟩ := r1
      exact tail_any hl.typeIs list_getitem_lookup g (sub_plain hsl _ _)
    | tup l =>
      obtain ⟨q, vs, rfl, hl, hr⟩ := r1
      exact tail_any hl.typeIs slot_tuple_getitem.lookup g (sub_plain hsl _ _)
    | str l =>
      obtain ⟨q, rfl⟩ := r1
      exact tail_any (typeIs_str _ _ _) F.slot_str_getitem.lookup g (sub_plain hsl _ _)
    | none => simp [idx2] at hb
    | bool _ => simp [idx2] at hb
    | int _ => simp [idx2] at hb

theorem case_slFrom (x i : IE) (ihx : SndE prog w A B fnm con sub C x) (ihi : SndE prog w A B fnm con sub C i) : SndE prog w A B fnm con sub C (.slFrom x i) := by
  intro cx e env s ρ σ σ' π β v E a hc he
  replace hc := any_ex hc
  obtain ⟨⟨y, z⟩, hq, hc⟩ := hc
  · have hq := hq
    obtain ⟨p1, p2, rfl⟩ := asFrom_eq hq
    simp only [Bool.and_eq_true] at hc
    obtain ⟨v1, σ₁, h1, h2⟩ := Out.bind_eq he
    obtain ⟨v2, σ₂, h3, h4⟩ := Out.bind_eq h2
    obtain ⟨d1, d2, d, l1, l2, hb, rfl, rfl⟩ := d2_eq h4
    refine Subscript_ (wpAny_mono (ihx a hc.1 h1) (fun u1 s₁ q1 => ?_) fun _ _ z => z)
    have a1 := a.ok q1.2
    refine wpAny_Slice (wpAny_mono (ihi a1 hc.2 h3) (fun u2 s₂ q2 => wpAny_pure (wpAny_pure ?_)) fun _ _ z => z)
    have a2 := a1.ok q2.2
    have r1 := look_seen a2.S (a1.rel q2.2 q1.1) l1
    have r2 := look_seen a2.S q2.1 l2
    have hi : ∃ k, d2 = .int k := by cases d1 <;> cases d2 <;> simp [slFrom2] at hb <;> exact ⟨_, rfl⟩
    obtain ⟨k, rfl⟩ := hi
    obtain ⟨u, rfl⟩ := r2
    exact wpAny_mono (slFrom_sound (L := env.locals) a2.S r1 hb) (fun v' s' q => ep_of_vpost (q1.2.trans q2.2) q) fun _ _ z => z

theorem case_slTo (x i : IE) (ihx : SndE prog w A B fnm con sub C x) (ihi : SndE prog w A B fnm con sub C i) : SndE prog w A B fnm con sub C (.slTo x i) := by
  intro cx e env s ρ σ σ' π β v E a hc he
  replace hc := any_ex hc
  obtain ⟨⟨y, z⟩, hq, hc⟩ := hc
  · have hq := hq
    obtain ⟨p1, p2, rfl⟩ := asTo_eq hq
    simp only [Bool.and_eq_true] at hc
    obtain ⟨v1, σ₁, h1, h2⟩ := Out.bind_eq he
    obtain ⟨v2, σ₂, h3, h4⟩ := Out.bind_eq h2
    obtain ⟨d1, d2, d, l1, l2, hb, rfl, rfl⟩ := d2_eq h4
    refine Subscript_ (wpAny_mono (ihx a hc.1 h1) (fun u1 s₁ q1 => ?_) fun _ _ z => z)
    have a1 := a.ok q1.2
    refine wpAny_Slice (wpAny_pure (wpAny_mono (ihi a1 hc.2 h3) (fun u2 s₂ q2 => wpAny_pure ?_) fun _ _ z => z))
    have a2 := a1.ok q2.2
    have r1 := look_seen a2.S (a1.rel q2.2 q1.1) l1
    have r2 := look_seen a2.S q2.1 l2
    have hi : ∃ k, d2 = .int k := by cases d1 <;> cases d2 <;> simp [slTo2] at hb <;> exact ⟨_, rfl⟩
    obtain ⟨k, rfl⟩ := hi
    obtain ⟨u, rfl⟩ := r2
    exact wpAny_mono (slTo_sound (L := env.locals) a2.S r1 hb) (fun v' s' q => ep_of_vpost (q1.2.trans q2.2) q) fun _ _ z => z

/-- a turn of a comprehension that comes to its end -/
theorem comp_turn {cx : Cx} {el : Expr} {conds : List Expr} {cenv : Env} {s₂ : Shared} {ρ : Loc} {σ₂ σ₃ : Sto} {π' β : List Addr} {k : Nat} {ifs : IEs} {elt : IE} {d : Dat} {o : Option Dat} {E' : Value → Shared → Prop}
    (ihf : SndIfs prog w A B fnm con sub C ifs) (ihe : SndE prog w A B fnm con sub C elt) (h5 : chkEs cx ifs conds = true) (h6 : chkE cx elt el = true) (ai : At fnm con B π' cx cenv s₂ (ρ.set k (some (.dat d))) σ₂ β)
    (ef : ((evIfs sub C ifs (ρ.set k (some (.dat d))) σ₂).bind fun b σ => if b then ((ev sub C elt (ρ.set k (some (.dat d))) σ).keepX (isCallE elt)).bindX fun v σ => (toDat v σ).bind fun e σ => .val (some e) σ else .val Option.none σ) = .val o σ₃) :
    wpAny (model prog w) A (forIn conds true fun c r => if r = true then do let ok ← isTrue c cenv (eval c cenv); pure (ForInStep.yield ok) else pure (ForInStep.yield r))
        (fun ok s₃ => if ok = true then ∃ e, o = some e ∧ wpAny (model prog w) A (eval el cenv) (fun y s₄ => Rep s₄.heap (grow π' σ₃ β) e y ∧ Ok B π' cenv.locals β s₂ s₄ σ₂ σ₃) E' s₃
          else o = none ∧ Ok B π' cenv.locals β s₂ s₃ σ₂ σ₃) E' s₂ := by
  obtain ⟨b, σ₄, f1, f2⟩ := Out.bind_eq ef
  refine wpAny_mono (ihf ai h5 f1) (fun b' s₃ r => ?_) fun _ _ z => z
  obtain ⟨rfl, r⟩ := r
  cases b' with
  | false =>
    simp only [Bool.false_eq_true, if_false] at f2 ⊢
    cases f2
    exact ⟨rfl, r⟩
  | true =>
    simp only [if_true] at f2 ⊢
    obtain ⟨v2, σ₅, f3, f4⟩ := Out.bindX_eq f2
    obtain ⟨e', σ₆, f5, f6⟩ := Out.bind_eq f4
    cases f6
    refine ⟨e', rfl, wpAny_mono (ihe (ai.ok r) h6 (Out.keepX_eq f3)) (fun y s₄ r2 => ?_) fun _ _ z => z⟩
    have a4 := (ai.ok r).ok r2.2
    obtain ⟨f7, f8⟩ := toDat_sound (L := cenv.locals) a4.S r2.1 f5
    exact ⟨f7, (r.trans r2.2).trans f8⟩

/-- a comprehension, with what is done with its list -/
theorem comp_at {cx : Cx} {el iter : Expr} {x : Str} {conds : List Expr} {sc : Scope} {p q pos : Pos} {env : Env} {s : Shared} {ρ : Loc} {σ σ' : Sto} {π β : List Addr} {v : Val} {E : Value → Shared → Prop} {k : Nat} {it : II} {ifs : IEs} {elt : IE} {use : Option (Value → Sem Unit)} {Q : Value → Shared → Prop}
    (iht : SndI prog w A B fnm con sub C it) (ihf : SndIfs prog w A B fnm con sub C ifs) (ihe : SndE prog w A B fnm con sub C elt) (a : At fnm con B π cx env s ρ σ β)
    (h1 : plainI it = true) (h2 : chkI cx it iter = true) (h3 : chkScope x sc cx.scope = true) (h4 : chkFrees cx sc = true) (h5 : chkEs (cx.inner x k sc) ifs conds = true) (h6 : chkE (cx.inner x k sc) elt el = true)
    (he : ev sub C (.comp k it ifs elt) ρ σ = .val v σ')
    (hQ : ∀ (D K : Addr) (s' : Shared) (m' : Str → Option Value), RelV s'.heap π β σ' v (.ref D) → Ok B π env.locals β s s' σ σ' → s'.heap.Ns K m' → s.heap.get? K = none → Foreign B π β env s'.heap K → compPost (model prog w) A E use Q (.ref D) K (.ok .next) s') :
    wpAny (model prog w) A (comprehension (.ListComp el [⟨.Name x p, iter, conds, 0⟩] sc q) sc env pos (newList []) false (eval iter env) use) Q E s := by
  obtain ⟨src, σ₁, e1, e2⟩ := Out.bind_eq he
  split at e2
  · rename_i hlen
    obtain ⟨ds, σ₂, e3, e4⟩ := Out.bindX_eq e2
    cases e4
    have hs := scopeOk h3
    have hv := chkFrees_ok h4
    refine wpAny_comprehension_free (g := ⟨.Name x p, iter, conds, 0⟩) (gs := []) (cl := closOf env sc.names) rfl (fun z => folded_none (notSetI h2)) (closureFor_is (frees_cells a.V a.F hs hv)) hs.kind hs.locs ?_
    refine wpAny_mono (iht a h1 h2 e1) (fun xv s₁ r1 => ?_) fun _ _ z => z
    have a1 := a.ok r1.2
    refine comp_run (k := k) (RR := fun acc K => compPost (model prog w) A E use Q acc K) H.hh a1 hs hv r1.1 hlen (fun cenv π' s₂ σ₂ σ₃ d o E' ai ef => comp_turn H ihf ihe h5 h6 ai ef) (fun _ _ _ _ _ _ _ _ h => by cases h) e3 (by exact nofun) fun ds' σ'' hout D K s' m' vs hsh hD hK hDK hns hp hr hDg hS hkp hmon => ?_
    · cases hout
      have hok : Ok B π env.locals β s₁ s' σ₁ σ' := ⟨hsh, hS, fun b o q hb _ => hkp b o q hb, fun m hm => Kept.ns hm fun o q => hkp _ o q fun z => a1.F.off.1 (growS_sub z), hmon⟩
      have hK' : s.heap.get? K = none := by
        cases hq : s.heap.get? K with
        | none => rfl
        | some o =>
          exfalso
          by_cases hg : K ∈ growS σ β
          · have := ltSim a1.S (growS_sub hg)
            obtain ⟨j, hj, ej⟩ := List.mem_iff_getElem.mp (growS_sub hg)
            obtain ⟨vs', ⟨n', hq'⟩, _⟩ := a1.S.ent j (σ₁[j]'(by rw [← a1.S.len]; exact hj)) K (List.getElem?_eq_getElem _) (by rw [List.getElem?_eq_getElem hj, ej])
            rw [hK] at hq'; cases hq'
          · by_cases hl : K = env.locals
            · subst hl
              obtain ⟨m₁, hm₁⟩ := a1.ns
              obtain ⟨_, _, _, hz, _⟩ := hm₁
              rw [hK] at hz; cases hz
            · have := (r1.2.keep K o hq hg hl).is
              rw [hK] at this; cases this
      refine hQ D K s' m' ?_ (r1.2.trans hok) hns hK' ?_
      · show Rep _ _ _ _
        simp only [Rep]
        exact ⟨_, vs, rfl, hDg, hp.isList, hr⟩
      · obtain ⟨o₀, es, ep, hI, hd₀, _⟩ := hns
        refine ⟨.inr (fun o xs n' ho hd => by rw [hI] at ho; cases ho; rw [hd₀] at hd; cases hd), (fun o v ho hd => by rw [hI] at ho; cases ho; rw [hd₀] at hd; cases hd), ?_, fun q => ?_, ?_⟩
        · rintro rfl
          obtain ⟨m₁, hm₁⟩ := a1.ns
          obtain ⟨_, _, _, hz, _⟩ := hm₁
          rw [hK] at hz; cases hz
        · obtain ⟨j, hj, ej⟩ := List.mem_iff_getElem.mp q
          obtain ⟨vs', ⟨n', hq'⟩, _⟩ := a1.S.ent j (σ₁[j]'(by rw [← a1.S.len]; exact hj)) K (List.getElem?_eq_getElem _) (by rw [List.getElem?_eq_getElem hj, ej])
          rw [hK] at hq'; cases hq'
        · cases hq : B.get? K with
          | none => rfl
          | some o => have := a1.S.base K o hq; rw [hK] at this; cases this
  · cases e2

omit H in
theorem poke_ok {cx : Cx} {env : Env} {s s' : Shared} {ρ : Loc} {σ σ' : Sto} {π β : List Addr} {K : Addr} {h' : Heap} {m' : Str → Option Value} (a : At fnm con B π cx env s ρ σ β) (ok : Ok B π env.locals β s s' σ σ') (hn : s'.heap.Ns K m') (hK : s.heap.get? K = none) (f : Foreign B π β env s'.heap K) (hs : Heap.SameBut K s'.heap h') :
    Ok B π env.locals β s { s' with heap := h' } σ σ' := by
  have hk : ∀ b o, b ≠ K → s'.heap.get? b = some o → h'.get? b = some o := fun b o hb q => hs.extBut b o hb q
  refine ⟨?_, ?_, fun b o q hb hl => ?_, fun m hm => ?_, ok.mon⟩
  · obtain ⟨h1, t1, rfl⟩ := ok.sh; exact ⟨h', t1, rfl⟩
  · have S := ok.sim
    refine ⟨S.len, S.nodup, fun b o q => hk b o (by rintro rfl; rw [f.base] at q; cases q) (S.base b o q), S.new, fun j en p h1 h2 => ?_, fun p hp => ⟨?_, (S.priv p hp).2⟩⟩
    · obtain ⟨vs', hp, hr⟩ := S.ent j en p h1 h2
      exact ⟨vs', hp.at fun o q => hk p o (by rintro rfl; exact f.sto (List.mem_of_getElem? h2)) q, Reps.mono (f.seqKeep hk) hr⟩
    · obtain ⟨o, ho⟩ := Option.isSome_iff_exists.mp (S.priv p hp).1
      have : p ≠ K := by
        rintro rfl
        have := (a.S.priv p hp).1; rw [hK] at this; cases this
      rw [hk p o this ho]; rfl
  · exact (ok.keep b o q hb hl).step fun o' q' => .of (hk b o' (by rintro rfl; rw [hK] at q; cases q) q')
  · exact (ok.ns m hm).at' fun o q => hk _ o (Ne.symm f.loc) q

theorem case_comp (k : Nat) (it : II) (ifs : IEs) (elt : IE) (iht : SndI prog w A B fnm con sub C it) (ihf : SndIfs prog w A B fnm con sub C ifs) (ihe : SndE prog w A B fnm con sub C elt) : SndE prog w A B fnm con sub C (.comp k it ifs elt) := by
  intro cx e env s ρ σ σ' π β v E a hc he
  replace hc := any_ex hc
  obtain ⟨⟨el, x, iter, conds, sc⟩, hq, hc⟩ := hc
  · have hq := hq
    obtain ⟨p1, p2, rfl⟩ := asComp_eq hq
    simp only [Bool.and_eq_true] at hc
    rw [eval_ListComp]
    refine comp_at H iht ihf ihe a hc.1.1.1.1.1 hc.1.1.1.1.2 hc.1.1.1.2 hc.1.1.2 hc.1.2 hc.2 he fun D K s' m' r ok hn hK f => ?_
    refine ⟨m', hn, fun h' hs => ⟨?_, poke_ok a ok hn hK f hs⟩⟩
    exact r.seq (f.seqKeep fun b o hb q => hs.extBut b o hb q)

end
end Mine

/-! ## MList -/
namespace Mine
open PySem PyProof.Rows

section
variable {prog : Program} {w : World} {A : Around} {B : Heap} {Δ : Nat → Option Fn} {fnm : Nat → Option Str} {con : Con} {mg mb : Str → Option Value} {sub : Nat → Nat → Bool} {C : Oracle}
variable (H : Hyp prog w A B Δ fnm con mg mb C)
include H

theorem list_nil : SndEs prog w A B fnm con sub C .nil := by
  intro cx xs env pos s ρ σ σ' π β ds E a hc he
  cases xs with
  | nil => cases (show Out.val _ _ = Out.val _ _ from he); exact Calls.spliced_nil ⟨by simp [Reps], Ok.refl a.S, rfl⟩
  | cons x xs => simp [chkEs] at hc
theorem list_cons (e : IE) (es : IEs) (ih : SndE prog w A B fnm con sub C e) (ihs : SndEs prog w A B fnm con sub C es) : SndEs prog w A B fnm con sub C (.cons e es) := by
  intro cx xs env pos s ρ σ σ' π β ds E a hc he
  cases xs with
  | nil => simp [chkEs] at hc
  | cons x xs =>
    have hc := Bool.and_eq_true_iff.mp (show (_ && _) = true from hc)
    obtain ⟨v1, σ₁, h1, h2⟩ := Out.bind_eq he
    obtain ⟨d, σ₂, h3, h4⟩ := Out.bind_eq h2
    obtain ⟨r, σ₃, h5, h6⟩ := Out.bind_eq h4
    cases h6
    rw [trees_cons (not_starred hc.1)]
    refine Calls.spliced_cons (wpAny_mono (ih a hc.1 h1) (fun u1 s₁ q1 => ?_) fun _ _ z => z)
    have a1 := a.ok q1.2
    obtain ⟨rd, ok2⟩ := toDat_sound (L := env.locals) a1.S q1.1 h3
    have a2 := a1.ok ok2
    refine wpAny_mono (ihs a2 hc.2 h5) (fun us s₂ q2 => ?_) fun _ _ z => z
    refine ⟨?_, (q1.2.trans ok2).trans q2.2.1, by simp [q2.2.2]⟩
    simp only [Reps]
    exact ⟨a2.rep q2.2.1 rd, q2.1⟩
theorem args_nil : SndAs prog w A B fnm con sub C .nil := by
  intro cx xs env pos s ρ σ σ' π β vs E a hc he
  cases xs with
  | nil => cases (show Out.val _ _ = Out.val _ _ from he); exact Calls.spliced_nil ⟨trivial, Ok.refl a.S⟩
  | cons x xs => simp [chkEs] at hc
theorem args_cons (e : IE) (es : IEs) (ih : SndE prog w A B fnm con sub C e) (ihs : SndAs prog w A B fnm con sub C es) : SndAs prog w A B fnm con sub C (.cons e es) := by
  intro cx xs env pos s ρ σ σ' π β vs E a hc he
  cases xs with
  | nil => simp [chkEs] at hc
  | cons x xs =>
    have hc := Bool.and_eq_true_iff.mp (show (_ && _) = true from hc)
    obtain ⟨v1, σ₁, h1, h2⟩ := Out.bind_eq he
    obtain ⟨r, σ₂, h3, h4⟩ := Out.bind_eq h2
    cases h4
    rw [trees_cons (not_starred hc.1)]
    refine Calls.spliced_cons (wpAny_mono (ih a hc.1 h1) (fun u1 s₁ q1 => ?_) fun _ _ z => z)
    have a1 := a.ok q1.2
    refine wpAny_mono (ihs a1 hc.2 h3) (fun us s₂ q2 => ?_) fun _ _ z => z
    exact ⟨⟨a1.rel q2.2 q1.1, q2.1⟩, q1.2.trans q2.2⟩

theorem and_nil : SndAnd prog w A B fnm con sub C .nil := by
  intro cx xs env pos s ρ σ σ' π β v E a hc he
  cases (show Out.bad = Out.val _ _ from he)
theorem and_one (e : IE) (ih : SndE prog w A B fnm con sub C e) : SndAnd prog w A B fnm con sub C (.cons e .nil) := by
  intro cx xs env pos s ρ σ σ' π β v E a hc he
  cases xs with
  | nil => simp [chkEs] at hc
  | cons x xs =>
    cases xs with
    | nil =>
      have hc := Bool.and_eq_true_iff.mp (show (_ && _) = true from hc)
      exact ih a hc.1 (Out.noX_eq he)
    | cons y ys => simp [chkEs] at hc
theorem and_cons (e e' : IE) (es : IEs) (ih : SndE prog w A B fnm con sub C e) (ihs : SndAnd prog w A B fnm con sub C (.cons e' es)) : SndAnd prog w A B fnm con sub C (.cons e (.cons e' es)) := by
  intro cx xs env pos s ρ σ σ' π β v E a hc he
  cases xs with
  | nil => simp [chkEs] at hc
  | cons x xs =>
    cases xs with
    | nil => simp [chkEs] at hc
    | cons y ys =>
      rw [chkEs, Bool.and_eq_true] at hc
      obtain ⟨v1, σ₁, h1, h2⟩ := Out.bind_eq he
      obtain ⟨b, σ₂, h3, h4⟩ := Out.bind_eq h2
      obtain ⟨l1, rfl⟩ := truthOf_eq h3
      show wpAny _ _ (do
        let v ← eval x env
        standAt pos
        let t ← holding [v] (truthy v)
        match BoolOp.And, t with
        | .And, false | .Or, true => pure v
        | _, _ => boolOp pos .And (evalEach (y :: ys) env)) _ _ _
      refine wpAny_bind (wpAny_mono (ih a hc.1 h1) (fun u1 s₁ q1 => wpAny_bind (wpAny_standAt (wpAny_bind (wpAny_holding (truthy_sound (a.ok q1.2).S q1.1 l1 ?_))))) fun _ _ z => z)
      cases b with
      | true =>
        simp only [if_true] at h4
        exact wpAny_mono (ihs (a.ok q1.2) hc.2 h4) (fun v' s' q => ⟨q.1, q1.2.trans q.2⟩) fun _ _ z => z
      | false =>
        simp only [Bool.false_eq_true, if_false] at h4
        cases h4
        exact wpAny_pure q1
theorem or_nil : SndOr prog w A B fnm con sub C .nil := by
  intro cx xs env pos s ρ σ σ' π β v E a hc he
  cases (show Out.bad = Out.val _ _ from he)
theorem or_one (e : IE) (ih : SndE prog w A B fnm con sub C e) : SndOr prog w A B fnm con sub C (.cons e .nil) := by
  intro cx xs env pos s ρ σ σ' π β v E a hc he
  cases xs with
  | nil => simp [chkEs] at hc
  | cons x xs =>
    cases xs with
    | nil =>
      have hc := Bool.and_eq_true_iff.mp (show (_ && _) = true from hc)
      exact ih a hc.1 (Out.noX_eq he)
    | cons y ys => simp [chkEs] at hc
theorem or_cons (e e' : IE) (es : IEs) (ih : SndE prog w A B fnm con sub C e) (ihs : SndOr prog w A B fnm con sub C (.cons e' es)) : SndOr prog w A B fnm con sub C (.cons e (.cons e' es)) := by
  intro cx xs env pos s ρ σ σ' π β v E a hc he
  cases xs with
  | nil => simp [chkEs] at hc
  | cons x xs =>
    cases xs with
    | nil => simp [chkEs] at hc
    | cons y ys =>
      rw [chkEs, Bool.and_eq_true] at hc
      obtain ⟨v1, σ₁, h1, h2⟩ := Out.bind_eq he
      obtain ⟨b, σ₂, h3, h4⟩ := Out.bind_eq h2
      obtain ⟨l1, rfl⟩ := truthOf_eq h3
      show wpAny _ _ (do
        let v ← eval x env
        standAt pos
        let t ← holding [v] (truthy v)
        match BoolOp.Or, t with
        | .And, false | .Or, true => pure v
        | _, _ => boolOp pos .Or (evalEach (y :: ys) env)) _ _ _
      refine wpAny_bind (wpAny_mono (ih a hc.1 h1) (fun u1 s₁ q1 => wpAny_bind (wpAny_standAt (wpAny_bind (wpAny_holding (truthy_sound (a.ok q1.2).S q1.1 l1 ?_))))) fun _ _ z => z)
      cases b with
      | false =>
        simp only [Bool.false_eq_true, if_false] at h4
        exact wpAny_mono (ihs (a.ok q1.2) hc.2 h4) (fun v' s' q => ⟨q.1, q1.2.trans q.2⟩) fun _ _ z => z
      | true =>
        simp only [if_true] at h4
        cases h4
        exact wpAny_pure q1

theorem cmp_nil : SndC prog w A B fnm con sub C .nil := by
  intro cx os xs env pos s ρ σ σ' π β v v' b E a r hc hne he
  cases os with
  | nil => exact absurd rfl hne
  | cons o os => simp [chkCs] at hc
theorem cmp_cons (op : COp) (e : IE) (cs : ICs) (ih : SndE prog w A B fnm con sub C e) (ihs : SndC prog w A B fnm con sub C cs) : SndC prog w A B fnm con sub C (.cons op e cs) := by
  intro cx os xs env pos s ρ σ σ' π β v v' b E a r hc hne he
  cases os with
  | nil => exact absurd rfl hne
  | cons o os =>
    cases xs with
    | nil => simp [chkCs] at hc
    | cons x xs =>
      simp only [chkCs, Bool.and_eq_true] at hc
      obtain ⟨v1, σ₁, h1, h2⟩ := Out.bind_eq he
      have go : ∀ {α : Type} {k : Value → Sem α} {QQ : α → Shared → Prop} , (∀ u1 s₁, EP B π env β s σ v1 σ₁ u1 s₁ → wpAny (model prog w) A (k u1) QQ E s₁) → wpAny (model prog w) A (holding [v'] (eval x env) >>= k) QQ E s := fun {α k QQ} hk =>
        wpAny_bind (wpAny_holding (wpAny_mono (ih a hc.1.2 h1) (fun u1 s₁ q1 => hk u1 s₁ q1) fun _ _ z => z))
      have cmpd : ∀ {u1 : Value} {s₁ : Shared} {rb : Bool} {QQ : Value → Shared → Prop}, EP B π env β s σ v1 σ₁ u1 s₁ → c2 op v v1 σ₁ = some rb → QQ (.bool rb) s₁ → wpAny (model prog w) A (compareOp o v' u1) QQ E s₁ := fun {u1 s₁ rb QQ} q1 hcc hq => by
        have a1 := a.ok q1.2
        obtain ⟨d1, d2, l1, l2, hcm⟩ := c2_eq hcc
        exact cmp2_sound hc.1.1 (look_seen a1.S (a.rel q1.2 r) l1) (look_seen a1.S q1.1 l2) (by have := H.hu; omega) hcm hq
      cases hcc : c2 op v v1 σ₁ with
      | none => rw [hcc] at h2; cases h2
      | some rb =>
        rw [hcc] at h2
        cases os with
        | nil =>
          cases xs with
          | cons _ _ => cases cs <;> simp [chkCs] at hc
          | nil =>
            have hcs : cs = .nil := by cases cs with | nil => rfl | cons _ _ _ => simp [chkCs] at hc
            subst hcs
            have hb : b = rb ∧ σ' = σ₁ := by cases rb <;> simp [evCmp] at h2 <;> exact ⟨by simp [← h2.1], h2.2.symm⟩
            obtain ⟨rfl, rfl⟩ := hb
            constructor
            · show wpAny _ _ (holding [v'] (eval x env) >>= fun rv => do standAt pos; operate [v', rv] (compareOp o v' rv)) _ _ _
              exact go fun u1 s₁ q1 => wpAny_bind (wpAny_standAt (wpAny_operating (cmpd q1 hcc ⟨rfl, q1.2⟩)))
            · show wpAny _ _ (holding [v'] (eval x env) >>= fun rv => do standAt pos; let c ← operate [v', rv] (compareOp o v' rv); holding [c] (truthy c)) _ _ _
              exact go fun u1 s₁ q1 => wpAny_bind (wpAny_standAt (wpAny_bind (wpAny_operating (cmpd q1 hcc (wpAny_holding (wpAny_truthy_bool ⟨rfl, q1.2⟩))))))
        | cons o' os =>
          constructor
          · show wpAny _ _ (holding [v'] (eval x env) >>= fun rv => do
              standAt pos
              let c ← holding [v', rv] (compareOp o v' rv)
              release [v', rv] [c]
              if ← holding [c, rv] (truthy c) then compareChain pos rv (o' :: os) (evalEach xs env) else pure c) _ _ _
            refine go fun u1 s₁ q1 => wpAny_bind (wpAny_standAt (wpAny_bind (wpAny_holding (cmpd q1 hcc (wpAny_bind (wpAny_release (wpAny_bind (wpAny_holding (wpAny_truthy_bool ?_)))))))))
            cases rb with
            | false => simp at h2; obtain ⟨rfl, rfl⟩ := h2; simp only [Bool.false_eq_true, if_false]; exact wpAny_pure ⟨rfl, q1.2⟩
            | true => simp only [if_true]; exact wpAny_mono (ihs (pos := pos) (a.ok q1.2) q1.1 hc.2 (by simp) h2).1 (fun v' s' q => ⟨q.1, q1.2.trans q.2⟩) fun _ _ z => z
          · show wpAny _ _ (holding [v'] (eval x env) >>= fun rv => do
              standAt pos
              let c ← holding [v', rv] (compareOp o v' rv)
              release [v', rv] [c]
              if ← holding [c, rv] (truthy c) then testChain pos rv (o' :: os) (evalEach xs env) else pure false) _ _ _
            refine go fun u1 s₁ q1 => wpAny_bind (wpAny_standAt (wpAny_bind (wpAny_holding (cmpd q1 hcc (wpAny_bind (wpAny_release (wpAny_bind (wpAny_holding (wpAny_truthy_bool ?_)))))))))
            cases rb with
            | false => simp at h2; obtain ⟨rfl, rfl⟩ := h2; simp only [Bool.false_eq_true, if_false]; exact wpAny_pure ⟨rfl, q1.2⟩
            | true => simp only [if_true]; exact wpAny_mono (ihs (pos := pos) (a.ok q1.2) q1.1 hc.2 (by simp) h2).2 (fun v' s' q => ⟨q.1, q1.2.trans q.2⟩) fun _ _ z => z

theorem it_of (e : IE) (ih : SndE prog w A B fnm con sub C e) : SndI prog w A B fnm con sub C (.of e) := by
  intro cx x env s ρ σ σ' π β src E a hp hc he
  obtain ⟨v1, σ₁, h1, h2⟩ := Out.bind_eq he
  refine wpAny_mono (ih a hc h1) (fun u1 s₁ q1 => ?_) fun _ _ z => z
  cases v1 with
  | dat d =>
    obtain ⟨h3, rfl⟩ := ofOpt_eq h2
    cases hi : itemsOf d with
    | none => rw [hi] at h3; cases h3
    | some l => rw [hi] at h3; cases h3; exact ⟨.dat q1.1 hi, q1.2⟩
  | ref k =>
    obtain ⟨h3, rfl⟩ := ofOpt_eq h2
    cases hi : σ'[k]? with
    | none => rw [hi] at h3; cases h3
    | some l =>
      rw [hi] at h3; cases h3
      obtain ⟨p, hp1, rfl⟩ := q1.1
      exact ⟨.held hi hp1, q1.2⟩
  | exc c => cases h2
theorem it_range1 (e : IE) (ih : SndE prog w A B fnm con sub C e) : SndI prog w A B fnm con sub C (.range1 e) := by
  intro cx x env s ρ σ σ' π β src E a hp hc he
  replace hc := any_ex hc
  obtain ⟨⟨nm, y⟩, hq, hc⟩ := hc
  · have hq := hq
    obtain ⟨p1, q1, rfl⟩ := asCall1_eq hq
    simp only [Bool.and_eq_true, beq_iff_eq] at hc
    obtain ⟨⟨rfl, hg⟩, hy⟩ := hc
    obtain ⟨v1, σ₁, h1, h2⟩ := Out.bind_eq he
    split at h2
    · split at h2
      · rename_i n hn
        cases h2
        refine call1_ty H a hg (T := "range") bi_range (not_starred hy) (wpAny_mono (ih a hy h1) (fun u1 s₁ r1 => ?_) fun _ _ z => z)
        have a1 := a.ok r1.2
        obtain ⟨t, rfl⟩ := r1.1
        refine call_range_1 ?_
        have ok : Ok B π env.locals β s₁ { s₁ with heap := s₁.heap.push { cls := .type "range", data := .fields #[.int 0 s₁.toks, .int n t, .int 1 (s₁.toks + 1)] }, toks := s₁.toks + 1 + 1 } σ' σ' := Ok.keeps a1.S ⟨_, _, rfl⟩ fun b o e => Heap.get?_push_of_some _ e
        exact ⟨.range (Heap.get?_push_size _ rfl) (by omega) (by omega) hn.2 hn.1, r1.2.trans ok⟩
      · cases h2
    · cases h2
theorem ifs_nil : SndIfs prog w A B fnm con sub C .nil := by
  intro cx xs env s ρ σ σ' π β b E a hc he
  cases xs with
  | nil => cases (show Out.val _ _ = Out.val _ _ from he); rw [List.forIn_nil]; exact wpAny_pure ⟨rfl, Ok.refl a.S⟩
  | cons x xs => simp [chkEs] at hc
theorem ifs_cons (e : IE) (es : IEs) (ih : SndB prog w A B fnm con sub C e) (ihs : SndIfs prog w A B fnm con sub C es) : SndIfs prog w A B fnm con sub C (.cons e es) := by
  intro cx xs env s ρ σ σ' π β b E a hc he
  cases xs with
  | nil => simp [chkEs] at hc
  | cons x xs =>
    have hc := Bool.and_eq_true_iff.mp (show (_ && _) = true from hc)
    obtain ⟨b1, σ₁, h1, h2⟩ := Out.bind_eq he
    refine forIn_ifs (wpAny_mono (ih a hc.1 h1) (fun b' s₁ q => ?_) fun _ _ z => z)
    obtain ⟨rfl, ok⟩ := q
    cases b' with
    | true =>
      simp only [if_true] at h2 ⊢
      exact wpAny_mono (ihs (a.ok ok) hc.2 h2) (fun b' s' q => ⟨q.1, ok.trans q.2⟩) fun _ _ z => z
    | false =>
      simp only [Bool.false_eq_true, if_false] at h2 ⊢
      cases h2
      exact ⟨rfl, ok⟩
theorem all_nil : SndAll prog w A B fnm con sub C .nil := by
  intro cx xs env s ρ σ σ' π β b E a hc he
  cases xs with
  | nil => cases (show Out.val _ _ = Out.val _ _ from he); exact wpAny_pure ⟨rfl, Ok.refl a.S⟩
  | cons x xs => simp [chkEs] at hc
theorem all_cons (e : IE) (es : IEs) (ih : SndB prog w A B fnm con sub C e) (ihs : SndAll prog w A B fnm con sub C es) : SndAll prog w A B fnm con sub C (.cons e es) := by
  intro cx xs env s ρ σ σ' π β b E a hc he
  cases xs with
  | nil => simp [chkEs] at hc
  | cons x xs =>
    have hc := Bool.and_eq_true_iff.mp (show (_ && _) = true from hc)
    obtain ⟨b1, σ₁, h1, h2⟩ := Out.bind_eq he
    show wpAny _ _ (do
      match BoolOp.And, ← isTrue x env (eval x env) with
      | .And, false => pure false
      | .Or, true => pure true
      | _, _ => allTrue .And xs env) _ _ _
    refine wpAny_bind (wpAny_mono (ih a hc.1 h1) (fun b' s₁ q => ?_) fun _ _ z => z)
    obtain ⟨rfl, ok⟩ := q
    cases b' with
    | true =>
      simp only [if_true] at h2
      exact wpAny_mono (ihs (a.ok ok) hc.2 h2) (fun b' s' q => ⟨q.1, ok.trans q.2⟩) fun _ _ z => z
    | false =>
      simp only [Bool.false_eq_true, if_false] at h2
      cases h2
      exact wpAny_pure ⟨rfl, ok⟩
theorem any_nil : SndAny prog w A B fnm con sub C .nil := by
  intro cx xs env s ρ σ σ' π β b E a hc he
  cases xs with
  | nil => cases (show Out.val _ _ = Out.val _ _ from he); exact wpAny_pure ⟨rfl, Ok.refl a.S⟩
  | cons x xs => simp [chkEs] at hc
theorem any_cons (e : IE) (es : IEs) (ih : SndB prog w A B fnm con sub C e) (ihs : SndAny prog w A B fnm con sub C es) : SndAny prog w A B fnm con sub C (.cons e es) := by
  intro cx xs env s ρ σ σ' π β b E a hc he
  cases xs with
  | nil => simp [chkEs] at hc
  | cons x xs =>
    have hc := Bool.and_eq_true_iff.mp (show (_ && _) = true from hc)
    obtain ⟨b1, σ₁, h1, h2⟩ := Out.bind_eq he
    show wpAny _ _ (do
      match BoolOp.Or, ← isTrue x env (eval x env) with
      | .And, false => pure false
      | .Or, true => pure true
      | _, _ => allTrue .Or xs env) _ _ _
    refine wpAny_bind (wpAny_mono (ih a hc.1 h1) (fun b' s₁ q => ?_) fun _ _ z => z)
    obtain ⟨rfl, ok⟩ := q
    cases b' with
    | false =>
      simp only [Bool.false_eq_true, if_false] at h2
      exact wpAny_mono (ihs (a.ok ok) hc.2 h2) (fun b' s' q => ⟨q.1, ok.trans q.2⟩) fun _ _ z => z
    | true =>
      simp only [if_true] at h2
      cases h2
      exact wpAny_pure ⟨rfl, ok⟩

/-- a test by its value -/
theorem b_plain (ie : IE) (ih : SndE prog w A B fnm con sub C ie) {cx : Cx} {e : Expr} {env : Env} {s : Shared} {ρ : Loc} {σ σ₁ σ' : Sto} {π β : List Addr} {v : Val} {b : Bool} {E : Value → Shared → Prop} (a : At fnm con B π cx env s ρ σ β) (hc : chkE cx ie e = true)
    (h1 : ev sub C ie ρ σ = .val v σ₁) (h2 : truthOf v σ₁ = .val b σ') (hp : isTrue e env (eval e env) = (do let v ← eval e env; standAt e.pos; holding [v] (truthy v))) :
    wpAny (model prog w) A (isTrue e env (eval e env)) (fun b' s' => b' = b ∧ Ok B π env.locals β s s' σ σ') E s := by
  rw [hp]
  obtain ⟨l1, rfl⟩ := truthOf_eq h2
  exact wpAny_bind (wpAny_mono (ih a hc h1) (fun u1 s₁ q1 => wpAny_bind (wpAny_standAt (wpAny_holding (truthy_sound (a.ok q1.2).S q1.1 l1 ⟨rfl, q1.2⟩)))) fun _ _ z => z)

theorem b_not (x : IE) (ih : SndB prog w A B fnm con sub C x) : SndB prog w A B fnm con sub C (.not x) := by
  intro cx e env s ρ σ σ' π β b E a hc he
  replace hc := any_ex hc
  obtain ⟨y, hq, hc⟩ := hc
  · have hq := hq
    obtain ⟨p, rfl⟩ := asNot_eq hq
    obtain ⟨b1, σ₁, h1, h2⟩ := Out.bindX_eq he
    cases h2
    show wpAny _ _ (do return !(← isTrue y env (eval y env))) _ _ _
    exact wpAny_bind (wpAny_mono (ih a hc h1) (fun b' s₁ q => wpAny_pure ⟨by rw [q.1], q.2⟩) fun _ _ z => z)
theorem b_and (es : IEs) (ih : SndAll prog w A B fnm con sub C es) : SndB prog w A B fnm con sub C (.and es) := by
  intro cx e env s ρ σ σ' π β b E a hc he
  replace hc := any_ex hc
  obtain ⟨xs, hq, hc⟩ := hc
  · have hq := hq
    obtain ⟨p, rfl⟩ := asAnd_eq hq
    exact ih a hc he
theorem b_or (es : IEs) (ih : SndAny prog w A B fnm con sub C es) : SndB prog w A B fnm con sub C (.or es) := by
  intro cx e env s ρ σ σ' π β b E a hc he
  replace hc := any_ex hc
  obtain ⟨xs, hq, hc⟩ := hc
  · have hq := hq
    obtain ⟨p, rfl⟩ := asOr_eq hq
    exact ih a hc he
theorem b_cmp (x : IE) (cs : ICs) (ihx : SndE prog w A B fnm con sub C x) (ihc : SndC prog w A B fnm con sub C cs) : SndB prog w A B fnm con sub C (.cmp x cs) := by
  intro cx e env s ρ σ σ' π β b E a hc he
  replace hc := any_ex hc
  obtain ⟨⟨l, os, rs⟩, hq, hc⟩ := hc
  · have hq := hq
    obtain ⟨p, rfl⟩ := asCmp_eq hq
    simp only [Bool.and_eq_true] at hc
    obtain ⟨v1, σ₁, h1, h3⟩ := Out.bind_eq he
    show wpAny _ _ (do testChain p (← eval l env) os (markedEach os rs (evalEach rs env))) _ _ _
    rw [markedEach_none hc.1.2]
    refine wpAny_bind (wpAny_mono (ihx a hc.1.1 h1) (fun u1 s₁ q1 => ?_) fun _ _ z => z)
    exact wpAny_mono ((ihc (pos := p) (a.ok q1.2) q1.1 hc.1.2 (by intro z; subst z; simp at hc) h3).2) (fun v' s' q => ⟨q.1, q1.2.trans q.2⟩) fun _ _ z => z
theorem b_lit (d : Dat) : SndB prog w A B fnm con sub C (.lit d) := by
  intro cx e env s ρ σ σ' π β b E a hc he
  refine b_plain (sub := sub) H (.lit d) (case_lit H d) a hc rfl he ?_
  replace hc := any_ex hc
  obtain ⟨c, hq, hc⟩ := hc
  · obtain ⟨k, p, rfl⟩ := asConst_eq hq; rfl
theorem b_con (x : String) (d : Dat) : SndB prog w A B fnm con sub C (.con x d) := by
  intro cx e env s ρ σ σ' π β b E a hc he
  refine b_plain (sub := sub) H (.con x d) (case_con H x d) a hc rfl he ?_
  replace hc := any_ex hc
  obtain ⟨c, hq, hc⟩ := hc
  · obtain ⟨p, rfl⟩ := asName_eq hq; rfl
theorem b_var (i : Nat) : SndB prog w A B fnm con sub C (.var i) := by
  intro cx e env s ρ σ σ' π β b E a hc he
  have he : (match ρ[i]? with | some (some v) => truthOf v σ | _ => Out.bad) = Out.val b σ' := he
  split at he
  · rename_i v hv
    refine b_plain (sub := sub) H (.var i) (case_var H i) a hc (by show (match ρ[i]? with | some (some v) => Out.val v σ | _ => Out.bad) = _; rw [hv]) he ?_
    replace hc := any_ex hc
    obtain ⟨c, hq, hc⟩ := hc
    · obtain ⟨p, rfl⟩ := asName_eq hq; rfl
  · cases he
theorem b_call (f : Nat) (as : IEs) (ih : SndE prog w A B fnm con sub C (.call f as)) : SndB prog w A B fnm con sub C (.call f as) := by
  intro cx e env s ρ σ σ' π β b E a hc he
  obtain ⟨vs, σ₁, h1, h2⟩ := Out.bind_eq he
  obtain ⟨d, σ₂, h3, h4⟩ := Out.bind_eq h2
  refine b_plain H _ ih a hc (v := .dat d) (σ₁ := σ₂) (by show Out.bind _ _ = _; simp only [h1, h3, Out.bind_val, Out.bindX_val]) h4 ?_
  replace hc := any_ex hc
  obtain ⟨⟨c, xs⟩, hq, hc⟩ := hc
  · obtain ⟨p, q, rfl⟩ := asCall_eq hq; rfl
theorem b_prim (p : Prim) (x : IE) (ih : SndE prog w A B fnm con sub C (.prim p x)) : SndB prog w A B fnm con sub C (.prim p x) := by
  intro cx e env s ρ σ σ' π β b E a hc he
  obtain ⟨vs, σ₁, h1, h2⟩ := Out.bind_eq he
  obtain ⟨d, σ₂, h3, h4⟩ := Out.bind_eq h2
  refine b_plain H _ ih a hc (v := d) (σ₁ := σ₂) (by show Out.bind _ _ = _; simp only [h1, h3, Out.bind_val]) h4 ?_
  replace hc := any_ex hc
  obtain ⟨⟨nm, y⟩, hq, hc⟩ := hc
  · obtain ⟨p, q, rfl⟩ := asCall1_eq hq; rfl
theorem b_isinst (x : IE) (t : Ty) (ih : SndE prog w A B fnm con sub C (.isinst x t)) : SndB prog w A B fnm con sub C (.isinst x t) := by
  intro cx e env s ρ σ σ' π β b E a hc he
  obtain ⟨vs, σ₁, h1, h2⟩ := Out.bind_eq he
  obtain ⟨d, σ₂, h3, h4⟩ := Out.bind_eq h2
  refine b_plain H _ ih a hc (v := d) (σ₁ := σ₂) (by show Out.bind _ _ = _; simp only [h1, h3, Out.bind_val]) h4 ?_
  replace hc := any_ex hc
  obtain ⟨⟨nm, y, z⟩, hq, hc⟩ := hc
  · obtain ⟨p, q, rfl⟩ := asCall2_eq hq; rfl
theorem b_idx (x i : IE) (ih : SndE prog w A B fnm con sub C (.idx x i)) : SndB prog w A B fnm con sub C (.idx x i) := by
  intro cx e env s ρ σ σ' π β b E a hc he
  obtain ⟨vs, σ₁, h1, h2⟩ := Out.bindX_eq he
  obtain ⟨us, σ₂, h3, h4⟩ := Out.bind_eq h2
  obtain ⟨d, σ₃, h5, h6⟩ := Out.bind_eq h4
  refine b_plain H _ ih a hc (v := d) (σ₁ := σ₃) (by show Out.bindX _ _ = _; simp only [h1, h3, h5, Out.bind_val, Out.bindX_val]) h6 ?_
  replace hc := any_ex hc
  obtain ⟨⟨y, z⟩, hq, hc⟩ := hc
  · obtain ⟨p, rfl, _⟩ := asSub_eq hq; rfl
theorem b_none (ie : IE) (h : ∀ ρ σ, evB sub C ie ρ σ = .bad) : SndB prog w A B fnm con sub C ie := by
  intro cx e env s ρ σ σ' π β b E a hc he
  rw [h] at he; cases he
end

section
variable {prog : Program} {w : World} {A : Around} {B : Heap} {Δ : Nat → Option Fn} {fnm : Nat → Option Str} {con : Con} {mg mb : Str → Option Value} {sub : Nat → Nat → Bool} {C : Oracle}
variable (H : Hyp prog w A B Δ fnm con mg mb C)
include H
mutual
theorem ev_sound : ∀ ie : IE, SndE prog w A B fnm con sub C ie
  | .lit d => case_lit H d
  | .con x d => case_con H x d
  | .var i => case_var H i
  | .tup es => case_tup H es (evs_sound es)
  | .lst es => case_lst H es (evs_sound es)
  | .bin op x y => case_bin H op x y (ev_sound x) (ev_sound y)
  | .neg x => case_neg H x (ev_sound x)
  | .not x => case_not H x (ev_sound x)
  | .and es => case_and H es (evAnd_sound es)
  | .or es => case_or H es (evOr_sound es)
  | .cmp x cs => case_cmp H x cs (ev_sound x) (evCmp_sound cs)
  | .call f as => case_call H f as (evArgs_sound as)
  | .prim p x => case_prim H p x (ev_sound x)
  | .prim2 p x y => case_prim2 H p x y (ev_sound x) (ev_sound y)
  | .isinst x t => case_isinst H x t (ev_sound x)
  | .idx x i => case_idx H x i (ev_sound x) (ev_sound i)
  | .slFrom x i => case_slFrom H x i (ev_sound x) (ev_sound i)
  | .slTo x i => case_slTo H x i (ev_sound x) (ev_sound i)
  | .comp k it ifs elt => case_comp H k it ifs elt (evI_sound it) (evIfs_sound ifs) (ev_sound elt)
theorem evs_sound : ∀ es : IEs, SndEs prog w A B fnm con sub C es
  | .nil => list_nil H
  | .cons e es => list_cons H e es (ev_sound e) (evs_sound es)
theorem evArgs_sound : ∀ es : IEs, SndAs prog w A B fnm con sub C es
  | .nil => args_nil H
  | .cons e es => args_cons H e es (ev_sound e) (evArgs_sound es)
theorem evAnd_sound : ∀ es : IEs, SndAnd prog w A B fnm con sub C es
  | .nil => and_nil H
  | .cons e .nil => and_one H e (ev_sound e)
  | .cons e (.cons e' es) => and_cons H e e' es (ev_sound e) (evAnd_sound (.cons e' es))
theorem evOr_sound : ∀ es : IEs, SndOr prog w A B fnm con sub C es
  | .nil => or_nil H
  | .cons e .nil => or_one H e (ev_sound e)
  | .cons e (.cons e' es) => or_cons H e e' es (ev_sound e) (evOr_sound (.cons e' es))
theorem evCmp_sound : ∀ cs : ICs, SndC prog w A B fnm con sub C cs
  | .nil => cmp_nil H
  | .cons op e cs => cmp_cons H op e cs (ev_sound e) (evCmp_sound cs)
theorem evI_sound : ∀ it : II, SndI prog w A B fnm con sub C it
  | .of e => it_of H e (ev_sound e)
  | .range1 e => it_range1 H e (ev_sound e)
theorem evIfs_sound : ∀ es : IEs, SndIfs prog w A B fnm con sub C es
  | .nil => ifs_nil H
  | .cons e es => ifs_cons H e es (evB_sound e) (evIfs_sound es)
theorem evAll_sound : ∀ es : IEs, SndAll prog w A B fnm con sub C es
  | .nil => all_nil H
  | .cons e es => all_cons H e es (evB_sound e) (evAll_sound es)
theorem evAny_sound : ∀ es : IEs, SndAny prog w A B fnm con sub C es
  | .nil => any_nil H
  | .cons e es => any_cons H e es (evB_sound e) (evAny_sound es)
theorem evB_sound : ∀ ie : IE, SndB prog w A B fnm con sub C ie
  | .lit d => b_lit H d
  | .con x d => b_con H x d
  | .var i => b_var H i
  | .not x => b_not H x (evB_sound x)
  | .and es => b_and H es (evAll_sound es)
  | .or es => b_or H es (evAny_sound es)
  | .cmp x cs => b_cmp H x cs (ev_sound x) (evCmp_sound cs)
  | .call f as => b_call H f as (case_call H f as (evArgs_sound as))
  | .prim p x => b_prim H p x (case_prim H p x (ev_sound x))
  | .isinst x t => b_isinst H x t (case_isinst H x t (ev_sound x))
  | .idx x i => b_idx H x i (case_idx H x i (ev_sound x) (ev_sound i))
  | .tup es => b_none H _ fun _ _ => rfl
  | .lst es => b_none H _ fun _ _ => rfl
  | .bin op x y => b_none H _ fun _ _ => rfl
  | .neg x => b_none H _ fun _ _ => rfl
  | .prim2 p x y => b_none H _ fun _ _ => rfl
  | .slFrom x i => b_none H _ fun _ _ => rfl
  | .slTo x i => b_none H _ fun _ _ => rfl
  | .comp k it ifs elt => b_none H _ fun _ _ => rfl
end
end
end Mine

/-! ## MStmt -/
namespace Mine
open PySem PyProof.Rows

noncomputable def fineS : SOut → Prop
  | .next _ _ => True
  | .ret _ _ => True
  | _ => False

/-- every cell of a frame has a name -/
noncomputable def Named (cx : Cx) (env : Env) : Prop := ∀ p ∈ env.cells, ∃ i, cx.name i = some p.1 ∧ cx.scope.names.lookup p.1 = some .cell ∧ env.cells.lookup p.1 = some p.2

noncomputable def SPost (fnm : Nat → Option Str) (con : Con) (B : Heap) (π : List Addr) (cx : Cx) (env : Env) (s : Shared) (σ : Sto) (β : List Addr) (o : SOut) (f : Flow) (s' : Shared) : Prop := match o with
  | .next ρ' σ' => f = .next ∧ ∃ β', At fnm con B π cx env s' ρ' σ' β' ∧ SOk B π env s s' σ σ' β β'
  | .ret d σ' => ∃ v β', f = .ret v ∧ Rep s'.heap (grow π σ' β') d v ∧ SOk B π env s s' σ σ' β β'
  | _ => False

theorem stm_fine {α : Type} {o : Out α} {ρ : Loc} {f : α → Sto → SOut} (h : fineS (o.stm ρ f)) : ∃ a σ, o = .val a σ ∧ o.stm ρ f = f a σ := by
  cases o with
  | val a σ => exact ⟨a, σ, rfl, rfl⟩
  | exn c σ => exact h.elim
  | bad => exact h.elim
theorem stmK_fine {α : Type} {o : Out α} {f : α → Sto → SOut} (h : fineS (o.stmK f)) : ∃ a σ, o = .val a σ ∧ o.stmK f = f a σ := by
  cases o with
  | val a σ => exact ⟨a, σ, rfl, rfl⟩
  | exn c σ => exact h.elim
  | bad => exact h.elim
theorem noX_fine {o : SOut} (h : fineS o.noX) : o.noX = o ∧ fineS o := by cases o <;> first | exact ⟨rfl, trivial⟩ | exact h.elim
theorem bind_fine {o : SOut} {f : Loc → Sto → SOut} (h : fineS (o.bind f)) : (∃ ρ σ, o = .next ρ σ ∧ o.bind f = f ρ σ) ∨ (∃ d σ, o = .ret d σ ∧ o.bind f = .ret d σ) := by
  cases o with
  | next ρ σ => exact .inl ⟨ρ, σ, rfl, rfl⟩
  | ret d σ => exact .inr ⟨d, σ, rfl, rfl⟩
  | exn c ρ σ => exact h.elim
  | bad => exact h.elim

section
variable {prog : Program} {w : World} {A : Around} {B : Heap} {Δ : Nat → Option Fn} {fnm : Nat → Option Str} {con : Con} {mg mb : Str → Option Value} {sub : Nat → Nat → Bool} {C : Oracle}
variable {cx : Cx} {env : Env} {s s' s₁ : Shared} {ρ ρ₁ : Loc} {σ σ' σ₁ : Sto} {π β β₁ : List Addr} {E : Value → Shared → Prop}

theorem SPost.after {o : SOut} {f : Flow} (x : SOk B π env s s₁ σ σ₁ β β₁) (h : SPost fnm con B π cx env s₁ σ₁ β₁ o f s') : SPost fnm con B π cx env s σ β o f s' := by
  cases o with
  | next ρ' σ' => obtain ⟨h1, β', h2, h3⟩ := h; exact ⟨h1, β', h2, x.trans h3⟩
  | ret d σ' => obtain ⟨v, β', h1, h2, h3⟩ := h; exact ⟨v, β', h1, h2, x.trans h3⟩
  | exn => exact h.elim
  | bad => exact h.elim

theorem At.soK (a : At fnm con B π cx env s ρ σ β) (x : Ok B π env.locals β s s' σ σ') : SOk B π env s s' σ σ' β β := by
  obtain ⟨m, hm⟩ := a.ns
  exact x.toS a.S hm

theorem At.own_alive (a : At fnm con B π cx env s ρ σ β) (hN : Named cx env) {b : Addr} (hb : b ∈ own env) : (s.heap.get? b).isSome = true := by
  unfold own at hb
  rcases List.mem_cons.mp hb with rfl | hb
  · obtain ⟨m, hm⟩ := a.ns
    obtain ⟨_, _, _, ho, _⟩ := hm
    rw [ho]; rfl
  · obtain ⟨p, hp, rfl⟩ := List.mem_map.mp hb
    obtain ⟨i, h1, h2, h3⟩ := hN p hp
    obtain ⟨c, o, hc, ⟨ob, ho, _⟩, _⟩ := a.F.cell i p.1 h1 h2
    rw [h3] at hc; cases hc
    rw [ho]; rfl
theorem At.sto_alive (S : Sim B π s.heap σ β) {b : Addr} (hb : b ∈ β) : (s.heap.get? b).isSome = true := by
  obtain ⟨k, hk, e⟩ := List.mem_iff_getElem.mp hb
  obtain ⟨vs, ⟨n, hp⟩, _⟩ := S.ent k (σ[k]'(by rw [← S.len]; exact hk)) b (List.getElem?_eq_getElem _) (by rw [List.getElem?_eq_getElem hk, e])
  rw [hp]; rfl

theorem At.poke' {p : Addr} (a : At fnm con B π cx env s ρ σ β) (f : Foreign B π β env s.heap p) (hk : ∀ b o, b ≠ p → s.heap.get? b = some o → s'.heap.get? b = some o) (hp : p ∉ π) : At fnm con B π cx env s' ρ σ β := by
  refine ⟨a.fn, a.con, a.V, a.F.poke f hk, ⟨a.S.len, a.S.nodup, fun b o e => hk b o (by rintro rfl; rw [f.base] at e; cases e) (a.S.base b o e), a.S.new, fun k e b h1 h2 => ?_, fun b hb => ⟨?_, (a.S.priv b hb).2⟩⟩⟩
  · obtain ⟨vs, hp, hr⟩ := a.S.ent k e b h1 h2
    exact ⟨vs, hp.at fun o e => hk _ o (by rintro rfl; exact f.sto (List.mem_of_getElem? h2)) e, Reps.mono (f.seqKeep hk) hr⟩
  · obtain ⟨o, ho⟩ := Option.isSome_iff_exists.mp (a.S.priv b hb).1; rw [hk b o (by rintro rfl; exact hp hb) ho]; rfl

/-- what stands, seen after an object that is younger has changed -/
theorem SOk.poke {p : Addr} {s₂ : Shared} {β₂ : List Addr} {σ₂ : Sto} (x : SOk B π env s s₁ σ σ₂ β β₂) (hp : s.heap.get? p = none) (hsh : ∃ h' tk, s₂ = { s₁ with heap := h', toks := tk }) (S : Sim B π s₂.heap σ₂ β₂) (hk : ∀ b o, b ≠ p → s₁.heap.get? b = some o → s₂.heap.get? b = some o) : SOk B π env s s₂ σ σ₂ β β₂ := by
  refine ⟨?_, S, fun b o q hb ho => (x.keep b o q hb ho).step fun o' e' => .of (hk b o' (by rintro rfl; rw [hp] at q; cases q) e'), x.mon, x.ext, fun b hb => ?_⟩
  · obtain ⟨h1, t1, rfl⟩ := x.sh; obtain ⟨h2, t2, rfl⟩ := hsh; exact ⟨h2, t2, rfl⟩
  · obtain ⟨o, ho⟩ := Option.isSome_iff_exists.mp (x.alive b hb)
    have : b ≠ p := by rintro rfl; rw [hp] at hb; cases hb
    rw [hk b o this ho]; rfl

theorem SOk.seqK (x : SOk B π env s s' σ σ' β β₁) (a : At fnm con B π cx env s ρ σ β) (hN : Named cx env) : SeqKeep (grow π σ β) (grow π σ' β₁) s.heap s'.heap := by
  intro b o xs n ho hd hb
  refine ⟨fun q => ?_, (x.keep b o ho (growS_grow hb) fun q => ?_).seq hd⟩
  · rcases mem_grow.mp q with q | q
    · exact hb (mem_grow.mpr (.inl q))
    · rcases x.mon b q with q | q
      · exact hb (mem_grow.mpr (.inr q))
      · rw [q] at ho; cases ho
  · unfold own at q
    rcases List.mem_cons.mp q with rfl | q
    · obtain ⟨m, hm⟩ := a.ns
      obtain ⟨o', _, _, ho', hd', _⟩ := hm
      rw [ho] at ho'; cases ho'; rw [hd] at hd'; cases hd'
    · obtain ⟨p, hp, rfl⟩ := List.mem_map.mp q
      obtain ⟨i, h1, h2, h3⟩ := hN p hp
      obtain ⟨c, o', hc, ⟨ob, ho', hd'⟩, _⟩ := a.F.cell i p.1 h1 h2
      rw [h3] at hc; cases hc
      rw [ho] at ho'; cases ho'; rw [hd] at hd'; cases hd'
/-- a list that may grow comes to be -/
theorem At.grows {p : Addr} {ds : List Dat} {vs : Array Value} (a : At fnm con B π cx env s ρ σ β) (hsh : ∃ h' tk, s' = { s with heap := h', toks := tk }) (hk : ∀ b o, s.heap.get? b = some o → s'.heap.get? b = some o) (hp : s.heap.get? p = none) (hB : B.objs.size ≤ p)
    (hl : s'.heap.PlainList p vs) (hr : Reps s.heap (grow π σ β) ds vs.toList) : At fnm con B π cx env s' ρ (σ ++ [(true, ds)]) (β ++ [p]) ∧ SOk B π env s s' σ (σ ++ [(true, ds)]) β (β ++ [p]) := by
  have hgr : ∀ b, b ∈ growS (σ ++ [(true, ds)]) (β ++ [p]) → b ∈ growS σ β ∨ b = p := fun b hb => by
    obtain ⟨k, l, h1, h2⟩ := mem_growS.mp hb
    by_cases hlt : k < σ.length
    · rw [List.getElem?_append_left hlt] at h1
      rw [List.getElem?_append_left (by rw [a.S.len]; exact hlt)] at h2
      exact .inl (mem_growS.mpr ⟨k, l, h1, h2⟩)
    · rw [List.getElem?_append_right (by rw [a.S.len]; omega)] at h2
      cases hq : k - β.length with
      | zero => rw [hq] at h2; simp at h2; exact .inr h2.symm
      | succ n => rw [hq] at h2; simp at h2
  have hpβ : p ∉ β := fun q => by have := At.sto_alive a.S q; rw [hp] at this; cases this
  have sk : SeqKeep (grow π σ β) (grow π (σ ++ [(true, ds)]) (β ++ [p])) s.heap s'.heap := fun b o xs n ho hd hb => ⟨fun q => by
    rcases mem_grow.mp q with q | q
    · exact hb (mem_grow.mpr (.inl q))
    · rcases hgr b q with q | rfl
      · exact hb (mem_grow.mpr (.inr q))
      · exact absurd (hp.symm.trans ho) (by simp), hk b o ho⟩
  have rv : ∀ {v : Val} {v' : Value}, RelV s.heap π β σ v v' → RelV s'.heap π (β ++ [p]) (σ ++ [(true, ds)]) v v' := fun {v} {v'} r => by
    cases v with
    | dat d => exact Rep.mono sk r
    | ref k => obtain ⟨b, h1, h2⟩ := r; exact ⟨b, by rw [List.getElem?_append_left (List.getElem?_eq_some_iff.mp h1).1]; exact h1, h2⟩
    | exc c => exact r
  -- the new list's items, seen at the greater store
  have hr' : Reps s'.heap (grow π (σ ++ [(true, ds)]) (β ++ [p])) ds vs.toList := Reps.mono sk hr
  have S' : Sim B π s'.heap (σ ++ [(true, ds)]) (β ++ [p]) := by
    refine ⟨by simp [a.S.len], ?_, fun b o e => hk b o (a.S.base b o e), fun b hb => ?_, fun k e b h1 h2 => ?_, fun b hb => ⟨?_, fun q => ?_⟩⟩
    · rw [List.nodup_append]
      exact ⟨a.S.nodup, by simp, fun x hx y hy => by simp at hy; subst hy; rintro rfl; exact hpβ hx⟩
    · rcases List.mem_append.mp hb with hb | hb
      · exact a.S.new b hb
      · simp at hb; subst hb; exact hB
    · by_cases hlt : k < σ.length
      · rw [List.getElem?_append_left hlt] at h1
        rw [List.getElem?_append_left (by rw [a.S.len]; exact hlt)] at h2
        obtain ⟨vs', hq, hr2⟩ := a.S.ent k e b h1 h2
        exact ⟨vs', hq.at fun o z => hk _ o z, Reps.mono sk hr2⟩
      · rw [List.getElem?_append_right (by rw [a.S.len]; omega)] at h2
        rw [List.getElem?_append_right (by omega)] at h1
        rw [← a.S.len] at h1
        cases hq : k - β.length with
        | zero => rw [hq] at h2 h1; simp at h2 h1; subst h2; subst h1; exact ⟨vs, hl, hr'⟩
        | succ n => rw [hq] at h2; simp at h2
    · obtain ⟨o, ho⟩ := Option.isSome_iff_exists.mp (a.S.priv b hb).1; rw [hk b o ho]; rfl
    · rcases List.mem_append.mp q with q | q
      · exact (a.S.priv b hb).2 q
      · simp at q; subst q; have := (a.S.priv b hb).1; rw [hp] at this; cases this
  refine ⟨⟨a.fn, a.con, a.V, ⟨?_, fun i y h1 h2 => ?_, ⟨fun q => ?_, a.F.off.2⟩, a.F.offc⟩, S'⟩, ⟨hsh, S', fun b o e _ _ => .of (hk b o e), fun b hb => (hgr b hb).imp id (fun q => by rw [q]; exact hp), ⟨[p], rfl, fun b hb => by simp at hb; subst hb; exact hp⟩, fun b hb => ?_⟩⟩
  · obtain ⟨m, hn, hv⟩ := a.F.loc
    exact ⟨m, hn.keeps hk, fun i y v h1 h2 h3 => by obtain ⟨v', e, r⟩ := hv i y v h1 h2 h3; exact ⟨v', e, rv r⟩⟩
  · obtain ⟨c, o, hc, hi, hv⟩ := a.F.cell i y h1 h2
    exact ⟨c, o, hc, hi.keeps hk, fun v h3 => by obtain ⟨v', e, r⟩ := hv v h3; exact ⟨v', e, rv r⟩⟩
  · rcases List.mem_append.mp q with q | q
    · exact a.F.off.1 q
    · simp at q
      obtain ⟨m, hn⟩ := a.ns
      obtain ⟨_, _, _, ho, _⟩ := hn
      rw [q, hp] at ho; cases ho
  · obtain ⟨o, ho⟩ := Option.isSome_iff_exists.mp hb; rw [hk b o ho]; rfl

/-- a list grows by one -/
theorem At.appends {p : Addr} {k : Nat} {l : List Dat} {d : Dat} {y : Value} {vs : Array Value} (a : At fnm con B π cx env s ρ σ β) (hsh : ∃ h' tk, s' = { s with heap := h', toks := tk }) (hk : ∀ b o, b ≠ p → s.heap.get? b = some o → s'.heap.get? b = some o)
    (h1 : σ[k]? = some (true, l)) (h2 : β[k]? = some p) (hl : s'.heap.PlainList p (vs.push y)) (hr : Reps s.heap (grow π σ β) l vs.toList) (hd : Rep s.heap (grow π σ β) d y) :
    At fnm con B π cx env s' ρ (σ.set k (true, l ++ [d])) β ∧ SOk B π env s s' σ (σ.set k (true, l ++ [d])) β β := by
  have hgr : ∀ b, b ∈ growS (σ.set k (true, l ++ [d])) β ↔ b ∈ growS σ β := fun b => by
    rw [mem_growS, mem_growS]
    constructor
    · rintro ⟨j, l', q1, q2⟩
      by_cases hj : k = j
      · subst hj; exact ⟨k, l, h1, q2⟩
      · rw [List.getElem?_set_ne hj] at q1; exact ⟨j, l', q1, q2⟩
    · rintro ⟨j, l', q1, q2⟩
      by_cases hj : k = j
      · subst hj; exact ⟨k, l ++ [d], by rw [List.getElem?_set_self (List.getElem?_eq_some_iff.mp h1).1], q2⟩
      · exact ⟨j, l', by rw [List.getElem?_set_ne hj]; exact q1, q2⟩
  have hpg : p ∈ growS σ β := mem_growS.mpr ⟨k, l, h1, h2⟩
  have hpβ : p ∈ β := List.mem_of_getElem? h2
  have hsize := ltSim a.S hpβ
  have sk : SeqKeep (grow π σ β) (grow π (σ.set k (true, l ++ [d])) β) s.heap s'.heap := fun b o xs n ho hd hb => ⟨fun q => hb (mem_grow.mpr ((mem_grow.mp q).imp id (hgr b).mp)), hk b o (by rintro rfl; exact hb (mem_grow.mpr (.inr hpg))) ho⟩
  have rv : ∀ {v : Val} {v' : Value}, RelV s.heap π β σ v v' → RelV s'.heap π β (σ.set k (true, l ++ [d])) v v' := fun {v} {v'} r => r.seq sk
  have pb : B.get? p = none := by
    cases q : B.get? p with
    | none => rfl
    | some o => exact absurd (Heap.lt_size q) (Nat.not_lt.mpr (a.S.new p hpβ))
  have pal : (s'.heap.get? p).isSome = true := by obtain ⟨n, ho⟩ := hl; rw [ho]; rfl
  have al : ∀ b, (s.heap.get? b).isSome = true → (s'.heap.get? b).isSome = true := fun b hb => by
    by_cases q : b = p
    · subst q; exact pal
    · obtain ⟨o, ho⟩ := Option.isSome_iff_exists.mp hb; rw [hk b o q ho]; rfl
  have S' : Sim B π s'.heap (σ.set k (true, l ++ [d])) β := by
    refine ⟨by simp [a.S.len], a.S.nodup, fun b o e => hk b o (by rintro rfl; rw [pb] at e; cases e) (a.S.base b o e), a.S.new, fun j e b q1 q2 => ?_, fun b hb => ⟨al b (a.S.priv b hb).1, (a.S.priv b hb).2⟩⟩
    by_cases hj : k = j
    · subst hj
      rw [List.getElem?_set_self (List.getElem?_eq_some_iff.mp h1).1] at q1
      cases q1
      rw [h2] at q2; cases q2
      refine ⟨vs.push y, hl, ?_⟩
      rw [Array.toList_push]
      exact (Reps.mono sk hr).snoc (Rep.mono sk hd)
    · rw [List.getElem?_set_ne hj] at q1
      obtain ⟨vs', hq, hr2⟩ := a.S.ent j e b q1 q2
      have hne : b ≠ p := by
        rintro rfl
        have hj1 := (List.getElem?_eq_some_iff.mp h2).1
        exact hj ((List.getElem?_inj hj1 a.S.nodup).mp (h2.trans q2.symm))
      exact ⟨vs', hq.at fun o z => hk _ o hne z, Reps.mono sk hr2⟩
  refine ⟨⟨a.fn, a.con, a.V, ⟨?_, fun i y h1 h2 => ?_, a.F.off, a.F.offc⟩, S'⟩, ⟨hsh, S', fun b o e hb _ => .of (hk b o (by rintro rfl; exact hb hpg) e), fun b hb => .inl ((hgr b).mp hb), ⟨[], by simp, fun _ h => nomatch h⟩, al⟩⟩
  · obtain ⟨m, hn, hv⟩ := a.F.loc
    exact ⟨m, hn.at' fun o e => hk _ o (by rintro rfl; exact a.F.off.1 hpβ) e, fun i y v h1 h2 h3 => by obtain ⟨v', e, r⟩ := hv i y v h1 h2 h3; exact ⟨v', e, rv r⟩⟩
  · obtain ⟨c, o, hc, hi, hv⟩ := a.F.cell i y h1 h2
    refine ⟨c, o, hc, ?_, fun v h3 => by obtain ⟨v', e, r⟩ := hv v h3; exact ⟨v', e, rv r⟩⟩
    obtain ⟨ob, ho, hd⟩ := id hi
    exact ⟨ob, hk c ob (by rintro rfl; exact cell_not_grow a.S hi hpβ) ho, hd⟩
end
end Mine

/-! ## MPair -/
namespace Mine
open PySem PyProof.Rows

abbrev SndS (prog : Program) (w : World) (A : Around) (B : Heap) (fnm : Nat → Option Str) (con : Con) (sub : Nat → Nat → Bool) (C : Oracle) (st : IS) : Prop :=
  ∀ {cx : Cx} {x : Stmt} {env : Env} {s : Shared} {ρ : Loc} {σ : Sto} {π β : List Addr} {E : Value → Shared → Prop}, Named cx env → At fnm con B π cx env s ρ σ β → chkS cx st x = true → fineS (ex sub C st ρ σ) →
    wpAny (model prog w) A (exec x env) (SPost fnm con B π cx env s σ β (ex sub C st ρ σ)) E s
abbrev SndSs (prog : Program) (w : World) (A : Around) (B : Heap) (fnm : Nat → Option Str) (con : Con) (sub : Nat → Nat → Bool) (C : Oracle) (st : ISs) : Prop :=
  ∀ {cx : Cx} {xs : List Stmt} {env : Env} {s : Shared} {ρ : Loc} {σ : Sto} {π β : List Addr} {E : Value → Shared → Prop}, Named cx env → At fnm con B π cx env s ρ σ β → chkSs cx st xs = true → fineS (exs sub C st ρ σ) →
    wpAny (model prog w) A (execs xs env) (SPost fnm con B π cx env s σ β (exs sub C st ρ σ)) E s


section
variable {fnm : Nat → Option Str} {con : Con} {B : Heap} {π π' : List Addr} {cx : Cx} {env : Env} {s s' : Shared} {ρ : Loc} {σ σ' : Sto} {β : List Addr} {ps : List Addr}
end

section
variable {prog : Program} {w : World} {A : Around} {B : Heap} {Δ : Nat → Option Fn} {fnm : Nat → Option Str} {con : Con} {mg mb : Str → Option Value} {sub : Nat → Nat → Bool} {C : Oracle}
variable (H : Hyp prog w A B Δ fnm con mg mb C)
include H
end
end Mine

/-! ## MExec -/
namespace Mine
open PySem PyProof.Rows

section
variable (sub : Nat → Nat → Bool) (C : Oracle) (ρ : Loc) (σ : Sto)
theorem exq_assign (i : Nat) (e : IE) : ex sub C (.assign i e) ρ σ = (ev sub C e ρ σ).stm ρ fun v σ => .next (ρ.set i (some v)) σ := rfl
theorem exq_newlst (i : Nat) (es : IEs) : ex sub C (.newlst i es) ρ σ = (evs sub C es ρ σ).stm ρ fun ds σ => .next (ρ.set i (some (.ref σ.length))) (σ ++ [(true, ds)]) := rfl
theorem exq_append (i : Nat) (e : IE) : ex sub C (.append i e) ρ σ = match ρ[i]? with
    | some (some (.ref k)) => (ev sub C e ρ σ).stmK fun v σ => match toDat v σ with
      | .val d σ => (match σ[k]? with
        | some (true, l) => if l.length < 1000000 then .next ρ (σ.set k (true, l ++ [d])) else .bad
        | _ => .bad)
      | _ => .bad
    | _ => .bad := rfl
theorem exq_drop (e : IE) : ex sub C (.drop e) ρ σ = (ev sub C e ρ σ).stm ρ fun v σ => match v with
    | .dat .none => .next ρ σ
    | _ => .bad := rfl
theorem exq_ret (e : IE) : ex sub C (.ret e) ρ σ = (ev sub C e ρ σ).stm ρ fun v σ => (toDat v σ).stm ρ fun d σ => .ret d σ := rfl
theorem exq_ite (c : IE) (a b : ISs) : ex sub C (.ite c a b) ρ σ = (evB sub C c ρ σ).stm ρ fun t σ => if t then exs sub C a ρ σ else exs sub C b ρ σ := rfl
theorem exq_for1 (x : Nat) (it : II) (body : ISs) : ex sub C (.for1 x it body) ρ σ = (evI sub C it ρ σ).stm ρ fun s σ => if s.items.length ≤ 1000000 then forL s (fun d ρ σ => exs sub C body (ρ.set x (some (.dat d))) σ) s.items ρ σ else .bad := rfl
theorem exq_cons (s : IS) (ss : ISs) : exs sub C (.cons s ss) ρ σ = (ex sub C s ρ σ).bind fun ρ σ => exs sub C ss ρ σ := rfl
end
section
variable {prog : Program} {w : World} {A : Around} {B : Heap} {Δ : Nat → Option Fn} {fnm : Nat → Option Str} {con : Con} {mg mb : Str → Option Value} {sub : Nat → Nat → Bool} {C : Oracle}

theorem chk_sc (cx : Cx) (e : IE) (el : Expr) (gs : List Comprehension) (sc : Scope) (p : Pos) : chkE cx e (.SetComp el gs sc p) = false := by cases e <;> rfl
theorem chk_dc (cx : Cx) (e : IE) (k v : Expr) (gs : List Comprehension) (sc : Scope) (p : Pos) : chkE cx e (.DictComp k v gs sc p) = false := by cases e <;> rfl
theorem chk_lc (cx : Cx) (e : IE) (el : Expr) (gs : List Comprehension) (sc : Scope) (p : Pos) (h : ∀ k it ifs elt, e ≠ .comp k it ifs elt) : chkE cx e (.ListComp el gs sc p) = false := by
  cases e <;> first | rfl | exact absurd rfl (h _ _ _ _)
theorem swaps_of {cx : Cx} {e : IE} {v : Expr} {x : Str} {p : Pos} {line : Nat} {env : Env} (hc : chkE cx e v = true) :
    swapsWith v (some (.Name x p)) line env = pure false ∨ (swapsWith v (some (.Name x p)) line env = pure true ∧ ∃ k it ifs elt el y iter conds sc p1 p2, e = .comp k it ifs elt ∧ v = .ListComp el [⟨.Name y p1, iter, conds, 0⟩] sc p2) := by
  cases v with
  | ListComp el gs sc p2 =>
    have hsw : ∃ b, swapsWith (.ListComp el gs sc p2) (some (.Name x p)) line env = pure b := ⟨_, rfl⟩
    obtain ⟨b, hb⟩ := hsw
    cases b with
    | false => exact .inl hb
    | true =>
      refine .inr ⟨hb, ?_⟩
      by_cases hk : ∃ k it ifs elt, e = .comp k it ifs elt
      · obtain ⟨k, it, ifs, elt, rfl⟩ := hk
        cases hq : asComp (.ListComp el gs sc p2) with
        | none =>
          obtain ⟨c, hq', _⟩ := any_ex hc
          rw [hq] at hq'; cases hq'
        | some r =>
          obtain ⟨el', y, iter, conds, sc'⟩ := r
          obtain ⟨p1, p3, hq⟩ := asComp_eq hq
          exact ⟨k, it, ifs, elt, el', y, iter, conds, sc', p1, p3, rfl, hq⟩
      · rw [chk_lc cx e el gs sc p2 fun k it ifs elt h => hk ⟨k, it, ifs, elt, h⟩] at hc; cases hc
  | SetComp el gs sc p2 => rw [chk_sc] at hc; cases hc
  | DictComp k v gs sc p2 => rw [chk_dc] at hc; cases hc
  | _ => exact .inl rfl

variable (H : Hyp prog w A B Δ fnm con mg mb C)
include H

theorem st_assign (i : Nat) (e : IE) : SndS prog w A B fnm con sub C (.assign i e) := by
  intro cx st env s ρ σ π β E hN a hc hf
  replace hc := any_ex hc
  obtain ⟨⟨x, v⟩, hq, hc⟩ := hc
  · have hq := hq
    obtain ⟨p1, p2, rfl⟩ := asAssign_eq hq
    simp only [Bool.and_eq_true, beq_iff_eq] at hc
    rw [exq_assign] at hf ⊢
    obtain ⟨v₀, σ₁, h1, h2⟩ := stm_fine hf
    rw [h2]
    rcases swaps_of (x := x) (p := p1) (line := p2.line) (env := env) hc.2 with hs | ⟨hs, k, it, ifs, elt, el, y, iter, conds, sc, q1, q2, rfl, rfl⟩
    · rw [exec_Assign_Name _ _ _ _ _ hs]
      refine wpAny_bind (wpAny_standAt (wpAny_bind (wpAny_mono (ev_sound H e a hc.2 h1) (fun u s₁ r => wpAny_bind (wpAny_standAt (wpAny_bind (wpAny_bindName ?_)))) fun _ _ z => z)))
      have a1 := a.ok r.2
      exact store_sound a1.V a1.F a1.S hc.1.1 hc.1.2 r.1 fun s' F' x' _ => wpAny_pure ⟨rfl, β, ⟨a1.fn, a1.con, a1.V, F', x'.sim⟩, (a.soK r.2).trans x'⟩
    · rw [exec_Assign_Name_used _ _ _ _ hs]
      refine wpAny_bind (wpAny_standAt (wpAny_bind ?_))
      show wpAny _ A (do let _ ← comprehension (.ListComp el [⟨.Name y q1, iter, conds, 0⟩] sc q2) sc env _ (newList []) false (eval iter env) (some (assign (.Name x p1) env))) _ _ s
      have hcc : (plainI it && chkI cx it iter && chkScope y sc cx.scope && chkFrees cx sc && chkEs (cx.inner y k sc) ifs conds && chkE (cx.inner y k sc) elt el) = true := hc.2
      simp only [Bool.and_eq_true] at hcc
      refine wpAny_bind (wpAny_mono (comp_at (Q := fun _ s' => SPost fnm con B π cx env s σ β (.next (ρ.set i (some v₀)) σ₁) .next s') H (evI_sound H it) (evIfs_sound H ifs) (ev_sound H elt) a hcc.1.1.1.1.1 hcc.1.1.1.1.2 hcc.1.1.1.2 hcc.1.1.2 hcc.1.2 hcc.2 h1 fun D K s' m' r ok hn hK f => ?_) (fun _ s' hq => wpAny_pure (wpAny_pure hq)) fun _ _ z => z)
      show wpAny _ _ _ _ _ _
      have a1 := a.ok ok
      refine wpAny_assign_Name (store_sound a1.V a1.F a1.S hc.1.1 hc.1.2 r fun s₂ F₂ x₂ _ => ?_)
      have a2 : At fnm con B π cx env s₂ (ρ.set i (some v₀)) σ₁ β := ⟨a1.fn, a1.con, a1.V, F₂, x₂.sim⟩
      obtain ⟨o₀, es, ep, hK1, hK2, hK3⟩ := hn
      have hKown : K ∉ own env := fun q => by have := a.own_alive hN q; rw [hK] at this; cases this
      obtain ⟨⟨sl, hK4⟩, _⟩ := x₂.keep K o₀ hK1 (fun q => f.sto (growS_sub q)) hKown
      refine ⟨m', ⟨_, es, ep, hK4, hK2, hK3⟩, fun h' hs' => ?_⟩
      have f2 : Foreign B π β env s₂.heap K := ⟨.inr (fun o xs n' ho hd => by rw [hK4] at ho; cases ho; rw [hK2] at hd; cases hd), (fun o v ho hd => by rw [hK4] at ho; cases ho; rw [hK2] at hd; cases hd), f.loc, f.sto, f.base⟩
      have hkk : ∀ b o, b ≠ K → s₂.heap.get? b = some o → h'.get? b = some o := fun b o hb q => hs'.extBut b o hb q
      have hKπ : K ∉ π := fun q => by have := (a.S.priv K q).1; rw [hK] at this; cases this
      have a3 : At fnm con B π cx env { s₂ with heap := h' } (ρ.set i (some v₀)) σ₁ β := a2.poke' f2 hkk hKπ
      exact ⟨rfl, β, a3, ((a.soK ok).trans x₂).poke hK ⟨_, _, rfl⟩ a3.S hkk⟩

omit H in
/-- a fresh list is bound to a name -/
theorem bind_fresh {cx : Cx} {env : Env} {s s₁ : Shared} {ρ : Loc} {σ : Sto} {π β : List Addr} {E : Value → Shared → Prop} {i : Nat} {x : Str} {ds : List Dat} {vs : Array Value} {p : Addr} (a : At fnm con B π cx env s ρ σ β) (hx : cx.name i = some x) (hv : cx.isVar x = true)
    (hsh : ∃ h' tk, s₁ = { s with heap := h', toks := tk }) (hk : ∀ b o, s.heap.get? b = some o → s₁.heap.get? b = some o) (hp : s.heap.get? p = none) (hB : B.objs.size ≤ p) (hl : s₁.heap.PlainList p vs) (hr : Reps s.heap (grow π σ β) ds vs.toList) :
    wpAny (model prog w) A (storeName env x (.ref p)) (fun _ s' => SPost fnm con B π cx env s σ β (.next (ρ.set i (some (.ref σ.length))) (σ ++ [(true, ds)])) .next s') E s₁ := by
  obtain ⟨a1, x1⟩ := a.grows hsh hk hp hB hl hr
  refine store_sound (v := .ref σ.length) a1.V a1.F a1.S hx hv ⟨p, ?_, rfl⟩ fun s' F' x' _ => ⟨rfl, _, ⟨a1.fn, a1.con, a1.V, F', x'.sim⟩, x1.trans x'⟩
  rw [List.getElem?_append_right (by rw [a.S.len]; exact Nat.le_refl _), a.S.len]; simp

theorem st_newlst (i : Nat) (es : IEs) : SndS prog w A B fnm con sub C (.newlst i es) := by
  intro cx st env s ρ σ π β E hN a hc hf
  replace hc := any_ex hc
  obtain ⟨⟨x, v⟩, hq, hc⟩ := hc
  · have hq := hq
    obtain ⟨p1, p2, rfl⟩ := asAssign_eq hq
    simp only [Bool.and_eq_true, beq_iff_eq] at hc
    obtain ⟨⟨hx, hv⟩, hc⟩ := hc
    replace hc := any_ex hc
    obtain ⟨xs, hq2, hc⟩ := hc
    · have hq2 := hq2
      obtain ⟨p3, rfl⟩ := asList_eq hq2
      simp only [Bool.and_eq_true, decide_eq_true_eq] at hc
      rw [exq_newlst] at hf ⊢
      obtain ⟨ds, σ₁, h1, h2⟩ := stm_fine hf
      rw [h2]
      rw [exec_Assign_Name _ _ _ _ _ rfl]
      refine wpAny_bind (wpAny_standAt (wpAny_bind (List_ (wpAny_mono (evs_sound H es a hc.1 h1) (fun us s₁ r => ?_) fun _ _ z => z))))
      have a1 := a.ok r.2.1
      refine wpAny_newObj_type (wpAny_bind (wpAny_standAt (wpAny_bind (wpAny_bindName (wpAny_mono (bind_fresh (prog := prog) (w := w) (A := A) (vs := us.toArray) a1 hx hv ⟨_, _, rfl⟩ (fun b o q => Heap.get?_push_of_some _ q) (Heap.get?_none_of_le (Nat.le_refl _)) ?_ ⟨_, Heap.get?_push_size _ rfl⟩ (by simpa using r.1)) (fun _ s' q => wpAny_pure (SPost.after (a.soK r.2.1) q)) fun _ _ z => z))))) (by show us.toArray.size ≤ 2 ^ 24; simp; omega)
      exact a1.baseLe

theorem st_append (i : Nat) (e : IE) : SndS prog w A B fnm con sub C (.append i e) := by
  intro cx st env s ρ σ π β E hN a hc hf
  replace hc := any_ex hc
  obtain ⟨v, hq, hc⟩ := hc
  · have hq := hq
    obtain ⟨p1, rfl⟩ := asExpr_eq hq
    replace hc := any_ex hc
    obtain ⟨⟨o, n, y⟩, hq2, hc⟩ := hc
    · have hq2 := hq2
      obtain ⟨p2, p3, rfl, hline⟩ := asMeth_eq hq2
      simp only [Bool.and_eq_true, beq_iff_eq] at hc
      obtain ⟨⟨rfl, ho⟩, hy⟩ := hc
      replace ho := any_ex ho
      obtain ⟨x, hq3, ho⟩ := ho
      · have hq3 := hq3
        obtain ⟨p4, rfl⟩ := asName_eq hq3
        simp only [Bool.and_eq_true, beq_iff_eq, Bool.not_eq_true'] at ho
        rw [exq_append] at hf ⊢
        cases hρ : ρ[i]? with
        | none => rw [hρ] at hf; exact hf.elim
        | some ov =>
          cases ov with
          | none => rw [hρ] at hf; exact hf.elim
          | some v0 =>
            cases v0 with
            | dat d => rw [hρ] at hf; exact hf.elim
            | exc d => rw [hρ] at hf; exact hf.elim
            | ref k =>
              simp only [hρ] at hf ⊢
              obtain ⟨v1, σ₁, h1, h2⟩ := stmK_fine hf
              rw [h2] at hf ⊢
              cases htd : toDat v1 σ₁ with
              | exn c σ' => simp only [htd] at hf; exact hf.elim
              | bad => simp only [htd] at hf; exact hf.elim
              | val d σ₂ =>
                simp only [htd] at hf ⊢
                split at hf
                · rename_i l hσ
                  split at hf
                  · rename_i hlen
                    simp only [hσ, hlen, if_true]
                    have hk : env.scope.kind = .function := a.V.scope ▸ a.V.kind
                    have hint : interactive env = false := by unfold interactive; rw [hk]; rfl
                    refine wpAny_Expr_any ?_ hint rfl
                    have hst := trees_cons (env := env) (xs := []) (pos := p3) (not_starred hy)
                    refine wpAny_Call_append rfl (by rw [hst]; rfl) hline hst ?_
                    refine load_sound a.V a.F ho.1.1 ho.1.2 ho.2 hρ fun v' r => ?_
                    obtain ⟨D, hD, rfl⟩ := r
                    have hk' : k < σ.length := by rw [← a.S.len]; exact (List.getElem?_eq_some_iff.mp hD).1
                    obtain ⟨vs0, ⟨n0, hp0⟩, _⟩ := a.S.ent k σ[k] D (List.getElem?_eq_getElem hk') hD
                    refine ⟨D, vs0, rfl, ⟨_, n0, hp0, rfl, rfl, rfl⟩, wpAny_mono (ev_sound H e a hy h1) (fun u1 s₁ r1 => ?_) fun _ _ z => z⟩
                    have a1 := a.ok r1.2
                    obtain ⟨rd, ok2⟩ := toDat_sound (L := env.locals) a1.S r1.1 htd
                    have a2 := a1.ok ok2
                    obtain ⟨vs, hp, hr⟩ := a2.S.ent k (true, l) D hσ hD
                    have hsz := hr.size
                    refine wpAny_list_append_plain hp (fun h' hl' hs' => ?_) (by show _ ≤ 2 ^ 24; simp at hsz; omega)
                    obtain ⟨a3, x3⟩ := a2.appends (s' := { s₁ with heap := h' }) ⟨_, _, rfl⟩ (fun b o hb q => hs'.extBut b o hb q) hσ hD hl' hr rd
                    exact ⟨rfl, β, a3, ((a.soK r1.2).trans (a1.soK ok2)).trans x3⟩
                  · exact hf.elim
                · exact hf.elim

theorem st_drop (e : IE) : SndS prog w A B fnm con sub C (.drop e) := by
  intro cx st env s ρ σ π β E hN a hc hf
  replace hc := any_ex hc
  obtain ⟨v, hq, hc⟩ := hc
  · have hq := hq
    obtain ⟨p1, rfl⟩ := asExpr_eq hq
    replace hc := any_ex hc
    obtain ⟨q, hq2, hc⟩ := hc
    · have hq2 := hq2
      obtain ⟨x, xs⟩ := q
      obtain ⟨p2, p3, rfl⟩ := asCall_eq hq2
      rw [exq_drop] at hf ⊢
      obtain ⟨v1, σ₁, h1, h2⟩ := stm_fine hf
      rw [h2] at hf ⊢
      have hk : env.scope.kind = .function := a.V.scope ▸ a.V.kind
      have hint : interactive env = false := by unfold interactive; rw [hk]; rfl
      refine wpAny_Expr_any (wpAny_mono (ev_sound H e a hc h1) (fun u1 s₁ r1 => ?_) fun _ _ z => z) hint rfl
      cases v1 with
      | dat d =>
        cases d with
        | none => exact ⟨rfl, β, a.ok r1.2, a.soK r1.2⟩
        | _ => exact hf.elim
      | _ => exact hf.elim

theorem st_ret (e : IE) : SndS prog w A B fnm con sub C (.ret e) := by
  intro cx st env s ρ σ π β E hN a hc hf
  replace hc := any_ex hc
  obtain ⟨v, hq, hc⟩ := hc
  · have hq := hq
    obtain ⟨p1, rfl⟩ := asRet_eq hq
    rw [exq_ret] at hf ⊢
    obtain ⟨v1, σ₁, h1, h2⟩ := stm_fine hf
    rw [h2] at hf ⊢
    obtain ⟨d, σ₂, h3, h4⟩ := stm_fine hf
    rw [h4]
    refine wpAny_Return_some (wpAny_mono (ev_sound H e a hc h1) (fun u1 s₁ r1 => ?_) fun _ _ z => z)
    have a1 := a.ok r1.2
    obtain ⟨rd, ok2⟩ := toDat_sound (L := env.locals) a1.S r1.1 h3
    exact ⟨u1, β, rfl, rd, (a.soK r1.2).trans (a1.soK ok2)⟩

theorem st_ite (c : IE) (x y : ISs) (ihx : SndSs prog w A B fnm con sub C x) (ihy : SndSs prog w A B fnm con sub C y) : SndS prog w A B fnm con sub C (.ite c x y) := by
  intro cx st env s ρ σ π β E hN a hc hf
  replace hc := any_ex hc
  obtain ⟨⟨t, xs, ys⟩, hq, hc⟩ := hc
  · have hq := hq
    obtain ⟨p1, rfl⟩ := asIf_eq hq
    simp only [Bool.and_eq_true] at hc
    rw [exq_ite] at hf ⊢
    obtain ⟨b, σ₁, h1, h2⟩ := stm_fine hf
    rw [h2] at hf ⊢
    refine wpAny_If (wpAny_mono (evB_sound H c a hc.1.1 h1) (fun b' s₁ r => ?_) fun _ _ z => z)
    obtain ⟨rfl, ok⟩ := r
    cases b' with
    | true =>
      simp only [if_true] at hf ⊢
      exact wpAny_mono (ihx hN (a.ok ok) hc.1.2 hf) (fun f s' q => SPost.after (a.soK ok) q) fun _ _ z => z
    | false =>
      simp only [Bool.false_eq_true, if_false] at hf ⊢
      exact wpAny_mono (ihy hN (a.ok ok) hc.2 hf) (fun f s' q => SPost.after (a.soK ok) q) fun _ _ z => z

/-- a loop over an iterator that has just been made -/
theorem for_loop {cx : Cx} {env : Env} {s s₁ : Shared} {ρ : Loc} {σ σ₁ : Sto} {π β : List Addr} {E : Value → Shared → Prop} {i : Nat} {nm : Str} {p1 : Pos} {xs : List Stmt} {x : ISs} {src : Src} {K : Kd} {ob : Obj} (ihx : SndSs prog w A B fnm con sub C x) (hN : Named cx env) (a : At fnm con B π cx env s ρ σ β)
    (hx : cx.name i = some nm) (hv : cx.isVar nm = true) (hb : chkSs cx x xs = true) (ok1 : Ok B π env.locals β s s₁ σ σ₁) (hK : K.Is s₁.heap π β σ₁ src) (hst : K.St (s₁.heap.push ob) s₁.heap.objs.size 0)
    (hf : fineS (forL src (fun d ρ σ => exs sub C x (ρ.set i (some (.dat d))) σ) src.items ρ σ₁)) :
    codeAny (model prog w) A (.forLoop (.Name nm p1) (.ref s₁.heap.objs.size) xs [] env) (fun r s' => match r with
      | .ok f => SPost fnm con B π cx env s σ β (forL src (fun d ρ σ => exs sub C x (ρ.set i (some (.dat d))) σ) src.items ρ σ₁) f s'
      | .error e => cameBackBy (model prog w) A env E e s') { s₁ with heap := s₁.heap.push ob } := by
  have a1 := a.ok ok1
  have x1 := a.soK ok1
  generalize hf0 : (fun d ρ σ => exs sub C x (List.set ρ i (some (Val.dat d))) σ) = bodyF at hf ⊢
  generalize ho : forL src bodyF src.items ρ σ₁ = o at hf ⊢
  have hIdead : s₁.heap.get? s₁.heap.objs.size = none := Heap.get?_none_of_le (Nat.le_refl _)
  generalize hI : s₁.heap.objs.size = I at *
  have hIs : s.heap.get? I = none := dead_of x1.alive hIdead
  have hIown : I ∉ own env := fun q => by have := a.own_alive hN q; rw [hIs] at this; cases this
  have hIπ : I ∉ π := fun q => by have := (a.S.priv I q).1; rw [hIs] at this; cases this
  have hBI : B.get? I = none := by
    cases q : B.get? I with
    | none => rfl
    | some o => have := a.S.base I o q; rw [hIs] at this; cases this
  -- the iterator is none of the frame's
  have fI : ∀ {h : Heap} {j : Nat} {σ₂ : Sto} {β₂ : List Addr}, Sim B π h σ₂ β₂ → K.St h I j → Foreign B π β₂ env h I := fun {h} {j} {σ₂} {β₂} S hst => by
    obtain ⟨o₀, vs₀, hI0, hd₀⟩ := hst.fields
    refine ⟨.inr (fun o xs n' ho hd => by rw [hI0] at ho; cases ho; rw [hd₀] at hd; cases hd), (fun o v ho hd => by rw [hI0] at ho; cases ho; rw [hd₀] at hd; cases hd), fun q => hIown (by rw [q]; exact List.mem_cons_self), fun q => ?_, hBI⟩
    obtain ⟨k, hk, e⟩ := List.mem_iff_getElem.mp q
    obtain ⟨vs, ⟨n, hp⟩, _⟩ := S.ent k (σ₂[k]'(by rw [← S.len]; exact hk)) I (List.getElem?_eq_getElem _) (by rw [List.getElem?_eq_getElem hk, e])
    rw [hI0] at hp; cases hp; cases hd₀
  refine codeAny_forLoop (fun n s₂ => ∃ j ρ₂ σ₂ β₂, At fnm con B π cx env s₂ ρ₂ σ₂ β₂ ∧ SOk B π env s s₂ σ σ₂ β β₂ ∧ K.Is s₂.heap π β₂ σ₂ src ∧ K.St s₂.heap I j ∧ j ≤ src.items.length ∧ n = src.items.length + 1 - j ∧ forL src bodyF (src.items.drop j) ρ₂ σ₂ = o) (fun n s₂ hinv => ?_) (src.items.length + 1) ?_
  · obtain ⟨j, ρ₂, σ₂, β₂, a₂, x₂, hK₂, hst₂, hj, hn, h₂⟩ := hinv
    have f₂ := fI a₂.S hst₂
    by_cases hlt : j < src.items.length
    · have hd : src.items.drop j = src.items[j] :: src.items.drop (j + 1) := List.drop_eq_getElem_cons hlt
      rw [hd] at h₂
      simp only [forL] at h₂
      split at h₂
      · rename_i hstill
        rw [← h₂] at hf
        refine next_item a₂.S hstill hK₂ hst₂ (List.getElem?_eq_getElem hlt) fun v' h₃ tk₃ rv hst₃ hk₃ => ?_
        have a₃ : At fnm con B π cx env { s₂ with heap := h₃, toks := tk₃ } ρ₂ σ₂ β₂ := a₂.poke' f₂ hk₃ hIπ
        have x₃ := x₂.poke (s₂ := { s₂ with heap := h₃, toks := tk₃ }) hIs ⟨_, _, rfl⟩ a₃.S hk₃
        have sk₃ : SeqKeep (grow π σ₂ β₂) (grow π σ₂ β₂) s₂.heap h₃ := f₂.seqKeep hk₃
        refine wpAny_assign_Name (store_sound (v := .dat src.items[j]) a₃.V a₃.F a₃.S hx hv rv fun s₄ F₄ x₄ rel₄ => ?_)
        have a₄ : At fnm con B π cx env s₄ (ρ₂.set i (some (.dat src.items[j]))) σ₂ β₂ := ⟨a₃.fn, a₃.con, a₃.V, F₄, x₄.sim⟩
        have x₄' := x₃.trans x₄
        have keepI : ∀ {s₅ s₆ : Shared} {σ₅ σ₆ : Sto} {β₅ β₆ : List Addr} {q : Nat}, Sim B π s₅.heap σ₅ β₅ → SOk B π env s₅ s₆ σ₅ σ₆ β₅ β₆ → K.St s₅.heap I q → K.St s₆.heap I q := fun {s₅ s₆ σ₅ σ₆ β₅ β₆ q} S x hst => hst.kept fun o ho => x.keep I o ho (fun z => (fI S hst).sto (growS_sub z)) hIown
        have keepK : ∀ {s₅ s₆ : Shared} {ρ₅ : Loc} {σ₅ σ₆ : Sto} {β₅ β₆ : List Addr}, At fnm con B π cx env s₅ ρ₅ σ₅ β₅ → SOk B π env s₅ s₆ σ₅ σ₆ β₅ β₆ → K.Is s₅.heap π β₅ σ₅ src → K.Is s₆.heap π β₆ σ₆ src := fun {s₅ s₆ ρ₅ σ₅ σ₆ β₅ β₆} aa x hK => by
          have sk := x.seqK aa hN
          obtain ⟨β', rfl, _⟩ := x.ext
          exact hK.mono sk
        have hst₄ := keepI a₃.S x₄ hst₃
        have hK₄ := keepK a₃ x₄ (hK₂.mono' sk₃)
        rcases bind_fine hf with ⟨ρ₅, σ₅, h5, h6⟩ | ⟨d, σ₅, h5, h6⟩
        · rw [← hf0] at h5
          replace h5 : exs sub C x (ρ₂.set i (some (.dat src.items[j]))) σ₂ = _ := h5
          refine wpAny_mono (ihx hN a₄ hb (by rw [h5]; trivial)) (fun f s₅ q => ?_) fun _ _ z => z
          rw [h5] at q
          obtain ⟨rfl, β₅, a₅, x₅⟩ := q
          exact ⟨src.items.length + 1 - (j + 1), by omega, j + 1, ρ₅, σ₅, β₅, a₅, x₄'.trans x₅, keepK a₄ x₅ hK₄, keepI a₄.S x₅ hst₄, by omega, rfl, by rw [← h₂, h6]⟩
        · rw [← hf0] at h5
          replace h5 : exs sub C x (ρ₂.set i (some (.dat src.items[j]))) σ₂ = _ := h5
          refine wpAny_mono (ihx hN a₄ hb (by rw [h5]; trivial)) (fun f s₅ q => ?_) fun _ _ z => z
          rw [h5] at q
          obtain ⟨v, β₅, rfl, r5, x₅⟩ := q
          rw [h6] at h₂
          subst h₂
          exact ⟨v, β₅, rfl, r5, x₄'.trans x₅⟩
      · subst h₂; exact hf.elim
    · have hin : j = src.items.length := by omega
      rw [List.drop_of_length_le (by omega)] at h₂
      simp only [forL] at h₂
      split at h₂
      · rename_i hstill
        subst h₂
        refine next_done H.hh a₂.S hstill hK₂ hst₂ (by omega) (by omega) fun h₃ tk₃ hk₃ => ?_
        have a₃ : At fnm con B π cx env { s₂ with heap := h₃, toks := tk₃ } ρ₂ σ₂ β₂ := a₂.poke' f₂ hk₃ hIπ
        exact wpAny_execs_nil ⟨rfl, β₂, a₃, x₂.poke hIs ⟨_, _, rfl⟩ a₃.S hk₃⟩
      · subst h₂; exact hf.elim
  · have hkk : ∀ b o, s₁.heap.get? b = some o → (s₁.heap.push ob).get? b = some o := fun b o q => Heap.get?_push_of_some _ q
    have a2 : At fnm con B π cx env { s₁ with heap := s₁.heap.push ob } ρ σ₁ β := a1.keeps hkk
    refine ⟨0, ρ, σ₁, β, a2, x1.poke hIs ⟨_, _, rfl⟩ a2.S (fun b o _ q => hkk b o q), hK.mono' (fun b o xs n ho hd ha => ⟨ha, hkk b o ho⟩), hst, by omega, by omega, by simpa using ho⟩

theorem st_for1 (i : Nat) (it : II) (x : ISs) (ihx : SndSs prog w A B fnm con sub C x) : SndS prog w A B fnm con sub C (.for1 i it x) := by
  intro cx st env s ρ σ π β E hN a hc hf
  replace hc := any_ex hc
  obtain ⟨⟨nm, iter, xs⟩, hq, hc⟩ := hc
  · have hq := hq
    obtain ⟨p1, p2, rfl⟩ := asFor1_eq hq
    simp only [Bool.and_eq_true, beq_iff_eq] at hc
    obtain ⟨⟨⟨⟨hx, hv⟩, hpl⟩, hit⟩, hb⟩ := hc
    rw [exq_for1] at hf ⊢
    obtain ⟨src, σ₁, h1, h2⟩ := stm_fine hf
    rw [h2] at hf ⊢
    split at hf
    · rename_i hlen
      simp only [hlen, if_true] at hf ⊢
      refine wpAny_For ?_ (fun z => folded_none (notSetI hit))
      cases hp : plainI it with
      | true =>
        refine wpAny_mono (evI_sound H it a hp hit h1) (fun xv s₁ r1 => ?_) fun _ _ z => z
        exact iter_start (a.ok r1.2).S r1.1 fun K ob hK hst hfree => for_loop H ihx hN a hx hv hb r1.2 hK hst hf
      | false =>
        cases it <;> cases hp
    · exact hf.elim

theorem sts_nil : SndSs prog w A B fnm con sub C .nil := by
  intro cx xs env s ρ σ π β E hN a hc hf
  cases xs with
  | nil => exact wpAny_execs_nil ⟨rfl, β, a, SOk.refl a.S⟩
  | cons x xs => simp [chkSs] at hc
theorem sts_cons (st : IS) (ss : ISs) (ih : SndS prog w A B fnm con sub C st) (ihs : SndSs prog w A B fnm con sub C ss) : SndSs prog w A B fnm con sub C (.cons st ss) := by
  intro cx xs env s ρ σ π β E hN a hc hf
  cases xs with
  | nil => simp [chkSs] at hc
  | cons x xs =>
    have hc := Bool.and_eq_true_iff.mp (show (_ && _) = true from hc)
    rw [exq_cons] at hf ⊢
    rcases bind_fine hf with ⟨ρ₁, σ₁, h1, h2⟩ | ⟨d, σ₁, h1, h2⟩
    · rw [h2] at hf ⊢
      refine wpAny_execs_cons (wpAny_mono (ih hN a hc.1 (by rw [h1]; trivial)) (fun f s₁ q => ?_) fun _ _ z => z)
      rw [h1] at q
      obtain ⟨rfl, β₁, a₁, x₁⟩ := q
      exact wpAny_mono (ihs hN a₁ hc.2 hf) (fun f s' q => SPost.after x₁ q) fun _ _ z => z
    · rw [h2]
      refine wpAny_execs_cons (wpAny_mono (ih hN a hc.1 (by rw [h1]; trivial)) (fun f s₁ q => ?_) fun _ _ z => z)
      rw [h1] at q
      obtain ⟨v, β₁, rfl, r, x₁⟩ := q
      exact ⟨v, β₁, rfl, r, x₁⟩
theorem st_none (st : IS) (h : ∀ cx x, chkS cx st x = false) : SndS prog w A B fnm con sub C st := by
  intro cx x env s ρ σ π β E hN a hc hf
  rw [h] at hc; cases hc
theorem st_raise (c : Nat) (m : List Nat) : SndS prog w A B fnm con sub C (.raise c m) := by
  intro cx x env s ρ σ π β E hN a hc hf
  exact (show False from hf).elim
end

section
variable {prog : Program} {w : World} {A : Around} {B : Heap} {Δ : Nat → Option Fn} {fnm : Nat → Option Str} {con : Con} {mg mb : Str → Option Value} {sub : Nat → Nat → Bool} {C : Oracle}
variable (H : Hyp prog w A B Δ fnm con mg mb C)
include H
mutual
theorem ex_sound : ∀ st : IS, SndS prog w A B fnm con sub C st
  | .assign i e => st_assign H i e
  | .newlst i es => st_newlst H i es
  | .append i e => st_append H i e
  | .drop e => st_drop H e
  | .ret e => st_ret H e
  | .ite c x y => st_ite H c x y (exs_sound x) (exs_sound y)
  | .for1 i it x => st_for1 H i it x (exs_sound x)
  | .raise c m => st_raise H c m
  | .tryc f as hs => st_none H _ fun _ _ => rfl
theorem exs_sound : ∀ ss : ISs, SndSs prog w A B fnm con sub C ss
  | .nil => sts_nil H
  | .cons st ss => sts_cons H st ss (ex_sound st) (exs_sound ss)
end
end
end Mine

/-! ## MBind -/
namespace Mine
open PySem PyProof.Rows

theorem zip_lookup {α : Type} : ∀ {ns : List Str} {vs : List α} {n : Str}, ns.length = vs.length → n ∈ ns → ((ns.zip vs).lookup n).isSome = true
  | x :: ns, v :: vs, n, h, hm => by
    rw [List.zip_cons_cons, List.lookup_cons]
    cases hb : n == x with
    | true => rfl
    | false =>
      rcases List.mem_cons.mp hm with rfl | hm
      · simp at hb
      · exact zip_lookup (by simpa using h) hm
theorem zip_pick {α : Type} : ∀ {ns : List Str} {vs : List α}, ns.length = vs.length → ns.Nodup → (ns.filterMap fun n => ((ns.zip vs).lookup n).map fun v => (n, v)) = ns.zip vs := by
  intro ns vs h hd
  suffices k : ∀ (ms : List Str) (us : List α) (pre : List (Str × α)), ms.length = us.length → ms.Nodup → (∀ p ∈ pre, p.1 ∉ ms) → (ms.filterMap fun n => ((pre ++ ms.zip us).lookup n).map fun v => (n, v)) = ms.zip us by
    simpa using k ns vs [] h hd (by simp)
  intro ms
  induction ms with
  | nil => intro us pre _ _ _; simp
  | cons m ms ih =>
    intro us pre hl hd hp
    cases us with
    | nil => simp at hl
    | cons u us =>
      obtain ⟨hm, hd⟩ := List.nodup_cons.mp hd
      have hpre : pre.lookup m = none := by
        rw [List.lookup_eq_none_iff]
        intro p hp'
        have := hp p hp'
        simp only [List.mem_cons, not_or] at this
        simp only [bne_iff_ne, ne_eq]
        exact fun q => this.1 q.symm
      rw [List.filterMap_cons, List.lookup_append, hpre]
      simp only [List.zip_cons_cons, List.lookup_cons, beq_self_eq_true, Option.none_or, Option.map_some]
      congr 1
      have := ih us (pre ++ [(m, u)]) (by simpa using hl) hd (fun p hp' => by
        rcases List.mem_append.mp hp' with h | h
        · have := hp p h; simp only [List.mem_cons, not_or] at this; exact this.2
        · simp at h; subst h; exact hm)
      simpa using this

theorem bind_plain {name : Str} {params : Arguments} {body : List Stmt} {scope : Scope} {pm cd doc : Value} {vals : List Value}
    (h1 : params.posonlyargs = []) (h2 : params.vararg = none) (h3 : params.kwonlyargs = []) (h4 : params.kwarg = none) (hl : params.args.length = vals.length) (hd : (params.args.map (·.arg)).Nodup) :
    bindArgs (Calls.docDef name params body scope pm cd doc) ⟨vals, []⟩ = pure ((params.args.map (·.arg)).zip vals) := by
  have hmis : (params.args.map (·.arg)).filter (fun n => (((params.args.map (·.arg)).zip vals).lookup n).isNone) = [] := by
    rw [List.filter_eq_nil_iff]
    intro n hn
    have := zip_lookup (vs := vals) (by simpa using hl) hn
    intro q
    rw [Option.isNone_iff_eq_none] at q
    rw [q] at this; cases this
  have hpick := zip_pick (vs := vals) (by simpa using hl) hd
  have hseq : seqItems? Value.none = pure none := rfl
  unfold bindArgs
  simp only [Calls.docDef, h1, h2, h3, h4, List.map_nil, List.nil_append, List.append_nil, List.forIn_nil, hseq, pure_bind, Option.getD_none, List.length_nil, List.drop_nil, Nat.sub_zero, List.zip_nil_right]
  have e0 : (params.args.map (·.arg)).length = vals.length := by simpa using hl
  have e1 : ¬ (vals.length > (params.args.map (·.arg)).length) := by omega
  have e2 : (params.args.map (·.arg)).take (params.args.map (·.arg)).length = params.args.map (·.arg) := List.take_length
  simp only [Option.isNone_none, Bool.and_true, e2, hmis, hpick, List.isEmpty_nil, Bool.not_true, decide_eq_true_eq, if_neg e1, Bool.false_eq_true, if_false, pure_bind]
end Mine

/-! ## MFly -/
namespace Mine
open PySem PyProof.Rows

/-! ## an exception on its way -/

/-- made and not yet noted, or noted -/
noncomputable def OnWay (G : Heap) (L : Addr) (cls : Value) (a : Addr) (h : Heap) : Prop :=
  (∃ oe vs a0, h.get? a = some oe ∧ oe.cls = cls ∧ oe.data = .fields vs ∧ vs[0]? = some a0 ∧ vs[1]? = some .none) ∨ ∃ a0 fl, h.TracedAtW G a cls a0 fl

/-- tables stand, but for slots -/
noncomputable def Tabs (ow : List Addr) (h₀ h : Heap) : Prop := ∀ b o es ep, h₀.get? b = some o → o.data = .dict es ep → b ∉ ow → ∃ sl, h.get? b = some { o with slots := sl }

structure Thr (G : Heap) (l : List Env) (L : Addr) (cls : Value) (ow : List Addr) (h₀ : Heap) (a : Addr) (h : Heap) : Prop where
  stay : G.StaysIn h
  new : G.get? a = none
  frs : h.FunFrames G l
  way : OnWay G L cls a h
  tab : Tabs ow h₀ h
/-- it has left a frame -/
structure Fly (G : Heap) (l : List Env) (cls : Value) (ow : List Addr) (h₀ : Heap) (a : Addr) (h : Heap) : Prop where
  stay : G.StaysIn h
  new : G.get? a = none
  frs : h.FunFrames G l
  way : ∃ a0, h.TracedW G a cls a0
  tab : Tabs ow h₀ h

theorem Fly.thr {G : Heap} {l : List Env} {L : Addr} {cls : Value} {ow : List Addr} {h₀ h : Heap} {a : Addr} (x : Fly G l cls ow h₀ a h) : Thr G l L cls ow h₀ a h := ⟨x.stay, x.new, x.frs, .inr (x.way.imp fun _ q => ⟨_, q.at⟩), x.tab⟩

theorem Tabs.up {ow : List Addr} {h₀ h h' : Heap} (x : Tabs ow h₀ h) (u : ∀ b o, h.get? b = some o → (∀ vs, o.data ≠ .fields vs) → ∃ sl, h'.get? b = some { o with slots := sl }) : Tabs ow h₀ h' := fun b o es ep e hd hb => by
  obtain ⟨sl, e1⟩ := x b o es ep e hd hb
  obtain ⟨sl', e2⟩ := u b _ e1 fun vs q => by rw [show o.data = _ from hd] at q; cases q
  exact ⟨sl', e2⟩
theorem Tabs.comp {ow ow' : List Addr} {h₀ h h' : Heap} (x : Tabs ow h₀ h) (y : Tabs ow' h h') (hs : ∀ b ∈ ow', b ∈ ow) : Tabs ow h₀ h' := fun b o es ep e hd hb => by
  obtain ⟨sl, e1⟩ := x b o es ep e hd hb
  obtain ⟨sl', e2⟩ := y b _ es ep e1 hd fun q => hb (hs b q)
  exact ⟨sl', e2⟩

section
variable {M : Model} {A : Around} {E : Value → Shared → Prop} {s : Shared} {G : Heap} {env : Env} {outer : List Env} {L a : Addr} {cls : Value} {ow : List Addr} {h₀ : Heap}

theorem no_rec {h : Heap} {T : Addr} {oT : Obj} {ts : Array Value} (hT : h.get? T = some oT) (hdT : oT.data = .fields ts) : ∀ b o, h.get? b = some o → (∀ vs, o.data ≠ .fields vs) → b ≠ T := fun b o hb hnf q => by
  rw [q, hT] at hb; cases hb; exact hnf ts hdT
theorem note_thr {cenv : Env} {Q : Unit → Shared → Prop} (hfr : A.frames = some (env :: outer)) (hf : env.frame = some L) (hce : cenv.frame = env.frame) (t : Thr G (env :: outer) L cls ow h₀ a s.heap)
    (hQ : ∀ h', Thr G (env :: outer) L cls ow h₀ a h' → (∃ a0, h'.TracedAtW G a cls a0 (rawInt L)) → Q () { s with heap := h' }) : wpAny M A (noteFrame (.ref a) cenv) Q E s := by
  have hno : noteFrame (.ref a) cenv = noteFrame (.ref a) env := by unfold noteFrame PySem.frameOf; rw [hce]
  rw [hno]
  obtain ⟨k1, k2, k3, k4, k5⟩ := t
  have fin : ∀ {h h' : Heap} {a0 : Value}, Tabs ow h₀ h → Heap.NotedW G (env :: outer) a cls a0 (rawInt L) h h' → Q () { s with heap := h' } := fun {h h' a0} k hN => by
    obtain ⟨x1, x2, x3, x4⟩ := hN
    exact hQ h' ⟨x1, k2, x2, .inr ⟨a0, _, x3⟩, k.up x4⟩ ⟨a0, x3⟩
  rcases k4 with ⟨oe, vs, a0, he, hc, hd, h0, h1⟩ | ⟨a0, fl, ht⟩
  · subst hc
    unfold noteFrame
    simp only [hf]
    refine wpAny_bind (wpAny_field he hd h1 ?_)
    rw [if_neg (by decide)]
    exact wpAny_entryW hfr k3 hf he k1 k2 hd (Array.getElem?_eq_some_iff.mp h1).1 h0 fun h' hN => fin k5 hN
  · by_cases hfl : fl = rawInt L
    · subst hfl
      exact wpAny_noteFrame_againW hf ht (hQ s.heap ⟨k1, k2, k3, .inr ⟨a0, _, ht⟩, k5⟩ ⟨a0, ht⟩)
    · obtain ⟨oe, vs, T, oT, ts, he, ⟨hcls, h0⟩, hd, h1, hnT, hTe, hT, hdT, h3⟩ := ht
      subst hcls
      have other : ∀ b, b ≠ T → (s.heap.update T (Obj.mapFields (·.setIfInBounds 3 Value.none))).get? b = s.heap.get? b := fun b hb => Heap.get?_update_other _ _ (Ne.symm hb)
      have nr := no_rec hT hdT
      unfold noteFrame
      simp only [hf]
      refine wpAny_bind (wpAny_field he hd h1 ?_)
      rw [if_pos (show (Value.ref T != Value.none) = true from by simp)]
      refine wpAny_bind (wpAny_field hT hdT h3 ?_)
      rw [if_neg (show ¬ ((fl == rawInt L) = true) from fun q => hfl (eq_of_beq q))]
      refine wpAny_bind (wpAny_setField hT hdT (Array.getElem?_eq_some_iff.mp h3).1 ?_)
      exact wpAny_entryW hfr (k3.of_keeps fun b o hb hnf => ⟨o, (other b (nr b o hb hnf)).trans hb, rfl⟩) hf ((other a (Ne.symm hTe)).trans he) (fun b o hbo => (other b fun q => by rw [q, hnT] at hbo; cases hbo).trans (k1 b o hbo)) k2 hd (Array.getElem?_eq_some_iff.mp h1).1 h0 fun h' hN => fin (k5.up fun b o hb hnf => ⟨o.slots, (other b (nr b o hb hnf)).trans hb⟩) hN

theorem flight_none {l : List Env} {fl : Value} {Q : Unit → Shared → Prop} (t : Thr G l L cls ow h₀ a s.heap) (ht : ∃ a0, s.heap.TracedAtW G a cls a0 fl) (hQ : ∀ h', Fly G l cls ow h₀ a h' → Q () { s with heap := h' }) : wpAny M A (setFlight (.ref a) none) Q E s := by
  obtain ⟨a0, ht⟩ := ht
  exact wpAny_setFlight_noneW t.stay t.frs ht fun h' y1 y2 y3 y4 => hQ h' ⟨y1, t.new, y2, ⟨a0, y3⟩, t.tab.up fun b o hb hn => ⟨o.slots, y4 b o hb hn⟩⟩

theorem leave_thr {Q : Unit → Shared → Prop} (hfr : A.frames = some (env :: outer)) (hf : env.frame = some L) (t : Thr G (env :: outer) L cls ow h₀ a s.heap)
    (hQ : ∀ h', Fly G outer cls ow h₀ a h' → Q () { s with heap := h' }) : wpAny M A (leaving env (.ref a)) Q E s := by
  unfold leaving
  refine wpAny_bind (note_thr hfr hf rfl t fun h' t' ht => ?_)
  exact flight_none (s := { s with heap := h' }) t' ht fun h'' y => hQ h'' ⟨y.stay, y.new, y.frs.2.2, y.way, y.tab⟩

theorem flight_any {l : List Env} {fr : Option Addr} {fl : Value} {Q : Unit → Shared → Prop} (t : Thr G l L cls ow h₀ a s.heap) (ht : ∃ a0, s.heap.TracedAtW G a cls a0 fl) (hQ : ∀ h', Thr G l L cls ow h₀ a h' → Q () { s with heap := h' }) :
    wpAny M A (setFlight (.ref a) fr) Q E s := by
  obtain ⟨a0, oe, vs, T, oT, ts, he, hcls, hd, h1, hnT, hTe, hT, hdT, h3⟩ := ht
  have hsz3 : 3 < ts.size := (Array.getElem?_eq_some_iff.mp h3).1
  have other : ∀ b, b ≠ T → (s.heap.update T (Obj.mapFields (·.setIfInBounds 3 (fr.elim Value.none fun f => rawInt f)))).get? b = s.heap.get? b := fun b hb => Heap.get?_update_other _ _ (Ne.symm hb)
  have nr := no_rec hT hdT
  unfold setFlight
  refine wpAny_bind (wpAny_field he hd h1 ?_)
  rw [if_pos (show (Value.ref T != Value.none) = true from by simp)]
  refine wpAny_setField hT hdT hsz3 (hQ _ ⟨fun b o hbo => (other b fun q => by rw [q, hnT] at hbo; cases hbo).trans (t.stay b o hbo), t.new, t.frs.of_keeps fun b o hb hnf => ⟨o, (other b (nr b o hb hnf)).trans hb, rfl⟩, .inr ⟨a0, fr.elim Value.none fun f => rawInt f, ?_⟩, t.tab.up fun b o hb hnf => ⟨o.slots, (other b (nr b o hb hnf)).trans hb⟩⟩)
  exact ⟨oe, vs, T, _, _, (other a (Ne.symm hTe)).trans he, hcls, hd, h1, hnT, hTe, Heap.get?_update_self _ hT (Obj.isFreed_of_fields (Obj.data_mapFields hdT _)), Obj.data_mapFields hdT _, by simp [hsz3]⟩
theorem field_thr {α : Type} {fl : Value} {m k : Sem α} {Q : α → Shared → Prop} (ht : ∃ a0, s.heap.TracedAtW G a cls a0 fl) (h : wpAny M A k Q E s) : wpAny M A (field (.ref a) 1 >>= fun x => if (x == .none) = true then m else k) Q E s := by
  obtain ⟨a0, oe, vs, T, oT, ts, he, hcls, hd, h1, hnT, hTe, hT, hdT, h3⟩ := ht
  refine wpAny_bind (wpAny_field he hd h1 ?_)
  rw [if_neg (show ¬ ((Value.ref T == Value.none) = true) from by simp)]
  exact h
/-- out of a comprehension, when its variable has been let go -/
theorem pass_thr {l : List Env} {cenv : Env} {fl : Value} {w : String} {Q : Value → Shared → Prop} (t : Thr G l L cls ow h₀ a s.heap) (ht : ∃ a0, s.heap.TracedAtW G a cls a0 fl) (hQ : ∀ h', Thr G l L cls ow h₀ a h' → E (.ref a) { s with heap := h' }) :
    wpAny M A (PySem.passOn w (.ref a) cenv : Sem Value) Q E s := by
  unfold PySem.passOn
  refine field_thr ht ?_
  exact wpAny_bind (flight_any t ht fun h' t' => wpAny_throw (hQ h' t'))

/-- out of a loop's body -/
theorem loop_thr (hfr : A.frames = some (env :: outer)) (hf : env.frame = some L) (t : Thr G (env :: outer) L cls ow h₀ a s.heap) (hQ : ∀ h', Thr G (env :: outer) L cls ow h₀ a h' → E (.ref a) { s with heap := h' }) :
    notedBy M A env (fun e s' => cameBackBy M A env E e s') (.ref a) s :=
  note_thr hfr hf rfl t fun h' t' ht => by
    unfold cameBackBy
    refine field_thr (s := { s with heap := h' }) ht ?_
    exact flight_any (s := { s with heap := h' }) t' ht hQ
end

/-! ## what is asked of the frames, while an exception may come -/

/-- a frame that is being run -/
noncomputable def Lives (G h : Heap) (env : Env) : Prop := env.scope.kind ≠ .module ∧ ∃ L m, env.frame = some L ∧ G.get? L = none ∧ h.Ns L m

theorem lives_fun {G h : Heap} : ∀ {l : List Env}, (∀ e ∈ l, Lives G h e) → h.FunFrames G l
  | [], _ => trivial
  | e :: l, H => by
    obtain ⟨hk, L, m, hf, hn, hm⟩ := H e (.head _)
    exact Heap.FunFrames.cons hk hf hm hn (lives_fun fun e he => H e (.tail _ he))

/-- G: what stands whatever comes -/
structure GC (B G : Heap) (l : List Env) (σ : Sto) (β : List Addr) (h : Heap) : Prop where
  stay : G.StaysIn h
  gro : ∀ b ∈ growS σ β, G.get? b = none
  dic : ∀ b o es ep, G.get? b = some o → o.data = .dict es ep → B.get? b = some o
  out : ∀ e ∈ l, Lives G h e
structure GS (B G : Heap) (env : Env) (outer : List Env) (σ : Sto) (β : List Addr) (h : Heap) : Prop extends GC B G (env :: outer) σ β h where
  own : ∀ b ∈ own env, G.get? b = none
  fr : env.frame = some env.locals
  off : ∀ e ∈ outer, ∀ L, e.frame = some L → L ∉ Mine.own env

section
variable {B G : Heap} {env : Env} {outer : List Env} {s s' : Shared} {σ σ' : Sto} {π β β' : List Addr} {cx : Cx} {ρ : Loc} {fnm : Nat → Option Str} {con : Con}

theorem dict_not_grow {h : Heap} (S : Sim B π h σ β) {c : Addr} {o : Obj} {es : Array DictEntry} {ep : Nat} (ho : h.get? c = some o) (hd : o.data = .dict es ep) : c ∉ β := by
  intro q
  obtain ⟨k, hk, e⟩ := List.mem_iff_getElem.mp q
  have hk' : k < σ.length := by rw [← S.len]; exact hk
  obtain ⟨vs, ⟨n, hp⟩, _⟩ := S.ent k σ[k] c (List.getElem?_eq_getElem hk') (by rw [List.getElem?_eq_getElem hk, e])
  rw [hp] at ho; cases ho
  cases hd
theorem SOk.tabs (x : SOk B π env s s' σ σ' β β') (S : Sim B π s.heap σ β) : Tabs (own env) s.heap s'.heap := fun b o es ep e hd hb =>
  (x.keep b o e (fun q => dict_not_grow S e hd (growS_sub q)) hb).1

theorem GS.step (g : GS B G env outer σ β s.heap) (S : Sim B π s.heap σ β) (x : SOk B π env s s' σ σ' β β') (hn : ∃ m, s'.heap.Ns env.locals m) : GS B G env outer σ' β' s'.heap where
  stay := fun b o e => by
    have h1 := g.stay b o e
    have hg : b ∉ growS σ β := fun q => by rw [g.gro b q] at e; cases e
    have ho : b ∉ Mine.own env := fun q => by rw [g.own b q] at e; cases e
    have k := x.keep b o h1 hg ho
    by_cases hd : ∃ es ep, o.data = .dict es ep
    · obtain ⟨es, ep, hd⟩ := hd
      exact x.sim.base b o (g.dic b o es ep e hd)
    · exact k.2 fun es ep q => hd ⟨es, ep, q⟩
  gro := fun b hb => by
    rcases x.mon b hb with q | q
    · exact g.gro b q
    · cases e : G.get? b with
      | none => rfl
      | some o => have := g.stay b o e; rw [q] at this; cases this
  dic := g.dic
  out := fun e he => by
    rcases List.mem_cons.mp he with rfl | he'
    · obtain ⟨hk, L, m, hf, hG, hm⟩ := g.out e he
      obtain ⟨m', hn⟩ := hn
      rw [g.fr] at hf; cases hf
      exact ⟨hk, _, m', g.fr, hG, hn⟩
    · obtain ⟨hk, L, m, hf, hG, hm⟩ := g.out e he
      exact ⟨hk, L, m, hf, hG, Kept.ns hm fun o ho => x.keep L o ho (fun q => ns_not_grow S hm (growS_sub q)) (g.off e he' L hf)⟩
  own := g.own
  fr := g.fr
  off := g.off

/-- what is asked of the way out -/
noncomputable def ThrE (G : Heap) (env : Env) (outer : List Env) (cls : Value) (E : Value → Shared → Prop) (s : Shared) : Prop := ∀ a h tk, Thr G (env :: outer) env.locals cls (own env) s.heap a h → E (.ref a) { s with heap := h, toks := tk }

theorem ThrE.step {cls : Value} {E : Value → Shared → Prop} (t : ThrE G env outer cls E s) (S : Sim B π s.heap σ β) (x : SOk B π env s s' σ σ' β β') : ThrE G env outer cls E s' := fun a h tk y => by
  obtain ⟨h1, t1, rfl⟩ := id x.sh
  exact t a h tk ⟨y.stay, y.new, y.frs, y.way, (x.tabs S).comp y.tab fun _ q => q⟩
end
end Mine

/-! ## MCls -/
namespace Mine
open PySem PyProof.Rows

/-! ## the program's own exception classes -/
noncomputable def VB : List Value := [.type "ValueError", .type "Exception", .type "BaseException", .type "object"]
noncomputable def askNames : List Str := "__class__" :: quietNames

inductive Tail (h : Heap) : List Value → Prop
  | base : Tail h VB
  | own {A : Addr} {c0 : Value} {dd : Option Addr} {cd : ClassData} {sl : Array (Option Value)} {mA : Str → Option Value} {tl : List Value} :
      h.get? A = some { cls := c0, dict := dd, data := .cls cd, slots := sl } → h.Ns cd.ns mA → (∀ n ∈ askNames, mA n = none) → Tail h tl → Tail h (.ref A :: tl)
theorem Tail.q {h : Heap} {tl : List Value} (T : Tail h tl) : OwnTailQ h VB tl := by
  induction T with
  | base => exact .base
  | own hA hN hq _ ih => exact .own hA hN (fun n hn => hq n (.tail _ hn)) ih
theorem Tail.keeps {h h' : Heap} {tl : List Value} (T : Tail h tl) (hk : ∀ b o, h.get? b = some o → h'.get? b = some o) : Tail h' tl := by
  induction T with
  | base => exact .base
  | own hA hN hq _ ih => exact .own (hk _ _ hA) (hN.keeps hk) hq ih

/-- a class of the program's own -/
noncomputable def OwnC (C : Addr) (bm : List Value) (h : Heap) : Prop :=
  Tail h bm ∧ ∃ N nm q bs hdct sn sub ab col dd k0 k1 k2 k3 k5 mN, h.get? C = some (excClassObj nm q C N bs bm hdct sn sub ab col dd k0 k1 k2 k3 k5 "ValueError.__new__") ∧ h.Ns N mN ∧ ∀ n ∈ askNames, mN n = none
theorem OwnC.keeps {C : Addr} {bm : List Value} {h h' : Heap} (O : OwnC C bm h) (hk : ∀ b o, h.get? b = some o → h'.get? b = some o) : OwnC C bm h' := by
  obtain ⟨T, N, nm, q, bs, hdct, sn, sub, ab, col, dd, k0, k1, k2, k3, k5, mN, hC, hN, hq⟩ := O
  exact ⟨T.keeps hk, N, nm, q, bs, hdct, sn, sub, ab, col, dd, k0, k1, k2, k3, k5, mN, hk _ _ hC, hN.keeps hk, hq⟩

theorem own_has {C : Addr} {bm : List Value} {h : Heap} {T : String} (O : OwnC C bm h) (hT : VB.contains (.type T) = true) : (Value.ref C :: bm).contains (.type T) = true := by
  rw [List.contains_cons, O.1.q.tail.hasType hT]; rfl

section
variable {M : Model} {A : Around} {E : Value → Shared → Prop} {h : Heap} {g : Array GenState} {d : Drawn} {t : Nat} {os : OsState}

theorem along_class {tl : List Value} {y : Option Value} {Q : Option Value → Shared → Prop} (T : Tail h tl) (hrest : lookupAlong VB "__class__" = pure y) (hq : Q y ⟨h, g, d, t, os⟩) : wpAny M A (lookupAlong tl "__class__") Q E ⟨h, g, d, t, os⟩ := by
  induction T with
  | base => rw [hrest]; exact wpAny_pure hq
  | own hA hN hni _ ih =>
    rw [lookupAlong_cons]
    refine wpAny_bind (wpAny_classOwn_cls hA hN ?_)
    rw [hni _ (.head _)]
    exact ih
theorem lk_V_class : typeLookup (.type "ValueError") "__class__" = pure (some (.builtin "object.__class__")) := by rw [typeLookup_type, builtinLookup_eq_fast]; kernel_rfl
theorem mro_V : mroOf (.type "ValueError") = pure VB := F.excBase_ValueError.mroIs
theorem along_V : lookupAlong VB "__class__" = pure (some (.builtin "object.__class__")) := by
  have := lk_V_class
  rw [typeLookup_eq, mro_V] at this
  exact this
theorem lookup_class {C : Addr} {bm : List Value} {Q : Option Value → Shared → Prop} (O : OwnC C bm h) (hq : Q (some (.builtin "object.__class__")) ⟨h, g, d, t, os⟩) : wpAny M A (typeLookup (.ref C) "__class__") Q E ⟨h, g, d, t, os⟩ := by
  obtain ⟨T, N, nm, q, bs, hdct, sn, sub, ab, col, dd, k0, k1, k2, k3, k5, mN, hC, hN, hmN⟩ := O
  rw [typeLookup_eq]
  refine wpAny_bind (wpAny_mroOf_exc hC ?_)
  rw [lookupAlong_cons]
  refine wpAny_bind (wpAny_classOwn_exc hC hN ?_)
  rw [hmN _ (.head _)]
  exact along_class T along_V hq
end

section
variable {prog : Program} {w : World} {A : Around} {E : Value → Shared → Prop} {h : Heap} {g : Array GenState} {d : Drawn} {t : Nat} {os : OsState} {a C : Addr} {bm : List Value} {o : Obj}

theorem class_get_own {R : Result → Shared → Prop} (O : OwnC C bm h) (hx : h.get? a = some o) (hc : o.cls = .ref C) (hq : R (.ok (.ret (.ref C))) ⟨h, g, d, t, os⟩) :
    codeAny (model prog w) A (.call (.builtin "getset_descriptor.__get__") ⟨[.builtin "object.__class__", .ref a, .ref C], []⟩) R ⟨h, g, d, t, os⟩ := by
  have hT5 : (⟨h, g, d, t, os⟩ : Shared).TypeIs (.builtin "object.__class__") "getset_descriptor" := F.typeOf_object_class
  have hcB : (Value.ref C :: bm).contains (.type (".".intercalate ("object.__class__".cutAt '.').dropLast)) = true := by rw [F.owner_object_class]; exact own_has O (by decide +kernel)
  obtain ⟨T, N, nm, q, bs, hdct, sn, sub, ab, col, dd, k0, k1, k2, k3, k5, mN, hC, hN, hmN⟩ := O
  refine codeAny_call_builtin F.slot_gs_get.plain F.entry_gs_get (F.slot_gs_get.check _ _ _ _ _ _ _ _ hT5 (F.args_gs_get _ _ _) ?_)
  repeat (any_goals (first | assumption | (with_reducible refine wpAny_loadPart_at hx ?_; rw [hc]) | (with_reducible refine wpAny_isSubtype_exc hC ?_; rw [hcB]) | wp_step))
  refine ⟨Code.quiet_builtin _ (by decide +kernel), codeAny_builtin F.entry_object_class ?_⟩
  repeat (any_goals (first | assumption | (with_reducible refine wpAny_loadPart_at hx ?_; rw [hc]) | wp_step))

theorem class_entry_own {tk : Tok} {Q : Fin → Shared → Prop} (O : OwnC C bm h) (hx : h.get? a = some o) (hc : o.cls = .ref C) (hq : Q (.done (.ret (.ref C))) ⟨h, g, d, t, os⟩) :
    wpAny (model prog w) A (Builtin.«object.__getattribute__» ⟨[.ref a, .str "__class__" tk], []⟩) Q E ⟨h, g, d, t, os⟩ := by
  have hT5 : (⟨h, g, d, t, os⟩ : Shared).TypeIs (.builtin "object.__class__") "getset_descriptor" := F.typeOf_object_class
  have f5 := F.typeOf_object_class
  have f6 := F.slot_gs_get.lookup
  have f7 := F.slot_gs_set.lookup
  repeat (any_goals (first | assumption | (with_reducible refine wpAny_loadPart_at hx ?_; rw [hc]) | with_reducible refine lookup_class O ?_ | wp_step))
  refine class_get_own O hx hc ?_
  repeat (any_goals (first | assumption | wp_step))

theorem class_call_own {tk : Tok} {R : Result → Shared → Prop} (O : OwnC C bm h) (hx : h.get? a = some o) (hc : o.cls = .ref C) (hq : R (.ok (.ret (.ref C))) ⟨h, g, d, t, os⟩) :
    codeAny (model prog w) A (.call (.builtin "BaseException.__getattribute__") ⟨[.ref a, .str "__class__" tk], []⟩) R ⟨h, g, d, t, os⟩ := by
  obtain ⟨T, N, nm, q, bs, hdct, sn, sub, ab, col, dd, k0, k1, k2, k3, k5, mN, hC, hN, hmN⟩ := id O
  exact codeAny_call_builtin F.attrBase_ValueError.ga.plain F.entry_bexc_ga (wpAny_check_ga_own F.attrBase_ValueError hC T.q hx hc (class_entry_own O hx hc hq))

theorem class_by_own {tk : Tok} {fill expr : Bool} {Q : Value → Shared → Prop} (O : OwnC C bm h) (hx : h.get? a = some o) (hc : o.cls = .ref C) (hq : Q (.ref C) ⟨h, g, d, t, os⟩) :
    wpAny (model prog w) A (getAttrBy (.ref a) (.str "__class__" tk) fill expr) Q E ⟨h, g, d, t, os⟩ := by
  obtain ⟨T, N, nm, q, bs, hdct, sn, sub, ab, col, dd, k0, k1, k2, k3, k5, mN, hC, hN, hmN⟩ := id O
  have hmQ : ∀ n ∈ quietNames, mN n = none := fun n hn => hmN n (.tail _ hn)
  have f3 := F.attrBase_ValueError.ga.bind (.ref a)
  have hx0 : (expr && onTheHeap (Value.builtin "BaseException.__getattribute__")) = false := by cases expr <;> rfl
  have hx2 : (Value.builtin "BaseException.__getattribute__" == Value.builtin "object.__getattribute__") = false := by decide +kernel
  have hx1 : (onTheHeap (Value.ref C) && Value.builtin "BaseException.__getattribute__" == Value.builtin "object.__getattribute__") = false := by rw [hx2]; rfl
  have hm1 : ("__getattribute__" : Str) ∈ quietNames := .tail _ (.head _)
  have hm2 : ("__getattr__" : Str) ∈ quietNames := .tail _ (.tail _ (.head _))
  repeat (any_goals (first | assumption | (with_reducible refine wpAny_loadPart_at hx ?_; rw [hc]) | with_reducible refine wpAny_typeLookup_tailQ hm1 hC hN hmQ T.q F.attrBase_ValueError.mro F.attrBase_ValueError.ga.lookup ?_ | with_reducible refine wpAny_typeLookup_tailQ hm2 hC hN hmQ T.q F.attrBase_ValueError.mro F.attrBase_ValueError.noGetattr ?_ | wp_step))
  refine class_call_own O hx hc ?_
  repeat (any_goals (first | assumption | wp_step))

theorem class_attr_own {Q : Option Value → Shared → Prop} (O : OwnC C bm h) (hx : h.get? a = some o) (hc : o.cls = .ref C) (hq : Q (some (.ref C)) ⟨h, g, d, t + 1, os⟩) : wpAny (model prog w) A (getAttr? (.ref a) "__class__") Q E ⟨h, g, d, t, os⟩ := by
  unfold getAttr? getAttrBy?
  repeat (any_goals (first | assumption | with_reducible apply class_by_own O hx hc | wp_step))

/-- isinstance(e, a class of the program's own) -/
theorem nested_own {D : Addr} {bD : List Value} {dep : Int} {tk : Tok} {b : Bool} {Q : Fin → Shared → Prop} (O : OwnC C bm h) (OD : OwnC D bD h) (hx : h.get? a = some o) (hc : o.cls = .ref C) (hb : (Value.ref C :: bm).contains (.ref D) = b)
    (hq : ∀ t, Q (.done (.ret (.bool b))) ⟨h, g, d, t, os⟩) :
    wpAny (model prog w) A (Builtin.«isinstance.nested» ⟨[.ref a, .ref D, .int dep tk], []⟩) Q E ⟨h, g, d, t, os⟩ := by
  obtain ⟨T, N, nm, q, bs, hdct, sn, sub, ab, col, dd, k0, k1, k2, k3, k5, mN, hC, hN, hmN⟩ := id O
  obtain ⟨T', N', nm', q', bs', hdct', sn', sub', ab', col', dd', k0', k1', k2', k3', k5', mN', hD, hN', hmN'⟩ := id OD
  unfold Builtin.«isinstance.nested»
  by_cases hCD : C = D
  · subst hCD
    have : b = true := by rw [← hb]; simp
    subst this
    repeat (any_goals (first | exact hq _ | (with_reducible refine wpAny_loadPart_at hx ?_; rw [hc]) | wp_step))
  · have hne : (Value.ref C == Value.ref D) = false := by simp [hCD]
    cases b
    all_goals repeat (any_goals (first | exact hq _ | (with_reducible refine wpAny_loadPart_at hx ?_; rw [hc]) | with_reducible refine wpAny_loadPart_at hD ?_ | with_reducible refine wpAny_loadPart_at hC ?_ | (with_reducible refine wpAny_isSubtype_exc hC ?_; rw [hb]) | with_reducible apply class_attr_own O hx hc | wp_step))

theorem nested_V {dep : Int} {tk : Tok} {Q : Fin → Shared → Prop} (O : OwnC C bm h) (hx : h.get? a = some o) (hc : o.cls = .ref C) (hq : Q (.done (.ret (.bool true))) ⟨h, g, d, t, os⟩) :
    wpAny (model prog w) A (Builtin.«isinstance.nested» ⟨[.ref a, .type "ValueError", .int dep tk], []⟩) Q E ⟨h, g, d, t, os⟩ := by
  have hb : (Value.ref C :: bm).contains (.type "ValueError") = true := own_has O (by decide +kernel)
  obtain ⟨T, N, nm, q, bs, hdct, sn, sub, ab, col, dd, k0, k1, k2, k3, k5, mN, hC, hN, hmN⟩ := id O
  have hne : (Value.ref C == Value.type "ValueError") = false := by simp
  have hty : typeOf (.type "ValueError") = pure (.type "type") := by kernel_rfl
  unfold Builtin.«isinstance.nested»
  repeat (any_goals (first | exact hq | assumption | (with_reducible refine wpAny_loadPart_at hx ?_; rw [hc]) | with_reducible refine wpAny_loadPart_at hC ?_ | (with_reducible refine wpAny_isSubtype_exc hC ?_; rw [hb]) | wp_step))
end

section
variable {prog : Program} {w : World} {A : Around} {E : Value → Shared → Prop} {s : Shared} {a C D : Addr} {bm bD : List Value} {o : Obj} {b : Bool}
theorem isi_own {Q : Value → Shared → Prop} (O : OwnC C bm s.heap) (OD : OwnC D bD s.heap) (hx : s.heap.get? a = some o) (hc : o.cls = .ref C) (hb : (Value.ref C :: bm).contains (.ref D) = b) (hq : ∀ t, Q (.bool b) { s with toks := t }) :
    wpAny (model prog w) A (call (.builtin "isinstance") [.ref a, .ref D]) Q E s :=
  call_isinstance (S := fun _ R s => (OwnC C bm s.heap ∧ OwnC D bD s.heap ∧ s.heap.get? a = some o) ∧ ∀ t, R (.ok (.ret (.bool b))) { s with toks := t })
    (fun _ _ _ _ s hs => by obtain ⟨h, g, d, t, os⟩ := s; exact isinstance_outer (nested_own hs.1.1 hs.1.2.1 hs.1.2.2 hc hb hs.2) (by intro q; cases q)) ⟨⟨O, OD, hx⟩, hq⟩
theorem isi_V {Q : Value → Shared → Prop} (O : OwnC C bm s.heap) (hx : s.heap.get? a = some o) (hc : o.cls = .ref C) (hq : Q (.bool true) s) : wpAny (model prog w) A (call (.builtin "isinstance") [.ref a, .type "ValueError"]) Q E s :=
  call_isinstance (S := fun _ R s => (OwnC C bm s.heap ∧ s.heap.get? a = some o) ∧ R (.ok (.ret (.bool true))) s)
    (fun _ _ _ _ s hs => by obtain ⟨h, g, d, t, os⟩ := s; exact isinstance_outer (nested_V hs.1.1 hs.1.2 hc hs.2) (by intro q; cases q)) ⟨⟨O, hx⟩, hq⟩
theorem exm_own {Q : Bool → Shared → Prop} (O : OwnC C bm s.heap) (OD : OwnC D bD s.heap) (hx : s.heap.get? a = some o) (hc : o.cls = .ref C) (hb : (Value.ref C :: bm).contains (.ref D) = b) (hq : Q b s) :
    wpAny (model prog w) A (excMatches (.ref a) (.ref D)) Q E s := by
  have hcB := own_has (T := "BaseException") OD (by decide +kernel)
  obtain ⟨T, N, nm, q, bs, hdct, sn, sub, ab, col, dd, k0, k1, k2, k3, k5, mN, hC, hN, hmN⟩ := id O
  obtain ⟨T', N', nm', q', bs', hdct', sn', sub', ab', col', dd', k0', k1', k2', k3', k5', mN', hD, hN', hmN'⟩ := id OD
  obtain ⟨h, g, d, t, os⟩ := s
  have f := tc_notTuple
  unfold excMatches
  cases b
  all_goals repeat (any_goals (first | exact hq | (with_reducible refine wpAny_loadPart_at hx ?_; rw [hc]) | with_reducible refine wpAny_loadPart_at hD ?_ | (with_reducible refine wpAny_isSubtype_exc hC ?_; rw [hb]) | (with_reducible refine wpAny_isSubtype_exc hD ?_; rw [hcB]) | wp_step))
end
end Mine

/-! ## MExn -/
namespace Mine
open PySem PyProof.Rows

/-! ## where an exception comes from -/
theorem bind_no {α β : Type} {o : Out α} {f : α → Sto → Out β} {c : Nat} {σ : Sto} (hf : ∀ a σ₁, f a σ₁ ≠ .exn c σ) : o.bind f ≠ .exn c σ := by
  cases o with
  | val a σ₁ => exact hf a σ₁
  | exn => exact nofun
  | bad => exact nofun
theorem noX_no {α : Type} {o : Out α} {c : Nat} {σ : Sto} : o.noX ≠ .exn c σ := by cases o <;> exact nofun
theorem ofOpt_no {α : Type} {o : Option α} {σ₁ : Sto} {c : Nat} {σ : Sto} : ofOpt o σ₁ ≠ .exn c σ := by cases o <;> exact nofun
theorem d1_no {f : Dat → Option Dat} {v : Val} {σ₁ : Sto} {c : Nat} {σ : Sto} : d1 f v σ₁ ≠ .exn c σ := by unfold d1; split <;> exact nofun
theorem d2_no {f : Dat → Dat → Option Dat} {v w : Val} {σ₁ : Sto} {c : Nat} {σ : Sto} : d2 f v w σ₁ ≠ .exn c σ := by unfold d2; split <;> exact nofun
theorem toDat_no {v : Val} {σ₁ : Sto} {c : Nat} {σ : Sto} : toDat v σ₁ ≠ .exn c σ := by
  cases v with
  | dat => exact nofun
  | exc => exact nofun
  | ref k => simp only [toDat]; split <;> exact nofun
theorem isin_no {t : Ty} {v : Val} {sub : Nat → Nat → Bool} {σ₁ : Sto} {c : Nat} {σ : Sto} : isinstOf t v sub σ₁ ≠ .exn c σ := by
  unfold isinstOf
  split
  · split <;> exact nofun
  · exact ofOpt_no
theorem bindX_exn {α β : Type} {o : Out α} {f : α → Sto → Out β} {c : Nat} {σ : Sto} (h : o.bindX f = .exn c σ) : o = .exn c σ ∨ ∃ a σ₁, o = .val a σ₁ ∧ f a σ₁ = .exn c σ := by
  cases o with
  | val a σ₁ => exact .inr ⟨a, σ₁, rfl, h⟩
  | exn => cases h; exact .inl rfl
  | bad => cases h
theorem bind_exn {α β : Type} {o : Out α} {f : α → Sto → Out β} {c : Nat} {σ : Sto} (h : o.bind f = .exn c σ) : ∃ a σ₁, o = .val a σ₁ ∧ f a σ₁ = .exn c σ := by
  cases o with
  | val a σ₁ => exact ⟨a, σ₁, rfl, h⟩
  | exn => cases h
  | bad => cases h
theorem stm_exn {α : Type} {o : Out α} {ρ : Loc} {f : α → Sto → SOut} {c : Nat} {ρ' : Loc} {σ' : Sto} (h : o.stm ρ f = .exn c ρ' σ') : o = .exn c σ' ∨ ∃ a σ₁, o = .val a σ₁ ∧ f a σ₁ = .exn c ρ' σ' := by
  cases o with
  | val a σ₁ => exact .inr ⟨a, σ₁, rfl, h⟩
  | exn => cases h; exact .inl rfl
  | bad => cases h
theorem stmK_exn {α : Type} {o : Out α} {f : α → Sto → SOut} {c : Nat} {ρ' : Loc} {σ' : Sto} (h : o.stmK f = .exn c ρ' σ') : ∃ a σ₁, o = .val a σ₁ ∧ f a σ₁ = .exn c ρ' σ' := by
  cases o with
  | val a σ₁ => exact ⟨a, σ₁, rfl, h⟩
  | exn => cases h
  | bad => cases h
theorem sbind_exn {o : SOut} {f : Loc → Sto → SOut} {c : Nat} {ρ' : Loc} {σ' : Sto} (h : o.bind f = .exn c ρ' σ') : o = .exn c ρ' σ' ∨ ∃ ρ₁ σ₁, o = .next ρ₁ σ₁ ∧ f ρ₁ σ₁ = .exn c ρ' σ' := by
  cases o with
  | next ρ₁ σ₁ => exact .inr ⟨ρ₁, σ₁, rfl, h⟩
  | ret => cases h
  | exn => exact .inl h
  | bad => cases h

section
variable {sub : Nat → Nat → Bool} {C : Oracle} {c : Nat} {σ' : Sto}
theorem evAnd_no : ∀ {es : IEs} {ρ : Loc} {σ : Sto}, evAnd sub C es ρ σ ≠ .exn c σ'
  | .nil, _, _ => nofun
  | .cons e .nil, _, _ => noX_no
  | .cons e (.cons e' es), ρ, σ => bind_no fun v σ₁ => bind_no fun b σ₂ => by cases b; exact nofun; exact evAnd_no (es := .cons e' es)
theorem evOr_no : ∀ {es : IEs} {ρ : Loc} {σ : Sto}, evOr sub C es ρ σ ≠ .exn c σ'
  | .nil, _, _ => nofun
  | .cons e .nil, _, _ => noX_no
  | .cons e (.cons e' es), ρ, σ => bind_no fun v σ₁ => bind_no fun b σ₂ => by cases b; exact evOr_no (es := .cons e' es); exact nofun
theorem evAll_no : ∀ {es : IEs} {ρ : Loc} {σ : Sto}, evAll sub C es ρ σ ≠ .exn c σ'
  | .nil, _, _ => nofun
  | .cons e es, ρ, σ => bind_no fun b σ₁ => by cases b; exact nofun; exact evAll_no (es := es)
theorem evAny_no : ∀ {es : IEs} {ρ : Loc} {σ : Sto}, evAny sub C es ρ σ ≠ .exn c σ'
  | .nil, _, _ => nofun
  | .cons e es, ρ, σ => bind_no fun b σ₁ => by cases b; exact evAny_no (es := es); exact nofun
theorem evCmp_no : ∀ {cs : ICs} {v : Val} {ρ : Loc} {σ : Sto}, evCmp sub C v cs ρ σ ≠ .exn c σ'
  | .nil, _, _, _ => nofun
  | .cons op e cs, v, ρ, σ => bind_no fun w σ₁ => by
    show (match c2 op v w σ₁ with | some true => evCmp sub C w cs ρ σ₁ | some false => Out.val false σ₁ | Option.none => Out.bad) ≠ _
    split
    · exact evCmp_no
    · exact nofun
    · exact nofun
theorem evI_no : ∀ {it : II} {ρ : Loc} {σ : Sto}, evI sub C it ρ σ ≠ .exn c σ'
  | .of e, ρ, σ => bind_no fun v σ₁ => by cases v <;> first | exact ofOpt_no | exact nofun
  | .range1 e, ρ, σ => bind_no fun v σ₁ => by
    split
    · split <;> exact nofun
    · exact nofun
end

/-! ## soundness, where an exception comes -/
/-- the classes stand -/
structure ClsOk (B : Heap) (mg : Str → Option Value) : Prop where
  cls : ∀ c x, cnm c = some x → ∃ C bm, mg x = some (.ref C) ∧ OwnC C bm B ∧ ∀ c' x' D, cnm c' = some x' → mg x' = some (.ref D) → (Value.ref C :: bm).contains (.ref D) = subC c c'
noncomputable def cad (mg : Str → Option Value) (c : Nat) : Addr := match (cnm c).bind mg with
  | some (.ref C) => C
  | _ => 0
theorem cad_of {mg : Str → Option Value} {c : Nat} {x : Str} {C : Addr} (h1 : cnm c = some x) (h2 : mg x = some (.ref C)) : cad mg c = C := by unfold cad; rw [h1, Option.bind_some, h2]

structure HypX (prog : Program) (w : World) (A : Around) (B : Heap) (Δ : Nat → Option Fn) (fnm : Nat → Option Str) (con : Con) (mg mb : Str → Option Value) (C : Oracle) : Prop where
  H : Hyp prog w A B Δ fnm con mg mb C
  K : ClsOk B mg
  hX : ∀ (f : Nat) (x : Str) (args : List Val) (vals : List Value) (σ σ' : Sto) (c : Nat) (π β : List Addr) (s : Shared) (E : Value → Shared → Prop) (a : Addr) (Q : Value → Shared → Prop) (G : Heap) (l : List Env), fnm f = some x → mg x = some (.ref a) → x ≠ ("law" : Str) → isSp f = false → C f args σ = .exn c σ' →
    RelVs s.heap π β σ args vals → Sim B π s.heap σ β → B.objs.size ≤ s.heap.objs.size → A.frames = some l → GC B G l σ β s.heap → (∀ a' h' tk, Fly G l (.ref (cad mg c)) [] s.heap a' h' → E (.ref a') { s with heap := h', toks := tk }) → wpAny (model prog w) A (call (.ref a) vals) Q E s

abbrev XndE (prog : Program) (w : World) (A : Around) (B : Heap) (fnm : Nat → Option Str) (con : Con) (mg : Str → Option Value) (sub : Nat → Nat → Bool) (C : Oracle) (ie : IE) : Prop :=
  ∀ {cx : Cx} {e : Expr} {env : Env} {s : Shared} {ρ : Loc} {σ σ' : Sto} {π β : List Addr} {c : Nat} {E : Value → Shared → Prop} {Q : Value → Shared → Prop} {G : Heap} {outer : List Env}, cx.top = false → At fnm con B π cx env s ρ σ β → chkE cx ie e = true → ev sub C ie ρ σ = .exn c σ' →
    A.frames = some (env :: outer) → GS B G env outer σ β s.heap → ThrE G env outer (.ref (cad mg c)) E s → wpAny (model prog w) A (eval e env) Q E s
abbrev XndB (prog : Program) (w : World) (A : Around) (B : Heap) (fnm : Nat → Option Str) (con : Con) (mg : Str → Option Value) (sub : Nat → Nat → Bool) (C : Oracle) (ie : IE) : Prop :=
  ∀ {cx : Cx} {e : Expr} {env : Env} {s : Shared} {ρ : Loc} {σ σ' : Sto} {π β : List Addr} {c : Nat} {E : Value → Shared → Prop} {Q : Bool → Shared → Prop} {G : Heap} {outer : List Env}, cx.top = false → At fnm con B π cx env s ρ σ β → chkE cx ie e = true → evB sub C ie ρ σ = .exn c σ' →
    A.frames = some (env :: outer) → GS B G env outer σ β s.heap → ThrE G env outer (.ref (cad mg c)) E s → wpAny (model prog w) A (isTrue e env (eval e env)) Q E s
abbrev XndS (prog : Program) (w : World) (A : Around) (B : Heap) (fnm : Nat → Option Str) (con : Con) (mg : Str → Option Value) (sub : Nat → Nat → Bool) (C : Oracle) (st : IS) : Prop :=
  ∀ {cx : Cx} {x : Stmt} {env : Env} {s : Shared} {ρ ρ' : Loc} {σ σ' : Sto} {π β : List Addr} {c : Nat} {E : Value → Shared → Prop} {Q : Flow → Shared → Prop} {G : Heap} {outer : List Env}, cx.top = false → Named cx env → At fnm con B π cx env s ρ σ β → chkS cx st x = true → ex sub C st ρ σ = .exn c ρ' σ' →
    A.frames = some (env :: outer) → GS B G env outer σ β s.heap → ThrE G env outer (.ref (cad mg c)) E s → wpAny (model prog w) A (exec x env) Q E s
abbrev XndSs (prog : Program) (w : World) (A : Around) (B : Heap) (fnm : Nat → Option Str) (con : Con) (mg : Str → Option Value) (sub : Nat → Nat → Bool) (C : Oracle) (ss : ISs) : Prop :=
  ∀ {cx : Cx} {xs : List Stmt} {env : Env} {s : Shared} {ρ ρ' : Loc} {σ σ' : Sto} {π β : List Addr} {c : Nat} {E : Value → Shared → Prop} {Q : Flow → Shared → Prop} {G : Heap} {outer : List Env}, cx.top = false → Named cx env → At fnm con B π cx env s ρ σ β → chkSs cx ss xs = true → exs sub C ss ρ σ = .exn c ρ' σ' →
    A.frames = some (env :: outer) → GS B G env outer σ β s.heap → ThrE G env outer (.ref (cad mg c)) E s → wpAny (model prog w) A (execs xs env) Q E s

section
variable {prog : Program} {w : World} {A : Around} {B : Heap} {Δ : Nat → Option Fn} {fnm : Nat → Option Str} {con : Con} {mg mb : Str → Option Value} {sub : Nat → Nat → Bool} {C : Oracle}
variable (X : HypX prog w A B Δ fnm con mg mb C)
include X

/-- a call that throws, whatever frame it stands in -/
theorem call_x (f : Nat) (as : IEs) {cx : Cx} {e : Expr} {env : Env} {s : Shared} {ρ : Loc} {σ σ' : Sto} {π β : List Addr} {c : Nat} {E : Value → Shared → Prop} {Q : Value → Shared → Prop} {G : Heap} {l : List Env} (ht : cx.top = false) (a : At fnm con B π cx env s ρ σ β) (hc : chkE cx (.call f as) e = true)
    (he : ev sub C (.call f as) ρ σ = .exn c σ') (hfr : A.frames = some l)
    (hE : ∀ s₁ σ₁, Ok B π env.locals β s s₁ σ σ₁ → GC B G l σ₁ β s₁.heap ∧ ∀ a' h' tk, Fly G l (.ref (cad mg c)) [] s₁.heap a' h' → E (.ref a') { s₁ with heap := h', toks := tk }) : wpAny (model prog w) A (eval e env) Q E s := by
  replace hc := any_ex hc
  obtain ⟨⟨x, xs⟩, hq, hc⟩ := hc
  obtain ⟨p, q, rfl⟩ := asCall_eq hq
  simp only [Bool.and_eq_true, beq_iff_eq, Bool.or_eq_true, Bool.not_eq_true', beq_eq_false_iff_ne] at hc
  obtain ⟨⟨hc, hsp⟩, hlaw⟩ := hc
  obtain ⟨vs, σ₁, h1, h2⟩ := bind_exn he
  have h3 : C f vs σ₁ = .exn c σ' := by
    rcases bindX_exn h2 with h | ⟨_, _, _, h⟩
    · exact h
    · cases h
  have hns : isSp f = false := by
    rcases hsp with h | h
    · exact h
    · rw [ht] at h; cases h
  have W : Wd prog w B Δ cx.fn cx.con mg mb := a.fn ▸ a.con.1 ▸ X.H.W
  obtain ⟨fn, vars, dr, ad, o, pm, code, doc, e1, e2, e3, e4, e5, e6⟩ := W.fn f x hc.1.1
  refine Call_Name rfl (glob_sound W a.V a.S hc.1.2 e2 ?_)
  refine Calls.callWith_function (o := o) (fd := Calls.docDef dr.name dr.params dr.body dr.scope pm code doc) (evalArgs_any (trees_plain hc.2) (wpAny_mono (evArgs_sound X.H as a hc.2 h1) (fun us s₁ q1 => ⟨⟨q1.2.sim.base _ _ e3, e4⟩, ?_⟩) fun _ _ z => z))
  obtain ⟨g1, hE1⟩ := hE s₁ σ₁ q1.2
  exact X.hX f x vs us σ₁ σ' c π β s₁ E ad _ G l (a.fn ▸ hc.1.1) e2 hlaw hns h3 q1.1 q1.2.sim (a.ok q1.2).baseLe hfr g1 hE1
omit X in
theorem Fly.thrE {G : Heap} {env : Env} {outer : List Env} {cls : Value} {h₀ h : Heap} {a : Addr} (y : Fly G (env :: outer) cls [] h₀ a h) : Thr G (env :: outer) env.locals cls (own env) h₀ a h :=
  ⟨y.stay, y.new, y.frs, y.thr (L := env.locals).way, fun b o es ep e hd hb => y.tab b o es ep e hd (fun z => nomatch z)⟩
theorem x_call (f : Nat) (as : IEs) : XndE prog w A B fnm con mg sub C (.call f as) := by
  intro cx e env s ρ σ σ' π β c E Q G outer ht a hc he hfr g hE
  refine call_x (G := G) X f as ht a hc he hfr fun s₁ σ₁ ok => ?_
  have x1 := a.soK ok
  exact ⟨(g.step a.S x1 (a.ok ok).ns).toGC, fun a' h' tk y => hE.step a.S x1 a' h' tk y.thrE⟩

omit X in
theorem Ok.within {π β : List Addr} {L K D : Addr} {s s₂ s₄ : Shared} {σ σ₂ σ₄ : Sto} (x : Ok B π L β s s₂ σ σ₂) (y : Ok B (D :: π) K β s₂ s₄ σ₂ σ₄) (hK : s.heap.get? K = none) : Ok B π L β s s₄ σ σ₄ where
  sh := by obtain ⟨h1, t1, rfl⟩ := x.sh; obtain ⟨h2, t2, rfl⟩ := y.sh; exact ⟨h2, t2, rfl⟩
  sim := y.sim.public
  keep := fun b o e hb hL => (x.keep b o e hb hL).step fun o' e' => y.keep b o' e' (fun q => hb (x.mon b q)) (by rintro rfl; rw [hK] at e; cases e)
  ns := fun m hm => Kept.ns (x.ns m hm) fun o q => y.keep L o q (fun z => ns_not_grow x.sim (x.ns m hm) (growS_sub z)) (by rintro rfl; obtain ⟨_, _, _, e, _⟩ := hm; rw [hK] at e; cases e)
  mon := fun a q => x.mon a (y.mon a q)

omit X in
/-- the comprehension's own table is emptied -/
theorem Thr.but {G : Heap} {l : List Env} {L K : Addr} {cls fl : Value} {h₀ h h' : Heap} {a : Addr} (t : Thr G l L cls [] h₀ a h) (ht : ∃ a0, h.TracedAtW G a cls a0 fl) {m : Str → Option Value} (hK : h.Ns K m) (hG : G.get? K = none) (hl : ∀ e ∈ l, Lives G h₀ e ∧ e.frame ≠ some K) (hs : Heap.SameBut K h h') :
    Thr G l L cls [K] h₀ a h' ∧ ∃ a0, h'.TracedAtW G a cls a0 fl := by
  have hk : ∀ b o, b ≠ K → h.get? b = some o → h'.get? b = some o := fun b o hb q => hs.extBut b o hb q
  have tab : Tabs [K] h₀ h' := fun b o es ep e hd hb => by
    obtain ⟨sl, e1⟩ := t.tab b o es ep e hd fun z => nomatch z
    exact ⟨sl, hk b _ (fun z => hb (z ▸ .head _)) e1⟩
  obtain ⟨o, es, ep, ho, hd, _⟩ := hK
  have nf : ∀ {b : Addr} {ob : Obj} {vs : Array Value}, h.get? b = some ob → ob.data = .fields vs → b ≠ K := fun {b ob vs} e hf z => by
    rw [z, ho] at e; cases e; rw [hd] at hf; cases hf
  obtain ⟨a0, oe, vs, T, oT, ts, he, hcls, hde, h1, hnT, hTe, hT, hdT, h3⟩ := ht
  have ht' : h'.TracedAtW G a cls a0 fl := ⟨oe, vs, T, oT, ts, hk _ _ (nf he hde) he, hcls, hde, h1, hnT, hTe, hk _ _ (nf hT hdT) hT, hdT, h3⟩
  refine ⟨⟨fun b o e => hk b o (by rintro rfl; rw [hG] at e; cases e) (t.stay b o e), t.new, lives_fun fun e he => ?_, .inr ⟨a0, fl, ht'⟩, tab⟩, a0, ht'⟩
  obtain ⟨⟨hkd, L', m', hf, hGL, ⟨o', es', ep', ho', hd', r'⟩⟩, hne⟩ := hl e he
  obtain ⟨sl, e1⟩ := tab L' o' es' ep' ho' hd' fun z => hne (by rw [hf, List.mem_singleton.mp z])
  exact ⟨hkd, L', m', hf, hGL, _, es', ep', e1, hd', r'⟩

theorem comp_x {cx : Cx} {el iter : Expr} {x : Str} {conds : List Expr} {sc : Scope} {p q pos : Pos} {env : Env} {s : Shared} {ρ : Loc} {σ σ' : Sto} {π β : List Addr} {c : Nat} {E : Value → Shared → Prop} {k : Nat} {it : II} {ifs : IEs} {elt : IE} {use : Option (Value → Sem Unit)} {Q : Value → Shared → Prop} {G : Heap} {outer : List Env}
    (a : At fnm con B π cx env s ρ σ β) (h1 : plainI it = true) (h2 : chkI cx it iter = true) (h3 : chkScope x sc cx.scope = true) (h4 : chkFrees cx sc = true) (h5 : chkEs (cx.inner x k sc) ifs conds = true) (h6 : chkE (cx.inner x k sc) elt el = true)
    (he : ev sub C (.comp k it ifs elt) ρ σ = .exn c σ') (hfr : A.frames = some (env :: outer)) (g : GS B G env outer σ β s.heap) (hE : ThrE G env outer (.ref (cad mg c)) E s) :
    wpAny (model prog w) A (comprehension (.ListComp el [⟨.Name x p, iter, conds, 0⟩] sc q) sc env pos (newList []) false (eval iter env) use) Q E s := by
  obtain ⟨src, σ₁, e1, e2⟩ := bind_exn he
  split at e2
  · rename_i hlen
    have e3 := (bindX_exn e2).resolve_right fun ⟨_, _, _, h⟩ => nomatch h
    have hs := scopeOk h3
    have hv := chkFrees_ok h4
    refine wpAny_comprehension_free (g := ⟨.Name x p, iter, conds, 0⟩) (gs := []) (cl := closOf env sc.names) rfl (fun z => folded_none (notSetI h2)) (closureFor_is (frees_cells a.V a.F hs hv)) hs.kind hs.locs ?_
    refine wpAny_mono (evI_sound X.H it a h1 h2 e1) (fun xv s₁ r1 => ?_) fun _ _ z => z
    have a1 := a.ok r1.2
    have x1 := a.soK r1.2
    have g1 := g.step a.S x1 a1.ns
    have hE1 := hE.step a.S x1
    refine comp_run (k := k) (RR := fun acc K => compPost (model prog w) A E use Q acc K) X.H.hh a1 hs hv r1.1 hlen (fun cenv π' s₂ σ₂ σ₃ d o E' ai ef => comp_turn X.H (evIfs_sound X.H ifs) (ev_sound X.H elt) h5 h6 ai ef) (fun c' σ₂ σ₃ D K s₂ m d ho ai ef ok hK hn => ?_) e3 (by exact nofun) (fun _ _ h => by cases h)
    cases ho
    obtain ⟨b, σ₄, f1, f2⟩ := bind_exn ef
    refine wpAny_mono (evIfs_sound X.H ifs ai h5 f1) (fun b' s₃ r => ?_) fun _ _ z => z
    obtain ⟨rfl, r⟩ := r
    cases b' with
    | false => simp only [Bool.false_eq_true, if_false] at f2; cases f2
    | true =>
      refine ⟨rfl, ?_⟩
      simp only [if_true] at f2
      have f3 := (bindX_exn f2).resolve_right fun ⟨_, _, _, h⟩ => by obtain ⟨_, _, _, h⟩ := bind_exn h; cases h
      cases hcl : isCallE elt with
      | false => rw [hcl] at f3; exact absurd f3 noX_no
      | true =>
        rw [hcl] at f3
        cases elt <;> first | exact nof hcl | skip
        rename_i fn as
        refine call_x (G := G) X fn as rfl (ai.ok r) h6 f3 hfr fun s₄ σ₅ ok4 => ?_
        have okA := ok.within (r.trans ok4) hK
        have xA := a1.soK okA
        have gA := g1.step a1.S xA (a1.ok okA).ns
        refine ⟨gA.toGC, fun a' h' tk y => ?_⟩
        refine note_thr (s := { s₄ with heap := h', toks := tk }) hfr g.fr rfl y.thr fun h₁ t₁ tr => ?_
        have hn4 : s₄.heap.Ns K m := (r.trans ok4).ns m hn
        obtain ⟨ob, es, ep, hob, hd, rr⟩ := id hn4
        obtain ⟨sl, hob1⟩ := t₁.tab K ob es ep hob hd fun z => nomatch z
        have hn1 : h₁.Ns K m := ⟨_, es, ep, hob1, hd, rr⟩
        refine ⟨m, hn1, fun h₂ hsb cenv' _ => ?_⟩
        have hG : G.get? K = none := by
          cases hq : G.get? K with
          | none => rfl
          | some o => have := g1.stay K o hq; rw [hK] at this; cases this
        obtain ⟨t₂, tr₂⟩ := t₁.but tr hn1 hG (fun e he => ⟨gA.out e he, fun z => by
          obtain ⟨_, L, m', hf, _, hm⟩ := g1.out e he
          rw [z] at hf; cases hf
          obtain ⟨_, _, _, hz, _⟩ := hm
          rw [hK] at hz; cases hz⟩) hsb
        refine pass_thr (s := { s₄ with heap := h₂, toks := tk }) t₂ tr₂ fun h₃ t₃ => ?_
        obtain ⟨h1', t1', rfl⟩ := okA.sh
        refine hE1 a' h₃ tk ⟨t₃.stay, t₃.new, t₃.frs, t₃.way, fun b o es ep e hd hb => ?_⟩
        obtain ⟨sl, e4⟩ := (xA.tabs a1.S) b o es ep e hd hb
        obtain ⟨sl', e5⟩ := t₃.tab b _ es ep e4 hd fun z => by rw [List.mem_singleton.mp z, hK] at e; cases e
        exact ⟨sl', e5⟩
  · cases e2
theorem x_comp (k : Nat) (it : II) (ifs : IEs) (elt : IE) : XndE prog w A B fnm con mg sub C (.comp k it ifs elt) := by
  intro cx e env s ρ σ σ' π β c E Q G outer ht a hc he hfr g hE
  replace hc := any_ex hc
  obtain ⟨⟨el, x, iter, conds, sc⟩, hq, hc⟩ := hc
  obtain ⟨p1, p2, rfl⟩ := asComp_eq hq
  simp only [Bool.and_eq_true] at hc
  rw [eval_ListComp]
  exact comp_x X a hc.1.1.1.1.1 hc.1.1.1.1.2 hc.1.1.1.2 hc.1.1.2 hc.1.2 hc.2 he hfr g hE

omit X in
theorem x_none (ie : IE) (h : ∀ ρ σ c σ', ev sub C ie ρ σ ≠ .exn c σ') : XndE prog w A B fnm con mg sub C ie := by
  intro cx e env s ρ σ σ' π β c E Q G outer ht a hc he hfr g hE
  exact absurd he (h _ _ _ _)
theorem x_idx (y i : IE) (ih : XndE prog w A B fnm con mg sub C y) : XndE prog w A B fnm con mg sub C (.idx y i) := by
  intro cx e env s ρ σ σ' π β c E Q G outer ht a hc he hfr g hE
  replace hc := any_ex hc
  obtain ⟨⟨u, z⟩, hq, hc⟩ := hc
  obtain ⟨p1, rfl, hsl⟩ := asSub_eq hq
  simp only [Bool.and_eq_true] at hc
  rcases bindX_exn he with h | ⟨v1, σ₁, h1, h2⟩
  · exact Subscript_ (ih ht a hc.1 h hfr g hE)
  · exact absurd h2 (bind_no fun _ _ => d2_no)

theorem ev_x : ∀ ie : IE, XndE prog w A B fnm con mg sub C ie
  | .call f as => x_call X f as
  | .idx y i => x_idx X y i (ev_x y)
  | .lit d => x_none (sub := sub) (C := C) (.lit d) fun _ _ _ _ => nofun
  | .con y d => x_none (sub := sub) (C := C) (.con y d) fun _ _ _ _ => nofun
  | .var i => x_none (sub := sub) (C := C) (.var i) fun ρ σ c σ' => by
    show (match ρ[i]? with | some (some v) => Out.val v σ | _ => Out.bad) ≠ _
    split <;> exact nofun
  | .tup es => x_none (sub := sub) (C := C) (.tup es) fun _ _ _ _ => bind_no fun _ _ => nofun
  | .lst es => x_none (sub := sub) (C := C) (.lst es) fun _ _ _ _ => bind_no fun _ _ => nofun
  | .bin op y z => x_none (sub := sub) (C := C) (.bin op y z) fun _ _ _ _ => bind_no fun _ _ => bind_no fun _ _ => d2_no
  | .neg y => x_none (sub := sub) (C := C) (.neg y) fun _ _ _ _ => bind_no fun _ _ => d1_no
  | .not y => x_none (sub := sub) (C := C) (.not y) fun _ _ _ _ => bind_no fun _ _ => bind_no fun _ _ => nofun
  | .and es => x_none (sub := sub) (C := C) (.and es) fun _ _ _ _ => evAnd_no
  | .or es => x_none (sub := sub) (C := C) (.or es) fun _ _ _ _ => evOr_no
  | .cmp y cs => x_none (sub := sub) (C := C) (.cmp y cs) fun _ _ _ _ => bind_no fun _ _ => bind_no fun _ _ => nofun
  | .prim p y => x_none (sub := sub) (C := C) (.prim p y) fun _ _ _ _ => bind_no fun _ _ => d1_no
  | .prim2 p y z => x_none (sub := sub) (C := C) (.prim2 p y z) fun _ _ _ _ => bind_no fun _ _ => bind_no fun _ _ => d2_no
  | .isinst y t => x_none (sub := sub) (C := C) (.isinst y t) fun _ _ _ _ => bind_no fun _ _ => isin_no
  | .slFrom y z => x_none (sub := sub) (C := C) (.slFrom y z) fun _ _ _ _ => bind_no fun _ _ => bind_no fun _ _ => d2_no
  | .slTo y z => x_none (sub := sub) (C := C) (.slTo y z) fun _ _ _ _ => bind_no fun _ _ => bind_no fun _ _ => d2_no
  | .comp k it ifs elt => x_comp X k it ifs elt

omit X in
theorem xb_none (ie : IE) (h : ∀ ρ σ c σ', evB sub C ie ρ σ ≠ .exn c σ') : XndB prog w A B fnm con mg sub C ie := by
  intro cx e env s ρ σ σ' π β c E Q G outer ht a hc he hfr g hE
  exact absurd he (h _ _ _ _)
theorem xb_idx (y i : IE) : XndB prog w A B fnm con mg sub C (.idx y i) := by
  intro cx e env s ρ σ σ' π β c E Q G outer ht a hc he hfr g hE
  have h : ev sub C (.idx y i) ρ σ = .exn c σ' := by
    rcases bindX_exn he with h | ⟨v1, σ₁, h1, h2⟩
    · show Out.bindX _ _ = _; rw [h]; rfl
    · exact absurd h2 (bind_no fun _ _ => bind_no fun _ _ => ofOpt_no)
  have hp : isTrue e env (eval e env) = (do let v ← eval e env; standAt e.pos; holding [v] (truthy v)) := by
    replace hc := any_ex hc
    obtain ⟨⟨u, z⟩, hq, hc⟩ := hc
    obtain ⟨p, rfl, _⟩ := asSub_eq hq; rfl
  rw [hp]
  exact wpAny_bind (ev_x X _ ht a hc h hfr g hE)
theorem xb_not (y : IE) (ih : XndB prog w A B fnm con mg sub C y) : XndB prog w A B fnm con mg sub C (.not y) := by
  intro cx e env s ρ σ σ' π β c E Q G outer ht a hc he hfr g hE
  replace hc := any_ex hc
  obtain ⟨u, hq, hc⟩ := hc
  obtain ⟨p, rfl⟩ := asNot_eq hq
  show wpAny _ _ (do return !(← isTrue u env (eval u env))) _ _ _
  rcases bindX_exn he with h | ⟨v1, σ₁, h1, h2⟩
  · exact wpAny_bind (ih ht a hc h hfr g hE)
  · cases h2
theorem evB_x : ∀ ie : IE, XndB prog w A B fnm con mg sub C ie
  | .not y => xb_not X y (evB_x y)
  | .idx y i => xb_idx X y i
  | .and es => xb_none (sub := sub) (C := C) (.and es) fun _ _ _ _ => evAll_no
  | .or es => xb_none (sub := sub) (C := C) (.or es) fun _ _ _ _ => evAny_no
  | .cmp y cs => xb_none (sub := sub) (C := C) (.cmp y cs) fun _ _ _ _ => bind_no fun _ _ => evCmp_no
  | .lit d => xb_none (sub := sub) (C := C) (.lit d) fun _ _ _ _ => ofOpt_no
  | .con y d => xb_none (sub := sub) (C := C) (.con y d) fun _ _ _ _ => ofOpt_no
  | .var i => xb_none (sub := sub) (C := C) (.var i) fun ρ σ c σ' => by
    show (match ρ[i]? with | some (some v) => truthOf v σ | _ => Out.bad) ≠ _
    split
    · exact ofOpt_no
    · exact nofun
  | .call f as => xb_none (sub := sub) (C := C) (.call f as) fun _ _ _ _ => bind_no fun _ _ => bind_no fun _ _ => ofOpt_no
  | .prim p y => xb_none (sub := sub) (C := C) (.prim p y) fun _ _ _ _ => bind_no fun _ _ => bind_no fun _ _ => ofOpt_no
  | .isinst y t => xb_none (sub := sub) (C := C) (.isinst y t) fun _ _ _ _ => bind_no fun _ _ => bind_no fun _ _ => ofOpt_no
  | .tup u0 => xb_none (sub := sub) (C := C) (.tup u0) fun _ _ _ _ => nofun
  | .lst u0 => xb_none (sub := sub) (C := C) (.lst u0) fun _ _ _ _ => nofun
  | .bin u0 u1 u2 => xb_none (sub := sub) (C := C) (.bin u0 u1 u2) fun _ _ _ _ => nofun
  | .neg u0 => xb_none (sub := sub) (C := C) (.neg u0) fun _ _ _ _ => nofun
  | .prim2 u0 u1 u2 => xb_none (sub := sub) (C := C) (.prim2 u0 u1 u2) fun _ _ _ _ => nofun
  | .slFrom u0 u1 => xb_none (sub := sub) (C := C) (.slFrom u0 u1) fun _ _ _ _ => nofun
  | .slTo u0 u1 => xb_none (sub := sub) (C := C) (.slTo u0 u1) fun _ _ _ _ => nofun
  | .comp u0 u1 u2 u3 => xb_none (sub := sub) (C := C) (.comp u0 u1 u2 u3) fun _ _ _ _ => nofun
end
end Mine

/-! ## MExS -/
namespace Mine
open PySem PyProof.Rows

section
variable {prog : Program} {w : World} {A : Around} {B : Heap} {Δ : Nat → Option Fn} {fnm : Nat → Option Str} {con : Con} {mg mb : Str → Option Value} {sub : Nat → Nat → Bool} {C : Oracle}
variable (X : HypX prog w A B Δ fnm con mg mb C)
include X

theorem x_raise (c : Nat) (m : List Nat) : XndS prog w A B fnm con mg sub C (.raise c m) := by
  intro cx x env s ρ ρ' σ σ' π β c' E Q G outer ht hN a hc he hfr g hE
  replace hc := any_ex hc
  obtain ⟨⟨y, z⟩, hq, hc⟩ := hc
  obtain ⟨p, q, r, rfl⟩ := asRaise_eq hq
  simp only [Bool.and_eq_true, beq_iff_eq] at hc
  have he : SOut.exn c ρ σ = .exn c' ρ' σ' := he
  cases he
  obtain ⟨D, bm, e1, O, _⟩ := X.K.cls c y hc.1.1
  have hcad := cad_of hc.1.1 e1
  have W : Wd prog w B Δ cx.fn cx.con mg mb := a.fn ▸ a.con.1 ▸ X.H.W
  obtain ⟨T, N, nm, qn, bs, hdct, sn, sub', ab, col, dd, k0, k1, k2, k3, k5, mN, hC, hNs, hmN⟩ := id O
  have hst := trees_cons (env := env) (xs := []) (pos := q) (not_starred hc.2)
  refine wpAny_Raise_call_subU (C := D) (nm := nm) (q := qn) (N := N) (bs := bs) (bm := bm) (hdct := hdct) (sn := sn) (sub := sub') (ab := ab) (col := col) (dd := dd) (k0 := k0) (k1 := k1) (k2 := k2) (k3 := k3) (k5 := k5) (mN := mN)
    F.excBase_ValueError (by decide +kernel) F.excBase_ValueError (T.q.tail.hasType (by decide +kernel)) X.H.hh (by rw [hst]; rfl) (hmN _ (.tail _ (.head _))) (glob_sound W a.V a.S hc.1.2 e1 ⟨rfl, ?_⟩)
  rw [hst]
  refine Calls.evalArgs_plain (Calls.spliced_cons (wpAny_mono (ev_sound (sub := sub) X.H (.lit (.str m)) a hc.2 rfl) (fun v s₁ r1 => Calls.spliced_nil ?_) fun _ _ z => z))
  have a1 := a.ok r1.2
  have x1 := a.soK r1.2
  have g1 := g.step a.S x1 a1.ns
  have hE1 := hE.step a.S x1
  refine ⟨rfl, (by show 1 ≤ 2 ^ 24; decide), a1.S.base _ _ hC, hNs.keeps a1.S.base, (T.keeps a1.S.base).q.tail, fun h' e hm => ?_⟩
  obtain ⟨t, he', _, _⟩ := hm.there
  have := hE1 e h' s₁.toks ⟨fun b o q => hm.keeps b o (g1.stay b o q), ?_, (lives_fun g1.out).of_keeps fun b o hb _ => ⟨o, hm.keeps b o hb, rfl⟩, .inl ⟨_, _, _, he', by rw [hcad], rfl, rfl, rfl⟩, fun b o es ep e _ _ => ⟨o.slots, hm.keeps b o e⟩⟩
  · exact this
  · cases hq : G.get? e with
    | none => rfl
    | some o => have := g1.stay e o hq; rw [hm.new] at this; cases this

theorem x_assign (i : Nat) (e : IE) : XndS prog w A B fnm con mg sub C (.assign i e) := by
  intro cx x env s ρ ρ' σ σ' π β c E Q G outer ht hN a hc he hfr g hE
  replace hc := any_ex hc
  obtain ⟨⟨y, v⟩, hq, hc⟩ := hc
  obtain ⟨p1, p2, rfl⟩ := asAssign_eq hq
  simp only [Bool.and_eq_true, beq_iff_eq] at hc
  rw [exq_assign] at he
  rcases stm_exn he with h | ⟨_, _, _, h⟩
  · rcases swaps_of (x := y) (p := p1) (line := p2.line) (env := env) hc.2 with hs | ⟨hs, k, it, ifs, elt, el, y', iter, conds, sc, q1, q2, rfl, rfl⟩
    · rw [exec_Assign_Name _ _ _ _ _ hs]
      exact wpAny_bind (wpAny_standAt (wpAny_bind (ev_x X e ht a hc.2 h hfr g hE)))
    · rw [exec_Assign_Name_used _ _ _ _ hs]
      refine wpAny_bind (wpAny_standAt (wpAny_bind ?_))
      show wpAny _ A (do let _ ← comprehension (.ListComp el [⟨.Name y' q1, iter, conds, 0⟩] sc q2) sc env _ (newList []) false (eval iter env) (some (assign (.Name y p1) env))) _ _ s
      have hcc : (plainI it && chkI cx it iter && chkScope y' sc cx.scope && chkFrees cx sc && chkEs (cx.inner y' k sc) ifs conds && chkE (cx.inner y' k sc) elt el) = true := hc.2
      simp only [Bool.and_eq_true] at hcc
      exact wpAny_bind (comp_x X a hcc.1.1.1.1.1 hcc.1.1.1.1.2 hcc.1.1.1.2 hcc.1.1.2 hcc.1.2 hcc.2 h hfr g hE)
  · cases h
theorem x_drop (e : IE) : XndS prog w A B fnm con mg sub C (.drop e) := by
  intro cx x env s ρ ρ' σ σ' π β c E Q G outer ht hN a hc he hfr g hE
  replace hc := any_ex hc
  obtain ⟨v, hq, hc⟩ := hc
  obtain ⟨p1, rfl⟩ := asExpr_eq hq
  replace hc := any_ex hc
  obtain ⟨q, hq2, hc⟩ := hc
  obtain ⟨y, xs⟩ := q
  obtain ⟨p2, p3, rfl⟩ := asCall_eq hq2
  rw [exq_drop] at he
  rcases stm_exn he with h | ⟨v, _, _, h⟩
  · have hk : env.scope.kind = .function := a.V.scope ▸ a.V.kind
    have hint : interactive env = false := by unfold interactive; rw [hk]; rfl
    exact wpAny_Expr_any (ev_x X e ht a hc h hfr g hE) hint rfl
  · exfalso
    split at h <;> cases h
theorem x_ret (e : IE) : XndS prog w A B fnm con mg sub C (.ret e) := by
  intro cx x env s ρ ρ' σ σ' π β c E Q G outer ht hN a hc he hfr g hE
  replace hc := any_ex hc
  obtain ⟨v, hq, hc⟩ := hc
  obtain ⟨p1, rfl⟩ := asRet_eq hq
  rw [exq_ret] at he
  rcases stm_exn he with h | ⟨v1, _, _, h⟩
  · exact wpAny_Return_some (ev_x X e ht a hc h hfr g hE)
  · rcases stm_exn h with h | ⟨_, _, _, h⟩
    · exact absurd h toDat_no
    · cases h
theorem x_ite (c : IE) (u v : ISs) (ihu : XndSs prog w A B fnm con mg sub C u) (ihv : XndSs prog w A B fnm con mg sub C v) : XndS prog w A B fnm con mg sub C (.ite c u v) := by
  intro cx x env s ρ ρ' σ σ' π β c' E Q G outer ht hN a hc he hfr g hE
  replace hc := any_ex hc
  obtain ⟨⟨t, xs, ys⟩, hq, hc⟩ := hc
  obtain ⟨p1, rfl⟩ := asIf_eq hq
  simp only [Bool.and_eq_true] at hc
  rw [exq_ite] at he
  rcases stm_exn he with h | ⟨b, σ₁, h1, h2⟩
  · exact wpAny_If (evB_x X c ht a hc.1.1 h hfr g hE)
  · refine wpAny_If (wpAny_mono (evB_sound X.H c a hc.1.1 h1) (fun b' s₁ r => ?_) fun _ _ z => z)
    obtain ⟨rfl, ok⟩ := r
    have a1 := a.ok ok
    have x1 := a.soK ok
    cases b' with
    | true =>
      simp only [if_true] at h2 ⊢
      exact ihu ht hN a1 hc.1.2 h2 hfr (g.step a.S x1 a1.ns) (hE.step a.S x1)
    | false =>
      simp only [Bool.false_eq_true, if_false] at h2 ⊢
      exact ihv ht hN a1 hc.2 h2 hfr (g.step a.S x1 a1.ns) (hE.step a.S x1)

omit X in
/-- the way out of a loop -/
theorem ThrE.loop {G : Heap} {env : Env} {outer : List Env} {cls : Value} {E : Value → Shared → Prop} {s : Shared} {M : Model} {A : Around} (hfr : A.frames = some (env :: outer)) (hf : env.frame = some env.locals) (t : ThrE G env outer cls E s) :
    ThrE G env outer cls (notedBy M A env fun e s' => cameBackBy M A env E e s') s := fun a h tk y =>
  loop_thr (s := { s with heap := h, toks := tk }) hfr hf y fun h' y' => t a h' tk y'

/-- a loop over an iterator that has just been made -/
theorem for_loop_x {cx : Cx} {env : Env} {s s₁ : Shared} {ρ ρ' : Loc} {σ σ₁ σ' : Sto} {π β : List Addr} {E : Value → Shared → Prop} {Q : Flow → Shared → Prop} {G : Heap} {outer : List Env} {c : Nat} {i : Nat} {nm : Str} {p1 : Pos} {xs : List Stmt} {x : ISs} {src : Src} {K : Kd} {ob : Obj} (ihx : XndSs prog w A B fnm con mg sub C x) (ht : cx.top = false) (hN : Named cx env) (a : At fnm con B π cx env s ρ σ β)
    (hx : cx.name i = some nm) (hv : cx.isVar nm = true) (hb : chkSs cx x xs = true) (ok1 : Ok B π env.locals β s s₁ σ σ₁) (hK : K.Is s₁.heap π β σ₁ src) (hst : K.St (s₁.heap.push ob) s₁.heap.objs.size 0)
    (he : forL src (fun d ρ σ => exs sub C x (ρ.set i (some (.dat d))) σ) src.items ρ σ₁ = .exn c ρ' σ') (hfr : A.frames = some (env :: outer)) (g : GS B G env outer σ β s.heap) (hE : ThrE G env outer (.ref (cad mg c)) E s) :
    codeAny (model prog w) A (.forLoop (.Name nm p1) (.ref s₁.heap.objs.size) xs [] env) (fun r s' => match r with
      | .ok f => Q f s'
      | .error e => cameBackBy (model prog w) A env E e s') { s₁ with heap := s₁.heap.push ob } := by
  have a1 := a.ok ok1
  have x1 := a.soK ok1
  generalize hf0 : (fun d ρ σ => exs sub C x (List.set ρ i (some (Val.dat d))) σ) = bodyF at he
  have hIdead : s₁.heap.get? s₁.heap.objs.size = none := Heap.get?_none_of_le (Nat.le_refl _)
  generalize hI : s₁.heap.objs.size = I at *
  have hIs : s.heap.get? I = none := dead_of x1.alive hIdead
  have hIown : I ∉ own env := fun q => by have := a.own_alive hN q; rw [hIs] at this; cases this
  have hIπ : I ∉ π := fun q => by have := (a.S.priv I q).1; rw [hIs] at this; cases this
  have hBI : B.get? I = none := by
    cases q : B.get? I with
    | none => rfl
    | some o => have := a.S.base I o q; rw [hIs] at this; cases this
  have fI : ∀ {h : Heap} {j : Nat} {σ₂ : Sto} {β₂ : List Addr}, Sim B π h σ₂ β₂ → K.St h I j → Foreign B π β₂ env h I := fun {h} {j} {σ₂} {β₂} S hst => by
    obtain ⟨o₀, vs₀, hI0, hd₀⟩ := hst.fields
    refine ⟨.inr (fun o xs n' ho hd => by rw [hI0] at ho; cases ho; rw [hd₀] at hd; cases hd), (fun o v ho hd => by rw [hI0] at ho; cases ho; rw [hd₀] at hd; cases hd), fun q => hIown (by rw [q]; exact List.mem_cons_self), fun q => ?_, hBI⟩
    obtain ⟨k, hk, e⟩ := List.mem_iff_getElem.mp q
    obtain ⟨vs, ⟨n, hp⟩, _⟩ := S.ent k (σ₂[k]'(by rw [← S.len]; exact hk)) I (List.getElem?_eq_getElem _) (by rw [List.getElem?_eq_getElem hk, e])
    rw [hI0] at hp; cases hp; cases hd₀
  refine codeAny_forLoop (fun n s₂ => ∃ j ρ₂ σ₂ β₂, At fnm con B π cx env s₂ ρ₂ σ₂ β₂ ∧ SOk B π env s s₂ σ σ₂ β β₂ ∧ K.Is s₂.heap π β₂ σ₂ src ∧ K.St s₂.heap I j ∧ j ≤ src.items.length ∧ n = src.items.length + 1 - j ∧ forL src bodyF (src.items.drop j) ρ₂ σ₂ = .exn c ρ' σ') (fun n s₂ hinv => ?_) (src.items.length + 1) ?_
  · obtain ⟨j, ρ₂, σ₂, β₂, a₂, x₂, hK₂, hst₂, hj, hn, h₂⟩ := hinv
    have f₂ := fI a₂.S hst₂
    by_cases hlt : j < src.items.length
    · have hd : src.items.drop j = src.items[j] :: src.items.drop (j + 1) := List.drop_eq_getElem_cons hlt
      rw [hd] at h₂
      simp only [forL] at h₂
      split at h₂
      · rename_i hstill
        refine next_item a₂.S hstill hK₂ hst₂ (List.getElem?_eq_getElem hlt) fun v' h₃ tk₃ rv hst₃ hk₃ => ?_
        have a₃ : At fnm con B π cx env { s₂ with heap := h₃, toks := tk₃ } ρ₂ σ₂ β₂ := a₂.poke' f₂ hk₃ hIπ
        have x₃ := x₂.poke (s₂ := { s₂ with heap := h₃, toks := tk₃ }) hIs ⟨_, _, rfl⟩ a₃.S hk₃
        have sk₃ : SeqKeep (grow π σ₂ β₂) (grow π σ₂ β₂) s₂.heap h₃ := f₂.seqKeep hk₃
        refine wpAny_assign_Name (store_sound (v := .dat src.items[j]) a₃.V a₃.F a₃.S hx hv rv fun s₄ F₄ x₄ rel₄ => ?_)
        have a₄ : At fnm con B π cx env s₄ (ρ₂.set i (some (.dat src.items[j]))) σ₂ β₂ := ⟨a₃.fn, a₃.con, a₃.V, F₄, x₄.sim⟩
        have x₄' := x₃.trans x₄
        have keepI : ∀ {s₅ s₆ : Shared} {σ₅ σ₆ : Sto} {β₅ β₆ : List Addr} {q : Nat}, Sim B π s₅.heap σ₅ β₅ → SOk B π env s₅ s₆ σ₅ σ₆ β₅ β₆ → K.St s₅.heap I q → K.St s₆.heap I q := fun {s₅ s₆ σ₅ σ₆ β₅ β₆ q} S x hst => hst.kept fun o ho => x.keep I o ho (fun z => (fI S hst).sto (growS_sub z)) hIown
        have keepK : ∀ {s₅ s₆ : Shared} {ρ₅ : Loc} {σ₅ σ₆ : Sto} {β₅ β₆ : List Addr}, At fnm con B π cx env s₅ ρ₅ σ₅ β₅ → SOk B π env s₅ s₆ σ₅ σ₆ β₅ β₆ → K.Is s₅.heap π β₅ σ₅ src → K.Is s₆.heap π β₆ σ₆ src := fun {s₅ s₆ ρ₅ σ₅ σ₆ β₅ β₆} aa x hK => by
          have sk := x.seqK aa hN
          obtain ⟨β', rfl, _⟩ := x.ext
          exact hK.mono sk
        have hst₄ := keepI a₃.S x₄ hst₃
        have hK₄ := keepK a₃ x₄ (hK₂.mono' sk₃)
        rcases sbind_exn h₂ with h5 | ⟨ρ₅, σ₅, h5, h6⟩
        · rw [← hf0] at h5
          exact ihx ht hN a₄ hb h5 hfr (g.step a.S x₄' a₄.ns) ((hE.step a.S x₄').loop hfr g.fr)
        · rw [← hf0] at h5
          replace h5 : exs sub C x (ρ₂.set i (some (.dat src.items[j]))) σ₂ = _ := h5
          refine wpAny_mono (exs_sound X.H x hN a₄ hb (by rw [h5]; trivial)) (fun f s₅ q => ?_) fun _ _ z => z
          rw [h5] at q
          obtain ⟨rfl, β₅, a₅, x₅⟩ := q
          exact ⟨src.items.length + 1 - (j + 1), by omega, j + 1, ρ₅, σ₅, β₅, a₅, x₄'.trans x₅, keepK a₄ x₅ hK₄, keepI a₄.S x₅ hst₄, by omega, rfl, h6⟩
      · cases h₂
    · rw [List.drop_of_length_le (by omega)] at h₂
      simp only [forL] at h₂
      split at h₂ <;> cases h₂
  · have hkk : ∀ b o, s₁.heap.get? b = some o → (s₁.heap.push ob).get? b = some o := fun b o q => Heap.get?_push_of_some _ q
    have a2 : At fnm con B π cx env { s₁ with heap := s₁.heap.push ob } ρ σ₁ β := a1.keeps hkk
    refine ⟨0, ρ, σ₁, β, a2, x1.poke hIs ⟨_, _, rfl⟩ a2.S (fun b o _ q => hkk b o q), hK.mono' (fun b o xs n ho hd ha => ⟨ha, hkk b o ho⟩), hst, by omega, by omega, by simpa using he⟩

theorem x_for1 (i : Nat) (it : II) (u : ISs) (ihu : XndSs prog w A B fnm con mg sub C u) : XndS prog w A B fnm con mg sub C (.for1 i it u) := by
  intro cx x env s ρ ρ' σ σ' π β c E Q G outer ht hN a hc he hfr g hE
  replace hc := any_ex hc
  obtain ⟨⟨nm, iter, xs⟩, hq, hc⟩ := hc
  obtain ⟨p1, p2, rfl⟩ := asFor1_eq hq
  simp only [Bool.and_eq_true, beq_iff_eq] at hc
  obtain ⟨⟨⟨⟨hx, hv⟩, hpl⟩, hit⟩, hb⟩ := hc
  rw [exq_for1] at he
  rcases stm_exn he with h | ⟨src, σ₁, h1, h2⟩
  · exact absurd h evI_no
  · split at h2
    · rename_i hlen
      refine wpAny_For ?_ (fun z => folded_none (notSetI hit))
      cases hp : plainI it with
      | true =>
        refine wpAny_mono (evI_sound X.H it a hp hit h1) (fun xv s₁ r1 => ?_) fun _ _ z => z
        exact iter_start (a.ok r1.2).S r1.1 fun K ob hK hst hfree => for_loop_x X ihu ht hN a hx hv hb r1.2 hK hst h2 hfr g hE
      | false =>
        cases it <;> cases hp
    · cases h2

omit X in
theorem xs_none (st : IS) (h : ∀ ρ σ c ρ' σ', ex sub C st ρ σ ≠ .exn c ρ' σ') : XndS prog w A B fnm con mg sub C st := by
  intro cx x env s ρ ρ' σ σ' π β c E Q G outer ht hN a hc he hfr g hE
  exact absurd he (h _ _ _ _ _)
omit X in
theorem xs_chk (st : IS) (h : ∀ cx x, chkS cx st x = false) : XndS prog w A B fnm con mg sub C st := by
  intro cx x env s ρ ρ' σ σ' π β c E Q G outer ht hN a hc he hfr g hE
  rw [h] at hc; cases hc
theorem xss_cons (st : IS) (ss : ISs) (ih : XndS prog w A B fnm con mg sub C st) (ihs : XndSs prog w A B fnm con mg sub C ss) : XndSs prog w A B fnm con mg sub C (.cons st ss) := by
  intro cx xs env s ρ ρ' σ σ' π β c E Q G outer ht hN a hc he hfr g hE
  cases xs with
  | nil => simp [chkSs] at hc
  | cons x xs =>
    have hc := Bool.and_eq_true_iff.mp (show (_ && _) = true from hc)
    rw [exq_cons] at he
    rcases sbind_exn he with h | ⟨ρ₁, σ₁, h1, h2⟩
    · exact wpAny_execs_cons (ih ht hN a hc.1 h hfr g hE)
    · refine wpAny_execs_cons (wpAny_mono (ex_sound X.H st hN a hc.1 (by rw [h1]; trivial)) (fun f s₁ q => ?_) fun _ _ z => z)
      rw [h1] at q
      obtain ⟨rfl, β₁, a₁, x₁⟩ := q
      exact ihs ht hN a₁ hc.2 h2 hfr (g.step a.S x₁ a₁.ns) (hE.step a.S x₁)
omit X in
theorem xss_nil : XndSs prog w A B fnm con mg sub C .nil := by
  intro cx xs env s ρ ρ' σ σ' π β c E Q G outer ht hN a hc he hfr g hE
  cases (show SOut.next ρ σ = .exn c ρ' σ' from he)
end

section
variable {prog : Program} {w : World} {A : Around} {B : Heap} {Δ : Nat → Option Fn} {fnm : Nat → Option Str} {con : Con} {mg mb : Str → Option Value} {sub : Nat → Nat → Bool} {C : Oracle}
theorem evs_no {c : Nat} {σ' : Sto} : ∀ {es : IEs} {ρ : Loc} {σ : Sto}, evs sub C es ρ σ ≠ .exn c σ'
  | .nil, _, _ => nofun
  | .cons e es, ρ, σ => bind_no fun v σ₁ => bind_no fun d σ₂ => bind_no fun ds σ₃ => nofun
theorem newlst_no (i : Nat) (es : IEs) (ρ : Loc) (σ : Sto) (c : Nat) (ρ' : Loc) (σ' : Sto) : ex sub C (.newlst i es) ρ σ ≠ .exn c ρ' σ' := fun h => by
  rw [exq_newlst] at h
  rcases stm_exn h with h | ⟨_, _, _, h⟩
  · exact evs_no h
  · cases h
theorem append_no (i : Nat) (e : IE) (ρ : Loc) (σ : Sto) (c : Nat) (ρ' : Loc) (σ' : Sto) : ex sub C (.append i e) ρ σ ≠ .exn c ρ' σ' := fun h => by
  rw [exq_append] at h
  split at h
  · obtain ⟨_, _, _, h⟩ := stmK_exn h
    split at h
    · split at h
      · split at h <;> cases h
      · cases h
    · cases h
  · cases h
variable (X : HypX prog w A B Δ fnm con mg mb C)
include X
mutual
theorem ex_x : ∀ st : IS, XndS prog w A B fnm con mg sub C st
  | .assign i e => x_assign X i e
  | .newlst i es => xs_none (.newlst i es) (newlst_no i es)
  | .append i e => xs_none (.append i e) (append_no i e)
  | .drop e => x_drop X e
  | .ret e => x_ret X e
  | .ite c u v => x_ite X c u v (exs_x u) (exs_x v)
  | .for1 i it u => x_for1 X i it u (exs_x u)
  | .raise c m => x_raise X c m
  | .tryc f as hs => xs_chk (.tryc f as hs) fun _ _ => rfl
theorem exs_x : ∀ ss : ISs, XndSs prog w A B fnm con mg sub C ss
  | .nil => xss_nil
  | .cons st ss => xss_cons X st ss (ex_x st) (exs_x ss)
end
end
end Mine

/-! ## MTry -/
namespace Mine
open PySem PyProof.Rows

/-! ## what stands whatever comes: all but the tables that are younger than the base -/
open Classical in
noncomputable def cut (B h : Heap) : Heap := { h with objs := h.objs.mapIdx fun b o => if (∃ es ep, o.data = .dict es ep) ∧ B.get? b ≠ some o then { o with data := .freed } else o }
theorem cut_get {B h : Heap} {b : Addr} {o : Obj} : (cut B h).get? b = some o ↔ h.get? b = some o ∧ ((∀ es ep, o.data ≠ .dict es ep) ∨ B.get? b = some o) := by
  rw [Heap.get?_some_iff, Heap.get?_some_iff]
  unfold cut
  simp only [Array.getElem?_mapIdx]
  cases hq : h.objs[b]? with
  | none => simp
  | some o' =>
    simp only [Option.map_some, Option.some.injEq]
    split
    · rename_i hc
      constructor
      · rintro ⟨rfl, hf⟩
        simp [Obj.isFreed] at hf
      · rintro ⟨⟨rfl, hf⟩, hd | hb⟩
        · obtain ⟨⟨es, ep, h1⟩, _⟩ := hc
          exact absurd h1 (hd es ep)
        · exact absurd hb hc.2
    · rename_i hc
      constructor
      · rintro ⟨rfl, hf⟩
        refine ⟨⟨rfl, hf⟩, ?_⟩
        by_cases hd : ∃ es ep, o'.data = .dict es ep
        · exact .inr (Classical.byContradiction fun hb => hc ⟨hd, hb⟩)
        · exact .inl fun es ep q => hd ⟨es, ep, q⟩
      · rintro ⟨⟨rfl, hf⟩, _⟩
        exact ⟨rfl, hf⟩
theorem cut_none {B h : Heap} {b : Addr} {m : Str → Option Value} (hn : h.Ns b m) (hB : B.get? b = none) : (cut B h).get? b = none := by
  cases e : (cut B h).get? b with
  | none => rfl
  | some o =>
    obtain ⟨h1, h2⟩ := cut_get.mp e
    obtain ⟨o', es, ep, ho, hd, _⟩ := hn
    rw [h1] at ho; cases ho
    rcases h2 with h2 | h2
    · exact absurd hd (h2 es ep)
    · rw [hB] at h2; cases h2

section
variable {B : Heap} {env : Env} {s : Shared} {σ : Sto} {π β : List Addr} {cx : Cx} {ρ : Loc} {fnm : Nat → Option Str} {con : Con}

/-- what stands, seen behind an exception that was caught -/
theorem after_sok {h : Heap} {tk : Nat} (a : At fnm con B π cx env s ρ σ β) (hN : Named cx env) (stay : (cut B s.heap).StaysIn h) (tab : Tabs (own env) s.heap h) (hn : ∃ m, h.Ns env.locals m) : SOk B π env s { s with heap := h, toks := tk } σ σ β β := by
  have ex : ∀ b o, s.heap.get? b = some o → (∀ es ep, o.data ≠ .dict es ep) → h.get? b = some o := fun b o e hd => stay b o (cut_get.mpr ⟨e, .inl hd⟩)
  have kp : ∀ b o, s.heap.get? b = some o → b ∉ own env → Kept h b o := fun b o e ho => by
    by_cases hd : ∃ es ep, o.data = .dict es ep
    · obtain ⟨es, ep, hd⟩ := hd
      exact ⟨tab b o es ep e hd ho, fun hn => absurd hd (hn es ep)⟩
    · exact .of (ex b o e fun es ep q => hd ⟨es, ep, q⟩)
  have al : ∀ b, (s.heap.get? b).isSome = true → (h.get? b).isSome = true := fun b hb => by
    obtain ⟨o, ho⟩ := Option.isSome_iff_exists.mp hb
    by_cases hw : b ∈ own env
    · unfold own at hw
      rcases List.mem_cons.mp hw with rfl | hw
      · obtain ⟨m, o', _, _, ho', _⟩ := hn
        rw [ho']; rfl
      · obtain ⟨p, hp, rfl⟩ := List.mem_map.mp hw
        obtain ⟨i, h1, h2, h3⟩ := hN p hp
        obtain ⟨c, o', hc, ⟨ob, ho', hd'⟩, _⟩ := a.F.cell i p.1 h1 h2
        rw [h3] at hc; cases hc
        rw [ex _ ob ho' fun es ep q => by rw [hd'] at q; cases q]; rfl
    · exact (kp b o ho hw).is
  have sk : SeqKeep (grow π σ β) (grow π σ β) s.heap h := fun b o xs n ho hd hb => ⟨hb, ex b o ho fun es ep q => by rw [hd] at q; cases q⟩
  refine ⟨⟨h, tk, rfl⟩, ⟨a.S.len, a.S.nodup, fun b o e => stay b o (cut_get.mpr ⟨a.S.base b o e, .inr e⟩), a.S.new, fun k e p h1 h2 => ?_, fun p hp => ⟨al p (a.S.priv p hp).1, (a.S.priv p hp).2⟩⟩, fun b o e _ ho => kp b o e ho, fun b hb => .inl hb, ⟨[], by simp, fun _ h => nomatch h⟩, al⟩
  obtain ⟨vs, ⟨n, hp⟩, hr⟩ := a.S.ent k e p h1 h2
  exact ⟨vs, ⟨n, ex p _ hp fun es ep q => nomatch q⟩, Reps.mono sk hr⟩
end

/-! ## a handler -/
theorem rawHnd_eq {x : ExceptHandler} {f : Option Expr × Option Str × List Stmt} (h : rawHnd x = some f) : ∃ p, x = .ExceptHandler f.1 f.2.1 f.2.2 p := by
  cases x; cases h; exact ⟨_, rfl⟩
theorem asHnd_eq {x : ExceptHandler} {X n : Str} {v : Expr} (h : asHnd x = some (X, n, v)) : ∃ p q r, x = .ExceptHandler (some (.Name X p)) (some n) [.Return (some v) q] r := by
  obtain ⟨⟨t, nm, b⟩, h1, h2⟩ := bnd h
  obtain ⟨r, rfl⟩ := rawHnd_eq h1
  obtain ⟨t', h3, h4⟩ := bnd h2
  obtain ⟨n', h5, h6⟩ := bnd h4
  obtain ⟨st, h7, h8⟩ := bnd h6
  obtain ⟨X', h9, h10⟩ := bnd h8
  obtain ⟨v', h11, h12⟩ := Option.map_eq_some_iff.mp h10
  cases h12
  obtain ⟨p, h13⟩ := asName_eq h9
  obtain ⟨q, h14⟩ := asRet_eq h11
  refine ⟨p, q, r, ?_⟩
  show ExceptHandler.ExceptHandler t nm b r = _
  rw [show t = _ from h3, show nm = _ from h5, show b = _ from one_eq h7, h13, h14]
theorem rawTry_eq {st : Stmt} {f : List Stmt × List ExceptHandler × List Stmt × List Stmt} (h : rawTry st = some f) : ∃ p, st = .Try f.1 f.2.1 f.2.2.1 f.2.2.2 p := by
  cases st <;> first | exact nos h | (cases h; exact ⟨_, rfl⟩)

/-- the state in a handler: the exception has a name -/
structure HS (B : Heap) (cx : Cx) (env : Env) (n : Str) (ρ : Loc) (C a : Addr) (h : Heap) : Prop where
  base : ∀ b o, B.get? b = some o → h.get? b = some o
  loc : ∃ m, h.Ns env.locals m ∧ m n = some (.ref a) ∧ ∀ i y b, cx.name i = some y → cx.scope.names.lookup y = some .local → y ≠ n → ρ[i]? = some (some (.dat (.bool b))) → m y = some (.bool b)
  exc : ∃ oe, h.get? a = some oe ∧ oe.cls = .ref C

section
variable {prog : Program} {w : World} {A : Around} {B : Heap} {Δ : Nat → Option Fn} {mg mb : Str → Option Value} {E : Value → Shared → Prop} {cx : Cx} {env : Env} {s : Shared} {ρ : Loc} {n : Str} {C a : Addr} {c : Nat} {X0 : Str}

theorem glob_b {M : Model} {x : Str} {pos : Pos} {v : Value} {Q : Value → Shared → Prop} (W : Wd prog w B Δ cx.fn cx.con mg mb) (V : EnvOk cx env) (hB : ∀ b o, B.get? b = some o → s.heap.get? b = some o) (hx : cx.isGlob x = true) (hv : mg x = some v) (h : Q v s) :
    wpAny M A (eval (.Name x pos) env) Q E s := by
  simp only [Cx.isGlob, Bool.and_eq_true, beq_iff_eq, Bool.not_eq_true'] at hx
  refine Calls.Name_function_global (V.scope ▸ V.kind) (by show env.scope.names.lookup x = _; rw [V.scope]; exact hx.1) ?_ hx.2
  exact Calls.loadGlobal_global (by rw [V.globals]; exact W.g.keeps hB) hv h
theorem bi_b {M : Model} {x : Str} {pos : Pos} {v : Value} {Q : Value → Shared → Prop} (W : Wd prog w B Δ cx.fn cx.con mg mb) (V : EnvOk cx env) (hB : ∀ b o, B.get? b = some o → s.heap.get? b = some o) (hx : cx.isGlob x = true) (hv : (x, v) ∈ bis) (h : Q v s) :
    wpAny M A (eval (.Name x pos) env) Q E s := by
  simp only [Cx.isGlob, Bool.and_eq_true, beq_iff_eq, Bool.not_eq_true'] at hx
  refine Calls.Name_function_global (V.scope ▸ V.kind) (by show env.scope.names.lookup x = _; rw [V.scope]; exact hx.1) ?_ hx.2
  have hb := W.bi x v hv
  exact Calls.loadGlobal_builtin (by rw [V.globals]; exact W.g.keeps hB) hb.1 (by rw [V.builtins]; exact W.b.keeps hB) hb.2 h

theorem not_star_name {x : Str} {p : Pos} : ∀ z r, Expr.Name x p ≠ .Starred z r := fun _ _ h => nomatch h

abbrev Says (b : Bool) (s : Shared) (v : Value) (s' : Shared) : Prop := v = .bool b ∧ ∃ t, s' = { s with toks := t }

theorem atom_sound {at' : Atom} {x : Expr} {b : Bool} (W : Wd prog w B Δ cx.fn cx.con mg mb) (K : ClsOk B mg) (V : EnvOk cx env) (hs : HS B cx env n ρ C a s.heap) (hnl : cx.scope.names.lookup n = some .local) (hnd : (n == ("__debug__" : Str)) = false)
    (h0 : cnm c = some X0) (h1 : mg X0 = some (.ref C)) (hc : chkA cx n at' x = true) (hv : atomV c ρ at' = some b) : wpAny (model prog w) A (eval x env) (Says b s) E s := by
  have hk : env.scope.kind = .function := V.scope ▸ V.kind
  obtain ⟨m, hm, hmn, hvar⟩ := hs.loc
  have ld : ∀ {y : Str} {v : Value} {p : Pos} {Q : Value → Shared → Prop}, cx.scope.names.lookup y = some .local → (y == ("__debug__" : Str)) = false → m y = some v → Q v s → wpAny (model prog w) A (eval (.Name y p) env) Q E s := fun hl hd hv hq =>
    wpAny_Name (wpAny_loadName_local hk (by show env.scope.names.lookup _ = _; rw [V.scope]; exact hl) hm hv hq) hd
  cases at' with
  | var i =>
    replace hc := any_ex hc
    obtain ⟨y, hq, hc⟩ := hc
    obtain ⟨p, rfl⟩ := asName_eq hq
    simp only [Bool.and_eq_true, beq_iff_eq, Bool.not_eq_true', beq_eq_false_iff_ne] at hc
    simp only [atomV] at hv
    split at hv
    · rename_i b' hr
      cases hv
      exact ld hc.1.1.2 (by simpa using hc.2) (hvar i y b hc.1.1.1 hc.1.1.2 hc.1.2 hr) ⟨rfl, s.toks, rfl⟩
    · cases hv
  | isi c' =>
    have hv : subC c c' = b := by injection hv
    replace hc := any_ex hc
    obtain ⟨⟨f, y, z⟩, hq, hc⟩ := hc
    obtain ⟨p, q, rfl⟩ := asCall2_eq hq
    simp only [Bool.and_eq_true, beq_iff_eq] at hc
    obtain ⟨⟨⟨rfl, hg⟩, hy⟩, hz⟩ := hc
    replace hy := any_ex hy
    obtain ⟨y', hq1, hy⟩ := hy
    obtain ⟨p1, rfl⟩ := asName_eq hq1
    have hy : y' = n := beq_iff_eq.mp hy
    subst hy
    replace hz := any_ex hz
    obtain ⟨X, hq2, hz⟩ := hz
    obtain ⟨p2, rfl⟩ := asName_eq hq2
    rw [Bool.and_eq_true] at hz
    obtain ⟨oe, he, hcl⟩ := hs.exc
    obtain ⟨D0, bm, e1, O, hsub⟩ := K.cls c X0 h0
    rw [h1] at e1; cases e1
    refine Call_Name rfl (bi_b W V hs.base hg bi_isinstance ?_)
    rw [trees_cons not_star_name, trees_cons not_star_name]
    refine Calls.callWith_builtin rfl (Calls.evalArgs_plain (Calls.spliced_cons (ld hnl hnd hmn (Calls.spliced_cons ?_))))
    by_cases h9 : c' = 9
    · rw [if_pos h9] at hz
      have hX : X = ("ValueError" : Str) := beq_iff_eq.mp hz.2
      subst hX
      refine bi_b W V hs.base hz.1 bi_ValueError (Calls.spliced_nil (isi_V (O.keeps hs.base) he hcl ⟨?_, s.toks, rfl⟩))
      rw [← hv]; subst h9; simp [subC]
    · rw [if_neg h9] at hz
      have hX : cnm c' = some X := beq_iff_eq.mp hz.2
      obtain ⟨D, bD, e2, OD, _⟩ := K.cls c' X hX
      exact glob_b W V hs.base hz.1 e2 (Calls.spliced_nil (isi_own (O.keeps hs.base) (OD.keeps hs.base) he hcl ((hsub c' X D hX e2).trans hv) fun t => ⟨rfl, t, rfl⟩))

theorem natom_sound {na : Bool × Atom} {x : Expr} {b : Bool} (W : Wd prog w B Δ cx.fn cx.con mg mb) (K : ClsOk B mg) (V : EnvOk cx env) (hs : HS B cx env n ρ C a s.heap) (hnl : cx.scope.names.lookup n = some .local) (hnd : (n == ("__debug__" : Str)) = false)
    (h0 : cnm c = some X0) (h1 : mg X0 = some (.ref C)) (hc : chkNA cx n na x = true) (hv : atomV c ρ na.2 = some b) : wpAny (model prog w) A (eval x env) (Says (b != na.1) s) E s := by
  obtain ⟨g, at'⟩ := na
  cases g with
  | false =>
    have hc : chkA cx n at' x = true := hc
    rw [Bool.bne_false]
    exact atom_sound W K V hs hnl hnd h0 h1 hc hv
  | true =>
    have hc : ((asNot x).any fun y => chkA cx n at' y) = true := hc
    replace hc := any_ex hc
    obtain ⟨y, hq, hc⟩ := hc
    obtain ⟨p, rfl⟩ := asNot_eq hq
    show wpAny _ _ (do let v ← eval y env; standAt p; holding [v] (unaryOp .Not v)) _ _ _
    refine wpAny_bind (wpAny_mono (atom_sound W K V hs hnl hnd h0 h1 hc hv) (fun u1 s₁ q1 => wpAny_bind (wpAny_standAt (wpAny_holding ?_))) fun _ _ z => z)
    obtain ⟨rfl, t, rfl⟩ := q1
    show wpAny _ _ (holding [_] _) _ _ _
    refine wpAny_holding ?_
    show wpAny _ _ (do return Value.bool (!(← truthy _))) _ _ _
    exact wpAny_bind (wpAny_truthy_bool (wpAny_pure ⟨by cases b <;> rfl, t, rfl⟩))

theorem and_atoms {pos : Pos} (W : Wd prog w B Δ cx.fn cx.con mg mb) (K : ClsOk B mg) (V : EnvOk cx env) (hnl : cx.scope.names.lookup n = some .local) (hnd : (n == ("__debug__" : Str)) = false) (h0 : cnm c = some X0) (h1 : mg X0 = some (.ref C)) :
    ∀ {l : List (Bool × Atom)} {xs : List Expr} {b : Bool} {s : Shared}, HS B cx env n ρ C a s.heap → l ≠ [] → chkAL cx n l xs = true → atomsV c ρ l = some b → wpAny (model prog w) A (boolOp pos .And (evalEach xs env)) (Says b s) E s
  | [], _, _, _, _, h, _, _ => absurd rfl h
  | na :: l, [], _, _, _, _, hc, _ => nomatch hc
  | [na], [x], b, s, hs, _, hc, hv => by
    simp only [chkAL, Bool.and_true] at hc
    simp only [atomsV] at hv
    obtain ⟨b', h3, h4⟩ := Option.bind_eq_some_iff.mp hv
    simp only [Option.map_some, Bool.and_true, Option.some.injEq] at h4
    subst h4
    exact natom_sound W K V hs hnl hnd h0 h1 hc h3
  | [na], x :: y :: ys, _, _, _, _, hc, _ => by simp [chkAL] at hc
  | na :: nb :: l, [x], _, _, _, _, hc, _ => by simp [chkAL] at hc
  | na :: nb :: l, x :: y :: ys, b, s, hs, _, hc, hv => by
    rw [chkAL, Bool.and_eq_true] at hc
    rw [atomsV] at hv
    obtain ⟨b', h3, h4⟩ := Option.bind_eq_some_iff.mp hv
    obtain ⟨r, h5, rfl⟩ := Option.map_eq_some_iff.mp h4
    show wpAny _ _ (do
      let v ← eval x env
      standAt pos
      let t ← holding [v] (truthy v)
      match BoolOp.And, t with
      | .And, false | .Or, true => pure v
      | _, _ => boolOp pos .And (evalEach (y :: ys) env)) _ _ _
    refine wpAny_bind (wpAny_mono (natom_sound W K V hs hnl hnd h0 h1 hc.1 h3) (fun u1 s₁ q1 => ?_) fun _ _ z => z)
    obtain ⟨rfl, t, rfl⟩ := q1
    refine wpAny_bind (wpAny_standAt (wpAny_bind (wpAny_holding (wpAny_truthy_bool ?_))))
    generalize (b' != na.1) = bb
    cases bb with
    | true => exact wpAny_mono (and_atoms (l := nb :: l) W K V hnl hnd h0 h1 (s := { s with toks := t }) hs (fun h => nomatch h) hc.2 h5) (fun v s' q => by obtain ⟨rfl, t', rfl⟩ := q; exact ⟨by simp, t', rfl⟩) fun _ _ z => z
    | false => exact wpAny_pure ⟨by simp, t, rfl⟩

theorem atoms_sound {l : List (Bool × Atom)} {x : Expr} {b : Bool} (W : Wd prog w B Δ cx.fn cx.con mg mb) (K : ClsOk B mg) (V : EnvOk cx env) (hs : HS B cx env n ρ C a s.heap) (hnl : cx.scope.names.lookup n = some .local) (hnd : (n == ("__debug__" : Str)) = false)
    (h0 : cnm c = some X0) (h1 : mg X0 = some (.ref C)) (hc : chkAs cx n l x = true) (hv : atomsV c ρ l = some b) : wpAny (model prog w) A (eval x env) (Says b s) E s := by
  match l, hc, hv with
  | [], hc, _ => exact nomatch hc
  | [na], hc, hv =>
    simp only [atomsV] at hv
    obtain ⟨b', h3, h4⟩ := Option.bind_eq_some_iff.mp hv
    simp only [Option.map_some, Bool.and_true, Option.some.injEq] at h4
    subst h4
    exact natom_sound W K V hs hnl hnd h0 h1 hc h3
  | na :: nb :: l, hc, hv =>
    have hc : ((asAnd x).any fun xs => chkAL cx n (na :: nb :: l) xs) = true := hc
    replace hc := any_ex hc
    obtain ⟨xs, hq, hc⟩ := hc
    obtain ⟨p, rfl⟩ := asAnd_eq hq
    exact and_atoms (l := na :: nb :: l) W K V hnl hnd h0 h1 hs (fun h => nomatch h) hc hv
end
end Mine

/-! ## MTrz -/
namespace Mine
open PySem PyProof.Rows

section
variable {prog : Program} {w : World} {A : Around} {B : Heap} {Δ : Nat → Option Fn} {mg mb : Str → Option Value} {E : Value → Shared → Prop} {cx : Cx} {env : Env} {ρ : Loc} {C a : Addr} {c : Nat} {X0 : Str} {G h₀ : Heap} {outer : List Env}

/-- the names of the frame that hold a truth value -/
noncomputable def Boolish (cx : Cx) (env : Env) (ρ : Loc) (h : Heap) : Prop := ∃ m, h.Ns env.locals m ∧ ∀ i y b, cx.name i = some y → cx.scope.names.lookup y = some .local → ρ[i]? = some (some (.dat (.bool b))) → m y = some (.bool b)

/-- the end of a handler -/
noncomputable def Caught (G h₀ : Heap) (env : Env) (b : Bool) (s : Shared) (f : Flow) (s' : Shared) : Prop :=
  f = .ret (.bool b) ∧ ∃ h tk, s' = { s with heap := h, toks := tk } ∧ G.StaysIn h ∧ Tabs (own env) h₀ h ∧ ∃ m, h.Ns env.locals m

theorem handle_sound (W : Wd prog w B Δ cx.fn cx.con mg mb) (K : ClsOk B mg) (V : EnvOk cx env) (h0 : cnm c = some X0) (h1 : mg X0 = some (.ref C)) (hBG : ∀ b o, B.get? b = some o → G.get? b = some o) (hloc : G.get? env.locals = none) :
    ∀ {hs : List Hnd} {xs : List ExceptHandler} {hd : Hnd} {b : Bool} {s : Shared}, chkHs cx hs xs = true → hs.find? (fun h => subC c h.cls) = some hd → atomsV c ρ hd.atoms = some b → Fly G (env :: outer) (.ref C) [] h₀ a s.heap → Boolish cx env ρ h₀ →
      wpAny (model prog w) A (handleBy (.ref a) env xs) (Caught G h₀ env b s) E s
  | [], xs, _, _, _, _, hf, _, _, _ => nomatch hf
  | _ :: _, [], _, _, _, hc, _, _, _, _ => nomatch hc
  | h :: hs, x :: xs, hd, b, s, hc, hf, hv, fly, hb => by
    rw [chkHs, Bool.and_eq_true] at hc
    obtain ⟨hc, hcs⟩ := hc
    replace hc := any_ex hc
    obtain ⟨⟨X, n, v⟩, hq, hc⟩ := hc
    obtain ⟨p, q, r, rfl⟩ := asHnd_eq hq
    simp only [Bool.and_eq_true, beq_iff_eq, Bool.not_eq_true'] at hc
    obtain ⟨⟨⟨⟨hX, hg⟩, hnl⟩, hnd⟩, hat⟩ := hc
    have hk : env.scope.kind = .function := V.scope ▸ V.kind
    have hB : ∀ b o, B.get? b = some o → s.heap.get? b = some o := fun b o q => fly.stay b o (hBG b o q)
    obtain ⟨D0, bm, e1, O, hsub⟩ := K.cls c X0 h0
    rw [h1] at e1; cases e1
    obtain ⟨D, bD, e2, OD, _⟩ := K.cls h.cls X hX
    have hee : ∃ oe, s.heap.get? a = some oe ∧ oe.cls = .ref C := by
      obtain ⟨a0, oe, vs, T, oT, ts, he, hcl, _⟩ := fly.way
      exact ⟨oe, he, hcl.1⟩
    obtain ⟨oe, he, hcl⟩ := hee
    refine wpAny_handleBy_cons (codeAny_handlers_test (glob_b W V hB hg e2 (exm_own (O.keeps hB) (OD.keeps hB) he hcl (hsub h.cls X D hX e2) ?_))) (by intro q; cases q)
    cases hsc : subC c h.cls with
    | false =>
      rw [List.find?_cons_of_neg (by rw [hsc]; simp)] at hf
      exact handle_sound W K V h0 h1 hBG hloc hcs hf hv fly hb
    | true =>
      rw [List.find?_cons_of_pos (p := fun h : Hnd => subC c h.cls) hsc] at hf
      cases hf
      show codeAny _ _ (.handlers _ [.ExceptHandler none (some n) [.Return (some v) q] r] env) _ _
      refine codeAny_handlers_suite_as ?_
      refine flight_none (fl := .none) (L := env.locals) fly.thr fly.way fun h₂ fly₂ => ?_
      obtain ⟨m, hm, hvar⟩ := hb
      have hm₂ : h₂.Ns env.locals m := by
        obtain ⟨o, es, ep, ho, hdd, rr⟩ := hm
        obtain ⟨sl, e⟩ := fly₂.tab env.locals o es ep ho hdd (fun z => nomatch z)
        exact ⟨_, es, ep, e, hdd, rr⟩
      refine wpAny_storeName_local (by show env.scope.names.lookup n = _; rw [V.scope]; exact hnl) hm₂ (fun h₃ hn₃ hs₃ => ?_) (by rw [hk]; rfl)
      have hneB : ∀ {b o}, G.get? b = some o → b ≠ env.locals := fun {b o} q e => by rw [e, hloc] at q; cases q
      obtain ⟨a0, oe₂, vs, T', oT, ts, he₂, hcl₂, hde, _⟩ := fly₂.way
      have hna : a ≠ env.locals := fun e => by
        obtain ⟨o, es, ep, ho, hdd, _⟩ := hm₂
        rw [← e, he₂] at ho; cases ho
        rw [hde] at hdd; cases hdd
      have HS₃ : HS B cx env n ρ C a h₃ := by
        refine ⟨fun b o q => ?_, ⟨_, hn₃, by simp, fun i y b' e1 e2 e3 e4 => ?_⟩, ⟨oe₂, ?_, hcl₂.1⟩⟩
        · rw [hs₃.2 b (hneB (hBG b o q))]; exact fly₂.stay b o (hBG b o q)
        · simp [e3, hvar i y b' e1 e2 e4]
        · rw [hs₃.2 a hna]; exact he₂
      refine wpAny_execs_cons (wpAny_Return_some (wpAny_mono (atoms_sound (s := { s with heap := h₃, toks := s.toks + 1 }) W K V HS₃ hnl hnd h0 h1 hat hv) (fun u s₄ q => ?_) fun _ _ z => z))
      · obtain ⟨rfl, t, rfl⟩ := q
        refine wpAny_nameGoes (by show env.scope.names.lookup n = _; rw [V.scope]; exact hnl) hn₃ (by rw [hk]; rfl) fun h₅ m₅ hn₅ hs₅ => ?_
        refine ⟨rfl, h₅, _, rfl, fun b o q => ?_, fun b o es ep e1 e2 e3 => ?_, m₅, hn₅⟩
        · rw [hs₅.2 b (hneB q), hs₃.2 b (hneB q)]; exact fly₂.stay b o q
        · have hb' : b ≠ env.locals := fun e => e3 (by rw [e]; exact List.mem_cons_self)
          rw [hs₅.2 b hb', hs₃.2 b hb']
          exact fly₂.tab b o es ep e1 e2 (fun z => nomatch z)
end

theorem exq_tryc (sub : Nat → Nat → Bool) (C : Oracle) (ρ : Loc) (σ : Sto) (f : Nat) (as : IEs) (hs : List Hnd) : ex sub C (.tryc f as hs) ρ σ = (evArgs sub C as ρ σ).stmK fun vs σ => match C f vs σ with
    | .exn c _ => if (σ.all (fun e => !e.1) && decide (c < 4)) = true then ofHnd c ρ σ (hs.find? fun h => subC c h.cls) else .bad
    | _ => .bad := rfl

theorem cnm_lt {c : Nat} (h : c < 4) : ∃ x, cnm c = some x := by
  match c, h with
  | 0, _ => exact ⟨_, rfl⟩
  | 1, _ => exact ⟨_, rfl⟩
  | 2, _ => exact ⟨_, rfl⟩
  | 3, _ => exact ⟨_, rfl⟩

section
variable {prog : Program} {w : World} {A : Around} {B : Heap} {Δ : Nat → Option Fn} {fnm : Nat → Option Str} {con : Con} {mg mb : Str → Option Value} {sub : Nat → Nat → Bool} {C : Oracle}
variable (X : HypX prog w A B Δ fnm con mg mb C)
include X

theorem try_sound {cx : Cx} {x : Stmt} {env : Env} {s : Shared} {ρ : Loc} {σ σ' : Sto} {π β : List Addr} {f : Nat} {as : IEs} {hs : List Hnd} {d : Dat} {outer : List Env} {E : Value → Shared → Prop} (hN : Named cx env) (a : At fnm con B π cx env s ρ σ β) (hc : chkT cx f as hs x = true)
    (he : ex sub C (.tryc f as hs) ρ σ = .ret d σ') (hfr : A.frames = some (env :: outer)) (hf : env.frame = some env.locals) (hout : ∀ e ∈ outer, e.scope.kind ≠ .module ∧ ∃ L m, e.frame = some L ∧ B.objs.size ≤ L ∧ L ∉ own env ∧ s.heap.Ns L m) :
    wpAny (model prog w) A (exec x env) (fun fl s' => SPost fnm con B π cx env s σ β (.ret d σ') fl s') E s := by
  replace hc := any_ex hc
  obtain ⟨⟨b, hh, o, fi⟩, hq, hc⟩ := hc
  obtain ⟨p0, rfl⟩ := rawTry_eq hq
  simp only [Bool.and_eq_true, List.isEmpty_iff] at hc
  obtain ⟨⟨⟨⟨rfl, rfl⟩, hb⟩, hhs⟩, hne⟩ := hc
  replace hb := any_ex hb
  obtain ⟨st, hq1, hb⟩ := hb
  have hb1 := one_eq hq1
  subst hb1
  replace hb := any_ex hb
  obtain ⟨v, hq2, hb⟩ := hb
  obtain ⟨p1, rfl⟩ := asExpr_eq hq2
  replace hb := any_ex hb
  obtain ⟨⟨nm, xs⟩, hq3, hb⟩ := hb
  obtain ⟨p, q, rfl⟩ := asCall_eq hq3
  simp only [Bool.and_eq_true, beq_iff_eq, Bool.not_eq_true', beq_eq_false_iff_ne] at hb
  obtain ⟨⟨⟨⟨hfn, hgl⟩, has⟩, hns⟩, hlaw⟩ := hb
  rw [exq_tryc] at he
  obtain ⟨vs, σ₁, h1, h2⟩ : ∃ vs σ₁, evArgs sub C as ρ σ = .val vs σ₁ ∧ (match C f vs σ₁ with
    | .exn c _ => if (σ₁.all (fun e => !e.1) && decide (c < 4)) = true then ofHnd c ρ σ₁ (hs.find? fun h => subC c h.cls) else .bad
    | _ => .bad) = SOut.ret d σ' := by
    cases hq : evArgs sub C as ρ σ with
    | val vs σ₁ => rw [hq] at he; exact ⟨vs, σ₁, rfl, he⟩
    | exn => rw [hq] at he; cases he
    | bad => rw [hq] at he; cases he
  cases h3 : C f vs σ₁ with
  | val => rw [h3] at h2; cases h2
  | bad => rw [h3] at h2; cases h2
  | exn c σ₂ =>
    rw [h3] at h2
    simp only at h2
    split at h2
    · rename_i hcond
      simp only [Bool.and_eq_true, decide_eq_true_eq] at hcond
      obtain ⟨hall, hc4⟩ := hcond
      obtain ⟨X0, h0⟩ := cnm_lt hc4
      obtain ⟨D, bm, e0, O, _⟩ := X.K.cls c X0 h0
      have hcad := cad_of h0 e0
      cases hfind : hs.find? fun h => subC c h.cls with
      | none => rw [hfind] at h2; cases h2
      | some hd =>
        rw [hfind] at h2
        simp only [ofHnd] at h2
        split at h2
        · rename_i b hat
          cases h2
          cases hh with
          | nil =>
            cases hs with
            | nil => simp at hne
            | cons y ys => exact nomatch hhs
          | cons hx hxs =>
            have hk : env.scope.kind = .function := a.V.scope ▸ a.V.kind
            have hint : interactive env = false := by unfold interactive; rw [hk]; rfl
            have W : Wd prog w B Δ cx.fn cx.con mg mb := a.fn ▸ a.con.1 ▸ X.H.W
            obtain ⟨fn, vars, dr, ad, o, pm, code, doc, e1, e2, e3, e4, e5, e6⟩ := W.fn f nm hfn
            refine wpAny_Try_except (wpAny_execs_cons (wpAny_Expr_any (Call_Name rfl (glob_sound W a.V a.S hgl e2 ?_)) hint rfl))
            refine Calls.callWith_function (o := o) (fd := Calls.docDef dr.name dr.params dr.body dr.scope pm code doc) (evalArgs_any (trees_plain has) (wpAny_mono (evArgs_sound X.H as a has h1) (fun us s₁ q1 => ⟨⟨q1.2.sim.base _ _ e3, e4⟩, ?_⟩) fun _ _ z => z))
            have a1 := a.ok q1.2
            have x1 := a.soK q1.2
            have hBL : ∀ {L : Addr}, B.objs.size ≤ L → B.get? L = none := fun {L} h => by
              cases e : B.get? L with
              | none => rfl
              | some o => exact absurd (Heap.lt_size e) (Nat.not_lt.mpr h)
            have hlocN : (cut B s₁.heap).get? env.locals = none := by
              obtain ⟨m, hm⟩ := a1.ns
              exact cut_none hm (hBL a1.F.off.2)
            have gc : GC B (cut B s₁.heap) (env :: outer) σ' β s₁.heap := by
              refine ⟨fun b o e => (cut_get.mp e).1, fun b hb => ?_, fun b o es ep e hdd => ?_, fun e he => ?_⟩
              · obtain ⟨k, l, g1, g2⟩ := mem_growS.mp hb
                have := List.all_eq_true.mp hall _ (List.mem_of_getElem? g1)
                cases this
              · rcases (cut_get.mp e).2 with h | h
                · exact absurd hdd (h es ep)
                · exact h
              · rcases List.mem_cons.mp he with rfl | he
                · obtain ⟨m, hm⟩ := a1.ns
                  exact ⟨by rw [hk]; decide, _, m, hf, hlocN, hm⟩
                · obtain ⟨hkm, L, m, hfL, hL, hoL, hm⟩ := hout e he
                  have hm1 : s₁.heap.Ns L m := Kept.ns hm fun o ho => x1.keep L o ho (fun q => ns_not_grow a.S hm (growS_sub q)) hoL
                  exact ⟨hkm, L, m, hfL, cut_none hm1 (hBL hL), hm1⟩
            have hbool : Boolish cx env ρ s₁.heap := by
              obtain ⟨m, hm, hv⟩ := a1.F.loc
              refine ⟨m, hm, fun i y b' g1 g2 g3 => ?_⟩
              obtain ⟨v', g4, g5⟩ := hv i y _ g1 g2 g3
              rw [g4, show v' = .bool b' from g5]
            refine X.hX f nm vs us σ' σ₂ c π β s₁ _ ad _ (cut B s₁.heap) (env :: outer) (a.fn ▸ hfn) e2 hlaw hns h3 q1.1 q1.2.sim a1.baseLe hfr gc fun a' h' tk fly => ?_
            rw [hcad] at fly
            refine note_thr (s := { s₁ with heap := h', toks := tk }) hfr hf rfl fly.thr fun h₂ t₂ ht₂ => ?_
            refine flight_none (s := { s₁ with heap := h₂, toks := tk }) t₂ ht₂ fun h₃ fly₃ => ?_
            refine wpAny_mono (handle_sound (outer := outer) (s := { s₁ with heap := h₃, toks := tk }) W X.K a.V h0 e0 (fun b o e => cut_get.mpr ⟨a1.S.base b o e, .inr e⟩) hlocN hhs hfind hat fly₃ hbool) (fun fl s' q => ?_) fun _ _ z => z
            obtain ⟨rfl, h₅, tk₅, rfl, g1, g2, g3⟩ := q
            exact ⟨_, β, rfl, rfl, x1.trans (after_sok (tk := tk₅) a1 hN g1 g2 g3)⟩
        · cases h2
    · cases h2
end
end Mine

/-! ## MCall -/
namespace Mine
open PySem PyProof.Rows

theorem bindL_other {kindOf : Str → Option NameKind} {x : Str} : ∀ {bs : List (Str × Value)} {m : Str → Option Value}, (∀ p ∈ bs, p.1 ≠ x) → bindL kindOf bs m x = m x
  | [], m, _ => rfl
  | (n, v) :: r, m, h => by
    have hn : n ≠ x := h _ List.mem_cons_self
    show bindL kindOf r _ x = _
    rw [bindL_other fun p hp => h p (List.mem_cons_of_mem _ hp)]
    split
    · exact if_neg (Ne.symm hn)
    · rfl
theorem bindC_other {kindOf : Str → Option NameKind} {x : Str} : ∀ {bs : List (Str × Value)} {m : Str → Option Value}, (∀ p ∈ bs, p.1 ≠ x) → bindC kindOf bs m x = m x
  | [], m, _ => rfl
  | (n, v) :: r, m, h => by
    have hn : n ≠ x := h _ List.mem_cons_self
    show bindC kindOf r _ x = _
    rw [bindC_other fun p hp => h p (List.mem_cons_of_mem _ hp)]
    split
    · rfl
    · exact if_neg (Ne.symm hn)
theorem zip_fst {α : Type} {ns : List Str} {vs : List α} {p : Str × α} (h : p ∈ ns.zip vs) : p.1 ∈ ns := (List.of_mem_zip h).1
theorem bindL_get {kindOf : Str → Option NameKind} {x : Str} {v : Value} : ∀ {ns : List Str} {vs : List Value} {m : Str → Option Value} {i : Nat}, ns.Nodup → ns[i]? = some x → vs[i]? = some v → kindOf x = some .local → bindL kindOf (ns.zip vs) m x = some v
  | [], _, _, i, _, h, _, _ => by simp at h
  | n :: ns, [], _, i, _, _, h, _ => by simp at h
  | n :: ns, u :: vs, m, 0, hd, h1, h2, hk => by
    simp at h1 h2; subst h1; subst h2
    obtain ⟨hn, hd⟩ := List.nodup_cons.mp hd
    show bindL kindOf (ns.zip vs) _ n = _
    rw [bindL_other (x := n) (fun p hp q => hn (by have := zip_fst hp; rw [q] at this; exact this)), if_pos hk]; simp
  | n :: ns, u :: vs, m, i + 1, hd, h1, h2, hk => by
    obtain ⟨hn, hd⟩ := List.nodup_cons.mp hd
    show bindL kindOf (ns.zip vs) _ x = _
    exact bindL_get (i := i) hd (by simpa using h1) (by simpa using h2) hk
theorem bindC_get {kindOf : Str → Option NameKind} {x : Str} {v : Value} : ∀ {ns : List Str} {vs : List Value} {m : Str → Option Value} {i : Nat}, ns.Nodup → ns[i]? = some x → vs[i]? = some v → kindOf x ≠ some .local → bindC kindOf (ns.zip vs) m x = some v
  | [], _, _, i, _, h, _, _ => by simp at h
  | n :: ns, [], _, i, _, _, h, _ => by simp at h
  | n :: ns, u :: vs, m, 0, hd, h1, h2, hk => by
    simp at h1 h2; subst h1; subst h2
    obtain ⟨hn, hd⟩ := List.nodup_cons.mp hd
    show bindC kindOf (ns.zip vs) _ n = _
    rw [bindC_other (x := n) (fun p hp q => hn (by have := zip_fst hp; rw [q] at this; exact this)), if_neg hk]; simp
  | n :: ns, u :: vs, m, i + 1, hd, h1, h2, hk => by
    obtain ⟨hn, hd⟩ := List.nodup_cons.mp hd
    show bindC kindOf (ns.zip vs) _ x = _
    exact bindC_get (i := i) hd (by simpa using h1) (by simpa using h2) hk

theorem cells_mem : ∀ {names : List (Str × NameKind)} {k : Nat} {acc : List (Str × Addr)} {n : Str}, (∃ c, (n, c) ∈ cellsFrom k names acc) ↔ ((n, NameKind.cell) ∈ names ∨ ∃ c, (n, c) ∈ acc)
  | [], k, acc, n => by simp [cellsFrom]
  | (m, kd) :: r, k, acc, n => by
    unfold cellsFrom
    split
    · rename_i hk
      simp only [beq_iff_eq] at hk
      subst hk
      rw [cells_mem]
      simp only [List.mem_cons, Prod.mk.injEq, and_true]
      constructor
      · rintro (h | ⟨c, (⟨h, _⟩ | h)⟩)
        · exact .inl (.inr h)
        · exact .inl (.inl h)
        · exact .inr ⟨c, h⟩
      · rintro ((h | h) | ⟨c, h⟩)
        · exact .inr ⟨_, .inl ⟨h, rfl⟩⟩
        · exact .inl h
        · exact .inr ⟨c, .inr h⟩
    · rename_i hk
      rw [cells_mem]
      have hk' : kd ≠ .cell := by simpa using hk
      simp only [List.mem_cons, Prod.mk.injEq]
      constructor
      · rintro (h | h)
        · exact .inl (.inr h)
        · exact .inr h
      · rintro ((⟨_, h⟩ | h) | h)
        · exact absurd h.symm hk'
        · exact .inl h
        · exact .inr h
theorem cells_nodup : ∀ {names : List (Str × NameKind)} {k : Nat} {acc : List (Str × Addr)}, (names.map (·.1)).Nodup → (acc.map (·.1)).Nodup → (∀ p ∈ acc, p.1 ∉ names.map (·.1)) → ((cellsFrom k names acc).map (·.1)).Nodup
  | [], k, acc, _, h, _ => by simpa [cellsFrom] using h
  | (m, kd) :: r, k, acc, h1, h2, h3 => by
    simp only [List.map_cons] at h1 h3
    obtain ⟨hm, h1⟩ := List.nodup_cons.mp h1
    unfold cellsFrom
    split
    · refine cells_nodup h1 ?_ fun p hp => ?_
      · rw [List.map_cons]
        refine List.nodup_cons.mpr ⟨fun q => ?_, h2⟩
        obtain ⟨p, hp, e⟩ := List.mem_map.mp q
        exact h3 p hp (by rw [e]; exact List.mem_cons_self)
      · rcases List.mem_cons.mp hp with rfl | hp
        · exact hm
        · exact fun q => h3 p hp (List.mem_cons_of_mem _ q)
    · exact cells_nodup h1 h2 fun p hp q => h3 p hp (List.mem_cons_of_mem _ q)

section
variable {prog : Program} {w : World} {B : Heap} {Δ : Nat → Option Fn} {fnm : Nat → Option Str} {con : Str → Option Dat} {mg mb : Str → Option Value} {sub : Nat → Nat → Bool}

theorem RelVs.get {h : Heap} {π β : List Addr} {σ : Sto} : ∀ {vs : List Val} {us : List Value} {i : Nat} {v : Val}, RelVs h π β σ vs us → vs[i]? = some v → ∃ u, us[i]? = some u ∧ RelV h π β σ v u
  | v :: vs, u :: us, 0, _, r, e => by simp at e; subst e; exact ⟨u, rfl, r.1⟩
  | v :: vs, u :: us, i + 1, _, r, e => by
    obtain ⟨u', h1, h2⟩ := RelVs.get (i := i) r.2 (by simpa using e)
    exact ⟨u', by simpa using h1, h2⟩
  | [], us, i, _, r, e => by simp at e
  | _ :: _, [], i, _, r, e => r.elim
theorem RelVs.length {h : Heap} {π β : List Addr} {σ : Sto} : ∀ {vs : List Val} {us : List Value}, RelVs h π β σ vs us → vs.length = us.length
  | [], [], _ => rfl
  | v :: vs, u :: us, r => by simp [RelVs.length r.2]
  | [], _ :: _, r => r.elim
  | _ :: _, [], r => r.elim

/-- what a call leaves, seen by its caller -/
theorem ok_back {env : Env} {s s₁ s' : Shared} {σ σ₂ : Sto} {π β β₂ : List Addr} (S : Sim B π s.heap σ β) (hsh : ∃ h tk, s₁ = { s with heap := h, toks := tk }) (hk : ∀ b o, s.heap.get? b = some o → s₁.heap.get? b = some o) (hown : ∀ b ∈ own env, s.heap.get? b = none)
    (x : SOk B π env s₁ s' σ σ₂ β β₂) : SeqKeep (grow π σ₂ β₂) (grow π (σ₂.take σ.length) β) s'.heap s'.heap ∧ ∀ L, Ok B π L β s s' σ (σ₂.take σ.length) := by
  obtain ⟨βx, rfl, hx⟩ := x.ext
  have hlen : σ.length = β.length := S.len.symm
  have hlen2 : σ.length ≤ σ₂.length := by have := x.sim.len; simp at this; omega
  have hg : ∀ b, b ∈ growS (σ₂.take σ.length) β → b ∈ growS σ₂ (β ++ βx) := fun b hb => by
    obtain ⟨k, l, h1, h2⟩ := mem_growS.mp hb
    have hk2 : k < β.length := (List.getElem?_eq_some_iff.mp h2).1
    rw [List.getElem?_take_of_lt (by omega)] at h1
    exact mem_growS.mpr ⟨k, l, h1, by rw [List.getElem?_append_left hk2]; exact h2⟩
  have sk : SeqKeep (grow π σ₂ (β ++ βx)) (grow π (σ₂.take σ.length) β) s'.heap s'.heap := fun b o xs n ho hd hb => ⟨fun q => hb (mem_grow.mpr ((mem_grow.mp q).imp id (hg b))), ho⟩
  have S' : Sim B π s'.heap (σ₂.take σ.length) β := by
    refine ⟨by simp; omega, S.nodup, x.sim.base, S.new, fun k e b h1 h2 => ?_, fun b hb => ⟨(x.sim.priv b hb).1, (S.priv b hb).2⟩⟩
    have hk2 : k < β.length := (List.getElem?_eq_some_iff.mp h2).1
    rw [List.getElem?_take_of_lt (by omega)] at h1
    obtain ⟨vs, hp, hr⟩ := x.sim.ent k e b h1 (by rw [List.getElem?_append_left hk2]; exact h2)
    exact ⟨vs, hp, Reps.mono sk hr⟩
  have keep : ∀ b o, s.heap.get? b = some o → b ∉ growS σ β → Kept s'.heap b o := fun b o q hb => x.keep b o (hk b o q) hb fun z => by rw [hown b z] at q; cases q
  refine ⟨sk, fun L => ⟨?_, S', fun b o q hb _ => keep b o q hb, fun m hm => ?_, fun b hb => ?_⟩⟩
  · obtain ⟨h1, t1, rfl⟩ := hsh; obtain ⟨h2, t2, rfl⟩ := x.sh; exact ⟨h2, t2, rfl⟩
  · exact Kept.ns hm fun o q => keep L o q fun z => ns_not_grow S hm (growS_sub z)
  · rcases x.mon b (hg b hb) with h | h
    · exact h
    · have hb' : b ∈ β := growS_sub hb
      have := At.sto_alive S hb'
      obtain ⟨o, ho⟩ := Option.isSome_iff_exists.mp this
      rw [hk b o ho] at h; cases h


/-- into a call -/
theorem call_enter (W : Wd prog w B Δ fnm con mg mb) {A : Around} {f : Nat} {x : Str} {args : List Val} {vals : List Value} {σ : Sto} {π β : List Addr} {s : Shared} {E : Value → Shared → Prop} {Q : Value → Shared → Prop} {a : Addr} {fn : Fn} (hroom : A.depth < recursionLimit)
    (hf : fnm f = some x) (hx : mg x = some (.ref a)) (hfn : Δ f = some fn) (harity : args.length = fn.arity) (hrel : RelVs s.heap π β σ args vals) (S : Sim B π s.heap σ β) (hle : B.objs.size ≤ s.heap.objs.size)
    (K : ∀ (env : Env) (s₁ : Shared) (dr : DefRec) (vars : List Str), dr.name = x →
      (if isSp f then chkTB ⟨dr.scope, fun i => vars[i]?, fnm, con, false⟩ fn.body dr.body else chkSs ⟨dr.scope, fun i => vars[i]?, fnm, con, dr.name == ("law" : Str)⟩ fn.body dr.body) = true →
      (∀ (con' : Con) (top : Bool), con'.tab = con → (top = true → env = con'.env0 ∧ con'.lone = true) → At fnm con' B π ⟨dr.scope, fun i => vars[i]?, fnm, con, top⟩ env s₁ (args.map some ++ List.replicate (fn.slots - fn.arity) none) σ β) →
      (∀ top, Named ⟨dr.scope, fun i => vars[i]?, fnm, con, top⟩ env) → (∃ h tk, s₁ = { s with heap := h, toks := tk }) → (∀ b o, s.heap.get? b = some o → s₁.heap.get? b = some o) → (∀ b ∈ own env, s.heap.get? b = none) → env.frame = some env.locals → env.scope.kind = .function → B.objs.size ≤ env.locals →
      wpAny (model prog w) (A.deeper env) (execs dr.body env) (fun fl s' => Q (match fl with | .ret v => v | _ => .none) s') (fun e s' => wpAny (model prog w) (A.deeper env) (leaving env e) (fun _ s'' => E e s'') (fun e' s'' => E e' s'') s') s₁) :
    wpAny (model prog w) A (call (.ref a) vals) Q E s := by
  obtain ⟨fn', vars, dr, ad, o, pm, code, doc, e1, e2, e3, e4, e5, e6, e7⟩ := W.fn f x hf
  have ead : a = ad := by rw [hx] at e2; injection e2 with e2; injection e2
  subst ead
  have efn : fn' = fn := by rw [hfn] at e1; injection e1 with e1; exact e1.symm
  subst efn
  simp only [chkFn, Bool.and_eq_true, List.isEmpty_iff, Option.isNone_iff_eq_none, decide_eq_true_eq, Bool.not_eq_true', beq_iff_eq, List.all_eq_true, Bool.or_eq_true, beq_eq_false_iff_ne, List.contains_iff_mem] at e6
  obtain ⟨⟨⟨⟨⟨⟨⟨⟨⟨⟨⟨⟨⟨⟨⟨⟨⟨k1, k2⟩, k3⟩, k4⟩, k5⟩, k6⟩, k7⟩, k8⟩, k9⟩, k10⟩, k11⟩, k12⟩, k13⟩, k14⟩, k15⟩, k16⟩, k17⟩, k18⟩ := e6
  have hlen := hrel.length
  have hnames : (dr.params.args.map (·.arg)) = vars.take fn'.arity := k10
  have hnd : (dr.params.args.map (·.arg)).Nodup := by rw [hnames]; exact k11.sublist (List.take_sublist _ _)
  have hbind := bind_plain (name := dr.name) (body := dr.body) (scope := dr.scope) (pm := pm) (cd := code) (doc := doc) (vals := vals) k1 k2 k3 k4 (by omega) hnd
  have ho : s.heap.get? a = some o := S.base _ _ e3
  have hcells := fun (n : Str) => cells_mem (names := dr.scope.names) (k := s.heap.objs.size + 1) (acc := []) (n := n)
  have hcnd := cells_nodup (names := dr.scope.names) (k := s.heap.objs.size + 1) (acc := []) k15 (by simp) (by simp)
  have hclook : ∀ n, dr.scope.names.lookup n = some .cell → ∃ c, (cellsFrom (s.heap.objs.size + 1) dr.scope.names []).lookup n = some c := fun n hn => by
    obtain ⟨c, hc⟩ := (hcells n).mpr (.inl (mem_of_lookup hn))
    exact ⟨c, lookup_mem_nodup hcnd hc⟩
  refine wpAny_call ?_
  refine codeAny_call_cells (fd := Calls.docDef dr.name dr.params dr.body dr.scope pm code doc) hroom ho e4 (W.nolimit.keeps S.base) (e5.keeps S.base) rfl hbind rfl (fun y hy => ?_) (fun s₁ X => ?_) k12 k13 k14
  · have hy1 : y.1 ∈ vars := by
      have := zip_fst hy
      rw [hnames] at this
      exact List.mem_of_mem_take this
    rcases k16 _ hy1 with h | h
    · exact .inl h
    · obtain ⟨c, hc⟩ := hclook _ h
      exact .inr ⟨h, by show (List.lookup y.1 (cellsFrom (s.heap.objs.size + 1) dr.scope.names [])).isSome = true; rw [hc]; rfl⟩
  · have hfra : (callEnvC (Calls.docDef dr.name dr.params dr.body dr.scope pm code doc) s.heap.objs.size a).frame = some (callEnvC (Calls.docDef dr.name dr.params dr.body dr.scope pm code doc) s.heap.objs.size a).locals := rfl
    generalize hE : callEnvC (Calls.docDef dr.name dr.params dr.body dr.scope pm code doc) s.heap.objs.size a = env at X hfra ⊢
    have hloc : env.locals = s.heap.objs.size := by rw [← hE]; rfl
    have hcel : env.cells = cellsFrom (s.heap.objs.size + 1) dr.scope.names [] := by rw [← hE]; rfl
    have hsc : env.scope = dr.scope := by rw [← hE]; rfl
    have hgl : env.globals = mainGlobals := by rw [← hE]; rfl
    have hbu : env.builtins = builtinsNs := by rw [← hE]; rfl
    have hkind : ∀ y, env.kindOf y = dr.scope.names.lookup y := fun y => by rw [← hsc]; rfl
    have hfresh : env.locals ∉ β := fun q => by have := ltSim S q; rw [hloc] at this; omega
    have hkeep := X.toInCall.keep
    have S₁ : Sim B π s₁.heap σ β := S.keeps hkeep
    have sk₁ : SeqKeep (grow π σ β) (grow π σ β) s.heap s₁.heap := fun b o xs n ho hd ha => ⟨ha, hkeep b o ho⟩
    have hown : ∀ b ∈ own env, s.heap.get? b = none := fun b hb => by
      unfold own at hb
      rcases List.mem_cons.mp hb with rfl | hb
      · rw [hloc]; exact Heap.get?_none_of_le (Nat.le_refl _)
      · obtain ⟨p, hp, rfl⟩ := List.mem_map.mp hb
        have := X.above p.1 p.2 hp
        rw [hloc] at this
        exact Heap.get?_none_of_le (Nat.le_of_lt this)
    have hρ : ∀ (i : Nat) (v : Val), (args.map some ++ List.replicate (fn'.slots - fn'.arity) none)[i]? = some (some v) → args[i]? = some v := fun i v h => by
      by_cases hi : i < args.length
      · rw [List.getElem?_append_left (by simpa using hi), List.getElem?_map] at h
        cases hq : args[i]? with
        | none => rw [hq] at h; cases h
        | some z => rw [hq] at h; simp at h; rw [h]
      · rw [List.getElem?_append_right (by simp; omega), List.getElem?_replicate] at h
        split at h <;> simp at h
    have hnm : ∀ (i : Nat) (y : Str) (v : Val), vars[i]? = some y → args[i]? = some v → (dr.params.args.map (·.arg))[i]? = some y := fun i y v h1 h2 => by
      rw [hnames, List.getElem?_take_of_lt]
      · exact h1
      · have := (List.getElem?_eq_some_iff.mp h2).1; omega
    refine K env s₁ dr vars e7 k18 (fun con' top hct htop => ?_) (fun top p hp => ?_) X.toInCall.same hkeep hown hfra (by rw [hsc]; exact k14) (by rw [hloc]; exact hle)
    · refine ⟨rfl, ⟨hct.symm, htop⟩, ⟨hsc, k14, hgl, hbu, X.apart, fun p hp q => ?_, fun i j y h1 h2 => ?_⟩, ⟨⟨_, X.toInCall.ns, fun i y v h1 h2 h3 => ?_⟩, fun i y h1 h2 => ?_, ⟨hfresh, by rw [hloc]; exact hle⟩, fun p hp => ?_⟩, S₁⟩
      · have := X.above p.1 p.2 hp
        exact absurd q (Nat.ne_of_gt this)
      · have hi := (List.getElem?_eq_some_iff.mp h1).1
        exact (List.getElem?_inj hi k11).mp (h1.trans h2.symm)
      · have h4 := hρ i v h3
        obtain ⟨u, hu, ru⟩ := hrel.get h4
        exact ⟨u, bindL_get hnd (hnm i y v h1 h4) hu (by rw [hkind]; exact h2), ru.seq sk₁⟩
      · obtain ⟨c, hc⟩ := hclook y h2
        refine ⟨c, _, by rw [hcel]; exact hc, X.cell y c (by rw [hcel]; exact hc), fun v h3 => ?_⟩
        have h4 := hρ i v h3
        obtain ⟨u, hu, ru⟩ := hrel.get h4
        exact ⟨u, bindC_get hnd (hnm i y v h1 h4) hu (by rw [hkind, show dr.scope.names.lookup y = some .cell from h2]; simp), ru.seq sk₁⟩
      · have := X.above p.1 p.2 hp
        rw [hloc] at this
        exact Nat.le_trans hle (Nat.le_of_lt this)
    · rw [hcel] at hp
      have hm : (p.1, NameKind.cell) ∈ dr.scope.names := by
        rcases (hcells p.1).mp ⟨p.2, hp⟩ with h | ⟨c, h⟩
        · exact h
        · simp at h
      have hv : p.1 ∈ vars := (k17 _ hm).resolve_left fun q => q rfl
      obtain ⟨i, hi, e⟩ := List.mem_iff_getElem.mp hv
      exact ⟨i, by show vars[i]? = _; rw [List.getElem?_eq_getElem hi, e], lookup_mem_nodup k15 hm, by rw [hcel]; exact lookup_mem_nodup hcnd hp⟩
end
end Mine

/-! ## MRun -/
namespace Mine
open PySem PyProof.Rows

noncomputable def Room (n : Nat) (A : Around) (l : List Env) : Prop := A.handled = none ∧ A.depth + n < recursionLimit ∧ A.units + 3 * n + 1000 < cLine ∧ A.frames = some l

section
variable {prog : Program} {w : World} {B : Heap} {Δ : Nat → Option Fn} {fnm : Nat → Option Str} {con : Str → Option Dat} {mg mb : Str → Option Value} {sub : Nat → Nat → Bool}

theorem tryc_ret {C : Oracle} {f : Nat} {as : IEs} {hs : List Hnd} {ρ ρ' : Loc} {σ σ' : Sto} : ex sub C (.tryc f as hs) ρ σ ≠ .next ρ' σ' := fun h => by
  rw [exq_tryc] at h
  cases hq : evArgs sub C as ρ σ with
  | exn => rw [hq] at h; cases h
  | bad => rw [hq] at h; cases h
  | val vs σ₁ =>
    rw [hq] at h
    simp only [Out.stmK_val] at h
    split at h
    · split at h
      · unfold ofHnd at h
        split at h
        · split at h <;> cases h
        · cases h
      · cases h
    · cases h

theorem chkT1_eq {cx : Cx} {ss : ISs} {xs : List Stmt} (h : chkT1 cx ss xs = true) : ∃ f as hs rest y ys, ss = .cons (.tryc f as hs) rest ∧ xs = y :: ys ∧ chkT cx f as hs y = true := by
  replace h := any_ex h
  obtain ⟨⟨s, r⟩, h1, h⟩ := h
  replace h := any_ex h
  obtain ⟨y, h2, h⟩ := h
  replace h := any_ex h
  obtain ⟨⟨f, as, hs⟩, h3, h⟩ := h
  cases ss with
  | nil => cases h1
  | cons s' r' =>
    cases h1
    cases s <;> first | exact nos h3 | skip
    cases h3
    cases xs with
    | nil => cases h2
    | cons z zs => cases h2; exact ⟨_, _, _, _, _, _, rfl, rfl, h⟩
structure CallOk (prog : Program) (w : World) (B : Heap) (Δ : Nat → Option Fn) (fnm : Nat → Option Str) (mg : Str → Option Value) (sub : Nat → Nat → Bool) (n : Nat) : Prop where
  val : ∀ (A : Around) (l : List Env), Room n A l → ∀ (f : Nat) (x : Str) (args : List Val) (vals : List Value) (σ σ' : Sto) (d : Dat) (π β : List Addr) (s : Shared) (E : Value → Shared → Prop) (a : Addr),
    fnm f = some x → mg x = some (.ref a) → (l = [] ∨ x ≠ ("law" : Str)) → (isSp f = true → ∃ e m, l = [e] ∧ e.scope.kind ≠ .module ∧ e.frame = some e.locals ∧ B.objs.size ≤ e.locals ∧ s.heap.Ns e.locals m) → callF sub Δ n f args σ = .val d σ' →
    RelVs s.heap π β σ args vals → Sim B π s.heap σ β → B.objs.size ≤ s.heap.objs.size → wpAny (model prog w) A (call (.ref a) vals) (fun v' s' => Rep s'.heap (grow π σ' β) d v' ∧ ∀ L, Ok B π L β s s' σ σ') E s
  exn : ∀ (A : Around) (l : List Env), Room n A l → ∀ (f : Nat) (x : Str) (args : List Val) (vals : List Value) (σ σ' : Sto) (c : Nat) (π β : List Addr) (s : Shared) (E : Value → Shared → Prop) (a : Addr) (Q : Value → Shared → Prop) (G : Heap), fnm f = some x → mg x = some (.ref a) → x ≠ ("law" : Str) → isSp f = false → callF sub Δ n f args σ = .exn c σ' →
    RelVs s.heap π β σ args vals → Sim B π s.heap σ β → B.objs.size ≤ s.heap.objs.size → GC B G l σ β s.heap → (∀ a' h' tk, Fly G l (.ref (cad mg c)) [] s.heap a' h' → E (.ref a') { s with heap := h', toks := tk }) → wpAny (model prog w) A (call (.ref a) vals) Q E s

theorem hyp_of (W : Wd prog w B Δ fnm con mg mb) (K : ClsOk B mg) {n : Nat} (ih : CallOk prog w B Δ fnm mg sub n) {A : Around} {l : List Env} (hR : Room (n + 1) A l) {env : Env} (hf : env.frame = some env.locals) (hk : env.scope.kind = .function) (hL : B.objs.size ≤ env.locals) :
    HypX prog w (A.deeper env) B Δ fnm ⟨con, env, l.isEmpty⟩ mg mb (callF sub Δ n) := by
  have hR' : Room n (A.deeper env) (env :: l) := ⟨hR.1, by have := hR.2.1; show A.depth + 1 + n < _; omega, by have := hR.2.2.1; show A.units + 3 + 3 * n + 1000 < _; omega, Around.frames_deeper hR.2.2.2⟩
  have hkm : env.scope.kind ≠ .module := by rw [hk]; decide
  refine ⟨⟨W, hR.1, by have := hR'.2.2.1; omega, fun f x args vals σ σ' d π β s E a h1 h2 h3 h4 h5 h6 h7 h8 => ih.val (A.deeper env) (env :: l) hR' f x args vals σ σ' d π β s E a h1 h2 (.inr h3) (fun hs => ?_) h5 h6 h7 h8⟩, K, fun f x args vals σ σ' c π β s E a Q G l' h1 h2 h3 h4 h5 h6 h7 h8 h9 h10 h11 => ?_⟩
  · obtain ⟨q1, m, q2⟩ := h4 hs
    have : l = [] := List.isEmpty_iff.mp q1
    subst this
    exact ⟨env, m, rfl, hkm, hf, hL, q2⟩
  · rw [hR'.2.2.2] at h9
    cases h9
    exact ih.exn (A.deeper env) (env :: l) hR' f x args vals σ σ' c π β s E a Q G h1 h2 h3 h4 h5 h6 h7 h8 h10 h11

theorem call_val (W : Wd prog w B Δ fnm con mg mb) (K : ClsOk B mg) {n : Nat} (ih : CallOk prog w B Δ fnm mg sub n) (A : Around) (l : List Env) (hR : Room (n + 1) A l) (f : Nat) (x : Str) (args : List Val) (vals : List Value) (σ σ' : Sto) (d : Dat) (π β : List Addr) (s : Shared) (E : Value → Shared → Prop) (a : Addr)
    (hf : fnm f = some x) (hx : mg x = some (.ref a)) (hlaw : l = [] ∨ x ≠ ("law" : Str)) (hS : isSp f = true → ∃ e m, l = [e] ∧ e.scope.kind ≠ .module ∧ e.frame = some e.locals ∧ B.objs.size ≤ e.locals ∧ s.heap.Ns e.locals m) (hcall : callF sub Δ (n + 1) f args σ = .val d σ')
    (hrel : RelVs s.heap π β σ args vals) (S : Sim B π s.heap σ β) (hle : B.objs.size ≤ s.heap.objs.size) : wpAny (model prog w) A (call (.ref a) vals) (fun v' s' => Rep s'.heap (grow π σ' β) d v' ∧ ∀ L, Ok B π L β s s' σ σ') E s := by
  simp only [callF] at hcall
  cases hfn : Δ f with
  | none => rw [hfn] at hcall; cases hcall
  | some fn =>
    rw [hfn] at hcall
    simp only at hcall
    split at hcall
    · rename_i harity
      refine call_enter W (by have := hR.2.1; omega) hf hx hfn harity hrel S hle fun env s₁ dr vars e7 k18 at₀ hNamed hsame hkeep hown hfra hkind hLB => ?_
      have HX := hyp_of (sub := sub) W K ih hR hfra hkind hLB
      -- what is left of the body's end
      have fin : ∀ {cx : Cx} {fl : Flow} {s' : Shared}, SPost fnm ⟨con, env, l.isEmpty⟩ B π cx env s₁ σ β (exs sub (callF sub Δ n) fn.body (args.map some ++ List.replicate (fn.slots - fn.arity) none) σ) fl s' →
          Rep s'.heap (grow π σ' β) d (match fl with | .ret v => v | _ => .none) ∧ ∀ L, Ok B π L β s s' σ σ' := fun {cx fl s'} q => by
        cases hq : exs sub (callF sub Δ n) fn.body (args.map some ++ List.replicate (fn.slots - fn.arity) none) σ with
        | next ρ' σ₂ =>
          rw [hq] at q hcall
          cases hcall
          obtain ⟨rfl, β₂, a₂, x₂⟩ := q
          obtain ⟨sk, ok⟩ := ok_back S hsame hkeep hown x₂
          exact ⟨rfl, ok⟩
        | ret d₂ σ₂ =>
          rw [hq] at q hcall
          cases hcall
          obtain ⟨v, β₂, rfl, r₂, x₂⟩ := q
          obtain ⟨sk, ok⟩ := ok_back S hsame hkeep hown x₂
          exact ⟨Rep.mono sk r₂, ok⟩
        | exn => rw [hq] at hcall; cases hcall
        | bad => rw [hq] at hcall; cases hcall
      have hfin : fineS (exs sub (callF sub Δ n) fn.body (args.map some ++ List.replicate (fn.slots - fn.arity) none) σ) := by
        cases hq : exs sub (callF sub Δ n) fn.body (args.map some ++ List.replicate (fn.slots - fn.arity) none) σ with
        | next => trivial
        | ret => trivial
        | exn => rw [hq] at hcall; cases hcall
        | bad => rw [hq] at hcall; cases hcall
      cases hsp : isSp f with
      | false =>
        simp only [hsp, Bool.false_eq_true, if_false] at k18
        have at₁ := at₀ ⟨con, env, l.isEmpty⟩ (dr.name == ("law" : Str)) rfl fun h => ⟨rfl, by
          rcases hlaw with h' | h'
          · rw [h']; rfl
          · exact absurd (e7 ▸ beq_iff_eq.mp h) h'⟩
        exact wpAny_mono (exs_sound HX.H fn.body (hNamed _) at₁ k18 hfin) (fun fl s' q => fin q) fun _ _ z => z
      | true =>
        simp only [hsp, if_true] at k18
        have at₁ := at₀ ⟨con, env, l.isEmpty⟩ false rfl (fun h => nomatch h)
        obtain ⟨e, m, rfl, q2, q3, q4, q5⟩ := hS hsp
        have hfr : (A.deeper env).frames = some (env :: [e]) := Around.frames_deeper hR.2.2.2
        have hout : ∀ e' ∈ [e], e'.scope.kind ≠ .module ∧ ∃ L m, e'.frame = some L ∧ B.objs.size ≤ L ∧ L ∉ own env ∧ s₁.heap.Ns L m := fun e' he' => by
          rcases List.mem_cons.mp he' with rfl | h
          · exact ⟨q2, e'.locals, m, q3, q4, (fun q => by obtain ⟨o, _, _, ho, _⟩ := q5; rw [hown _ q] at ho; cases ho), q5.keeps hkeep⟩
          · exact nomatch h
        generalize hbody : fn.body = bd at k18 hfin fin
        generalize hdb : dr.body = xs at k18 ⊢
        · obtain ⟨g, as, hs, rest, y, ys, rfl, rfl, k18⟩ := chkT1_eq k18
          rw [exq_cons] at hfin fin
          cases hq : ex sub (callF sub Δ n) (.tryc g as hs) (args.map some ++ List.replicate (fn.slots - fn.arity) none) σ with
          | next => exact absurd hq tryc_ret
          | exn => rw [hq] at hfin; exact hfin.elim
          | bad => rw [hq] at hfin; exact hfin.elim
          | ret d₂ σ₂ =>
            rw [hq] at fin
            refine wpAny_execs_cons (wpAny_mono (try_sound HX (hNamed _) at₁ k18 hq hfr hfra hout) (fun fl s' q => ?_) fun _ _ z => z)
            have := fin q
            obtain ⟨v, β₂, rfl, _⟩ := q
            exact this
    · cases hcall

theorem call_exn (W : Wd prog w B Δ fnm con mg mb) (K : ClsOk B mg) {n : Nat} (ih : CallOk prog w B Δ fnm mg sub n) (A : Around) (l : List Env) (hR : Room (n + 1) A l) (f : Nat) (x : Str) (args : List Val) (vals : List Value) (σ σ' : Sto) (c : Nat) (π β : List Addr) (s : Shared) (E : Value → Shared → Prop) (a : Addr) (Q : Value → Shared → Prop) (G : Heap)
    (hf : fnm f = some x) (hx : mg x = some (.ref a)) (hlaw : x ≠ ("law" : Str)) (hsp : isSp f = false) (hcall : callF sub Δ (n + 1) f args σ = .exn c σ')
    (hrel : RelVs s.heap π β σ args vals) (S : Sim B π s.heap σ β) (hle : B.objs.size ≤ s.heap.objs.size) (g : GC B G l σ β s.heap) (hE : ∀ a' h' tk, Fly G l (.ref (cad mg c)) [] s.heap a' h' → E (.ref a') { s with heap := h', toks := tk }) : wpAny (model prog w) A (call (.ref a) vals) Q E s := by
  simp only [callF] at hcall
  cases hfn : Δ f with
  | none => rw [hfn] at hcall; cases hcall
  | some fn =>
    rw [hfn] at hcall
    simp only at hcall
    split at hcall
    · rename_i harity
      refine call_enter W (by have := hR.2.1; omega) hf hx hfn harity hrel S hle fun env s₁ dr vars e7 k18 at₀ hNamed hsame hkeep hown hfra hkind hLB => ?_
      have HX := hyp_of (sub := sub) W K ih hR hfra hkind hLB
      simp only [hsp, Bool.false_eq_true, if_false] at k18
      have htop : (dr.name == ("law" : Str)) = false := by rw [e7]; simpa using hlaw
      rw [htop] at k18
      have at₁ := at₀ ⟨con, env, l.isEmpty⟩ false rfl (fun h => nomatch h)
      have hfr : (A.deeper env).frames = some (env :: l) := Around.frames_deeper hR.2.2.2
      have gnone : ∀ b, s.heap.get? b = none → G.get? b = none := fun b hb => by
        cases e : G.get? b with
        | none => rfl
        | some o => have := g.stay b o e; rw [hb] at this; cases this
      cases hq : exs sub (callF sub Δ n) fn.body (args.map some ++ List.replicate (fn.slots - fn.arity) none) σ with
      | next => rw [hq] at hcall; cases hcall
      | ret => rw [hq] at hcall; cases hcall
      | bad => rw [hq] at hcall; cases hcall
      | exn c' ρ' σ₂ =>
        rw [hq] at hcall
        cases hcall
        have gs : GS B G env l σ β s₁.heap := by
          refine ⟨⟨fun b o e => hkeep b o (g.stay b o e), g.gro, g.dic, fun e he => ?_⟩, fun b hb => gnone b (hown b hb), hfra, fun e he L hL q => ?_⟩
          · rcases List.mem_cons.mp he with rfl | he
            · obtain ⟨m, hm⟩ := at₁.ns
              exact ⟨by rw [hkind]; decide, _, m, hfra, gnone _ (hown _ List.mem_cons_self), hm⟩
            · obtain ⟨q1, L, m, q2, q3, q4⟩ := g.out e he
              exact ⟨q1, L, m, q2, q3, q4.keeps hkeep⟩
          · obtain ⟨q1, L', m, q2, q3, q4⟩ := g.out e he
            rw [hL] at q2; cases q2
            obtain ⟨o, _, _, ho, _⟩ := q4
            rw [hown _ q] at ho; cases ho
        refine exs_x HX fn.body rfl (hNamed _) at₁ k18 hq hfr gs fun a' h tk thr => ?_
        refine leave_thr (s := { s₁ with heap := h, toks := tk }) hfr hfra thr fun h' fly => ?_
        obtain ⟨h1, t1, rfl⟩ := hsame
        exact hE a' h' tk ⟨fly.stay, fly.new, fly.frs, fly.way, fun b o es ep e hd _ => fly.tab b o es ep (hkeep b o e) hd fun q => by rw [hown b q] at e; cases e⟩
    · cases hcall

theorem call_ok (W : Wd prog w B Δ fnm con mg mb) (K : ClsOk B mg) : ∀ n, CallOk prog w B Δ fnm mg sub n
  | 0 => ⟨fun A l hR f x args vals σ σ' d π β s E a h1 h2 h3 h4 h5 => (nomatch h5), fun A l hR f x args vals σ σ' c π β s E a Q G h1 h2 h3 h4 h5 => (nomatch h5)⟩
  | n + 1 => ⟨call_val W K (call_ok W K n), call_exn W K (call_ok W K n)⟩
end
end Mine

/-! ## MOwn -/
namespace Mine
open PySem PyProof.Rows

/-! ## the classes, seen once after the top -/
noncomputable def askOk (h : Heap) (x : Str) : Bool := match h.clsAt mainGlobals x with
  | some (_, _, cd) => askNames.all fun n => (h.nsMap cd.ns n).isNone
  | none => false
noncomputable def ownAt (h : Heap) (x : Str) (ch : List Str) : Bool := h.ownExcOk x ch VB "ValueError.__new__" && askOk h x
noncomputable def addrOf (h : Heap) (x : Str) : Value := (h.nsMap mainGlobals x).getD .none
noncomputable def clsAll (h : Heap) : Bool := ownAt h "WishError" [] && ownAt h "BadGame" ["WishError"] && ownAt h "BadRow" ["WishError"] && ownAt h "BadText" ["WishError"] &&
  decide ([addrOf h "WishError", addrOf h "BadGame", addrOf h "BadRow", addrOf h "BadText"].Nodup)

theorem own_of {h : Heap} {x : Str} {ch : List Str} (e : ownAt h x ch = true) : ∃ C N nm q bs hdct sn sub ab col dd k0 k1 k2 k3 k5, h.nsMap mainGlobals x = some (.ref C) ∧
      h.get? C = some (excClassObj nm q C N bs ((ch.map fun n => (h.nsMap mainGlobals n).getD .none) ++ VB) hdct sn sub ab col dd k0 k1 k2 k3 k5 "ValueError.__new__") ∧ h.Ns N (h.nsMap N) ∧ ∀ n ∈ askNames, h.nsMap N n = none := by
  obtain ⟨x1, y⟩ := Bool.and_eq_true_iff.mp e
  obtain ⟨C, N, nm, q, bs, hdct, sn, sub, ab, col, dd, k0, k1, k2, k3, k5, hb, hC, hN, _⟩ := Heap.ownExc_of_ok x1
  refine ⟨C, N, nm, q, bs, hdct, sn, sub, ab, col, dd, k0, k1, k2, k3, k5, hb, hC, hN, fun n hn => ?_⟩
  unfold askOk at y
  cases hf : h.clsAt mainGlobals x with
  | none => rw [hf] at y; cases y
  | some z =>
    obtain ⟨C', o', cd'⟩ := z
    rw [hf] at y
    obtain ⟨hn', ho', hd'⟩ := Heap.clsAt_spec hf
    rw [hb] at hn'
    obtain rfl : C = C' := by injection hn' with q1; injection q1
    rw [hC] at ho'
    cases ho'
    cases hd'
    exact Option.isNone_iff_eq_none.mp (List.all_eq_true.mp y n hn)

theorem has1 (C D : Addr) : (Value.ref C :: VB).contains (.ref D) = (D == C) := by simp [VB]; rfl
theorem has2 (C W D : Addr) : (Value.ref C :: .ref W :: VB).contains (.ref D) = (D == C || D == W) := by simp [VB]; rfl
theorem cls_ok {h : Heap} (e : clsAll h = true) : ClsOk h (h.nsMap mainGlobals) := by
  simp only [clsAll, Bool.and_eq_true, decide_eq_true_eq] at e
  obtain ⟨⟨⟨⟨e0, e1⟩, e2⟩, e3⟩, hnd⟩ := e
  obtain ⟨W, N0, nm0, q0, bs0, hd0, sn0, sub0, ab0, col0, dd0, a0, a1, a2, a3, a5, b0, c0, n0, m0⟩ := own_of e0
  obtain ⟨C1, N1, nm1, q1, bs1, hd1, sn1, sub1, ab1, col1, dd1, f0, f1, f2, f3, f5, b1, c1, n1, m1⟩ := own_of e1
  obtain ⟨C2, N2, nm2, q2, bs2, hd2, sn2, sub2, ab2, col2, dd2, g0, g1, g2, g3, g5, b2, c2, n2, m2⟩ := own_of e2
  obtain ⟨C3, N3, nm3, q3, bs3, hd3, sn3, sub3, ab3, col3, dd3, i0, i1, i2, i3, i5, b3, c3, n3, m3⟩ := own_of e3
  simp only [addrOf, b0, b1, b2, b3, Option.getD_some, List.nodup_cons, List.mem_cons, List.not_mem_nil, or_false, not_or, Value.ref.injEq, not_false_eq_true, List.nodup_nil, and_true] at hnd
  obtain ⟨⟨d01, d02, d03⟩, ⟨d12, d13⟩, d23⟩ := hnd
  have T0 : Tail h VB := .base
  have TW : Tail h (.ref W :: VB) := .own c0 n0 m0 .base
  have O0 : OwnC W VB h := ⟨T0, N0, nm0, q0, bs0, hd0, sn0, sub0, ab0, col0, dd0, a0, a1, a2, a3, a5, _, by simpa using c0, n0, m0⟩
  have O1 : OwnC C1 (.ref W :: VB) h := ⟨TW, N1, nm1, q1, bs1, hd1, sn1, sub1, ab1, col1, dd1, f0, f1, f2, f3, f5, _, by simpa [b0] using c1, n1, m1⟩
  have O2 : OwnC C2 (.ref W :: VB) h := ⟨TW, N2, nm2, q2, bs2, hd2, sn2, sub2, ab2, col2, dd2, g0, g1, g2, g3, g5, _, by simpa [b0] using c2, n2, m2⟩
  have O3 : OwnC C3 (.ref W :: VB) h := ⟨TW, N3, nm3, q3, bs3, hd3, sn3, sub3, ab3, col3, dd3, i0, i1, i2, i3, i5, _, by simpa [b0] using c3, n3, m3⟩
  have key : ∀ c' x' D, cnm c' = some x' → h.nsMap mainGlobals x' = some (.ref D) → (c' = 0 ∧ D = W) ∨ (c' = 1 ∧ D = C1) ∨ (c' = 2 ∧ D = C2) ∨ (c' = 3 ∧ D = C3) := fun c' x' D h1 h2 => by
    match c', h1 with
    | 0, h1 => cases h1; rw [b0] at h2; cases h2; exact .inl ⟨rfl, rfl⟩
    | 1, h1 => cases h1; rw [b1] at h2; cases h2; exact .inr (.inl ⟨rfl, rfl⟩)
    | 2, h1 => cases h1; rw [b2] at h2; cases h2; exact .inr (.inr (.inl ⟨rfl, rfl⟩))
    | 3, h1 => cases h1; rw [b3] at h2; cases h2; exact .inr (.inr (.inr ⟨rfl, rfl⟩))
  have n10 := Ne.symm d01
  have n20 := Ne.symm d02
  have n30 := Ne.symm d03
  have n21 := Ne.symm d12
  have n31 := Ne.symm d13
  have n32 := Ne.symm d23
  have bn : ∀ {X Y : Addr}, X ≠ Y → (X == Y) = false := fun h => beq_false_of_ne h
  have bs : ∀ X : Addr, (X == X) = true := fun X => beq_self_eq_true X
  refine ⟨fun c x hc => ?_⟩
  match c, hc with
  | 0, hc =>
    cases hc
    refine ⟨W, VB, b0, O0, fun c' x' D h1 h2 => ?_⟩
    rw [has1]
    rcases key c' x' D h1 h2 with ⟨rfl, rfl⟩ | ⟨rfl, rfl⟩ | ⟨rfl, rfl⟩ | ⟨rfl, rfl⟩
    · rw [bs]; rfl
    · rw [bn n10]; rfl
    · rw [bn n20]; rfl
    · rw [bn n30]; rfl
  | 1, hc =>
    cases hc
    refine ⟨C1, _, b1, O1, fun c' x' D h1 h2 => ?_⟩
    rw [has2]
    rcases key c' x' D h1 h2 with ⟨rfl, rfl⟩ | ⟨rfl, rfl⟩ | ⟨rfl, rfl⟩ | ⟨rfl, rfl⟩
    · rw [bs, bn d01]; rfl
    · rw [bs]; rfl
    · rw [bn n21, bn n20]; rfl
    · rw [bn n31, bn n30]; rfl
  | 2, hc =>
    cases hc
    refine ⟨C2, _, b2, O2, fun c' x' D h1 h2 => ?_⟩
    rw [has2]
    rcases key c' x' D h1 h2 with ⟨rfl, rfl⟩ | ⟨rfl, rfl⟩ | ⟨rfl, rfl⟩ | ⟨rfl, rfl⟩
    · rw [bs, bn d02]; rfl
    · rw [bn d12, bn n10]; rfl
    · rw [bs]; rfl
    · rw [bn n32, bn n30]; rfl
  | 3, hc =>
    cases hc
    refine ⟨C3, _, b3, O3, fun c' x' D h1 h2 => ?_⟩
    rw [has2]
    rcases key c' x' D h1 h2 with ⟨rfl, rfl⟩ | ⟨rfl, rfl⟩ | ⟨rfl, rfl⟩ | ⟨rfl, rfl⟩
    · rw [bs, bn d03]; rfl
    · rw [bn d13, bn n10]; rfl
    · rw [bn d23, bn n20]; rfl
    · rw [bs]; rfl
theorem ClsOk.keeps {mg : Str → Option Value} {h h' : Heap} (K : ClsOk h mg) (hk : ∀ b o, h.get? b = some o → h'.get? b = some o) : ClsOk h' mg :=
  ⟨fun c x hc => let ⟨C, bm, e, O, r⟩ := K.cls c x hc; ⟨C, bm, e, O.keeps hk, r⟩⟩
end Mine

/-! ## MGlue -/
namespace Mine
open PySem PyProof.Rows

/-- the table of a law's functions: number, name, the names of its places, its IR -/
noncomputable def chkTab (t : Tab) (con : List (Str × Dat)) (recs : List DefRec) : Bool := t.all fun e => recs.any fun d => d.name == e.2.1 && chkFn e.1 t.fnm (fun x => con.lookup x) e.2.2.1 d e.2.2.2
noncomputable def chkFree (loose recs lits clss : List Str) : Bool := bis.all fun e => !startupNames.contains e.1 && !loose.contains e.1 && !recs.contains e.1 && !lits.contains e.1 && !clss.contains e.1

theorem boot_bis : ∀ e ∈ bis, e.1 ≠ ("__name__" : Str) ∧ bootBuiltins e.1 = some e.2 := by
  intro e he
  simp only [bis, List.mem_cons, List.not_mem_nil, or_false] at he
  rcases he with rfl | rfl | rfl | rfl | rfl | rfl | rfl | rfl | rfl | rfl | rfl | rfl | rfl | rfl | rfl | rfl | rfl | rfl <;> exact ⟨by decide, by kernel_rfl⟩

theorem lookup_mem {κ α : Type} [BEq κ] [LawfulBEq κ] : ∀ {l : List (κ × α)} {n : κ} {c : α}, l.lookup n = some c → (n, c) ∈ l
  | (k, v) :: r, n, c, h => by
    rw [List.lookup_cons] at h
    cases hb : n == k with
    | true => rw [hb] at h; cases h; rw [beq_iff_eq.mp hb]; exact List.mem_cons_self
    | false => rw [hb] at h; exact List.mem_cons_of_mem _ (lookup_mem h)

/-- a module constant that is a number, a truth value or a text -/
noncomputable def conPy : Dat → Option PyData
  | .int i => some (.int i)
  | .bool b => some (.bool b)
  | .str s => some (.str ⟨s.toArray⟩)
  | .none => some .none
  | _ => none

theorem con_ok {p : Program} {con : List (Str × Dat)} (h : ∀ e ∈ con, ∃ pd, conPy e.2 = some pd ∧ valOf p e.1 = some pd) : ∀ x d, con.lookup x = some d → ∃ pd, conPy d = some pd ∧ valOf p x = some pd := fun x d hl => h _ (lookup_mem hl)
theorem wd_of {prog p : Program} {w : World} {loose : List Str} {mean : ExcName → Option Value} {mg mb : Str → Option Value} {h : Heap} (T : Top p loose mean mg mb h) (t : Tab) (con : List (Str × Dat))
    (h1 : chkTab t con (recsOf p) = true) (h2 : chkFree loose ((recsOf p).map (·.name)) ((litsOf p).map (·.1)) ((clssOf p loose).map (·.name)) = true) (h3 : ∀ x d, con.lookup x = some d → ∃ pd, conPy d = some pd ∧ valOf p x = some pd) :
    Wd prog w h t.Δ t.fnm (fun x => con.lookup x) mg mb where
  g := T.g
  b := T.b
  nolimit := T.nolimit
  bi := fun x v hm => by
    have hb := boot_bis (x, v) hm
    refine ⟨?_, (T.builtins x hb.1).trans hb.2⟩
    have := List.all_eq_true.mp h2 (x, v) hm
    simp only [Bool.and_eq_true, Bool.not_eq_true', List.contains_eq_mem, decide_eq_false_iff_not] at this
    exact T.free x this.1.1.1.1 this.1.1.1.2 this.1.1.2 this.1.2 this.2
  fn := fun f x hf => by
    unfold Tab.fnm at hf
    cases hl : t.lookup f with
    | none => rw [hl] at hf; cases hf
    | some e =>
      rw [hl] at hf
      cases hf
      have := List.all_eq_true.mp h1 _ (lookup_mem hl)
      obtain ⟨d, hd, hc⟩ := List.any_eq_true.mp this
      simp only [Bool.and_eq_true, beq_iff_eq] at hc
      obtain ⟨a, o, pm, code, doc, q1, q2, q3, q4⟩ := T.fn d hd
      exact ⟨e.2.2, e.2.1, d, a, o, pm, code, doc, by unfold Tab.Δ; rw [hl]; rfl, by show mg e.1 = _; rw [← hc.1]; exact q1, q2, q3, q4, hc.2, hc.1⟩
  con := fun x d hc => by
    obtain ⟨pd, h4, h5⟩ := h3 x d hc
    obtain ⟨v, hv, hr⟩ := T.const x pd h5
    refine ⟨v, hv, fun hh γ => ?_⟩
    have hr := hr hh
    cases d <;> simp only [conPy, reduceCtorEq, Option.some.injEq] at h4 <;> subst h4 <;> cases hr
    · rfl
    · rfl
    · exact ⟨_, rfl⟩
    · exact ⟨_, rfl⟩

theorem reps_ints {h : Heap} {γ : List Addr} {vs : List Value} {is : List Int} (x : IntsAre vs is) : Reps h γ (is.map .int) vs := by
  induction x with
  | nil => simp [Reps]
  | cons n t x ih => simp only [List.map_cons, Reps]; exact ⟨⟨t, rfl⟩, ih⟩

theorem law_glue {prog : Program} {w : World} {mg mb : Str → Option Value} {s₁ : Shared} {t : Tab} {con : Str → Option Dat} {sub : Nat → Nat → Bool} {fa la : Addr} {vs : List Value} {script : List Int} {f : Nat} {x : Str} {n : Nat} {Q : Value → Shared → Prop} {E : Value → Shared → Prop}
    (W : Wd prog w s₁.heap t.Δ t.fnm con mg mb) (K : ClsOk s₁.heap mg) (hsp : isSp f = false) (hf : t.fnm f = some x) (hx : mg x = some (.ref fa)) (hl : s₁.heap.IsList la vs.toArray) (hi : IntsAre vs script) (hn : n ≤ 600)
    (hcall : callF sub t.Δ n f [.dat (.lst (script.map .int))] [] = .val (.bool true) [])
    (hQ : ∀ h' tk, (∀ b o, s₁.heap.get? b = some o → h'.get? b = some o) → Q (.bool true) { s₁ with heap := h', toks := tk }) :
    wpAny (model prog w) callerA (call (.ref fa) [.ref la]) Q E s₁ := by
  have S : Sim s₁.heap [] s₁.heap [] [] := ⟨rfl, List.nodup_nil, fun _ _ e => e, fun _ h => (nomatch h), fun k e a h1 => by simp at h1, fun _ h => (nomatch h)⟩
  have hr : RelVs s₁.heap [] [] [] [.dat (.lst (script.map .int))] [.ref la] := by
    refine ⟨?_, trivial⟩
    show Rep _ _ _ _
    simp only [Rep]
    exact ⟨la, vs.toArray, rfl, by simp [grow, growS], hl, by simpa using reps_ints hi⟩
  have hR : Room n callerA [] := by
    have hm : claimMargin ≤ 300 := by decide
    refine ⟨rfl, ?_, ?_, rfl⟩
    · show 1 + claimMargin + n < 1000
      omega
    · show 4 + 3 * n + 1000 < 9900
      omega
  refine wpAny_mono ((call_ok (sub := sub) W K n).val callerA [] hR f x _ _ [] [] _ [] [] s₁ E fa hf hx (.inl rfl) (fun h => by rw [hsp] at h; cases h) hcall hr S (Nat.le_refl _)) (fun v' s' q => ?_) fun _ _ z => z
  obtain ⟨rv, ok⟩ := q
  have e : v' = .bool true := rv
  subst e
  obtain ⟨h', tk, rfl⟩ := (ok 0).sh
  refine hQ h' tk fun b o q => ?_
  exact (ok 0).sim.base b o q
end Mine

/-! ## PBase -/
namespace Mine

theorem st_get (σ : Sto) (e : Bool × List Dat) : (σ ++ [e])[σ.length]? = some e := by simp
theorem st_set (σ : Sto) (e e' : Bool × List Dat) : (σ ++ [e]).set σ.length e' = σ ++ [e'] := by simp
theorem st_take (σ : Sto) (e : Bool × List Dat) : (σ ++ [e]).take σ.length = σ := by simp

/-! ### the evaluator, step by step -/
section
variable (sub : Nat → Nat → Bool) (C : Oracle)
noncomputable def kSeq (ss : ISs) : SOut → SOut | .next ρ σ => exs sub C ss ρ σ | o => o
noncomputable def kAsg (i : Nat) (ρ : Loc) : Out Val → SOut | .val v σ => .next (ρ.set i (some v)) σ | .exn c σ => .exn c ρ σ | .bad => .bad
noncomputable def kNew (i : Nat) (ρ : Loc) : Out (List Dat) → SOut | .val ds σ => .next (ρ.set i (some (.ref σ.length))) (σ ++ [(true, ds)]) | .exn c σ => .exn c ρ σ | .bad => .bad
noncomputable def kApp2 (k : Nat) (ρ : Loc) (d : Dat) (σ : Sto) : Option (Bool × List Dat) → SOut
  | some (true, l) => if l.length < 1000000 then .next ρ (σ.set k (true, l ++ [d])) else .bad
  | _ => .bad
noncomputable def kApp (k : Nat) (ρ : Loc) : Out Val → SOut
  | .val v σ => (match toDat v σ with | .val d σ => kApp2 k ρ d σ σ[k]? | _ => .bad)
  | .exn c σ => .bad
  | .bad => .bad
noncomputable def kApp0 (e : IE) (ρ : Loc) (σ : Sto) : Option (Option Val) → SOut
  | some (some (.ref k)) => kApp k ρ (ev sub C e ρ σ)
  | _ => .bad
noncomputable def kRet (ρ : Loc) : Out Val → SOut | .val v σ => (toDat v σ).stm ρ fun d σ => .ret d σ | .exn c σ => .exn c ρ σ | .bad => .bad
noncomputable def kIte (a b : ISs) (ρ : Loc) : Out Bool → SOut | .val t σ => if t then exs sub C a ρ σ else exs sub C b ρ σ | .exn c σ => .exn c ρ σ | .bad => .bad
noncomputable def bodyF (x : Nat) (body : ISs) (d : Dat) (ρ : Loc) (σ : Sto) : SOut := exs sub C body (ρ.set x (some (.dat d))) σ
noncomputable def kFor (x : Nat) (body : ISs) (ρ : Loc) : Out Src → SOut | .val s σ => if s.items.length ≤ 1000000 then forL s (bodyF sub C x body) s.items ρ σ else .bad | .exn c σ => .exn c ρ σ | .bad => .bad
noncomputable def kBack (n : Nat) (o : SOut) : Out Dat := o.back n

theorem exs_nil (ρ : Loc) (σ : Sto) : exs sub C .nil ρ σ = .next ρ σ := rfl
theorem exs_cons (s : IS) (ss : ISs) (ρ : Loc) (σ : Sto) : exs sub C (.cons s ss) ρ σ = kSeq sub C ss (ex sub C s ρ σ) := by
  show SOut.bind (ex sub C s ρ σ) _ = _; cases ex sub C s ρ σ <;> rfl
theorem kSeq_next (ss : ISs) (ρ : Loc) (σ : Sto) : kSeq sub C ss (.next ρ σ) = exs sub C ss ρ σ := rfl
theorem kSeq_ret (ss : ISs) (d : Dat) (σ : Sto) : kSeq sub C ss (.ret d σ) = .ret d σ := rfl
theorem ex_assign (i : Nat) (e : IE) (ρ : Loc) (σ : Sto) : ex sub C (.assign i e) ρ σ = kAsg i ρ (ev sub C e ρ σ) := by
  show Out.stm (ev sub C e ρ σ) _ _ = _; cases ev sub C e ρ σ <;> rfl
theorem kAsg_val (i : Nat) (ρ : Loc) (v : Val) (σ : Sto) : kAsg i ρ (.val v σ) = .next (ρ.set i (some v)) σ := rfl
theorem ex_newlst (i : Nat) (es : IEs) (ρ : Loc) (σ : Sto) : ex sub C (.newlst i es) ρ σ = kNew i ρ (evs sub C es ρ σ) := by
  show Out.stm (evs sub C es ρ σ) _ _ = _; cases evs sub C es ρ σ <;> rfl
theorem kNew_val (i : Nat) (ρ : Loc) (ds : List Dat) (σ : Sto) : kNew i ρ (.val ds σ) = .next (ρ.set i (some (.ref σ.length))) (σ ++ [(true, ds)]) := rfl
theorem ex_append (i : Nat) (e : IE) (ρ : Loc) (σ : Sto) : ex sub C (.append i e) ρ σ = kApp0 sub C e ρ σ ρ[i]? := by
  show (match ρ[i]? with
    | some (some (.ref k)) => (ev sub C e ρ σ).stmK fun v σ => match toDat v σ with
      | .val d σ => (match σ[k]? with
        | some (true, l) => if l.length < 1000000 then SOut.next ρ (σ.set k (true, l ++ [d])) else .bad
        | _ => .bad)
      | _ => .bad
    | _ => .bad) = _
  cases ρ[i]? with
  | none => rfl
  | some o =>
    cases o with
    | none => rfl
    | some v =>
      cases v with
      | dat d => rfl
      | exc c => rfl
      | ref k =>
        simp only [kApp0]
        cases ev sub C e ρ σ with
        | val v σ =>
          simp only [Out.stmK_val, kApp]
          cases toDat v σ with
          | val d σ =>
            simp only
            cases σ[k]? with
            | none => rfl
            | some e => obtain ⟨b, l⟩ := e; cases b <;> rfl
          | exn => rfl
          | bad => rfl
        | exn => rfl
        | bad => rfl
theorem kApp0_ref (e : IE) (ρ : Loc) (σ : Sto) (k : Nat) : kApp0 sub C e ρ σ (some (some (.ref k))) = kApp k ρ (ev sub C e ρ σ) := rfl
theorem kApp_dat (k : Nat) (ρ : Loc) (d : Dat) (σ : Sto) : kApp k ρ (.val (.dat d) σ) = kApp2 k ρ d σ σ[k]? := rfl
theorem kApp2_some (k : Nat) (ρ : Loc) (d : Dat) (σ : Sto) (l : List Dat) (h : l.length < 1000000) : kApp2 k ρ d σ (some (true, l)) = .next ρ (σ.set k (true, l ++ [d])) := if_pos h
theorem ex_ret (e : IE) (ρ : Loc) (σ : Sto) : ex sub C (.ret e) ρ σ = kRet ρ (ev sub C e ρ σ) := by
  show Out.stm (ev sub C e ρ σ) _ _ = _; cases ev sub C e ρ σ <;> rfl
theorem kRet_dat (ρ : Loc) (d : Dat) (σ : Sto) : kRet ρ (.val (.dat d) σ) = .ret d σ := rfl
theorem kRet_ref (ρ : Loc) (k : Nat) (σ : Sto) (b : Bool) (l : List Dat) (h : σ[k]? = some (b, l)) : kRet ρ (.val (.ref k) σ) = .ret (.lst l) (σ.set k (false, l)) := by
  simp [kRet, toDat, h]
theorem ex_ite (c : IE) (a b : ISs) (ρ : Loc) (σ : Sto) : ex sub C (.ite c a b) ρ σ = kIte sub C a b ρ (evB sub C c ρ σ) := by
  show Out.stm (evB sub C c ρ σ) _ _ = _; cases evB sub C c ρ σ <;> rfl
theorem kIte_true (a b : ISs) (ρ : Loc) (σ : Sto) : kIte sub C a b ρ (.val true σ) = exs sub C a ρ σ := rfl
theorem kIte_false (a b : ISs) (ρ : Loc) (σ : Sto) : kIte sub C a b ρ (.val false σ) = exs sub C b ρ σ := rfl
theorem kIte_val (a b : ISs) (ρ : Loc) (σ : Sto) (t : Bool) : kIte sub C a b ρ (.val t σ) = if t then exs sub C a ρ σ else exs sub C b ρ σ := rfl
theorem ex_for1 (x : Nat) (it : II) (body : ISs) (ρ : Loc) (σ : Sto) : ex sub C (.for1 x it body) ρ σ = kFor sub C x body ρ (evI sub C it ρ σ) := by
  show Out.stm (evI sub C it ρ σ) _ _ = _; cases evI sub C it ρ σ <;> rfl
theorem kFor_val (x : Nat) (body : ISs) (ρ : Loc) (s : Src) (σ : Sto) (h : s.items.length ≤ 1000000) : kFor sub C x body ρ (.val s σ) = forL s (bodyF sub C x body) s.items ρ σ := if_pos h

noncomputable def kBin1 (op : BOp) (b : IE) (ρ : Loc) : Out Val → Out Val | .val v σ => (ev sub C b ρ σ).bind fun w σ => d2 (bin2 op) v w σ | .exn c σ => .bad | .bad => .bad
noncomputable def kBin2 (op : BOp) (v : Val) : Out Val → Out Val | .val w σ => d2 (bin2 op) v w σ | .exn c σ => .bad | .bad => .bad
theorem ev_lit (d : Dat) (ρ : Loc) (σ : Sto) : ev sub C (.lit d) ρ σ = .val (.dat d) σ := rfl
theorem ev_con (x : String) (d : Dat) (ρ : Loc) (σ : Sto) : ev sub C (.con x d) ρ σ = .val (.dat d) σ := rfl
noncomputable def kVar (σ : Sto) : Option (Option Val) → Out Val | some (some v) => .val v σ | _ => .bad
theorem kVar_val (σ : Sto) (v : Val) : kVar σ (some (some v)) = .val v σ := rfl
theorem ev_var (i : Nat) (ρ : Loc) (σ : Sto) : ev sub C (.var i) ρ σ = kVar σ ρ[i]? := by
  show (match ρ[i]? with | some (some v) => Out.val v σ | _ => Out.bad) = _
  cases ρ[i]? with
  | none => rfl
  | some o => cases o <;> rfl
theorem ev_bin (op : BOp) (a b : IE) (ρ : Loc) (σ : Sto) : ev sub C (.bin op a b) ρ σ = kBin1 sub C op b ρ (ev sub C a ρ σ) := by
  show Out.bind (ev sub C a ρ σ) _ = _; cases ev sub C a ρ σ <;> rfl
theorem kBin1_val (op : BOp) (b : IE) (ρ : Loc) (v : Val) (σ : Sto) : kBin1 sub C op b ρ (.val v σ) = kBin2 op v (ev sub C b ρ σ) := by
  simp only [kBin1]; cases ev sub C b ρ σ <;> rfl
theorem kBin2_val (op : BOp) (v w : Val) (σ : Sto) : kBin2 op v (.val w σ) = d2 (bin2 op) v w σ := rfl
noncomputable def kD1 (f : Dat → Option Dat) : Out Val → Out Val | .val v σ => d1 f v σ | .exn c σ => .bad | .bad => .bad
theorem kD1_val (f : Dat → Option Dat) (v : Val) (σ : Sto) : kD1 f (.val v σ) = d1 f v σ := rfl
noncomputable def kD2a (f : Dat → Dat → Option Dat) (b : IE) (ρ : Loc) : Out Val → Out Val | .val v σ => (ev sub C b ρ σ).bind fun w σ => d2 f v w σ | .exn c σ => .bad | .bad => .bad
noncomputable def kD2 (f : Dat → Dat → Option Dat) (v : Val) : Out Val → Out Val | .val w σ => d2 f v w σ | .exn c σ => .bad | .bad => .bad
theorem kD2a_val (f : Dat → Dat → Option Dat) (b : IE) (ρ : Loc) (v : Val) (σ : Sto) : kD2a sub C f b ρ (.val v σ) = kD2 f v (ev sub C b ρ σ) := by
  simp only [kD2a]; cases ev sub C b ρ σ <;> rfl
theorem kD2_val (f : Dat → Dat → Option Dat) (v w : Val) (σ : Sto) : kD2 f v (.val w σ) = d2 f v w σ := rfl
noncomputable def negD : Dat → Option Dat | .int i => some (.int (-i)) | _ => Option.none
theorem ev_neg (a : IE) (ρ : Loc) (σ : Sto) : ev sub C (.neg a) ρ σ = kD1 negD (ev sub C a ρ σ) := by
  show Out.bind (ev sub C a ρ σ) _ = _; cases ev sub C a ρ σ <;> rfl
theorem ev_prim (p : Prim) (a : IE) (ρ : Loc) (σ : Sto) : ev sub C (.prim p a) ρ σ = kD1 (prim1 p) (ev sub C a ρ σ) := by
  show Out.bind (ev sub C a ρ σ) _ = _; cases ev sub C a ρ σ <;> rfl
theorem ev_prim2 (p : Prim2) (a b : IE) (ρ : Loc) (σ : Sto) : ev sub C (.prim2 p a b) ρ σ = kD2a sub C (prim2 p) b ρ (ev sub C a ρ σ) := by
  show Out.bind (ev sub C a ρ σ) _ = _; cases ev sub C a ρ σ <;> rfl
noncomputable def kIdx (b : IE) (ρ : Loc) : Out Val → Out Val | .val v σ => kD2 idx2 v (ev sub C b ρ σ) | .exn c σ => .exn c σ | .bad => .bad
theorem kIdx_val (b : IE) (ρ : Loc) (v : Val) (σ : Sto) : kIdx sub C b ρ (.val v σ) = kD2 idx2 v (ev sub C b ρ σ) := rfl
theorem kIdx_exn (b : IE) (ρ : Loc) (c : Nat) (σ : Sto) : kIdx sub C b ρ (.exn c σ) = .exn c σ := rfl
theorem ev_idx (a b : IE) (ρ : Loc) (σ : Sto) : ev sub C (.idx a b) ρ σ = kIdx sub C b ρ (ev sub C a ρ σ) := by
  show Out.bindX (ev sub C a ρ σ) _ = _
  cases ev sub C a ρ σ with
  | val v σ => simp only [Out.bindX_val, kIdx]; cases ev sub C b ρ σ <;> rfl
  | exn => rfl
  | bad => rfl
theorem ev_slFrom (a b : IE) (ρ : Loc) (σ : Sto) : ev sub C (.slFrom a b) ρ σ = kD2a sub C slFrom2 b ρ (ev sub C a ρ σ) := by
  show Out.bind (ev sub C a ρ σ) _ = _; cases ev sub C a ρ σ <;> rfl
theorem ev_slTo (a b : IE) (ρ : Loc) (σ : Sto) : ev sub C (.slTo a b) ρ σ = kD2a sub C slTo2 b ρ (ev sub C a ρ σ) := by
  show Out.bind (ev sub C a ρ σ) _ = _; cases ev sub C a ρ σ <;> rfl
noncomputable def kTup : Out (List Dat) → Out Val | .val ds σ => .val (.dat (.tup ds)) σ | .exn c σ => .bad | .bad => .bad
noncomputable def kLst : Out (List Dat) → Out Val | .val ds σ => .val (.dat (.lst ds)) σ | .exn c σ => .bad | .bad => .bad
theorem kTup_val (ds : List Dat) (σ : Sto) : kTup (.val ds σ) = .val (.dat (.tup ds)) σ := rfl
theorem kLst_val (ds : List Dat) (σ : Sto) : kLst (.val ds σ) = .val (.dat (.lst ds)) σ := rfl
theorem ev_tup (es : IEs) (ρ : Loc) (σ : Sto) : ev sub C (.tup es) ρ σ = kTup (evs sub C es ρ σ) := by
  show Out.bind (evs sub C es ρ σ) _ = _; cases evs sub C es ρ σ <;> rfl
theorem ev_lst (es : IEs) (ρ : Loc) (σ : Sto) : ev sub C (.lst es) ρ σ = kLst (evs sub C es ρ σ) := by
  show Out.bind (evs sub C es ρ σ) _ = _; cases evs sub C es ρ σ <;> rfl
noncomputable def kNot : Out Bool → Out Bool | .val b σ => .val (!b) σ | .exn c σ => .bad | .bad => .bad
theorem kNot_val (b : Bool) (σ : Sto) : kNot (.val b σ) = .val (!b) σ := rfl
noncomputable def kBool : Out Bool → Out Val | .val b σ => .val (.dat (.bool b)) σ | .exn c σ => .bad | .bad => .bad
theorem kBool_val (b : Bool) (σ : Sto) : kBool (.val b σ) = .val (.dat (.bool b)) σ := rfl
noncomputable def kTru : Out Val → Out Bool | .val v σ => truthOf v σ | .exn c σ => .bad | .bad => .bad
theorem kTru_val (b : Bool) (σ : Sto) : kTru (.val (.dat (.bool b)) σ) = .val b σ := rfl
theorem ev_not (a : IE) (ρ : Loc) (σ : Sto) : ev sub C (.not a) ρ σ = kBool (kNot (kTru (ev sub C a ρ σ))) := by
  show Out.bind (ev sub C a ρ σ) _ = _
  cases ev sub C a ρ σ with
  | val v σ => simp only [Out.bind_val, kTru]; cases truthOf v σ <;> rfl
  | exn => rfl
  | bad => rfl
noncomputable def kCmp2 (cs : ICs) (ρ : Loc) (w : Val) (σ : Sto) : Option Bool → Out Bool
  | some true => evCmp sub C w cs ρ σ
  | some false => .val false σ
  | Option.none => .bad
noncomputable def kCmp1 (op : COp) (v : Val) (cs : ICs) (ρ : Loc) : Out Val → Out Bool | .val w σ => kCmp2 sub C cs ρ w σ (c2 op v w σ) | .exn c σ => .bad | .bad => .bad
noncomputable def kCmp0 (cs : ICs) (ρ : Loc) : Out Val → Out Bool | .val v σ => evCmp sub C v cs ρ σ | .exn c σ => .bad | .bad => .bad
theorem evCmp_cons (v : Val) (op : COp) (e : IE) (cs : ICs) (ρ : Loc) (σ : Sto) : evCmp sub C v (.cons op e cs) ρ σ = kCmp1 sub C op v cs ρ (ev sub C e ρ σ) := by
  show Out.bind (ev sub C e ρ σ) _ = _
  cases ev sub C e ρ σ with
  | val w σ => simp only [Out.bind_val, kCmp1]; cases c2 op v w σ with
    | none => rfl
    | some b => cases b <;> rfl
  | exn => rfl
  | bad => rfl
theorem evCmp_nil (v : Val) (ρ : Loc) (σ : Sto) : evCmp sub C v .nil ρ σ = .val true σ := rfl
theorem kCmp1_val (op : COp) (v w : Val) (cs : ICs) (ρ : Loc) (σ : Sto) : kCmp1 sub C op v cs ρ (.val w σ) = kCmp2 sub C cs ρ w σ (c2 op v w σ) := rfl
theorem kCmp2_nil (ρ : Loc) (w : Val) (σ : Sto) (b : Bool) : kCmp2 sub C .nil ρ w σ (some b) = .val b σ := by cases b <;> simp only [kCmp2, evCmp]
theorem kCmp2_true (cs : ICs) (ρ : Loc) (w : Val) (σ : Sto) : kCmp2 sub C cs ρ w σ (some true) = evCmp sub C w cs ρ σ := rfl
theorem kCmp2_false (cs : ICs) (ρ : Loc) (w : Val) (σ : Sto) : kCmp2 sub C cs ρ w σ (some false) = .val false σ := rfl
theorem kCmp0_val (cs : ICs) (ρ : Loc) (v : Val) (σ : Sto) : kCmp0 sub C cs ρ (.val v σ) = evCmp sub C v cs ρ σ := rfl
theorem ev_cmp (a : IE) (cs : ICs) (ρ : Loc) (σ : Sto) : ev sub C (.cmp a cs) ρ σ = kBool (kCmp0 sub C cs ρ (ev sub C a ρ σ)) := by
  show Out.bind (ev sub C a ρ σ) _ = _
  cases ev sub C a ρ σ with
  | val v σ => simp only [Out.bind_val, kCmp0]; cases evCmp sub C v cs ρ σ <;> rfl
  | exn => rfl
  | bad => rfl
theorem evB_cmp (a : IE) (cs : ICs) (ρ : Loc) (σ : Sto) : evB sub C (.cmp a cs) ρ σ = kCmp0 sub C cs ρ (ev sub C a ρ σ) := by
  show Out.bind (ev sub C a ρ σ) _ = _; cases ev sub C a ρ σ <;> rfl
noncomputable def kCall (f : Nat) : Out (List Val) → Out Dat | .val vs σ => C f vs σ | .exn c σ => .bad | .bad => .bad
noncomputable def kDat : Out Dat → Out Val | .val d σ => .val (.dat d) σ | .exn c σ => .exn c σ | .bad => .bad
theorem kDat_exn (c : Nat) (σ : Sto) : kDat (.exn c σ) = .exn c σ := rfl
theorem kCall_val (f : Nat) (vs : List Val) (σ : Sto) : kCall C f (.val vs σ) = C f vs σ := rfl
theorem kDat_val (d : Dat) (σ : Sto) : kDat (.val d σ) = .val (.dat d) σ := rfl
theorem ev_call (f : Nat) (as : IEs) (ρ : Loc) (σ : Sto) : ev sub C (.call f as) ρ σ = kDat (kCall C f (evArgs sub C as ρ σ)) := by
  show Out.bind (evArgs sub C as ρ σ) _ = _
  cases evArgs sub C as ρ σ with
  | val vs σ => simp only [Out.bind_val, kCall]; cases C f vs σ <;> rfl
  | exn => rfl
  | bad => rfl
noncomputable def kCons {α : Type} (a : α) : Out (List α) → Out (List α) | .val as σ => .val (a :: as) σ | .exn c σ => .bad | .bad => .bad
theorem kCons_val {α : Type} (a : α) (as : List α) (σ : Sto) : kCons a (.val as σ) = .val (a :: as) σ := rfl
noncomputable def kArgs (es : IEs) (ρ : Loc) : Out Val → Out (List Val) | .val v σ => kCons v (evArgs sub C es ρ σ) | .exn c σ => .bad | .bad => .bad
theorem kArgs_val (es : IEs) (ρ : Loc) (v : Val) (σ : Sto) : kArgs sub C es ρ (.val v σ) = kCons v (evArgs sub C es ρ σ) := rfl
theorem evArgs_nil (ρ : Loc) (σ : Sto) : evArgs sub C .nil ρ σ = .val [] σ := rfl
theorem evArgs_cons (e : IE) (es : IEs) (ρ : Loc) (σ : Sto) : evArgs sub C (.cons e es) ρ σ = kArgs sub C es ρ (ev sub C e ρ σ) := by
  show Out.bind (ev sub C e ρ σ) _ = _
  cases ev sub C e ρ σ with
  | val v σ => simp only [Out.bind_val, kArgs]; cases evArgs sub C es ρ σ <;> rfl
  | exn => rfl
  | bad => rfl
noncomputable def kToDat : Out Val → Out Dat | .val v σ => toDat v σ | .exn c σ => .bad | .bad => .bad
theorem kToDat_dat (d : Dat) (σ : Sto) : kToDat (.val (.dat d) σ) = .val d σ := rfl
theorem kToDat_ref (k : Nat) (σ : Sto) (b : Bool) (l : List Dat) (h : σ[k]? = some (b, l)) : kToDat (.val (.ref k) σ) = .val (.lst l) (σ.set k (false, l)) := by simp [kToDat, toDat, h]
noncomputable def kEvs (es : IEs) (ρ : Loc) : Out Dat → Out (List Dat) | .val d σ => kCons d (evs sub C es ρ σ) | .exn c σ => .bad | .bad => .bad
theorem kEvs_val (es : IEs) (ρ : Loc) (d : Dat) (σ : Sto) : kEvs sub C es ρ (.val d σ) = kCons d (evs sub C es ρ σ) := rfl
theorem evs_nil (ρ : Loc) (σ : Sto) : evs sub C .nil ρ σ = .val [] σ := rfl
theorem evs_cons (e : IE) (es : IEs) (ρ : Loc) (σ : Sto) : evs sub C (.cons e es) ρ σ = kEvs sub C es ρ (kToDat (ev sub C e ρ σ)) := by
  show Out.bind (ev sub C e ρ σ) _ = _
  cases ev sub C e ρ σ with
  | val v σ =>
    simp only [Out.bind_val, kToDat]
    cases toDat v σ with
    | val d σ => simp only [Out.bind_val, kEvs]; cases evs sub C es ρ σ <;> rfl
    | exn => rfl
    | bad => rfl
  | exn => rfl
  | bad => rfl
/-- and, or of values -/
noncomputable def kAnd (es : IEs) (ρ : Loc) (o : Out Val) : Out Val := o.bind fun v σ => (truthOf v σ).bind fun b σ => if b then evAnd sub C es ρ σ else .val v σ
noncomputable def kOr (es : IEs) (ρ : Loc) (o : Out Val) : Out Val := o.bind fun v σ => (truthOf v σ).bind fun b σ => if b then .val v σ else evOr sub C es ρ σ
theorem ev_and (es : IEs) (ρ : Loc) (σ : Sto) : ev sub C (.and es) ρ σ = evAnd sub C es ρ σ := rfl
theorem ev_or (es : IEs) (ρ : Loc) (σ : Sto) : ev sub C (.or es) ρ σ = evOr sub C es ρ σ := rfl
theorem evAnd_one (e : IE) (ρ : Loc) (σ : Sto) : evAnd sub C (.cons e .nil) ρ σ = (ev sub C e ρ σ).noX := rfl
theorem evOr_one (e : IE) (ρ : Loc) (σ : Sto) : evOr sub C (.cons e .nil) ρ σ = (ev sub C e ρ σ).noX := rfl
theorem evAnd_cons (e e' : IE) (es : IEs) (ρ : Loc) (σ : Sto) : evAnd sub C (.cons e (.cons e' es)) ρ σ = kAnd sub C (.cons e' es) ρ (ev sub C e ρ σ) := rfl
theorem evOr_cons (e e' : IE) (es : IEs) (ρ : Loc) (σ : Sto) : evOr sub C (.cons e (.cons e' es)) ρ σ = kOr sub C (.cons e' es) ρ (ev sub C e ρ σ) := rfl
theorem kAnd_true (es : IEs) (ρ : Loc) (σ : Sto) : kAnd sub C es ρ (.val (.dat (.bool true)) σ) = evAnd sub C es ρ σ := rfl
theorem kAnd_false (es : IEs) (ρ : Loc) (σ : Sto) : kAnd sub C es ρ (.val (.dat (.bool false)) σ) = .val (.dat (.bool false)) σ := rfl
theorem kOr_true (es : IEs) (ρ : Loc) (σ : Sto) : kOr sub C es ρ (.val (.dat (.bool true)) σ) = .val (.dat (.bool true)) σ := rfl
theorem kOr_false (es : IEs) (ρ : Loc) (σ : Sto) : kOr sub C es ρ (.val (.dat (.bool false)) σ) = evOr sub C es ρ σ := rfl
theorem kAnd_val (es : IEs) (ρ : Loc) (σ : Sto) (b : Bool) : kAnd sub C es ρ (.val (.dat (.bool b)) σ) = if b then evAnd sub C es ρ σ else .val (.dat (.bool false)) σ := by cases b <;> rfl
theorem kOr_val (es : IEs) (ρ : Loc) (σ : Sto) (b : Bool) : kOr sub C es ρ (.val (.dat (.bool b)) σ) = if b then .val (.dat (.bool true)) σ else evOr sub C es ρ σ := by cases b <;> rfl
/-- tests -/
noncomputable def kAll (es : IEs) (ρ : Loc) : Out Bool → Out Bool | .val b σ => if b then evAll sub C es ρ σ else .val false σ | .exn c σ => .bad | .bad => .bad
noncomputable def kAny (es : IEs) (ρ : Loc) : Out Bool → Out Bool | .val b σ => if b then .val true σ else evAny sub C es ρ σ | .exn c σ => .bad | .bad => .bad
noncomputable def kIfs (es : IEs) (ρ : Loc) : Out Bool → Out Bool | .val b σ => if b then evIfs sub C es ρ σ else .val false σ | .exn c σ => .bad | .bad => .bad
theorem evAll_nil (ρ : Loc) (σ : Sto) : evAll sub C .nil ρ σ = .val true σ := rfl
theorem evAny_nil (ρ : Loc) (σ : Sto) : evAny sub C .nil ρ σ = .val false σ := rfl
theorem evIfs_nil (ρ : Loc) (σ : Sto) : evIfs sub C .nil ρ σ = .val true σ := rfl
theorem evAll_cons (e : IE) (es : IEs) (ρ : Loc) (σ : Sto) : evAll sub C (.cons e es) ρ σ = kAll sub C es ρ (evB sub C e ρ σ) := by show Out.bind (evB sub C e ρ σ) _ = _; cases evB sub C e ρ σ <;> rfl
theorem evAny_cons (e : IE) (es : IEs) (ρ : Loc) (σ : Sto) : evAny sub C (.cons e es) ρ σ = kAny sub C es ρ (evB sub C e ρ σ) := by show Out.bind (evB sub C e ρ σ) _ = _; cases evB sub C e ρ σ <;> rfl
theorem evIfs_cons (e : IE) (es : IEs) (ρ : Loc) (σ : Sto) : evIfs sub C (.cons e es) ρ σ = kIfs sub C es ρ (evB sub C e ρ σ) := by show Out.bind (evB sub C e ρ σ) _ = _; cases evB sub C e ρ σ <;> rfl
theorem kAll_val (es : IEs) (ρ : Loc) (σ : Sto) (b : Bool) : kAll sub C es ρ (.val b σ) = if b then evAll sub C es ρ σ else .val false σ := rfl
theorem kAny_val (es : IEs) (ρ : Loc) (σ : Sto) (b : Bool) : kAny sub C es ρ (.val b σ) = if b then .val true σ else evAny sub C es ρ σ := rfl
theorem kIfs_val (es : IEs) (ρ : Loc) (σ : Sto) (b : Bool) : kIfs sub C es ρ (.val b σ) = if b then evIfs sub C es ρ σ else .val false σ := rfl
theorem evB_and (es : IEs) (ρ : Loc) (σ : Sto) : evB sub C (.and es) ρ σ = evAll sub C es ρ σ := rfl
theorem evB_or (es : IEs) (ρ : Loc) (σ : Sto) : evB sub C (.or es) ρ σ = evAny sub C es ρ σ := rfl
noncomputable def kNotX : Out Bool → Out Bool | .val b σ => .val (!b) σ | .exn c σ => .exn c σ | .bad => .bad
theorem kNotX_val (b : Bool) (σ : Sto) : kNotX (.val b σ) = .val (!b) σ := rfl
theorem kNotX_exn (c : Nat) (σ : Sto) : kNotX (.exn c σ) = .exn c σ := rfl
theorem evB_not (a : IE) (ρ : Loc) (σ : Sto) : evB sub C (.not a) ρ σ = kNotX (evB sub C a ρ σ) := by show Out.bindX (evB sub C a ρ σ) _ = _; cases evB sub C a ρ σ <;> rfl
theorem evB_var (i : Nat) (ρ : Loc) (σ : Sto) : evB sub C (.var i) ρ σ = kTru (kVar σ ρ[i]?) := by
  show (match ρ[i]? with | some (some v) => truthOf v σ | _ => Out.bad) = _
  cases ρ[i]? with
  | none => rfl
  | some o => cases o <;> rfl
theorem evB_call (f : Nat) (as : IEs) (ρ : Loc) (σ : Sto) : evB sub C (.call f as) ρ σ = kTru (ev sub C (.call f as) ρ σ) := by
  show Out.bind (evArgs sub C as ρ σ) _ = kTru (Out.bind (evArgs sub C as ρ σ) _)
  cases evArgs sub C as ρ σ with
  | val vs σ => simp only [Out.bind_val]; cases C f vs σ <;> rfl
  | exn => rfl
  | bad => rfl
theorem evB_prim (p : Prim) (a : IE) (ρ : Loc) (σ : Sto) : evB sub C (.prim p a) ρ σ = kTru (ev sub C (.prim p a) ρ σ) := by
  show Out.bind (ev sub C a ρ σ) _ = kTru (Out.bind (ev sub C a ρ σ) _)
  cases ev sub C a ρ σ with
  | val v σ => simp only [Out.bind_val]; cases d1 (prim1 p) v σ <;> rfl
  | exn => rfl
  | bad => rfl
noncomputable def kIsin (t : Ty) : Out Val → Out Val | .val v σ => isinstOf t v sub σ | .exn c σ => .bad | .bad => .bad
theorem ev_isinst (a : IE) (t : Ty) (ρ : Loc) (σ : Sto) : ev sub C (.isinst a t) ρ σ = kIsin sub t (ev sub C a ρ σ) := by show Out.bind (ev sub C a ρ σ) _ = _; cases ev sub C a ρ σ <;> rfl
theorem evB_isinst (a : IE) (t : Ty) (ρ : Loc) (σ : Sto) : evB sub C (.isinst a t) ρ σ = kTru (ev sub C (.isinst a t) ρ σ) := by
  show Out.bind (ev sub C a ρ σ) _ = kTru (Out.bind (ev sub C a ρ σ) _)
  cases ev sub C a ρ σ with
  | val v σ => simp only [Out.bind_val]; cases isinstOf t v sub σ <;> rfl
  | exn => rfl
  | bad => rfl
noncomputable def kTruX : Out Val → Out Bool | .val v σ => truthOf v σ | .exn c σ => .exn c σ | .bad => .bad
theorem kTruX_val (b : Bool) (σ : Sto) : kTruX (.val (.dat (.bool b)) σ) = .val b σ := rfl
theorem kTruX_exn (c : Nat) (σ : Sto) : kTruX (.exn c σ) = .exn c σ := rfl
theorem evB_idx (a b : IE) (ρ : Loc) (σ : Sto) : evB sub C (.idx a b) ρ σ = kTruX (ev sub C (.idx a b) ρ σ) := by
  show Out.bindX (ev sub C a ρ σ) _ = kTruX (Out.bindX (ev sub C a ρ σ) _)
  cases ev sub C a ρ σ with
  | val v σ => simp only [Out.bindX_val]; cases ev sub C b ρ σ with
    | val w σ =>
      simp only [Out.bind_val]
      unfold d2
      cases (look σ v).bind fun a => (look σ w).bind fun b => idx2 a b <;> rfl
    | exn => rfl
    | bad => rfl
  | exn => rfl
  | bad => rfl
theorem kIsin_dat (t : Ty) (d : Dat) (σ : Sto) (ht : ∀ c, t ≠ .own c) : kIsin sub t (.val (.dat d) σ) = .val (.dat (.bool (isTy t d))) σ := by
  cases t <;> first | rfl | exact absurd rfl (ht _)
/-- comprehensions -/
noncomputable def compF (x : Nat) (ifs : IEs) (elt : IE) (ρ : Loc) (d : Dat) (σ : Sto) : Out (Option Dat) := (evIfs sub C ifs (ρ.set x (some (.dat d))) σ).bind fun b σ =>
  if b then ((ev sub C elt (ρ.set x (some (.dat d))) σ).keepX (isCallE elt)).bindX fun v σ => (toDat v σ).bind fun e σ => .val (some e) σ else .val Option.none σ
noncomputable def kLstX : Out (List Dat) → Out Val
  | .val ds σ => .val (.dat (.lst ds)) σ
  | .exn c σ => .exn c σ
  | .bad => .bad
theorem kLstX_val (ds : List Dat) (σ : Sto) : kLstX (.val ds σ) = .val (.dat (.lst ds)) σ := rfl
theorem kLstX_exn (c : Nat) (σ : Sto) : kLstX (.exn c σ) = .exn c σ := rfl
noncomputable def kComp (x : Nat) (ifs : IEs) (elt : IE) (ρ : Loc) : Out Src → Out Val
  | .val s σ => if s.items.length ≤ 1000000 then kLstX (compL s (compF sub C x ifs elt ρ) s.items σ) else .bad
  | .exn c σ => .bad
  | .bad => .bad
theorem ev_comp (x : Nat) (it : II) (ifs : IEs) (elt : IE) (ρ : Loc) (σ : Sto) : ev sub C (.comp x it ifs elt) ρ σ = kComp sub C x ifs elt ρ (evI sub C it ρ σ) := by
  show Out.bind (evI sub C it ρ σ) _ = _
  cases evI sub C it ρ σ with
  | val s σ =>
    simp only [Out.bind_val, kComp]
    split
    · show (compL s (compF sub C x ifs elt ρ) s.items σ).bindX _ = _
      cases compL s (compF sub C x ifs elt ρ) s.items σ <;> rfl
    · rfl
  | exn => rfl
  | bad => rfl
theorem kComp_val (x : Nat) (ifs : IEs) (elt : IE) (ρ : Loc) (s : Src) (σ : Sto) (h : s.items.length ≤ 1000000) : kComp sub C x ifs elt ρ (.val s σ) = kLstX (compL s (compF sub C x ifs elt ρ) s.items σ) := if_pos h
/-- what loops go over -/
noncomputable def kOf : Out Val → Out Src
  | .val (.dat d) σ => ofOpt ((itemsOf d).map fun l => ⟨l, Option.none⟩) σ
  | .val (.ref k) σ => ofOpt ((σ[k]?).map fun e => ⟨e.2, some k⟩) σ
  | .val (.exc _) σ => .bad
  | .exn c σ => .bad
  | .bad => .bad
theorem evI_of' (e : IE) (ρ : Loc) (σ : Sto) : evI sub C (.of e) ρ σ = kOf (ev sub C e ρ σ) := by
  show Out.bind (ev sub C e ρ σ) _ = _
  cases ev sub C e ρ σ with
  | val v σ => cases v <;> rfl
  | exn => rfl
  | bad => rfl
theorem kOf_lst (l : List Dat) (σ : Sto) : kOf (.val (.dat (.lst l)) σ) = .val ⟨l, Option.none⟩ σ := rfl
theorem kOf_tup (l : List Dat) (σ : Sto) : kOf (.val (.dat (.tup l)) σ) = .val ⟨l, Option.none⟩ σ := rfl
theorem kOf_str (l : List Nat) (σ : Sto) : kOf (.val (.dat (.str l)) σ) = .val ⟨l.map fun c => .str [c], Option.none⟩ σ := rfl
noncomputable def kRange1 : Out Val → Out Src
  | .val (.dat (.int n)) σ => if n ≤ 1000000 ∧ -1000000 ≤ n then .val ⟨rangeD 0 n, Option.none⟩ σ else .bad
  | .val _ _ => .bad
  | .exn c σ => .bad
  | .bad => .bad
theorem evI_range1 (e : IE) (ρ : Loc) (σ : Sto) : evI sub C (.range1 e) ρ σ = kRange1 (ev sub C e ρ σ) := by
  show Out.bind (ev sub C e ρ σ) _ = _
  cases ev sub C e ρ σ with
  | val v σ => cases v with
    | dat d => cases d <;> rfl
    | _ => rfl
  | exn => rfl
  | bad => rfl
theorem kRange1_val (n : Int) (σ : Sto) (h : n ≤ 1000000 ∧ -1000000 ≤ n) : kRange1 (.val (.dat (.int n)) σ) = .val ⟨rangeD 0 n, Option.none⟩ σ := if_pos h
theorem compF_nil (x : Nat) (elt : IE) (ρ : Loc) (d e : Dat) (σ : Sto) (h : ev sub C elt (ρ.set x (some (.dat d))) σ = .val (.dat e) σ) : compF sub C x .nil elt ρ d σ = .val (some e) σ := by
  simp only [compF, evIfs_nil, Out.bind_val, if_true, h, Out.keepX_val, Out.bindX_val, toDat_dat]
end

theorem b_add (a b : Int) : bin2 .add (.int a) (.int b) = some (.int (a + b)) := Eq.trans rfl rfl
theorem b_sub (a b : Int) : bin2 .sub (.int a) (.int b) = some (.int (a - b)) := Eq.trans rfl rfl
theorem b_mul1 (a b : Int) (h : -18446744073709551616 < a ∧ a < 18446744073709551616) : bin2 .mul (.int a) (.int b) = some (.int (a * b)) := if_pos (by simp only [shortInt, decide_eq_true h, Bool.true_or])
theorem b_mul2 (a b : Int) (h : -18446744073709551616 < b ∧ b < 18446744073709551616) : bin2 .mul (.int a) (.int b) = some (.int (a * b)) := if_pos (by simp only [shortInt, decide_eq_true h, Bool.or_true])
theorem b_mod (a b : Int) (h : 0 < b ∧ b < 18446744073709551616) : bin2 .mod (.int a) (.int b) = some (.int (a % b)) := if_pos h
theorem b_fdiv (a b : Int) (h : 0 < b ∧ b < 18446744073709551616) : bin2 .fdiv (.int a) (.int b) = some (.int (a / b)) := if_pos h
theorem cmp_eq_int (a b : Int) : cmp2 .eq (.int a) (.int b) = some (a == b) := Eq.trans rfl rfl
theorem cmp_eq_bool (a b : Bool) : cmp2 .eq (.bool a) (.bool b) = some (a == b) := Eq.trans rfl rfl
theorem cmp_lt (a b : Int) : cmp2 .lt (.int a) (.int b) = some (decide (a < b)) := Eq.trans rfl rfl
theorem cmp_le (a b : Int) : cmp2 .le (.int a) (.int b) = some (decide (a ≤ b)) := Eq.trans rfl rfl
theorem cmp_gt (a b : Int) : cmp2 .gt (.int a) (.int b) = some (decide (b < a)) := Eq.trans rfl rfl
theorem cmp_ge (a b : Int) : cmp2 .ge (.int a) (.int b) = some (decide (b ≤ a)) := Eq.trans rfl rfl
theorem idx_lst (l : List Dat) (k : Int) (d : Dat) (h : l.length ≤ 1000000) (h0 : 0 ≤ k) (hd : l[k.toNat]? = some d) : idx2 (.lst l) (.int k) = some d := by
  have h1 := (List.getElem?_eq_some_iff.mp hd).1
  have h2 : k < (l.length : Int) := by omega
  simp only [idx2, h, if_true, place, h0, h2, Option.bind_some, hd]
theorem idx_tup (l : List Dat) (k : Int) (d : Dat) (h : l.length ≤ 1000000) (h0 : 0 ≤ k) (hd : l[k.toNat]? = some d) : idx2 (.tup l) (.int k) = some d := by
  have h1 := (List.getElem?_eq_some_iff.mp hd).1
  have h2 : k < (l.length : Int) := by omega
  simp only [idx2, h, if_true, place, h0, h2, Option.bind_some, hd]
theorem idx_str (l : List Nat) (k : Int) (c : Nat) (h : l.length ≤ 1000000) (h0 : 0 ≤ k) (hd : l[k.toNat]? = some c) : idx2 (.str l) (.int k) = some (.str [c]) := by
  have h1 := (List.getElem?_eq_some_iff.mp hd).1
  have h2 : k < (l.length : Int) := by omega
  simp only [idx2, h, if_true, place, h0, h2, Option.bind_some, hd, Option.map_some]
mutual
theorem eqD_refl : ∀ d : Dat, eqD d d = some true
  | .none => rfl
  | .bool b => by simp [eqD]
  | .int i => by simp [eqD]
  | .str s => by simp [eqD]
  | .tup l => by simp only [eqD]; exact eqDs_refl l
  | .lst l => by simp only [eqD]; exact eqDs_refl l
theorem eqDs_refl : ∀ l : List Dat, eqDs l l = some true
  | [] => rfl
  | d :: l => by simp only [eqDs, eqD_refl d]; exact eqDs_refl l
end
theorem cmp_eq_self (d : Dat) (h : okD d = true) : cmp2 .eq d d = some true := (if_pos (by rw [h]; rfl)).trans (eqD_refl d)
theorem fine_ints (l : List Int) : fineDs (l.map .int) = true := by induction l with | nil => rfl | cons x l ih => simp [fineDs, fineD, ih]
theorem depth_ints (l : List Int) : depthDs (l.map .int) = 0 := by induction l with | nil => rfl | cons x l ih => simp [depthDs, depthD, ih]
theorem fine_bools (l : List Bool) : fineDs (l.map .bool) = true := by induction l with | nil => rfl | cons x l ih => simp [fineDs, fineD, ih]
theorem depth_bools (l : List Bool) : depthDs (l.map .bool) = 0 := by induction l with | nil => rfl | cons x l ih => simp [depthDs, depthD, ih]
theorem ok_ints (l : List Int) : okD (.lst (l.map .int)) = true := by simp [okD, fineD, depthD, fine_ints, depth_ints]
theorem ok_bools (l : List Bool) : okD (.lst (l.map .bool)) = true := by simp [okD, fineD, depthD, fine_bools, depth_bools]
theorem max_neg (z : Int) : maxD z (-z) = (z.natAbs : Int) := by unfold maxD; split <;> omega
theorem p_max (x y : Int) : prim2 .max (.int x) (.int y) = some (.int (maxD x y)) := Eq.trans rfl rfl
theorem p_len_lst (l : List Dat) (h : l.length ≤ 1000000) : prim1 .len (.lst l) = some (.int l.length) := if_pos h
theorem p_len_str (l : List Nat) (h : l.length ≤ 1000000) : prim1 .len (.str l) = some (.int l.length) := if_pos h
theorem p_abs (i : Int) : prim1 .abs (.int i) = some (.int i.natAbs) := Eq.trans rfl rfl
theorem p_all (l : List Bool) : prim1 .all (.lst (l.map .bool)) = some (.bool (l.all id)) := by show (boolsOf _).map _ = _; rw [boolsOf_map]; rfl

/-! a loop over pairs -/
section
variable (sub : Nat → Nat → Bool) (C : Oracle)
end
/-- a loop over the items of a list that may return: what holds is said of the items gone -/
theorem forL_ret {α : Type} {src : Src} {f : Dat → Loc → Sto → SOut} {em : α → Dat} {l : List α} (P : List α → Loc → Sto → Prop) (R : Dat → Sto → Prop) (hs : ∀ b ρ σ, P b ρ σ → src.still σ = true)
    (step : ∀ pre a post ρ σ, l = pre ++ a :: post → P pre ρ σ → (∃ ρ' σ', f (em a) ρ σ = .next ρ' σ' ∧ P (pre ++ [a]) ρ' σ') ∨ ∃ d σ', f (em a) ρ σ = .ret d σ' ∧ R d σ') {ρ : Loc} {σ : Sto} (h0 : P [] ρ σ) :
    (∃ ρ' σ', forL src f (l.map em) ρ σ = .next ρ' σ' ∧ P l ρ' σ') ∨ ∃ d σ', forL src f (l.map em) ρ σ = .ret d σ' ∧ R d σ' := by
  suffices k : ∀ (m pre : List α) (ρ : Loc) (σ : Sto), l = pre ++ m → P pre ρ σ → (∃ ρ' σ', forL src f (m.map em) ρ σ = .next ρ' σ' ∧ P l ρ' σ') ∨ ∃ d σ', forL src f (m.map em) ρ σ = .ret d σ' ∧ R d σ' from k l [] ρ σ rfl h0
  intro m
  induction m with
  | nil =>
    intro pre ρ σ he hI
    rw [List.append_nil] at he
    exact .inl ⟨ρ, σ, by simp [forL, hs _ _ _ hI], he ▸ hI⟩
  | cons a m ih =>
    intro pre ρ σ he hI
    rcases step pre a m ρ σ he hI with ⟨ρ', σ', h1, h2⟩ | ⟨d, σ', h1, h2⟩
    · rcases ih (pre ++ [a]) ρ' σ' (by simp [he]) h2 with ⟨ρ₂, σ₂, h3, h4⟩ | ⟨d, σ₂, h3, h4⟩
      · exact .inl ⟨ρ₂, σ₂, by simp [forL, hs _ _ _ hI, h1, h3], h4⟩
      · exact .inr ⟨d, σ₂, by simp [forL, hs _ _ _ hI, h1, h3], h4⟩
    · exact .inr ⟨d, σ', by simp [forL, hs _ _ _ hI, h1], h2⟩
theorem rangeD_map (m : Nat) : rangeD 0 m = (List.range m).map fun i : Nat => Dat.int i := by simp [rangeD]

theorem compL_list {α : Type} {s : Src} {f : Dat → Sto → Out (Option Dat)} {σ : Sto} {em : α → Dat} (hs : s.still σ = true) {g : α → Option Dat} : ∀ {l : List α}, (∀ a ∈ l, f (em a) σ = .val (g a) σ) → compL s f (l.map em) σ = .val (l.filterMap g) σ
  | [], _ => by simp [compL, hs]
  | a :: l, h => by
    have ih := compL_list hs (l := l) fun d hd => h d (List.mem_cons_of_mem _ hd)
    simp only [List.map_cons, compL, hs, if_true, h a List.mem_cons_self, Out.bindX_val, ih]
    cases hg : g a <;> simp [hg]
section
variable {sub : Nat → Nat → Bool} {C : Oracle} {α : Type}
theorem kComp_map {x : Nat} {elt : IE} {ρ : Loc} {σ : Sto} {em : α → Dat} (h : α → Dat) {l : List α} (hl : l.length ≤ 1000000) (hf : ∀ a ∈ l, ev sub C elt (ρ.set x (some (.dat (em a)))) σ = .val (.dat (h a)) σ) :
    kComp sub C x .nil elt ρ (.val ⟨l.map em, none⟩ σ) = .val (.dat (.lst (l.map h))) σ := by
  rw [kComp_val sub C x .nil elt ρ ⟨l.map em, none⟩ σ (by simpa using hl), compL_list (g := fun a => some (h a)) rfl fun a ha => compF_nil _ _ _ _ _ _ _ _ (hf a ha), kLstX_val, List.filterMap_eq_map']
theorem kFor_ret {x : Nat} {body : ISs} {em : α → Dat} {l : List α} (P : List α → Loc → Sto → Prop) (R : Dat → Sto → Prop) {ρ : Loc} {σ : Sto} (hl : l.length ≤ 1000000)
    (h : ∀ pre a post ρ σ, l = pre ++ a :: post → P pre ρ σ → (∃ ρ' σ', exs sub C body (ρ.set x (some (.dat (em a)))) σ = .next ρ' σ' ∧ P (pre ++ [a]) ρ' σ') ∨ ∃ d σ', exs sub C body (ρ.set x (some (.dat (em a)))) σ = .ret d σ' ∧ R d σ')
    (h0 : P [] ρ σ) : (∃ ρ' σ', kFor sub C x body ρ (.val ⟨l.map em, none⟩ σ) = .next ρ' σ' ∧ P l ρ' σ') ∨ ∃ d σ', kFor sub C x body ρ (.val ⟨l.map em, none⟩ σ) = .ret d σ' ∧ R d σ' := by
  rw [kFor_val sub C x body ρ ⟨l.map em, none⟩ σ (by simpa using hl)]
  exact forL_ret P R (fun _ _ _ _ => rfl) h h0
theorem kFor_all {x : Nat} {body : ISs} {em : α → Dat} {l : List α} (P : List α → Loc → Sto → Prop) {ρ : Loc} {σ : Sto} (hl : l.length ≤ 1000000)
    (h : ∀ pre a post ρ σ, l = pre ++ a :: post → P pre ρ σ → ∃ ρ' σ', exs sub C body (ρ.set x (some (.dat (em a)))) σ = .next ρ' σ' ∧ P (pre ++ [a]) ρ' σ')
    (h0 : P [] ρ σ) : ∃ ρ' σ', kFor sub C x body ρ (.val ⟨l.map em, none⟩ σ) = .next ρ' σ' ∧ P l ρ' σ' := by
  rcases kFor_ret P (fun _ _ => False) hl (fun pre a post ρ σ he hP => .inl (h pre a post ρ σ he hP)) h0 with h | ⟨_, _, _, h⟩
  · exact h
  · cases h
theorem pre_lt {l pre post : List α} {a : α} (h : l = pre ++ a :: post) : pre.length < l.length ∧ a ∈ l := by subst h; simp
end

theorem call_ret {sub : Nat → Nat → Bool} {Δ : Nat → Option Fn} {n f : Nat} {fn : Fn} {args : List Val} {σ σ' : Sto} {d : Dat} (hd : Δ f = some fn) (ha : args.length = fn.arity)
    (h : exs sub (callF sub Δ n) fn.body (args.map some ++ List.replicate (fn.slots - fn.arity) none) σ = .ret d σ') (ht : σ'.take σ.length = σ) : callF sub Δ (n + 1) f args σ = .val d σ := by
  simp only [callF, hd, ha, if_true, h, SOut.back_ret, ht]
end Mine

/-! ## PDef07 -/
namespace Mine
noncomputable def b_check_1 : ISs := (.cons (.ite (.or (.cons (.cmp (.var 4) (.cons .eq (.lit (.int 0)) .nil)) (.cons (.cmp (.prim .abs (.var 4)) (.cons .gt (.prim .len (.var 0)) .nil)) .nil))) (.cons (.raise 1 [110, 111, 32, 115, 117, 99, 104, 32, 108, 97, 109, 112]) .nil) .nil) .nil)
noncomputable def b_check_2 : ISs := (.cons (.ite (.cmp (.prim .len (.var 3)) (.cons .gt (.con "MOST_NUMBERS" (.int 10)) .nil)) (.cons (.raise 1 [116, 111, 111, 32, 109, 97, 110, 121, 32, 110, 117, 109, 98, 101, 114, 115]) .nil) .nil) (.cons (.for1 4 (.of (.var 3)) b_check_1) .nil))
noncomputable def b_check_3 : ISs := (.cons (.ite (.and (.cons (.cmp (.var 2) (.cons .ne (.lit (.str [102])) .nil)) (.cons (.cmp (.var 2) (.cons .ne (.lit (.str [111])) .nil)) .nil))) (.cons (.raise 1 [97, 32, 115, 101, 116, 116, 101, 114, 32, 105, 115, 32, 102, 32, 111, 114, 32, 111]) .nil) .nil) .nil)
/-- check: setters, wishes, sign, wish, number -/
noncomputable def fn_check : Fn := ⟨2, 5, (.cons (.ite (.or (.cons (.cmp (.prim .len (.var 0)) (.cons .gt (.con "MOST_LAMPS" (.int 10)) .nil)) (.cons (.cmp (.prim .len (.var 1)) (.cons .gt (.con "MOST_WISHES" (.int 20)) .nil)) .nil))) (.cons (.raise 1 [116, 111, 111, 32, 109, 97, 110, 121, 32, 108, 97, 109, 112, 115, 32, 111, 114, 32, 119, 105, 115, 104, 101, 115]) .nil) .nil) (.cons (.for1 2 (.of (.var 0)) b_check_3) (.cons (.for1 3 (.of (.var 1)) b_check_2) .nil)))⟩
noncomputable def t_number_of_5 : ISs := (.cons (.ret (.prim .int (.var 1))) .nil)
noncomputable def t_number_of_4 : ISs := (.cons (.ite (.cmp (.var 1) (.cons .ne (.var 0) .nil)) (.cons (.ret (.neg (.prim .int (.var 1)))) .nil) .nil) t_number_of_5)
noncomputable def t_number_of_3 : ISs := (.cons (.ite (.not (.prim .all (.comp 2 (.of (.var 1)) .nil (.cmp (.var 2) (.cons .isin (.con "FIGURES" (.str [48, 49, 50, 51, 52, 53, 54, 55, 56, 57])) .nil))))) (.cons (.raise 3 [110, 111, 32, 110, 117, 109, 98, 101, 114]) .nil) .nil) t_number_of_4)
noncomputable def t_number_of_2 : ISs := (.cons (.ite (.or (.cons (.not (.cmp (.lit (.int 1)) (.cons .le (.prim .len (.var 1)) (.cons .le (.con "MOST_FIGURES" (.int 60)) .nil)))) (.cons (.cmp (.idx (.var 1) (.lit (.int 0))) (.cons .eq (.lit (.str [48])) .nil)) .nil))) (.cons (.raise 3 [110, 111, 32, 110, 117, 109, 98, 101, 114]) .nil) .nil) t_number_of_3)
noncomputable def t_number_of_1 : ISs := (.cons (.ite (.cmp (.slTo (.var 0) (.lit (.int 1))) (.cons .eq (.lit (.str [45])) .nil)) (.cons (.assign 1 (.slFrom (.var 0) (.lit (.int 1)))) .nil) .nil) t_number_of_2)
noncomputable def t_number_of_0 : ISs := (.cons (.assign 1 (.var 0)) t_number_of_1)
/-- number_of: word, figures -/
noncomputable def fn_number_of : Fn := ⟨1, 3, t_number_of_0⟩
/-- setters_of: row -/
noncomputable def fn_setters_of : Fn := ⟨1, 1, (.cons (.ite (.cmp (.var 0) (.cons .eq (.lit (.str [108, 97, 109, 112, 115])) .nil)) (.cons (.ret (.lit (.str []))) .nil) .nil) (.cons (.ite (.and (.cons (.cmp (.slTo (.var 0) (.lit (.int 6))) (.cons .eq (.lit (.str [108, 97, 109, 112, 115, 32])) .nil)) (.cons (.cmp (.prim .len (.var 0)) (.cons .gt (.lit (.int 6)) .nil)) .nil))) (.cons (.ret (.slFrom (.var 0) (.lit (.int 6)))) .nil) .nil) (.cons (.raise 3 [110, 111, 32, 114, 111, 119, 32, 111, 102, 32, 108, 97, 109, 112, 115]) .nil)))⟩
/-- wish_of: row, words -/
noncomputable def fn_wish_of : Fn := ⟨1, 3, (.cons (.assign 1 (.prim2 .split (.var 0) (.lit (.str [32])))) (.cons (.ite (.cmp (.idx (.var 1) (.lit (.int 0))) (.cons .ne (.lit (.str [119, 105, 115, 104])) .nil)) (.cons (.raise 3 [110, 111, 32, 114, 111, 119, 32, 111, 102, 32, 97, 32, 119, 105, 115, 104]) .nil) .nil) (.cons (.ret (.comp 2 (.of (.slFrom (.var 1) (.lit (.int 1)))) .nil (.call 16 (.cons (.var 2) .nil)))) .nil)))⟩
noncomputable def t_read_4 : ISs := (.cons (.ret (.tup (.cons (.var 2) (.cons (.var 3) .nil)))) .nil)
noncomputable def t_read_3 : ISs := (.cons (.drop (.call 11 (.cons (.var 2) (.cons (.var 3) .nil)))) t_read_4)
noncomputable def t_read_2 : ISs := (.cons (.assign 3 (.comp 4 (.of (.slFrom (.var 1) (.lit (.int 1)))) .nil (.call 18 (.cons (.var 4) .nil)))) t_read_3)
noncomputable def t_read_1 : ISs := (.cons (.assign 2 (.call 17 (.cons (.idx (.var 1) (.lit (.int 0))) .nil))) t_read_2)
noncomputable def t_read_0 : ISs := (.cons (.assign 1 (.prim2 .split (.var 0) (.lit (.str [10])))) t_read_1)
/-- read: text, rows, setters, wishes -/
noncomputable def fn_read : Fn := ⟨1, 5, t_read_0⟩
/-- _law_cell_at: _law_script, _law_k -/
noncomputable def fn_l_cell_at : Fn := ⟨2, 2, (.cons (.ite (.cmp (.var 1) (.cons .lt (.prim .len (.var 0)) .nil)) (.cons (.ret (.idx (.var 0) (.var 1))) .nil) .nil) (.cons (.ret (.lit (.int 0))) .nil))⟩
noncomputable def t_l_first_2 : ISs := (.cons (.ret (.idx (.var 1) (.bin .mod (.var 0) (.lit (.int 13))))) .nil)
noncomputable def t_l_first_1 : ISs := (.cons (.assign 1 (.bin .add (.var 1) (.lst (.cons (.lit (.str [108, 97, 109, 112, 115, 32, 102, 120])) (.cons (.lit (.str [108, 97, 109, 112, 32, 102, 111])) (.cons (.lit (.str [])) (.cons (.lit (.str [32, 108, 97, 109, 112, 115, 32, 102, 111])) (.cons (.lit (.str [108, 97, 109, 112, 115, 102, 111])) .nil)))))))) t_l_first_2)
noncomputable def t_l_first_0 : ISs := (.cons (.assign 1 (.lst (.cons (.lit (.str [108, 97, 109, 112, 115])) (.cons (.lit (.str [108, 97, 109, 112, 115, 32, 102, 111])) (.cons (.lit (.str [108, 97, 109, 112, 115, 32, 111, 102, 102, 111])) (.cons (.lit (.str [108, 97, 109, 112, 115, 32, 111])) (.cons (.lit (.str [108, 97, 109, 112, 115, 32])) (.cons (.lit (.str [108, 97, 109, 112, 115, 32, 32, 102, 111])) (.cons (.lit (.str [76, 97, 109, 112, 115, 32, 102, 111])) (.cons (.lit (.str [108, 97, 109, 112, 115, 32, 102, 32, 111])) .nil)))))))))) t_l_first_1)
/-- _law_first: _law_cell, _law_some -/
noncomputable def fn_l_first : Fn := ⟨1, 2, t_l_first_0⟩
noncomputable def t_l_next_5 : ISs := (.cons (.ret (.bin .add (.bin .add (.bin .add (.lit (.str [119, 105, 115, 104, 32])) (.var 2)) (.lit (.str [55]))) (.bin .mul (.lit (.str [48])) (.idx (.lst (.cons (.lit (.int 58)) (.cons (.lit (.int 59)) (.cons (.lit (.int 60)) .nil)))) (.bin .sub (.bin .mod (.var 0) (.lit (.int 27))) (.lit (.int 24))))))) .nil)
noncomputable def t_l_next_4 : ISs := (.cons (.assign 2 (.idx (.lst (.cons (.lit (.str [])) (.cons (.lit (.str [45])) .nil))) (.bin .mod (.bin .fdiv (.var 0) (.lit (.int 27))) (.lit (.int 2))))) t_l_next_5)
noncomputable def t_l_next_3 : ISs := (.cons (.ite (.cmp (.bin .mod (.var 0) (.lit (.int 27))) (.cons .lt (.lit (.int 24)) .nil)) (.cons (.ret (.idx (.var 1) (.bin .mod (.var 0) (.lit (.int 27))))) .nil) .nil) t_l_next_4)
noncomputable def t_l_next_2 : ISs := (.cons (.assign 1 (.bin .add (.var 1) (.lst (.cons (.lit (.str [])) (.cons (.lit (.str [108, 97, 109, 112, 115, 32, 102, 111])) (.cons (.lit (.str [119, 105, 115, 104, 44, 49])) (.cons (.lit (.str [119, 105, 115, 104, 49])) (.cons (.lit (.str [119, 105, 115, 104, 32, 49, 32, 97])) (.cons (.lit (.str [119, 105, 115, 104, 32, 45, 48, 49])) .nil))))))))) t_l_next_3)
noncomputable def t_l_next_1 : ISs := (.cons (.assign 1 (.bin .add (.var 1) (.lst (.cons (.lit (.str [119, 105, 115, 104, 32, 45, 48])) (.cons (.lit (.str [119, 105, 115, 104, 32, 48])) (.cons (.lit (.str [119, 105, 115, 104, 32, 51])) (.cons (.lit (.str [119, 105, 115, 104, 32, 45, 51, 32, 49])) (.cons (.lit (.str [119, 105, 115, 104, 32, 45])) (.cons (.lit (.str [119, 105, 115, 104, 32, 45, 45, 49])) (.cons (.lit (.str [119, 105, 115, 104, 32, 49, 45])) (.cons (.lit (.str [87, 105, 115, 104, 32, 49])) (.cons (.lit (.str [119, 105, 115, 104, 101, 115, 32, 49])) .nil)))))))))))) t_l_next_2)
noncomputable def t_l_next_0 : ISs := (.cons (.assign 1 (.lst (.cons (.lit (.str [119, 105, 115, 104])) (.cons (.lit (.str [119, 105, 115, 104, 32, 49])) (.cons (.lit (.str [119, 105, 115, 104, 32, 45, 49, 32, 50])) (.cons (.lit (.str [119, 105, 115, 104, 32, 50, 32, 50, 32, 45, 50])) (.cons (.lit (.str [119, 105, 115, 104, 32, 49, 32, 32, 50])) (.cons (.lit (.str [119, 105, 115, 104, 32, 49, 32])) (.cons (.lit (.str [32, 119, 105, 115, 104, 32, 49])) (.cons (.lit (.str [119, 105, 115, 104, 32, 48, 49])) (.cons (.lit (.str [119, 105, 115, 104, 32, 43, 49])) .nil))))))))))) t_l_next_1)
/-- _law_next: _law_cell, _law_some, _law_sign -/
noncomputable def fn_l_next : Fn := ⟨1, 3, t_l_next_0⟩
noncomputable def t_l_sign_by_2 : ISs := (.cons (.ret (.idx (.var 1) (.bin .mod (.var 0) (.lit (.int 96))))) .nil)
noncomputable def t_l_sign_by_1 : ISs := (.cons (.assign 1 (.bin .add (.var 1) (.lit (.str [97, 98, 99, 100, 101, 102, 103, 104, 105, 106, 107, 108, 109, 110, 111, 112, 113, 114, 115, 116, 117, 118, 119, 120, 121, 122, 123, 124, 125, 126, 10, 9])))) t_l_sign_by_2)
noncomputable def t_l_sign_by_0 : ISs := (.cons (.assign 1 (.lit (.str [32, 33, 34, 35, 36, 38, 39, 40, 41, 42, 43, 44, 45, 46, 47, 48, 49, 50, 51, 52, 53, 54, 55, 56, 57, 58, 59, 60, 61, 62, 63, 64, 65, 66, 67, 68, 69, 70, 71, 72, 73, 74, 75, 76, 77, 78, 79, 80, 81, 82, 83, 84, 85, 86, 87, 88, 89, 90, 91, 92, 93, 94, 95, 96]))) t_l_sign_by_1)
/-- _law_sign_by: _law_cell, _law_some -/
noncomputable def fn_l_sign_by : Fn := ⟨1, 2, t_l_sign_by_0⟩
noncomputable def t_l_great_4 : ISs := (.cons (.ret (.bin .add (.lit (.str [108, 97, 109, 112, 115, 32, 102, 111, 10, 119, 105, 115, 104, 10, 119, 105, 115, 104])) (.bin .mul (.lit (.str [32, 45, 50])) (.prim2 .min (.var 2) (.lit (.int 11)))))) .nil)
noncomputable def b_l_great_1 : ISs := (.cons (.append 3 (.slTo (.lit (.str [119, 105, 115, 104, 32, 49, 32, 45, 50])) (.bin .add (.lit (.int 4)) (.bin .mul (.lit (.int 2)) (.bin .mod (.var 4) (.lit (.int 2))))))) .nil)
noncomputable def t_l_great_3 : ISs := (.cons (.ite (.cmp (.var 1) (.cons .eq (.lit (.int 1)) .nil)) (.cons (.newlst 3 (.cons (.lit (.str [108, 97, 109, 112, 115, 32, 111, 102])) .nil)) (.cons (.for1 4 (.range1 (.bin .add (.var 2) (.lit (.int 10)))) b_l_great_1) (.cons (.ret (.prim2 .join (.lit (.str [10])) (.var 3))) .nil))) .nil) t_l_great_4)
noncomputable def t_l_great_2 : ISs := (.cons (.ite (.cmp (.var 1) (.cons .eq (.lit (.int 0)) .nil)) (.cons (.ret (.bin .add (.bin .add (.bin .add (.lit (.str [108, 97, 109, 112, 115, 32])) (.bin .mul (.lit (.str [102, 111])) (.bin .fdiv (.var 2) (.lit (.int 2))))) (.bin .mul (.lit (.str [102])) (.bin .mod (.var 2) (.lit (.int 2))))) (.lit (.str [10, 119, 105, 115, 104, 32, 49])))) .nil) .nil) t_l_great_3)
noncomputable def t_l_great_1 : ISs := (.cons (.assign 2 (.idx (.lst (.cons (.lit (.int 9)) (.cons (.lit (.int 10)) (.cons (.lit (.int 11)) (.cons (.lit (.int 12)) .nil))))) (.bin .mod (.bin .fdiv (.var 0) (.lit (.int 3))) (.lit (.int 4))))) t_l_great_2)
noncomputable def t_l_great_0 : ISs := (.cons (.assign 1 (.bin .mod (.var 0) (.lit (.int 3)))) t_l_great_1)
/-- _law_great: _law_cell, _law_way, _law_lamps, _law_rows, _law_k -/
noncomputable def fn_l_great : Fn := ⟨1, 5, t_l_great_0⟩
noncomputable def t_l_text_8 : ISs := (.cons (.ret (.var 3)) .nil)
noncomputable def t_l_text_7 : ISs := (.cons (.ite (.cmp (.var 4) (.cons .eq (.lit (.int 2)) .nil)) (.cons (.assign 3 (.bin .add (.slTo (.var 3) (.var 5)) (.slFrom (.var 3) (.bin .add (.var 5) (.lit (.int 1)))))) .nil) .nil) t_l_text_8)
noncomputable def t_l_text_6 : ISs := (.cons (.ite (.cmp (.var 4) (.cons .eq (.lit (.int 1)) .nil)) (.cons (.assign 3 (.bin .add (.bin .add (.slTo (.var 3) (.var 5)) (.call 103 (.cons (.call 100 (.cons (.var 0) (.cons (.lit (.int 3)) .nil))) .nil))) (.slFrom (.var 3) (.var 5)))) .nil) .nil) t_l_text_7)
noncomputable def t_l_text_5 : ISs := (.cons (.assign 5 (.bin .mod (.call 100 (.cons (.var 0) (.cons (.lit (.int 2)) .nil))) (.bin .add (.prim .len (.var 3)) (.lit (.int 1))))) t_l_text_6)
noncomputable def t_l_text_4 : ISs := (.cons (.assign 4 (.bin .mod (.bin .fdiv (.call 100 (.cons (.var 0) (.cons (.lit (.int 1)) .nil))) (.lit (.int 4))) (.lit (.int 3)))) t_l_text_5)
noncomputable def t_l_text_3 : ISs := (.cons (.assign 3 (.prim2 .join (.lit (.str [10])) (.var 1))) t_l_text_4)
noncomputable def b_l_text_1 : ISs := (.cons (.append 1 (.call 102 (.cons (.call 100 (.cons (.var 0) (.cons (.bin .add (.lit (.int 4)) (.var 2)) .nil))) .nil))) .nil)
noncomputable def t_l_text_2 : ISs := (.cons (.for1 2 (.range1 (.bin .mod (.call 100 (.cons (.var 0) (.cons (.lit (.int 1)) .nil))) (.lit (.int 4)))) b_l_text_1) t_l_text_3)
noncomputable def t_l_text_1 : ISs := (.cons (.newlst 1 (.cons (.call 101 (.cons (.call 100 (.cons (.var 0) (.cons (.lit (.int 0)) .nil))) .nil)) .nil)) t_l_text_2)
noncomputable def t_l_text_0 : ISs := (.cons (.ite (.cmp (.bin .mod (.bin .fdiv (.call 100 (.cons (.var 0) (.cons (.lit (.int 1)) .nil))) (.lit (.int 12))) (.lit (.int 8))) (.cons .eq (.lit (.int 1)) .nil)) (.cons (.ret (.call 104 (.cons (.call 100 (.cons (.var 0) (.cons (.lit (.int 0)) .nil))) .nil))) .nil) .nil) t_l_text_1)
/-- _law_text: _law_script, _law_rows, _law_k, _law_text_here, _law_way, _law_at -/
noncomputable def fn_l_text : Fn := ⟨1, 6, t_l_text_0⟩
noncomputable def t_l_number_5 : ISs := (.cons (.ret (.neg (.prim .int (.var 1)))) .nil)
noncomputable def t_l_number_4 : ISs := (.cons (.ite (.cmp (.var 1) (.cons .eq (.var 0) .nil)) (.cons (.ret (.prim .int (.var 1))) .nil) .nil) t_l_number_5)
noncomputable def b_l_number_1 : ISs := (.cons (.ite (.cmp (.var 2) (.cons .notin (.lit (.str [48, 49, 50, 51, 52, 53, 54, 55, 56, 57])) .nil)) (.cons (.ret (.lit (.int 0))) .nil) .nil) .nil)
noncomputable def t_l_number_3 : ISs := (.cons (.for1 2 (.of (.var 1)) b_l_number_1) t_l_number_4)
noncomputable def t_l_number_2 : ISs := (.cons (.ite (.or (.cons (.cmp (.var 1) (.cons .eq (.lit (.str [])) .nil)) (.cons (.cmp (.idx (.var 1) (.lit (.int 0))) (.cons .eq (.lit (.str [48])) .nil)) (.cons (.cmp (.prim .len (.var 1)) (.cons .gt (.lit (.int 60)) .nil)) .nil)))) (.cons (.ret (.lit (.int 0))) .nil) .nil) t_l_number_3)
noncomputable def t_l_number_1 : ISs := (.cons (.ite (.cmp (.slTo (.var 0) (.lit (.int 1))) (.cons .eq (.lit (.str [45])) .nil)) (.cons (.assign 1 (.slFrom (.var 0) (.lit (.int 1)))) .nil) .nil) t_l_number_2)
noncomputable def t_l_number_0 : ISs := (.cons (.assign 1 (.var 0)) t_l_number_1)
/-- _law_number: _law_word, _law_figures, _law_sign -/
noncomputable def fn_l_number : Fn := ⟨1, 3, t_l_number_0⟩
/-- _law_wish: _law_row, _law_wish_here -/
noncomputable def fn_l_wish : Fn := ⟨1, 3, (.cons (.ite (.and (.cons (.cmp (.var 0) (.cons .ne (.lit (.str [119, 105, 115, 104])) .nil)) (.cons (.cmp (.slTo (.var 0) (.lit (.int 5))) (.cons .ne (.lit (.str [119, 105, 115, 104, 32])) .nil)) .nil))) (.cons (.ret (.lit .none)) .nil) .nil) (.cons (.assign 1 (.comp 2 (.of (.slFrom (.prim2 .split (.var 0) (.lit (.str [32]))) (.lit (.int 1)))) .nil (.call 106 (.cons (.var 2) .nil)))) (.cons (.ite (.cmp (.lit (.int 0)) (.cons .isin (.var 1) .nil)) (.cons (.ret (.lit .none)) .nil) .nil) (.cons (.ret (.var 1)) .nil))))⟩
noncomputable def t_l_game_4 : ISs := (.cons (.ret (.tup (.cons (.slFrom (.idx (.var 1) (.lit (.int 0))) (.lit (.int 6))) (.cons (.var 2) .nil)))) .nil)
noncomputable def t_l_game_3 : ISs := (.cons (.ite (.cmp (.lit .none) (.cons .isin (.var 2) .nil)) (.cons (.ret (.lit .none)) .nil) .nil) t_l_game_4)
noncomputable def t_l_game_2 : ISs := (.cons (.assign 2 (.comp 3 (.of (.slFrom (.var 1) (.lit (.int 1)))) .nil (.call 107 (.cons (.var 3) .nil)))) t_l_game_3)
noncomputable def t_l_game_1 : ISs := (.cons (.ite (.and (.cons (.cmp (.idx (.var 1) (.lit (.int 0))) (.cons .ne (.lit (.str [108, 97, 109, 112, 115])) .nil)) (.cons (.or (.cons (.cmp (.slTo (.idx (.var 1) (.lit (.int 0))) (.lit (.int 6))) (.cons .ne (.lit (.str [108, 97, 109, 112, 115, 32])) .nil)) (.cons (.cmp (.idx (.var 1) (.lit (.int 0))) (.cons .eq (.lit (.str [108, 97, 109, 112, 115, 32])) .nil)) .nil))) .nil))) (.cons (.ret (.lit .none)) .nil) .nil) t_l_game_2)
noncomputable def t_l_game_0 : ISs := (.cons (.assign 1 (.prim2 .split (.var 0) (.lit (.str [10])))) t_l_game_1)
/-- _law_game: _law_text_here, _law_rows, _law_wishes -/
noncomputable def fn_l_game : Fn := ⟨1, 4, t_l_game_0⟩
noncomputable def b_l_good_1 : ISs := (.cons (.ite (.cmp (.prim2 .max (.var 3) (.neg (.var 3))) (.cons .gt (.prim .len (.idx (.var 0) (.lit (.int 0)))) .nil)) (.cons (.ret (.lit (.bool false))) .nil) .nil) .nil)
noncomputable def b_l_good_2 : ISs := (.cons (.for1 3 (.of (.var 2)) b_l_good_1) (.cons (.ite (.cmp (.prim .len (.var 2)) (.cons .gt (.lit (.int 10)) .nil)) (.cons (.ret (.lit (.bool false))) .nil) .nil) .nil))
noncomputable def b_l_good_3 : ISs := (.cons (.ite (.cmp (.var 1) (.cons .notin (.tup (.cons (.lit (.str [102])) (.cons (.lit (.str [111])) .nil))) .nil)) (.cons (.ret (.lit (.bool false))) .nil) .nil) .nil)
/-- _law_good: _law_game_here, _law_sign, _law_wish_here, _law_number_here -/
noncomputable def fn_l_good : Fn := ⟨1, 4, (.cons (.for1 1 (.of (.idx (.var 0) (.lit (.int 0)))) b_l_good_3) (.cons (.for1 2 (.of (.idx (.var 0) (.lit (.int 1)))) b_l_good_2) (.cons (.ret (.and (.cons (.cmp (.prim .len (.idx (.var 0) (.lit (.int 0)))) (.cons .le (.lit (.int 10)) .nil)) (.cons (.cmp (.prim .len (.idx (.var 0) (.lit (.int 1)))) (.cons .le (.lit (.int 20)) .nil)) .nil)))) .nil)))⟩
/-- _law_refused: _law_text_here, _law_by_game, e -/
noncomputable def fn_l_refused : Fn := ⟨2, 3, (.cons (.tryc 19 (.cons (.var 0) .nil) [⟨1, 2, [(false, .var 1), (false, .isi 0), (true, .isi 3)]⟩, ⟨3, 2, [(true, .var 1), (false, .isi 0), (true, .isi 2)]⟩]) (.cons (.ret (.lit (.bool false))) .nil))⟩
noncomputable def t_l_alike_3 : ISs := (.cons (.ret (.cmp (.var 0) (.cons .eq (.var 1) .nil))) .nil)
noncomputable def b_l_alike_1 : ISs := (.cons (.ite (.or (.cons (.not (.isinst (.var 3) .int)) (.cons (.isinst (.var 3) .bool) .nil))) (.cons (.ret (.lit (.bool false))) .nil) .nil) .nil)
noncomputable def b_l_alike_2 : ISs := (.cons (.ite (.not (.isinst (.var 2) .list)) (.cons (.ret (.lit (.bool false))) .nil) .nil) (.cons (.for1 3 (.of (.var 2)) b_l_alike_1) .nil))
noncomputable def t_l_alike_2 : ISs := (.cons (.for1 2 (.of (.idx (.var 0) (.lit (.int 1)))) b_l_alike_2) t_l_alike_3)
noncomputable def t_l_alike_1 : ISs := (.cons (.ite (.or (.cons (.not (.isinst (.idx (.var 0) (.lit (.int 0))) .str)) (.cons (.not (.isinst (.idx (.var 0) (.lit (.int 1))) .list)) .nil))) (.cons (.ret (.lit (.bool false))) .nil) .nil) t_l_alike_2)
noncomputable def t_l_alike_0 : ISs := (.cons (.ite (.or (.cons (.not (.isinst (.var 0) .tuple)) (.cons (.cmp (.prim .len (.var 0)) (.cons .ne (.lit (.int 2)) .nil)) .nil))) (.cons (.ret (.lit (.bool false))) .nil) .nil) t_l_alike_1)
/-- _law_alike: _law_found, _law_due, _law_wish_here, _law_number_here -/
noncomputable def fn_l_alike : Fn := ⟨2, 4, t_l_alike_0⟩
noncomputable def t_law_4 : ISs := (.cons (.ret (.call 110 (.cons (.call 19 (.cons (.var 1) .nil)) (.cons (.var 2) .nil)))) .nil)
noncomputable def t_law_3 : ISs := (.cons (.ite (.not (.call 109 (.cons (.var 2) .nil))) (.cons (.ret (.call 1000 (.cons (.var 1) (.cons (.lit (.bool true)) .nil)))) .nil) .nil) t_law_4)
noncomputable def t_law_2 : ISs := (.cons (.ite (.cmp (.var 2) (.cons .is (.lit .none) .nil)) (.cons (.ret (.call 1000 (.cons (.var 1) (.cons (.lit (.bool false)) .nil)))) .nil) .nil) t_law_3)
noncomputable def t_law_1 : ISs := (.cons (.assign 2 (.call 108 (.cons (.var 1) .nil))) t_law_2)
noncomputable def t_law_0 : ISs := (.cons (.assign 1 (.call 105 (.cons (.var 0) .nil))) t_law_1)
/-- law: _law_script, _law_text_here, _law_game_here -/
noncomputable def fn_law : Fn := ⟨1, 3, t_law_0⟩

noncomputable def tab : Tab := [(11, "check", ["setters", "wishes", "sign", "wish", "number"], fn_check),
  (16, "number_of", ["word", "figures"], fn_number_of),
  (17, "setters_of", ["row"], fn_setters_of),
  (18, "wish_of", ["row", "words"], fn_wish_of),
  (19, "read", ["text", "rows", "setters", "wishes"], fn_read),
  (100, "_law_cell_at", ["_law_script", "_law_k"], fn_l_cell_at),
  (101, "_law_first", ["_law_cell", "_law_some"], fn_l_first),
  (102, "_law_next", ["_law_cell", "_law_some", "_law_sign"], fn_l_next),
  (103, "_law_sign_by", ["_law_cell", "_law_some"], fn_l_sign_by),
  (104, "_law_great", ["_law_cell", "_law_way", "_law_lamps", "_law_rows", "_law_k"], fn_l_great),
  (105, "_law_text", ["_law_script", "_law_rows", "_law_k", "_law_text_here", "_law_way", "_law_at"], fn_l_text),
  (106, "_law_number", ["_law_word", "_law_figures", "_law_sign"], fn_l_number),
  (107, "_law_wish", ["_law_row", "_law_wish_here"], fn_l_wish),
  (108, "_law_game", ["_law_text_here", "_law_rows", "_law_wishes"], fn_l_game),
  (109, "_law_good", ["_law_game_here", "_law_sign", "_law_wish_here", "_law_number_here"], fn_l_good),
  (1000, "_law_refused", ["_law_text_here", "_law_by_game", "e"], fn_l_refused),
  (110, "_law_alike", ["_law_found", "_law_due", "_law_wish_here", "_law_number_here"], fn_l_alike),
  (111, "law", ["_law_script", "_law_text_here", "_law_game_here"], fn_law)]
noncomputable def lawNo : Nat := 111
end Mine

/-! ## PVA07 -/
namespace Mine
noncomputable def wD (w : List Int) : Dat := .lst (w.map .int)
noncomputable abbrev wsD (ws : List (List Int)) : Dat := .lst (ws.map wD)
section
variable {sub : Nat → Nat → Bool}
theorem kSeq_exn {C : Oracle} (ss : ISs) (c : Nat) (ρ : Loc) (σ : Sto) : kSeq sub C ss (.exn c ρ σ) = .exn c ρ σ := rfl
theorem kIte_exn {C : Oracle} (a b : ISs) (c : Nat) (ρ : Loc) (σ : Sto) : kIte sub C a b ρ (.exn c σ) = .exn c ρ σ := rfl
theorem kRet_exn (c : Nat) (ρ : Loc) (σ : Sto) : kRet ρ (.exn c σ) = .exn c ρ σ := rfl
theorem ex_raise {C : Oracle} (c : Nat) (m : List Nat) (ρ : Loc) (σ : Sto) : ex sub C (.raise c m) ρ σ = .exn c ρ σ := rfl
theorem drop_exn {C : Oracle} {e : IE} {c : Nat} {ρ : Loc} {σ σ' : Sto} (h : ev sub C e ρ σ = .exn c σ') : ex sub C (.drop e) ρ σ = .exn c ρ σ' := by show Out.stm _ _ _ = _; rw [h]; rfl
theorem call_raise {Δ : Nat → Option Fn} {n f c : Nat} {fn : Fn} {args : List Val} {σ σ' : Sto} {ρ : Loc} (hd : Δ f = some fn) (ha : args.length = fn.arity)
    (h : exs sub (callF sub Δ n) fn.body (args.map some ++ List.replicate (fn.slots - fn.arity) none) σ = .exn c ρ σ') : callF sub Δ (n + 1) f args σ = .exn c (σ'.take σ.length) := by
  simp only [callF, hd, ha, if_true, h, SOut.back_exn]
theorem call_next {Δ : Nat → Option Fn} {n f : Nat} {fn : Fn} {args : List Val} {σ σ' : Sto} {ρ : Loc} (hd : Δ f = some fn) (ha : args.length = fn.arity)
    (h : exs sub (callF sub Δ n) fn.body (args.map some ++ List.replicate (fn.slots - fn.arity) none) σ = .next ρ σ') (ht : σ'.take σ.length = σ) : callF sub Δ (n + 1) f args σ = .val .none σ := by
  simp only [callF, hd, ha, if_true, h, SOut.back_next, ht]

/-- a loop that raises at the first item that is bad -/
theorem forL_dec {α : Type} {src : Src} {f : Dat → Loc → Sto → SOut} {em : α → Dat} (bad : α → Prop) (P : Loc → Sto → Prop) (hst : ∀ ρ σ, P ρ σ → src.still σ = true) :
    ∀ {l : List α} {ρ : Loc} {σ : Sto}, (∀ a ∈ l, ∀ ρ σ, P ρ σ → (¬ bad a → ∃ ρ' σ', f (em a) ρ σ = .next ρ' σ' ∧ P ρ' σ') ∧ (bad a → ∃ ρ' σ', f (em a) ρ σ = .exn 1 ρ' σ')) → P ρ σ →
    ((∀ a ∈ l, ¬ bad a) → ∃ ρ' σ', forL src f (l.map em) ρ σ = .next ρ' σ' ∧ P ρ' σ') ∧ ((∃ a ∈ l, bad a) → ∃ ρ' σ', forL src f (l.map em) ρ σ = .exn 1 ρ' σ')
  | [], ρ, σ, h, hP => ⟨fun _ => ⟨ρ, σ, by simp [forL, hst _ _ hP], hP⟩, fun ⟨a, ha, _⟩ => nomatch ha⟩
  | a :: l, ρ, σ, h, hP => by
    obtain ⟨h1, h2⟩ := h a (.head _) ρ σ hP
    by_cases hb : bad a
    · obtain ⟨ρ', σ', e⟩ := h2 hb
      exact ⟨fun hn => absurd hb (hn a (.head _)), fun _ => ⟨ρ', σ', by simp [forL, hst _ _ hP, e]⟩⟩
    · obtain ⟨ρ', σ', e, hP'⟩ := h1 hb
      obtain ⟨i1, i2⟩ := forL_dec bad P hst (l := l) (fun b hb => h b (.tail _ hb)) hP'
      refine ⟨fun hn => ?_, fun ⟨b, hb1, hb2⟩ => ?_⟩
      · obtain ⟨ρ₂, σ₂, e2, hP2⟩ := i1 fun b hb => hn b (.tail _ hb)
        exact ⟨ρ₂, σ₂, by simp [forL, hst _ _ hP, e, e2], hP2⟩
      · rcases List.mem_cons.mp hb1 with rfl | hb1
        · exact absurd hb2 hb
        · obtain ⟨ρ₂, σ₂, e2⟩ := i2 ⟨b, hb1, hb2⟩
          exact ⟨ρ₂, σ₂, by simp [forL, hst _ _ hP, e, e2]⟩
theorem kFor_dec {α : Type} {C : Oracle} {x : Nat} {body : ISs} {em : α → Dat} {l : List α} (bad : α → Prop) (P : Loc → Sto → Prop) {ρ : Loc} {σ : Sto} (hl : l.length ≤ 1000000)
    (h : ∀ a ∈ l, ∀ ρ σ, P ρ σ → (¬ bad a → ∃ ρ' σ', exs sub C body (ρ.set x (some (.dat (em a)))) σ = .next ρ' σ' ∧ P ρ' σ') ∧ (bad a → ∃ ρ' σ', exs sub C body (ρ.set x (some (.dat (em a)))) σ = .exn 1 ρ' σ')) (hP : P ρ σ) :
    ((∀ a ∈ l, ¬ bad a) → ∃ ρ' σ', kFor sub C x body ρ (.val ⟨l.map em, none⟩ σ) = .next ρ' σ' ∧ P ρ' σ') ∧ ((∃ a ∈ l, bad a) → ∃ ρ' σ', kFor sub C x body ρ (.val ⟨l.map em, none⟩ σ) = .exn 1 ρ' σ') := by
  rw [kFor_val sub C x body ρ ⟨l.map em, none⟩ σ (by simpa using hl)]
  exact forL_dec bad P (fun _ _ _ => rfl) h hP

/-! check -/
theorem ok_ch {a : Nat} (h : a < 1000) : okD (.str [a]) = true := by
  have : a < 1114112 := by omega
  simp [okD, fineD, depthD, this]
theorem ne_ch {a b : Nat} (ha : a < 1000) (hb : b < 1000) : cmp2 .ne (.str [a]) (.str [b]) = some (a != b) := by
  show (eq2 _ _).map _ = _
  simp only [eq2, ok_ch ha, ok_ch hb, Bool.and_self, if_true, eqD, Option.map_some]
  congr 1
  by_cases h : a = b <;> simp [h, bne]
theorem len_S (S : List Nat) (h : S.length ≤ 900) : prim1 .len (.str S) = some (.int S.length) := by
  have : S.length ≤ 1000000 := by omega
  simp [prim1, lenD, this]
theorem len_w (w : List Int) (h : w.length ≤ 900) : prim1 .len (wD w) = some (.int w.length) := by unfold wD; rw [p_len_lst _ (by simp; omega)]; simp
theorem len_ws (ws : List (List Int)) (h : ws.length ≤ 900) : prim1 .len (wsD ws) = some (.int ws.length) := by rw [p_len_lst _ (by simp; omega)]; simp
noncomputable def goodW (S : List Nat) (w : List Int) : Prop := w.length ≤ 10 ∧ ∀ z ∈ w, z ≠ 0 ∧ z.natAbs ≤ S.length
noncomputable def goodG (S : List Nat) (ws : List (List Int)) : Prop := S.length ≤ 10 ∧ ws.length ≤ 20 ∧ (∀ c ∈ S, c = 102 ∨ c = 111) ∧ ∀ w ∈ ws, goodW S w
/-- what check may be asked here -/
noncomputable def Small (S : List Nat) (ws : List (List Int)) : Prop := S.length ≤ 900 ∧ ws.length ≤ 900 ∧ (∀ w ∈ ws, w.length ≤ 900) ∧ ∀ c ∈ S, c < 1000
theorem ck_sign {C : Oracle} {c : Nat} {x0 x1 x3 x4 : Option Val} {σ : Sto} (hc : c < 1000) : exs sub C b_check_3 [x0, x1, some (.dat (.str [c])), x3, x4] σ = if c = 102 ∨ c = 111 then .next [x0, x1, some (.dat (.str [c])), x3, x4] σ else .exn 1 [x0, x1, some (.dat (.str [c])), x3, x4] σ := by
  have q1 := ne_ch hc (show 102 < 1000 by decide)
  have q2 := ne_ch hc (show 111 < 1000 by decide)
  by_cases h1 : c = 102
  · subst h1
    simp only [b_check_3, exs_nil, exs_cons, kSeq_next, kSeq_ret, ex_assign, kAsg_val, ex_newlst, kNew_val, ex_append, kApp0_ref, kApp_dat, ex_ret, kRet_dat, ex_ite, kIte_true, kIte_false, kIte_val, ex_for1, ev_lit, ev_con, ev_var, kVar_val, ev_bin, kBin1_val, kBin2_val, kD1_val, kD2a_val, kD2_val, ev_neg, negD, ev_prim, ev_prim2, ev_idx, kIdx_val, kNotX_val, kTruX_val, ev_slFrom, ev_slTo, kTup_val, kLst_val, ev_tup, ev_lst, kNot_val, kBool_val, kTru_val, ev_not, evCmp_cons, evCmp_nil, kCmp1_val, kCmp2_nil, kCmp2_true, kCmp2_false, kCmp0_val, ev_cmp, evB_cmp, kCall_val, kDat_val, ev_call, kCons_val, kArgs_val, evArgs_nil, evArgs_cons, kToDat_dat, kEvs_val, evs_nil, evs_cons, ev_and, ev_or, evAnd_one, Out.noX_val, evOr_one, evAnd_cons, evOr_cons, kAnd_true, kAnd_false, kOr_true, kOr_false, kAnd_val, kOr_val, evAll_nil, evAny_nil, evIfs_nil, evAll_cons, evAny_cons, evIfs_cons, kAll_val, kAny_val, kIfs_val, evB_and, evB_or, evB_not, evB_var, evB_call, evB_prim, ev_isinst, evB_isinst, evB_idx, ev_comp, evI_of', kOf_lst, kOf_tup, kOf_str, evI_range1, d1_dat, d2_dat, c2_dat, look_dat, bodyF, List.map_cons, List.map_nil, List.cons_append, List.nil_append, List.append_nil, List.replicate_succ, List.replicate_zero, List.getElem?_cons_zero, List.getElem?_cons_succ, List.set_cons_zero, List.set_cons_succ, List.length_cons, List.length_nil, Nat.sub_self, Nat.zero_add, Nat.reduceAdd, Nat.reduceSub, Nat.add_sub_cancel, if_true, if_false, Bool.false_eq_true, Int.reduceLT, Int.reduceLE, Int.reduceNeg, Int.reduceAdd, Int.reduceSub, Int.reduceMul, Int.reduceToNat, Nat.reduceLT, Nat.reduceLeDiff, and_self, and_true, true_and, decide_true, decide_false, Bool.not_true, Bool.not_false, Option.map_some, Option.bind_some, b_add, b_sub, b_mul1, b_mod, b_fdiv, cmp_eq_int, cmp_eq_bool, cmp_lt, cmp_le, cmp_gt, cmp_ge, Int.reduceGT, gt_iff_lt, ge_iff_le, isTy, q1, show ((102 : Nat) != 102) = false from rfl, true_or]
  · have e1 : (c != 102) = true := by simpa using h1
    by_cases h2 : c = 111
    · subst h2
      simp only [b_check_3, exs_nil, exs_cons, kSeq_next, kSeq_ret, ex_assign, kAsg_val, ex_newlst, kNew_val, ex_append, kApp0_ref, kApp_dat, ex_ret, kRet_dat, ex_ite, kIte_true, kIte_false, kIte_val, ex_for1, ev_lit, ev_con, ev_var, kVar_val, ev_bin, kBin1_val, kBin2_val, kD1_val, kD2a_val, kD2_val, ev_neg, negD, ev_prim, ev_prim2, ev_idx, kIdx_val, kNotX_val, kTruX_val, ev_slFrom, ev_slTo, kTup_val, kLst_val, ev_tup, ev_lst, kNot_val, kBool_val, kTru_val, ev_not, evCmp_cons, evCmp_nil, kCmp1_val, kCmp2_nil, kCmp2_true, kCmp2_false, kCmp0_val, ev_cmp, evB_cmp, kCall_val, kDat_val, ev_call, kCons_val, kArgs_val, evArgs_nil, evArgs_cons, kToDat_dat, kEvs_val, evs_nil, evs_cons, ev_and, ev_or, evAnd_one, Out.noX_val, evOr_one, evAnd_cons, evOr_cons, kAnd_true, kAnd_false, kOr_true, kOr_false, kAnd_val, kOr_val, evAll_nil, evAny_nil, evIfs_nil, evAll_cons, evAny_cons, evIfs_cons, kAll_val, kAny_val, kIfs_val, evB_and, evB_or, evB_not, evB_var, evB_call, evB_prim, ev_isinst, evB_isinst, evB_idx, ev_comp, evI_of', kOf_lst, kOf_tup, kOf_str, evI_range1, d1_dat, d2_dat, c2_dat, look_dat, bodyF, List.map_cons, List.map_nil, List.cons_append, List.nil_append, List.append_nil, List.replicate_succ, List.replicate_zero, List.getElem?_cons_zero, List.getElem?_cons_succ, List.set_cons_zero, List.set_cons_succ, List.length_cons, List.length_nil, Nat.sub_self, Nat.zero_add, Nat.reduceAdd, Nat.reduceSub, Nat.add_sub_cancel, if_true, if_false, Bool.false_eq_true, Int.reduceLT, Int.reduceLE, Int.reduceNeg, Int.reduceAdd, Int.reduceSub, Int.reduceMul, Int.reduceToNat, Nat.reduceLT, Nat.reduceLeDiff, and_self, and_true, true_and, decide_true, decide_false, Bool.not_true, Bool.not_false, Option.map_some, Option.bind_some, b_add, b_sub, b_mul1, b_mod, b_fdiv, cmp_eq_int, cmp_eq_bool, cmp_lt, cmp_le, cmp_gt, cmp_ge, Int.reduceGT, gt_iff_lt, ge_iff_le, isTy, q1, q2, e1, show ((111 : Nat) != 111) = false from rfl, or_true]
    · have e2 : (c != 111) = true := by simpa using h2
      simp only [b_check_3, exs_nil, exs_cons, kSeq_next, kSeq_ret, ex_assign, kAsg_val, ex_newlst, kNew_val, ex_append, kApp0_ref, kApp_dat, ex_ret, kRet_dat, ex_ite, kIte_true, kIte_false, kIte_val, ex_for1, ev_lit, ev_con, ev_var, kVar_val, ev_bin, kBin1_val, kBin2_val, kD1_val, kD2a_val, kD2_val, ev_neg, negD, ev_prim, ev_prim2, ev_idx, kIdx_val, kNotX_val, kTruX_val, ev_slFrom, ev_slTo, kTup_val, kLst_val, ev_tup, ev_lst, kNot_val, kBool_val, kTru_val, ev_not, evCmp_cons, evCmp_nil, kCmp1_val, kCmp2_nil, kCmp2_true, kCmp2_false, kCmp0_val, ev_cmp, evB_cmp, kCall_val, kDat_val, ev_call, kCons_val, kArgs_val, evArgs_nil, evArgs_cons, kToDat_dat, kEvs_val, evs_nil, evs_cons, ev_and, ev_or, evAnd_one, Out.noX_val, evOr_one, evAnd_cons, evOr_cons, kAnd_true, kAnd_false, kOr_true, kOr_false, kAnd_val, kOr_val, evAll_nil, evAny_nil, evIfs_nil, evAll_cons, evAny_cons, evIfs_cons, kAll_val, kAny_val, kIfs_val, evB_and, evB_or, evB_not, evB_var, evB_call, evB_prim, ev_isinst, evB_isinst, evB_idx, ev_comp, evI_of', kOf_lst, kOf_tup, kOf_str, evI_range1, d1_dat, d2_dat, c2_dat, look_dat, bodyF, List.map_cons, List.map_nil, List.cons_append, List.nil_append, List.append_nil, List.replicate_succ, List.replicate_zero, List.getElem?_cons_zero, List.getElem?_cons_succ, List.set_cons_zero, List.set_cons_succ, List.length_cons, List.length_nil, Nat.sub_self, Nat.zero_add, Nat.reduceAdd, Nat.reduceSub, Nat.add_sub_cancel, if_true, if_false, Bool.false_eq_true, Int.reduceLT, Int.reduceLE, Int.reduceNeg, Int.reduceAdd, Int.reduceSub, Int.reduceMul, Int.reduceToNat, Nat.reduceLT, Nat.reduceLeDiff, and_self, and_true, true_and, decide_true, decide_false, Bool.not_true, Bool.not_false, Option.map_some, Option.bind_some, b_add, b_sub, b_mul1, b_mod, b_fdiv, cmp_eq_int, cmp_eq_bool, cmp_lt, cmp_le, cmp_gt, cmp_ge, Int.reduceGT, gt_iff_lt, ge_iff_le, isTy, q1, q2, e1, e2, h1, h2, or_self, ex_raise, kSeq_exn]
theorem ck_num {C : Oracle} {S : List Nat} {z : Int} {x1 x2 x3 : Option Val} {σ : Sto} (hS : S.length ≤ 900) : exs sub C b_check_1 [some (.dat (.str S)), x1, x2, x3, some (.dat (.int z))] σ =
    if z ≠ 0 ∧ z.natAbs ≤ S.length then .next [some (.dat (.str S)), x1, x2, x3, some (.dat (.int z))] σ else .exn 1 [some (.dat (.str S)), x1, x2, x3, some (.dat (.int z))] σ := by
  have hln := len_S S hS
  have hab : prim1 .abs (.int z) = some (.int z.natAbs) := rfl
  generalize Dat.str S = X at hln
  by_cases h0 : z = 0
  · subst h0
    simp only [b_check_1, exs_nil, exs_cons, kSeq_next, kSeq_ret, ex_assign, kAsg_val, ex_newlst, kNew_val, ex_append, kApp0_ref, kApp_dat, ex_ret, kRet_dat, ex_ite, kIte_true, kIte_false, kIte_val, ex_for1, ev_lit, ev_con, ev_var, kVar_val, ev_bin, kBin1_val, kBin2_val, kD1_val, kD2a_val, kD2_val, ev_neg, negD, ev_prim, ev_prim2, ev_idx, kIdx_val, kNotX_val, kTruX_val, ev_slFrom, ev_slTo, kTup_val, kLst_val, ev_tup, ev_lst, kNot_val, kBool_val, kTru_val, ev_not, evCmp_cons, evCmp_nil, kCmp1_val, kCmp2_nil, kCmp2_true, kCmp2_false, kCmp0_val, ev_cmp, evB_cmp, kCall_val, kDat_val, ev_call, kCons_val, kArgs_val, evArgs_nil, evArgs_cons, kToDat_dat, kEvs_val, evs_nil, evs_cons, ev_and, ev_or, evAnd_one, Out.noX_val, evOr_one, evAnd_cons, evOr_cons, kAnd_true, kAnd_false, kOr_true, kOr_false, kAnd_val, kOr_val, evAll_nil, evAny_nil, evIfs_nil, evAll_cons, evAny_cons, evIfs_cons, kAll_val, kAny_val, kIfs_val, evB_and, evB_or, evB_not, evB_var, evB_call, evB_prim, ev_isinst, evB_isinst, evB_idx, ev_comp, evI_of', kOf_lst, kOf_tup, kOf_str, evI_range1, d1_dat, d2_dat, c2_dat, look_dat, bodyF, List.map_cons, List.map_nil, List.cons_append, List.nil_append, List.append_nil, List.replicate_succ, List.replicate_zero, List.getElem?_cons_zero, List.getElem?_cons_succ, List.set_cons_zero, List.set_cons_succ, List.length_cons, List.length_nil, Nat.sub_self, Nat.zero_add, Nat.reduceAdd, Nat.reduceSub, Nat.add_sub_cancel, if_true, if_false, Bool.false_eq_true, Int.reduceLT, Int.reduceLE, Int.reduceNeg, Int.reduceAdd, Int.reduceSub, Int.reduceMul, Int.reduceToNat, Nat.reduceLT, Nat.reduceLeDiff, and_self, and_true, true_and, decide_true, decide_false, Bool.not_true, Bool.not_false, Option.map_some, Option.bind_some, b_add, b_sub, b_mul1, b_mod, b_fdiv, cmp_eq_int, cmp_eq_bool, cmp_lt, cmp_le, cmp_gt, cmp_ge, Int.reduceGT, gt_iff_lt, ge_iff_le, isTy, show ((0 : Int) == 0) = true from rfl, ex_raise, kSeq_exn, ne_eq, not_true, false_and]
  · have e0 : (z == 0) = false := by simpa using h0
    by_cases h1 : z.natAbs ≤ S.length
    · have : ¬ ((S.length : Int) < (z.natAbs : Int)) := by omega
      simp only [b_check_1, exs_nil, exs_cons, kSeq_next, kSeq_ret, ex_assign, kAsg_val, ex_newlst, kNew_val, ex_append, kApp0_ref, kApp_dat, ex_ret, kRet_dat, ex_ite, kIte_true, kIte_false, kIte_val, ex_for1, ev_lit, ev_con, ev_var, kVar_val, ev_bin, kBin1_val, kBin2_val, kD1_val, kD2a_val, kD2_val, ev_neg, negD, ev_prim, ev_prim2, ev_idx, kIdx_val, kNotX_val, kTruX_val, ev_slFrom, ev_slTo, kTup_val, kLst_val, ev_tup, ev_lst, kNot_val, kBool_val, kTru_val, ev_not, evCmp_cons, evCmp_nil, kCmp1_val, kCmp2_nil, kCmp2_true, kCmp2_false, kCmp0_val, ev_cmp, evB_cmp, kCall_val, kDat_val, ev_call, kCons_val, kArgs_val, evArgs_nil, evArgs_cons, kToDat_dat, kEvs_val, evs_nil, evs_cons, ev_and, ev_or, evAnd_one, Out.noX_val, evOr_one, evAnd_cons, evOr_cons, kAnd_true, kAnd_false, kOr_true, kOr_false, kAnd_val, kOr_val, evAll_nil, evAny_nil, evIfs_nil, evAll_cons, evAny_cons, evIfs_cons, kAll_val, kAny_val, kIfs_val, evB_and, evB_or, evB_not, evB_var, evB_call, evB_prim, ev_isinst, evB_isinst, evB_idx, ev_comp, evI_of', kOf_lst, kOf_tup, kOf_str, evI_range1, d1_dat, d2_dat, c2_dat, look_dat, bodyF, List.map_cons, List.map_nil, List.cons_append, List.nil_append, List.append_nil, List.replicate_succ, List.replicate_zero, List.getElem?_cons_zero, List.getElem?_cons_succ, List.set_cons_zero, List.set_cons_succ, List.length_cons, List.length_nil, Nat.sub_self, Nat.zero_add, Nat.reduceAdd, Nat.reduceSub, Nat.add_sub_cancel, if_true, if_false, Bool.false_eq_true, Int.reduceLT, Int.reduceLE, Int.reduceNeg, Int.reduceAdd, Int.reduceSub, Int.reduceMul, Int.reduceToNat, Nat.reduceLT, Nat.reduceLeDiff, and_self, and_true, true_and, decide_true, decide_false, Bool.not_true, Bool.not_false, Option.map_some, Option.bind_some, b_add, b_sub, b_mul1, b_mod, b_fdiv, cmp_eq_int, cmp_eq_bool, cmp_lt, cmp_le, cmp_gt, cmp_ge, Int.reduceGT, gt_iff_lt, ge_iff_le, isTy, e0, hab, hln, this, ne_eq, h0, not_false_eq_true, h1]
    · have : (S.length : Int) < (z.natAbs : Int) := by omega
      simp only [b_check_1, exs_nil, exs_cons, kSeq_next, kSeq_ret, ex_assign, kAsg_val, ex_newlst, kNew_val, ex_append, kApp0_ref, kApp_dat, ex_ret, kRet_dat, ex_ite, kIte_true, kIte_false, kIte_val, ex_for1, ev_lit, ev_con, ev_var, kVar_val, ev_bin, kBin1_val, kBin2_val, kD1_val, kD2a_val, kD2_val, ev_neg, negD, ev_prim, ev_prim2, ev_idx, kIdx_val, kNotX_val, kTruX_val, ev_slFrom, ev_slTo, kTup_val, kLst_val, ev_tup, ev_lst, kNot_val, kBool_val, kTru_val, ev_not, evCmp_cons, evCmp_nil, kCmp1_val, kCmp2_nil, kCmp2_true, kCmp2_false, kCmp0_val, ev_cmp, evB_cmp, kCall_val, kDat_val, ev_call, kCons_val, kArgs_val, evArgs_nil, evArgs_cons, kToDat_dat, kEvs_val, evs_nil, evs_cons, ev_and, ev_or, evAnd_one, Out.noX_val, evOr_one, evAnd_cons, evOr_cons, kAnd_true, kAnd_false, kOr_true, kOr_false, kAnd_val, kOr_val, evAll_nil, evAny_nil, evIfs_nil, evAll_cons, evAny_cons, evIfs_cons, kAll_val, kAny_val, kIfs_val, evB_and, evB_or, evB_not, evB_var, evB_call, evB_prim, ev_isinst, evB_isinst, evB_idx, ev_comp, evI_of', kOf_lst, kOf_tup, kOf_str, evI_range1, d1_dat, d2_dat, c2_dat, look_dat, bodyF, List.map_cons, List.map_nil, List.cons_append, List.nil_append, List.append_nil, List.replicate_succ, List.replicate_zero, List.getElem?_cons_zero, List.getElem?_cons_succ, List.set_cons_zero, List.set_cons_succ, List.length_cons, List.length_nil, Nat.sub_self, Nat.zero_add, Nat.reduceAdd, Nat.reduceSub, Nat.add_sub_cancel, if_true, if_false, Bool.false_eq_true, Int.reduceLT, Int.reduceLE, Int.reduceNeg, Int.reduceAdd, Int.reduceSub, Int.reduceMul, Int.reduceToNat, Nat.reduceLT, Nat.reduceLeDiff, and_self, and_true, true_and, decide_true, decide_false, Bool.not_true, Bool.not_false, Option.map_some, Option.bind_some, b_add, b_sub, b_mul1, b_mod, b_fdiv, cmp_eq_int, cmp_eq_bool, cmp_lt, cmp_le, cmp_gt, cmp_ge, Int.reduceGT, gt_iff_lt, ge_iff_le, isTy, e0, hab, hln, this, ne_eq, h0, not_false_eq_true, h1, ex_raise, kSeq_exn]

theorem ck_wish {C : Oracle} {S : List Nat} {w : List Int} {x1 x2 y : Option Val} {σ : Sto} (hS : S.length ≤ 900) (hw : w.length ≤ 900) :
    (goodW S w → ∃ y', exs sub C b_check_2 [some (.dat (.str S)), x1, x2, some (.dat (wD w)), y] σ = .next [some (.dat (.str S)), x1, x2, some (.dat (wD w)), y'] σ) ∧
    (¬ goodW S w → ∃ ρ' σ', exs sub C b_check_2 [some (.dat (.str S)), x1, x2, some (.dat (wD w)), y] σ = .exn 1 ρ' σ') := by
  have hln := len_w w hw
  have hof : ∀ τ : Sto, kOf (.val (.dat (wD w)) τ) = .val ⟨w.map .int, none⟩ τ := fun _ => rfl
  obtain ⟨f1, f2⟩ := kFor_dec (sub := sub) (C := C) (x := 4) (body := b_check_1) (em := Dat.int) (l := w) (fun z => ¬ (z ≠ 0 ∧ z.natAbs ≤ S.length)) (fun ρ τ => (∃ y, ρ = [some (.dat (.str S)), x1, x2, some (.dat (wD w)), y]) ∧ τ = σ)
    (ρ := [some (.dat (.str S)), x1, x2, some (.dat (wD w)), y]) (σ := σ) (by omega) (fun z hz ρ τ hP => by
      obtain ⟨⟨y, rfl⟩, rfl⟩ := hP
      have := ck_num (sub := sub) (C := C) (S := S) (z := z) (x1 := x1) (x2 := x2) (x3 := some (.dat (wD w))) (σ := τ) hS
      exact ⟨fun h => ⟨_, _, this.trans (if_pos (Classical.not_not.mp h)), ⟨some (.dat (.int z)), rfl⟩, rfl⟩, fun h => ⟨_, _, this.trans (if_neg h)⟩⟩) ⟨⟨y, rfl⟩, rfl⟩
  by_cases hl : w.length ≤ 10
  · have hlt : ¬ ((10 : Int) < w.length) := by omega
    refine ⟨fun hg => ?_, fun hg => ?_⟩
    · obtain ⟨ρ', σ', e, ⟨y', rfl⟩, rfl⟩ := f1 fun z hz => not_not_intro (hg.2 z hz)
      refine ⟨y', ?_⟩
      generalize wD w = X at hln hof e
      simp only [b_check_2, exs_nil, exs_cons, kSeq_next, kSeq_ret, ex_assign, kAsg_val, ex_newlst, kNew_val, ex_append, kApp0_ref, kApp_dat, ex_ret, kRet_dat, ex_ite, kIte_true, kIte_false, kIte_val, ex_for1, ev_lit, ev_con, ev_var, kVar_val, ev_bin, kBin1_val, kBin2_val, kD1_val, kD2a_val, kD2_val, ev_neg, negD, ev_prim, ev_prim2, ev_idx, kIdx_val, kNotX_val, kTruX_val, ev_slFrom, ev_slTo, kTup_val, kLst_val, ev_tup, ev_lst, kNot_val, kBool_val, kTru_val, ev_not, evCmp_cons, evCmp_nil, kCmp1_val, kCmp2_nil, kCmp2_true, kCmp2_false, kCmp0_val, ev_cmp, evB_cmp, kCall_val, kDat_val, ev_call, kCons_val, kArgs_val, evArgs_nil, evArgs_cons, kToDat_dat, kEvs_val, evs_nil, evs_cons, ev_and, ev_or, evAnd_one, Out.noX_val, evOr_one, evAnd_cons, evOr_cons, kAnd_true, kAnd_false, kOr_true, kOr_false, kAnd_val, kOr_val, evAll_nil, evAny_nil, evIfs_nil, evAll_cons, evAny_cons, evIfs_cons, kAll_val, kAny_val, kIfs_val, evB_and, evB_or, evB_not, evB_var, evB_call, evB_prim, ev_isinst, evB_isinst, evB_idx, ev_comp, evI_of', kOf_lst, kOf_tup, kOf_str, evI_range1, d1_dat, d2_dat, c2_dat, look_dat, bodyF, List.map_cons, List.map_nil, List.cons_append, List.nil_append, List.append_nil, List.replicate_succ, List.replicate_zero, List.getElem?_cons_zero, List.getElem?_cons_succ, List.set_cons_zero, List.set_cons_succ, List.length_cons, List.length_nil, Nat.sub_self, Nat.zero_add, Nat.reduceAdd, Nat.reduceSub, Nat.add_sub_cancel, if_true, if_false, Bool.false_eq_true, Int.reduceLT, Int.reduceLE, Int.reduceNeg, Int.reduceAdd, Int.reduceSub, Int.reduceMul, Int.reduceToNat, Nat.reduceLT, Nat.reduceLeDiff, and_self, and_true, true_and, decide_true, decide_false, Bool.not_true, Bool.not_false, Option.map_some, Option.bind_some, b_add, b_sub, b_mul1, b_mod, b_fdiv, cmp_eq_int, cmp_eq_bool, cmp_lt, cmp_le, cmp_gt, cmp_ge, Int.reduceGT, gt_iff_lt, ge_iff_le, isTy, hln, hlt, hof, e]
    · obtain ⟨ρ', σ', e⟩ := f2 (Classical.byContradiction fun hn => hg ⟨hl, fun z hz => Classical.byContradiction fun hz' => hn ⟨z, hz, hz'⟩⟩)
      refine ⟨ρ', σ', ?_⟩
      generalize wD w = X at hln hof e
      simp only [b_check_2, exs_nil, exs_cons, kSeq_next, kSeq_ret, ex_assign, kAsg_val, ex_newlst, kNew_val, ex_append, kApp0_ref, kApp_dat, ex_ret, kRet_dat, ex_ite, kIte_true, kIte_false, kIte_val, ex_for1, ev_lit, ev_con, ev_var, kVar_val, ev_bin, kBin1_val, kBin2_val, kD1_val, kD2a_val, kD2_val, ev_neg, negD, ev_prim, ev_prim2, ev_idx, kIdx_val, kNotX_val, kTruX_val, ev_slFrom, ev_slTo, kTup_val, kLst_val, ev_tup, ev_lst, kNot_val, kBool_val, kTru_val, ev_not, evCmp_cons, evCmp_nil, kCmp1_val, kCmp2_nil, kCmp2_true, kCmp2_false, kCmp0_val, ev_cmp, evB_cmp, kCall_val, kDat_val, ev_call, kCons_val, kArgs_val, evArgs_nil, evArgs_cons, kToDat_dat, kEvs_val, evs_nil, evs_cons, ev_and, ev_or, evAnd_one, Out.noX_val, evOr_one, evAnd_cons, evOr_cons, kAnd_true, kAnd_false, kOr_true, kOr_false, kAnd_val, kOr_val, evAll_nil, evAny_nil, evIfs_nil, evAll_cons, evAny_cons, evIfs_cons, kAll_val, kAny_val, kIfs_val, evB_and, evB_or, evB_not, evB_var, evB_call, evB_prim, ev_isinst, evB_isinst, evB_idx, ev_comp, evI_of', kOf_lst, kOf_tup, kOf_str, evI_range1, d1_dat, d2_dat, c2_dat, look_dat, bodyF, List.map_cons, List.map_nil, List.cons_append, List.nil_append, List.append_nil, List.replicate_succ, List.replicate_zero, List.getElem?_cons_zero, List.getElem?_cons_succ, List.set_cons_zero, List.set_cons_succ, List.length_cons, List.length_nil, Nat.sub_self, Nat.zero_add, Nat.reduceAdd, Nat.reduceSub, Nat.add_sub_cancel, if_true, if_false, Bool.false_eq_true, Int.reduceLT, Int.reduceLE, Int.reduceNeg, Int.reduceAdd, Int.reduceSub, Int.reduceMul, Int.reduceToNat, Nat.reduceLT, Nat.reduceLeDiff, and_self, and_true, true_and, decide_true, decide_false, Bool.not_true, Bool.not_false, Option.map_some, Option.bind_some, b_add, b_sub, b_mul1, b_mod, b_fdiv, cmp_eq_int, cmp_eq_bool, cmp_lt, cmp_le, cmp_gt, cmp_ge, Int.reduceGT, gt_iff_lt, ge_iff_le, isTy, hln, hlt, hof, e, kSeq_exn]
  · have hlt : (10 : Int) < w.length := by omega
    refine ⟨fun hg => absurd hg.1 hl, fun _ => ⟨[some (.dat (.str S)), x1, x2, some (.dat (wD w)), y], σ, ?_⟩⟩
    · generalize wD w = X at hln
      simp only [b_check_2, exs_nil, exs_cons, kSeq_next, kSeq_ret, ex_assign, kAsg_val, ex_newlst, kNew_val, ex_append, kApp0_ref, kApp_dat, ex_ret, kRet_dat, ex_ite, kIte_true, kIte_false, kIte_val, ex_for1, ev_lit, ev_con, ev_var, kVar_val, ev_bin, kBin1_val, kBin2_val, kD1_val, kD2a_val, kD2_val, ev_neg, negD, ev_prim, ev_prim2, ev_idx, kIdx_val, kNotX_val, kTruX_val, ev_slFrom, ev_slTo, kTup_val, kLst_val, ev_tup, ev_lst, kNot_val, kBool_val, kTru_val, ev_not, evCmp_cons, evCmp_nil, kCmp1_val, kCmp2_nil, kCmp2_true, kCmp2_false, kCmp0_val, ev_cmp, evB_cmp, kCall_val, kDat_val, ev_call, kCons_val, kArgs_val, evArgs_nil, evArgs_cons, kToDat_dat, kEvs_val, evs_nil, evs_cons, ev_and, ev_or, evAnd_one, Out.noX_val, evOr_one, evAnd_cons, evOr_cons, kAnd_true, kAnd_false, kOr_true, kOr_false, kAnd_val, kOr_val, evAll_nil, evAny_nil, evIfs_nil, evAll_cons, evAny_cons, evIfs_cons, kAll_val, kAny_val, kIfs_val, evB_and, evB_or, evB_not, evB_var, evB_call, evB_prim, ev_isinst, evB_isinst, evB_idx, ev_comp, evI_of', kOf_lst, kOf_tup, kOf_str, evI_range1, d1_dat, d2_dat, c2_dat, look_dat, bodyF, List.map_cons, List.map_nil, List.cons_append, List.nil_append, List.append_nil, List.replicate_succ, List.replicate_zero, List.getElem?_cons_zero, List.getElem?_cons_succ, List.set_cons_zero, List.set_cons_succ, List.length_cons, List.length_nil, Nat.sub_self, Nat.zero_add, Nat.reduceAdd, Nat.reduceSub, Nat.add_sub_cancel, if_true, if_false, Bool.false_eq_true, Int.reduceLT, Int.reduceLE, Int.reduceNeg, Int.reduceAdd, Int.reduceSub, Int.reduceMul, Int.reduceToNat, Nat.reduceLT, Nat.reduceLeDiff, and_self, and_true, true_and, decide_true, decide_false, Bool.not_true, Bool.not_false, Option.map_some, Option.bind_some, b_add, b_sub, b_mul1, b_mod, b_fdiv, cmp_eq_int, cmp_eq_bool, cmp_lt, cmp_le, cmp_gt, cmp_ge, Int.reduceGT, gt_iff_lt, ge_iff_le, isTy, hln, hlt, ex_raise, kSeq_exn]
theorem c_check {n : Nat} {S : List Nat} {ws : List (List Int)} {σ : Sto} (hs : Small S ws) :
    (goodG S ws → callF sub tab.Δ (n + 1) 11 [.dat (.str S), .dat (wsD ws)] σ = .val .none σ) ∧ (¬ goodG S ws → ∃ σ', callF sub tab.Δ (n + 1) 11 [.dat (.str S), .dat (wsD ws)] σ = .exn 1 σ') := by
  obtain ⟨hS, hW, hw, hch⟩ := hs
  have hlS := len_S S hS
  have hlW := len_ws ws hW
  have hofS : ∀ τ : Sto, kOf (.val (.dat (.str S)) τ) = .val ⟨S.map fun c => .str [c], none⟩ τ := fun _ => rfl
  have hofW : ∀ τ : Sto, kOf (.val (.dat (wsD ws)) τ) = .val ⟨ws.map wD, none⟩ τ := fun _ => rfl
  obtain ⟨f1, f2⟩ := kFor_dec (sub := sub) (C := callF sub tab.Δ n) (x := 2) (body := b_check_3) (em := fun c => Dat.str [c]) (l := S) (fun c => ¬ (c = 102 ∨ c = 111)) (fun ρ τ => (∃ y, ρ = [some (.dat (.str S)), some (.dat (wsD ws)), y, none, none]) ∧ τ = σ)
    (ρ := [some (.dat (.str S)), some (.dat (wsD ws)), none, none, none]) (σ := σ) (by omega) (fun c hc ρ τ hP => by
      obtain ⟨⟨y, rfl⟩, rfl⟩ := hP
      have := ck_sign (sub := sub) (C := callF sub tab.Δ n) (c := c) (x0 := some (.dat (.str S))) (x1 := some (.dat (wsD ws))) (x3 := none) (x4 := none) (σ := τ) (hch c hc)
      exact ⟨fun h => ⟨_, _, this.trans (if_pos (Classical.not_not.mp h)), ⟨some (.dat (.str [c])), rfl⟩, rfl⟩, fun h => ⟨_, _, this.trans (if_neg h)⟩⟩) ⟨⟨none, rfl⟩, rfl⟩
  have g := fun y => kFor_dec (sub := sub) (C := callF sub tab.Δ n) (x := 3) (body := b_check_2) (em := wD) (l := ws) (fun w => ¬ goodW S w) (fun ρ τ => (∃ y3 y4, ρ = [some (.dat (.str S)), some (.dat (wsD ws)), y, y3, y4]) ∧ τ = σ)
    (ρ := [some (.dat (.str S)), some (.dat (wsD ws)), y, none, none]) (σ := σ) (by omega) (fun w hw' ρ τ hP => by
      obtain ⟨⟨y3, y4, rfl⟩, rfl⟩ := hP
      obtain ⟨k1, k2⟩ := ck_wish (sub := sub) (C := callF sub tab.Δ n) (S := S) (w := w) (x1 := some (.dat (wsD ws))) (x2 := y) (y := y4) (σ := τ) hS (hw w hw')
      refine ⟨fun h => ?_, fun h => ?_⟩
      · obtain ⟨y', e⟩ := k1 (Classical.not_not.mp h)
        exact ⟨_, _, e, ⟨some (.dat (wD w)), y', rfl⟩, rfl⟩
      · obtain ⟨ρ', σ', e⟩ := k2 h
        exact ⟨ρ', σ', e⟩) ⟨⟨none, none, rfl⟩, rfl⟩
  by_cases h1 : S.length ≤ 10
  · have e1 : ¬ ((10 : Int) < S.length) := by omega
    by_cases h2 : ws.length ≤ 20
    · have e2 : ¬ ((20 : Int) < ws.length) := by omega
      by_cases h3 : ∀ c ∈ S, c = 102 ∨ c = 111
      · obtain ⟨ρ', σ', q1, ⟨y, rfl⟩, rfl⟩ := f1 fun c hc => not_not_intro (h3 c hc)
        obtain ⟨g1, g2⟩ := g y
        refine ⟨fun hg => ?_, fun hg => ?_⟩
        · obtain ⟨ρ₂, σ₂, q2, ⟨y3, y4, rfl⟩, rfl⟩ := g1 fun w hw => not_not_intro (hg.2.2.2 w hw)
          refine call_next (fn := fn_check) (ρ := [some (.dat (.str S)), some (.dat (wsD ws)), y, y3, y4]) (σ' := σ₂) rfl rfl ?_ (by simp)
          generalize wsD ws = X at hlW hofW q1 q2
          generalize Dat.str S = Y at hlS hofS q1 q2
          simp only [fn_check, exs_nil, exs_cons, kSeq_next, kSeq_ret, ex_assign, kAsg_val, ex_newlst, kNew_val, ex_append, kApp0_ref, kApp_dat, ex_ret, kRet_dat, ex_ite, kIte_true, kIte_false, kIte_val, ex_for1, ev_lit, ev_con, ev_var, kVar_val, ev_bin, kBin1_val, kBin2_val, kD1_val, kD2a_val, kD2_val, ev_neg, negD, ev_prim, ev_prim2, ev_idx, kIdx_val, kNotX_val, kTruX_val, ev_slFrom, ev_slTo, kTup_val, kLst_val, ev_tup, ev_lst, kNot_val, kBool_val, kTru_val, ev_not, evCmp_cons, evCmp_nil, kCmp1_val, kCmp2_nil, kCmp2_true, kCmp2_false, kCmp0_val, ev_cmp, evB_cmp, kCall_val, kDat_val, ev_call, kCons_val, kArgs_val, evArgs_nil, evArgs_cons, kToDat_dat, kEvs_val, evs_nil, evs_cons, ev_and, ev_or, evAnd_one, Out.noX_val, evOr_one, evAnd_cons, evOr_cons, kAnd_true, kAnd_false, kOr_true, kOr_false, kAnd_val, kOr_val, evAll_nil, evAny_nil, evIfs_nil, evAll_cons, evAny_cons, evIfs_cons, kAll_val, kAny_val, kIfs_val, evB_and, evB_or, evB_not, evB_var, evB_call, evB_prim, ev_isinst, evB_isinst, evB_idx, ev_comp, evI_of', kOf_lst, kOf_tup, kOf_str, evI_range1, d1_dat, d2_dat, c2_dat, look_dat, bodyF, List.map_cons, List.map_nil, List.cons_append, List.nil_append, List.append_nil, List.replicate_succ, List.replicate_zero, List.getElem?_cons_zero, List.getElem?_cons_succ, List.set_cons_zero, List.set_cons_succ, List.length_cons, List.length_nil, Nat.sub_self, Nat.zero_add, Nat.reduceAdd, Nat.reduceSub, Nat.add_sub_cancel, if_true, if_false, Bool.false_eq_true, Int.reduceLT, Int.reduceLE, Int.reduceNeg, Int.reduceAdd, Int.reduceSub, Int.reduceMul, Int.reduceToNat, Nat.reduceLT, Nat.reduceLeDiff, and_self, and_true, true_and, decide_true, decide_false, Bool.not_true, Bool.not_false, Option.map_some, Option.bind_some, b_add, b_sub, b_mul1, b_mod, b_fdiv, cmp_eq_int, cmp_eq_bool, cmp_lt, cmp_le, cmp_gt, cmp_ge, Int.reduceGT, gt_iff_lt, ge_iff_le, isTy, hlS, hlW, e1, e2, hofS, hofW, q1, q2]
        · obtain ⟨ρ₂, σ₂, q2⟩ := g2 (Classical.byContradiction fun hn => hg ⟨h1, h2, h3, fun w hw => Classical.byContradiction fun hw' => hn ⟨w, hw, hw'⟩⟩)
          refine ⟨_, call_raise (fn := fn_check) (ρ := ρ₂) (σ' := σ₂) rfl rfl ?_⟩
          generalize wsD ws = X at hlW hofW q1 q2
          generalize Dat.str S = Y at hlS hofS q1 q2
          simp only [fn_check, exs_nil, exs_cons, kSeq_next, kSeq_ret, ex_assign, kAsg_val, ex_newlst, kNew_val, ex_append, kApp0_ref, kApp_dat, ex_ret, kRet_dat, ex_ite, kIte_true, kIte_false, kIte_val, ex_for1, ev_lit, ev_con, ev_var, kVar_val, ev_bin, kBin1_val, kBin2_val, kD1_val, kD2a_val, kD2_val, ev_neg, negD, ev_prim, ev_prim2, ev_idx, kIdx_val, kNotX_val, kTruX_val, ev_slFrom, ev_slTo, kTup_val, kLst_val, ev_tup, ev_lst, kNot_val, kBool_val, kTru_val, ev_not, evCmp_cons, evCmp_nil, kCmp1_val, kCmp2_nil, kCmp2_true, kCmp2_false, kCmp0_val, ev_cmp, evB_cmp, kCall_val, kDat_val, ev_call, kCons_val, kArgs_val, evArgs_nil, evArgs_cons, kToDat_dat, kEvs_val, evs_nil, evs_cons, ev_and, ev_or, evAnd_one, Out.noX_val, evOr_one, evAnd_cons, evOr_cons, kAnd_true, kAnd_false, kOr_true, kOr_false, kAnd_val, kOr_val, evAll_nil, evAny_nil, evIfs_nil, evAll_cons, evAny_cons, evIfs_cons, kAll_val, kAny_val, kIfs_val, evB_and, evB_or, evB_not, evB_var, evB_call, evB_prim, ev_isinst, evB_isinst, evB_idx, ev_comp, evI_of', kOf_lst, kOf_tup, kOf_str, evI_range1, d1_dat, d2_dat, c2_dat, look_dat, bodyF, List.map_cons, List.map_nil, List.cons_append, List.nil_append, List.append_nil, List.replicate_succ, List.replicate_zero, List.getElem?_cons_zero, List.getElem?_cons_succ, List.set_cons_zero, List.set_cons_succ, List.length_cons, List.length_nil, Nat.sub_self, Nat.zero_add, Nat.reduceAdd, Nat.reduceSub, Nat.add_sub_cancel, if_true, if_false, Bool.false_eq_true, Int.reduceLT, Int.reduceLE, Int.reduceNeg, Int.reduceAdd, Int.reduceSub, Int.reduceMul, Int.reduceToNat, Nat.reduceLT, Nat.reduceLeDiff, and_self, and_true, true_and, decide_true, decide_false, Bool.not_true, Bool.not_false, Option.map_some, Option.bind_some, b_add, b_sub, b_mul1, b_mod, b_fdiv, cmp_eq_int, cmp_eq_bool, cmp_lt, cmp_le, cmp_gt, cmp_ge, Int.reduceGT, gt_iff_lt, ge_iff_le, isTy, hlS, hlW, e1, e2, hofS, hofW, q1, q2, kSeq_exn]
      · refine ⟨fun hg => absurd hg.2.2.1 h3, fun _ => ?_⟩
        obtain ⟨ρ₂, σ₂, q1⟩ := f2 (Classical.byContradiction fun hn => h3 fun c hc => Classical.byContradiction fun hc' => hn ⟨c, hc, hc'⟩)
        refine ⟨_, call_raise (fn := fn_check) (ρ := ρ₂) (σ' := σ₂) rfl rfl ?_⟩
        generalize wsD ws = X at hlW hofW q1
        generalize Dat.str S = Y at hlS hofS q1
        simp only [fn_check, exs_nil, exs_cons, kSeq_next, kSeq_ret, ex_assign, kAsg_val, ex_newlst, kNew_val, ex_append, kApp0_ref, kApp_dat, ex_ret, kRet_dat, ex_ite, kIte_true, kIte_false, kIte_val, ex_for1, ev_lit, ev_con, ev_var, kVar_val, ev_bin, kBin1_val, kBin2_val, kD1_val, kD2a_val, kD2_val, ev_neg, negD, ev_prim, ev_prim2, ev_idx, kIdx_val, kNotX_val, kTruX_val, ev_slFrom, ev_slTo, kTup_val, kLst_val, ev_tup, ev_lst, kNot_val, kBool_val, kTru_val, ev_not, evCmp_cons, evCmp_nil, kCmp1_val, kCmp2_nil, kCmp2_true, kCmp2_false, kCmp0_val, ev_cmp, evB_cmp, kCall_val, kDat_val, ev_call, kCons_val, kArgs_val, evArgs_nil, evArgs_cons, kToDat_dat, kEvs_val, evs_nil, evs_cons, ev_and, ev_or, evAnd_one, Out.noX_val, evOr_one, evAnd_cons, evOr_cons, kAnd_true, kAnd_false, kOr_true, kOr_false, kAnd_val, kOr_val, evAll_nil, evAny_nil, evIfs_nil, evAll_cons, evAny_cons, evIfs_cons, kAll_val, kAny_val, kIfs_val, evB_and, evB_or, evB_not, evB_var, evB_call, evB_prim, ev_isinst, evB_isinst, evB_idx, ev_comp, evI_of', kOf_lst, kOf_tup, kOf_str, evI_range1, d1_dat, d2_dat, c2_dat, look_dat, bodyF, List.map_cons, List.map_nil, List.cons_append, List.nil_append, List.append_nil, List.replicate_succ, List.replicate_zero, List.getElem?_cons_zero, List.getElem?_cons_succ, List.set_cons_zero, List.set_cons_succ, List.length_cons, List.length_nil, Nat.sub_self, Nat.zero_add, Nat.reduceAdd, Nat.reduceSub, Nat.add_sub_cancel, if_true, if_false, Bool.false_eq_true, Int.reduceLT, Int.reduceLE, Int.reduceNeg, Int.reduceAdd, Int.reduceSub, Int.reduceMul, Int.reduceToNat, Nat.reduceLT, Nat.reduceLeDiff, and_self, and_true, true_and, decide_true, decide_false, Bool.not_true, Bool.not_false, Option.map_some, Option.bind_some, b_add, b_sub, b_mul1, b_mod, b_fdiv, cmp_eq_int, cmp_eq_bool, cmp_lt, cmp_le, cmp_gt, cmp_ge, Int.reduceGT, gt_iff_lt, ge_iff_le, isTy, hlS, hlW, e1, e2, hofS, q1, kSeq_exn]
    · have e2 : (20 : Int) < ws.length := by omega
      refine ⟨fun hg => absurd hg.2.1 h2, fun _ => ⟨_, call_raise (fn := fn_check) (ρ := [some (.dat (.str S)), some (.dat (wsD ws)), none, none, none]) (σ' := σ) rfl rfl ?_⟩⟩
      generalize wsD ws = X at hlW
      generalize Dat.str S = Y at hlS
      simp only [fn_check, exs_nil, exs_cons, kSeq_next, kSeq_ret, ex_assign, kAsg_val, ex_newlst, kNew_val, ex_append, kApp0_ref, kApp_dat, ex_ret, kRet_dat, ex_ite, kIte_true, kIte_false, kIte_val, ex_for1, ev_lit, ev_con, ev_var, kVar_val, ev_bin, kBin1_val, kBin2_val, kD1_val, kD2a_val, kD2_val, ev_neg, negD, ev_prim, ev_prim2, ev_idx, kIdx_val, kNotX_val, kTruX_val, ev_slFrom, ev_slTo, kTup_val, kLst_val, ev_tup, ev_lst, kNot_val, kBool_val, kTru_val, ev_not, evCmp_cons, evCmp_nil, kCmp1_val, kCmp2_nil, kCmp2_true, kCmp2_false, kCmp0_val, ev_cmp, evB_cmp, kCall_val, kDat_val, ev_call, kCons_val, kArgs_val, evArgs_nil, evArgs_cons, kToDat_dat, kEvs_val, evs_nil, evs_cons, ev_and, ev_or, evAnd_one, Out.noX_val, evOr_one, evAnd_cons, evOr_cons, kAnd_true, kAnd_false, kOr_true, kOr_false, kAnd_val, kOr_val, evAll_nil, evAny_nil, evIfs_nil, evAll_cons, evAny_cons, evIfs_cons, kAll_val, kAny_val, kIfs_val, evB_and, evB_or, evB_not, evB_var, evB_call, evB_prim, ev_isinst, evB_isinst, evB_idx, ev_comp, evI_of', kOf_lst, kOf_tup, kOf_str, evI_range1, d1_dat, d2_dat, c2_dat, look_dat, bodyF, List.map_cons, List.map_nil, List.cons_append, List.nil_append, List.append_nil, List.replicate_succ, List.replicate_zero, List.getElem?_cons_zero, List.getElem?_cons_succ, List.set_cons_zero, List.set_cons_succ, List.length_cons, List.length_nil, Nat.sub_self, Nat.zero_add, Nat.reduceAdd, Nat.reduceSub, Nat.add_sub_cancel, if_true, if_false, Bool.false_eq_true, Int.reduceLT, Int.reduceLE, Int.reduceNeg, Int.reduceAdd, Int.reduceSub, Int.reduceMul, Int.reduceToNat, Nat.reduceLT, Nat.reduceLeDiff, and_self, and_true, true_and, decide_true, decide_false, Bool.not_true, Bool.not_false, Option.map_some, Option.bind_some, b_add, b_sub, b_mul1, b_mod, b_fdiv, cmp_eq_int, cmp_eq_bool, cmp_lt, cmp_le, cmp_gt, cmp_ge, Int.reduceGT, gt_iff_lt, ge_iff_le, isTy, hlS, hlW, e1, e2, ex_raise, kSeq_exn]
  · have e1 : (10 : Int) < S.length := by omega
    refine ⟨fun hg => absurd hg.1 h1, fun _ => ⟨_, call_raise (fn := fn_check) (ρ := [some (.dat (.str S)), some (.dat (wsD ws)), none, none, none]) (σ' := σ) rfl rfl ?_⟩⟩
    generalize wsD ws = X at hlW
    generalize Dat.str S = Y at hlS
    simp only [fn_check, exs_nil, exs_cons, kSeq_next, kSeq_ret, ex_assign, kAsg_val, ex_newlst, kNew_val, ex_append, kApp0_ref, kApp_dat, ex_ret, kRet_dat, ex_ite, kIte_true, kIte_false, kIte_val, ex_for1, ev_lit, ev_con, ev_var, kVar_val, ev_bin, kBin1_val, kBin2_val, kD1_val, kD2a_val, kD2_val, ev_neg, negD, ev_prim, ev_prim2, ev_idx, kIdx_val, kNotX_val, kTruX_val, ev_slFrom, ev_slTo, kTup_val, kLst_val, ev_tup, ev_lst, kNot_val, kBool_val, kTru_val, ev_not, evCmp_cons, evCmp_nil, kCmp1_val, kCmp2_nil, kCmp2_true, kCmp2_false, kCmp0_val, ev_cmp, evB_cmp, kCall_val, kDat_val, ev_call, kCons_val, kArgs_val, evArgs_nil, evArgs_cons, kToDat_dat, kEvs_val, evs_nil, evs_cons, ev_and, ev_or, evAnd_one, Out.noX_val, evOr_one, evAnd_cons, evOr_cons, kAnd_true, kAnd_false, kOr_true, kOr_false, kAnd_val, kOr_val, evAll_nil, evAny_nil, evIfs_nil, evAll_cons, evAny_cons, evIfs_cons, kAll_val, kAny_val, kIfs_val, evB_and, evB_or, evB_not, evB_var, evB_call, evB_prim, ev_isinst, evB_isinst, evB_idx, ev_comp, evI_of', kOf_lst, kOf_tup, kOf_str, evI_range1, d1_dat, d2_dat, c2_dat, look_dat, bodyF, List.map_cons, List.map_nil, List.cons_append, List.nil_append, List.append_nil, List.replicate_succ, List.replicate_zero, List.getElem?_cons_zero, List.getElem?_cons_succ, List.set_cons_zero, List.set_cons_succ, List.length_cons, List.length_nil, Nat.sub_self, Nat.zero_add, Nat.reduceAdd, Nat.reduceSub, Nat.add_sub_cancel, if_true, if_false, Bool.false_eq_true, Int.reduceLT, Int.reduceLE, Int.reduceNeg, Int.reduceAdd, Int.reduceSub, Int.reduceMul, Int.reduceToNat, Nat.reduceLT, Nat.reduceLeDiff, and_self, and_true, true_and, decide_true, decide_false, Bool.not_true, Bool.not_false, Option.map_some, Option.bind_some, b_add, b_sub, b_mul1, b_mod, b_fdiv, cmp_eq_int, cmp_eq_bool, cmp_lt, cmp_le, cmp_gt, cmp_ge, Int.reduceGT, gt_iff_lt, ge_iff_le, isTy, hlS, e1, ex_raise, kSeq_exn]

theorem ex_tryc {C : Oracle} {f : Nat} {as : IEs} {hs : List Hnd} {ρ : Loc} {vs : List Val} {c : Nat} {σ σ' : Sto} {b : Bool} {h : Hnd} (hσ : σ.all (fun e => !e.1) = true) (h1 : evArgs sub C as ρ σ = .val vs σ) (h2 : C f vs σ = .exn c σ') (h3 : c < 4) (h4 : (hs.find? fun h => subC c h.cls) = some h) (h5 : atomsV c ρ h.atoms = some b) :
    ex sub C (.tryc f as hs) ρ σ = .ret (.bool b) σ := by
  show (evArgs sub C as ρ σ).stmK _ = _
  rw [h1]
  simp only [Out.stmK_val, h2, hσ, h3, decide_true, Bool.and_self, if_true, h4, ofHnd, h5]
/-! the script's cells, setters, wishes -/
noncomputable def cellAt (s : List Int) (k : Int) : Int := s.getD k.toNat 0
theorem c_cell_at {n : Nat} {s : List Int} {k : Int} {σ : Sto} (hs : s.length ≤ 63) (hk : 0 ≤ k) :
    callF sub tab.Δ (n + 1) 100 [.dat (.lst (s.map .int)), .dat (.int k)] σ = .val (.int (cellAt s k)) σ := by
  refine call_ret (fn := fn_l_cell_at) (σ' := σ) rfl rfl ?_ (by simp)
  have h1 : s.length ≤ 1000000 := by omega
  simp only [fn_l_cell_at, exs_nil, exs_cons, kSeq_next, kSeq_ret, ex_assign, kAsg_val, ex_newlst, kNew_val, ex_append, kApp0_ref, kApp_dat, ex_ret, kRet_dat, ex_ite, kIte_true, kIte_false, kIte_val, ex_for1, ev_lit, ev_con, ev_var, kVar_val, ev_bin, kBin1_val, kBin2_val, kD1_val, kD2a_val, kD2_val, ev_neg, negD, ev_prim, ev_prim2, ev_idx, kIdx_val, kNotX_val, kTruX_val, ev_slFrom, ev_slTo, kTup_val, kLst_val, ev_tup, ev_lst, kNot_val, kBool_val, kTru_val, ev_not, evCmp_cons, evCmp_nil, kCmp1_val, kCmp2_nil, kCmp2_true, kCmp2_false, kCmp0_val, ev_cmp, evB_cmp, kCall_val, kDat_val, ev_call, kCons_val, kArgs_val, evArgs_nil, evArgs_cons, kToDat_dat, kEvs_val, evs_nil, evs_cons, ev_and, ev_or, evAnd_one, Out.noX_val, evOr_one, evAnd_cons, evOr_cons, kAnd_true, kAnd_false, kOr_true, kOr_false, kAnd_val, kOr_val, evAll_nil, evAny_nil, evIfs_nil, evAll_cons, evAny_cons, evIfs_cons, kAll_val, kAny_val, kIfs_val, evB_and, evB_or, evB_not, evB_var, evB_call, evB_prim, ev_isinst, evB_isinst, evB_idx, ev_comp, evI_of', kOf_lst, kOf_tup, kOf_str, evI_range1, d1_dat, d2_dat, c2_dat, look_dat, bodyF, List.map_cons, List.map_nil, List.cons_append, List.nil_append, List.append_nil, List.replicate_succ, List.replicate_zero, List.getElem?_cons_zero, List.getElem?_cons_succ, List.set_cons_zero, List.set_cons_succ, List.length_cons, List.length_nil, Nat.sub_self, Nat.zero_add, Nat.reduceAdd, Nat.reduceSub, Nat.add_sub_cancel, if_true, if_false, Bool.false_eq_true, Int.reduceLT, Int.reduceLE, Int.reduceNeg, Int.reduceAdd, Int.reduceSub, Int.reduceMul, Int.reduceToNat, Nat.reduceLT, Nat.reduceLeDiff, and_self, and_true, true_and, decide_true, decide_false, Bool.not_true, Bool.not_false, Option.map_some, Option.bind_some, b_add, b_sub, b_mul1, b_mod, b_fdiv, cmp_eq_int, cmp_eq_bool, cmp_lt, cmp_le, cmp_gt, cmp_ge, Int.reduceGT, gt_iff_lt, ge_iff_le, isTy, prim1, lenD, absD, allD, List.length_map, h1]
  by_cases h : k < s.length
  · have h2 : k.toNat < s.length := by omega
    simp only [h, exs_nil, exs_cons, kSeq_next, kSeq_ret, ex_assign, kAsg_val, ex_newlst, kNew_val, ex_append, kApp0_ref, kApp_dat, ex_ret, kRet_dat, ex_ite, kIte_true, kIte_false, kIte_val, ex_for1, ev_lit, ev_con, ev_var, kVar_val, ev_bin, kBin1_val, kBin2_val, kD1_val, kD2a_val, kD2_val, ev_neg, negD, ev_prim, ev_prim2, ev_idx, kIdx_val, kNotX_val, kTruX_val, ev_slFrom, ev_slTo, kTup_val, kLst_val, ev_tup, ev_lst, kNot_val, kBool_val, kTru_val, ev_not, evCmp_cons, evCmp_nil, kCmp1_val, kCmp2_nil, kCmp2_true, kCmp2_false, kCmp0_val, ev_cmp, evB_cmp, kCall_val, kDat_val, ev_call, kCons_val, kArgs_val, evArgs_nil, evArgs_cons, kToDat_dat, kEvs_val, evs_nil, evs_cons, ev_and, ev_or, evAnd_one, Out.noX_val, evOr_one, evAnd_cons, evOr_cons, kAnd_true, kAnd_false, kOr_true, kOr_false, kAnd_val, kOr_val, evAll_nil, evAny_nil, evIfs_nil, evAll_cons, evAny_cons, evIfs_cons, kAll_val, kAny_val, kIfs_val, evB_and, evB_or, evB_not, evB_var, evB_call, evB_prim, ev_isinst, evB_isinst, evB_idx, ev_comp, evI_of', kOf_lst, kOf_tup, kOf_str, evI_range1, d1_dat, d2_dat, c2_dat, look_dat, bodyF, List.map_cons, List.map_nil, List.cons_append, List.nil_append, List.append_nil, List.replicate_succ, List.replicate_zero, List.getElem?_cons_zero, List.getElem?_cons_succ, List.set_cons_zero, List.set_cons_succ, List.length_cons, List.length_nil, Nat.sub_self, Nat.zero_add, Nat.reduceAdd, Nat.reduceSub, Nat.add_sub_cancel, if_true, if_false, Bool.false_eq_true, Int.reduceLT, Int.reduceLE, Int.reduceNeg, Int.reduceAdd, Int.reduceSub, Int.reduceMul, Int.reduceToNat, Nat.reduceLT, Nat.reduceLeDiff, and_self, and_true, true_and, decide_true, decide_false, Bool.not_true, Bool.not_false, Option.map_some, Option.bind_some, b_add, b_sub, b_mul1, b_mod, b_fdiv, cmp_eq_int, cmp_eq_bool, cmp_lt, cmp_le, cmp_gt, cmp_ge, Int.reduceGT, gt_iff_lt, ge_iff_le, isTy, decide_true, idx2, place, List.length_map, h1, hk]
    simp [h2, cellAt, exs_nil, exs_cons, kSeq_next, kSeq_ret, ex_assign, kAsg_val, ex_newlst, kNew_val, ex_append, kApp0_ref, kApp_dat, ex_ret, kRet_dat, ex_ite, kIte_true, kIte_false, kIte_val, ex_for1, ev_lit, ev_con, ev_var, kVar_val, ev_bin, kBin1_val, kBin2_val, kD1_val, kD2a_val, kD2_val, ev_neg, negD, ev_prim, ev_prim2, ev_idx, kIdx_val, kNotX_val, kTruX_val, ev_slFrom, ev_slTo, kTup_val, kLst_val, ev_tup, ev_lst, kNot_val, kBool_val, kTru_val, ev_not, evCmp_cons, evCmp_nil, kCmp1_val, kCmp2_nil, kCmp2_true, kCmp2_false, kCmp0_val, ev_cmp, evB_cmp, kCall_val, kDat_val, ev_call, kCons_val, kArgs_val, evArgs_nil, evArgs_cons, kToDat_dat, kEvs_val, evs_nil, evs_cons, ev_and, ev_or, evAnd_one, Out.noX_val, evOr_one, evAnd_cons, evOr_cons, kAnd_true, kAnd_false, kOr_true, kOr_false, kAnd_val, kOr_val, evAll_nil, evAny_nil, evIfs_nil, evAll_cons, evAny_cons, evIfs_cons, kAll_val, kAny_val, kIfs_val, evB_and, evB_or, evB_not, evB_var, evB_call, evB_prim, ev_isinst, evB_isinst, evB_idx, ev_comp, evI_of', kOf_lst, kOf_tup, kOf_str, evI_range1, d1_dat, d2_dat, c2_dat, look_dat, bodyF, List.map_cons, List.map_nil, List.cons_append, List.nil_append, List.append_nil, List.replicate_succ, List.replicate_zero, List.getElem?_cons_zero, List.getElem?_cons_succ, List.set_cons_zero, List.set_cons_succ, List.length_cons, List.length_nil, Nat.sub_self, Nat.zero_add, Nat.reduceAdd, Nat.reduceSub, Nat.add_sub_cancel, if_true, if_false, Bool.false_eq_true, Int.reduceLT, Int.reduceLE, Int.reduceNeg, Int.reduceAdd, Int.reduceSub, Int.reduceMul, Int.reduceToNat, Nat.reduceLT, Nat.reduceLeDiff, and_self, and_true, true_and, decide_true, decide_false, Bool.not_true, Bool.not_false, Option.map_some, Option.bind_some, b_add, b_sub, b_mul1, b_mod, b_fdiv, cmp_eq_int, cmp_eq_bool, cmp_lt, cmp_le, cmp_gt, cmp_ge, Int.reduceGT, gt_iff_lt, ge_iff_le, isTy]
  · have h2 : s.length ≤ k.toNat := by omega
    simp only [h, exs_nil, exs_cons, kSeq_next, kSeq_ret, ex_assign, kAsg_val, ex_newlst, kNew_val, ex_append, kApp0_ref, kApp_dat, ex_ret, kRet_dat, ex_ite, kIte_true, kIte_false, kIte_val, ex_for1, ev_lit, ev_con, ev_var, kVar_val, ev_bin, kBin1_val, kBin2_val, kD1_val, kD2a_val, kD2_val, ev_neg, negD, ev_prim, ev_prim2, ev_idx, kIdx_val, kNotX_val, kTruX_val, ev_slFrom, ev_slTo, kTup_val, kLst_val, ev_tup, ev_lst, kNot_val, kBool_val, kTru_val, ev_not, evCmp_cons, evCmp_nil, kCmp1_val, kCmp2_nil, kCmp2_true, kCmp2_false, kCmp0_val, ev_cmp, evB_cmp, kCall_val, kDat_val, ev_call, kCons_val, kArgs_val, evArgs_nil, evArgs_cons, kToDat_dat, kEvs_val, evs_nil, evs_cons, ev_and, ev_or, evAnd_one, Out.noX_val, evOr_one, evAnd_cons, evOr_cons, kAnd_true, kAnd_false, kOr_true, kOr_false, kAnd_val, kOr_val, evAll_nil, evAny_nil, evIfs_nil, evAll_cons, evAny_cons, evIfs_cons, kAll_val, kAny_val, kIfs_val, evB_and, evB_or, evB_not, evB_var, evB_call, evB_prim, ev_isinst, evB_isinst, evB_idx, ev_comp, evI_of', kOf_lst, kOf_tup, kOf_str, evI_range1, d1_dat, d2_dat, c2_dat, look_dat, bodyF, List.map_cons, List.map_nil, List.cons_append, List.nil_append, List.append_nil, List.replicate_succ, List.replicate_zero, List.getElem?_cons_zero, List.getElem?_cons_succ, List.set_cons_zero, List.set_cons_succ, List.length_cons, List.length_nil, Nat.sub_self, Nat.zero_add, Nat.reduceAdd, Nat.reduceSub, Nat.add_sub_cancel, if_true, if_false, Bool.false_eq_true, Int.reduceLT, Int.reduceLE, Int.reduceNeg, Int.reduceAdd, Int.reduceSub, Int.reduceMul, Int.reduceToNat, Nat.reduceLT, Nat.reduceLeDiff, and_self, and_true, true_and, decide_true, decide_false, Bool.not_true, Bool.not_false, Option.map_some, Option.bind_some, b_add, b_sub, b_mul1, b_mod, b_fdiv, cmp_eq_int, cmp_eq_bool, cmp_lt, cmp_le, cmp_gt, cmp_ge, Int.reduceGT, gt_iff_lt, ge_iff_le, isTy, decide_false]
    simp [h2, cellAt]
end
end Mine

/-! ## PVB07 -/
namespace Mine
section
variable {sub : Nat → Nat → Bool}
/-- a text of few signs -/
abbrev Low (t : List Nat) : Prop := ∀ c ∈ t, c < 1000
noncomputable def Txt (t : List Nat) : Prop := t.length ≤ 800 ∧ Low t
theorem ok_str {t : List Nat} (h : Low t) : okD (.str t) = true := by
  have : (t.all fun c => decide (c < 1114112)) = true := List.all_eq_true.mpr fun c hc => decide_eq_true (by have := h c hc; omega)
  simp [okD, fineD, depthD, this]
theorem eq_str {a b : List Nat} (ha : Low a) (hb : Low b) : cmp2 .eq (.str a) (.str b) = some (a == b) := by
  show eq2 _ _ = _
  simp only [eq2, ok_str ha, ok_str hb, Bool.and_self, if_true, eqD]
theorem ne_str {a b : List Nat} (ha : Low a) (hb : Low b) : cmp2 .ne (.str a) (.str b) = some (!(a == b)) := by
  show (cmp2 .eq _ _).map _ = _
  rw [eq_str ha hb]; rfl
theorem Txt.take {t : List Nat} (h : Txt t) (k : Nat) : Txt (t.take k) := ⟨by have := h.1; simp; omega, fun c hc => h.2 c (List.mem_of_mem_take hc)⟩
theorem Txt.drop {t : List Nat} (h : Txt t) (k : Nat) : Txt (t.drop k) := ⟨by have := h.1; simp; omega, fun c hc => h.2 c (List.mem_of_mem_drop hc)⟩
theorem to_str {t : List Nat} {k : Int} (h : t.length ≤ 900) (h0 : 0 ≤ k ∧ k ≤ 1000) : slTo2 (.str t) (.int k) = some (.str (t.take k.toNat)) := if_pos (by omega)
theorem fr_str {t : List Nat} {k : Int} (h : t.length ≤ 900) (h0 : 0 ≤ k ∧ k ≤ 1000) : slFrom2 (.str t) (.int k) = some (.str (t.drop k.toNat)) := if_pos (by omega)
theorem fr_lst {l : List Dat} {k : Int} (h : l.length ≤ 900) (h0 : 0 ≤ k ∧ k ≤ 1000) : slFrom2 (.lst l) (.int k) = some (.lst (l.drop k.toNat)) := if_pos (by omega)
theorem fig_has : ∀ c < 60, ([48, 49, 50, 51, 52, 53, 54, 55, 56, 57] : List Nat).contains c = isFig c := by decide
theorem in_fig (c : Nat) : inD (.str [c]) (.str [48, 49, 50, 51, 52, 53, 54, 55, 56, 57]) = some (isFig c) := by
  show some _ = _
  congr 1
  by_cases h : c < 60
  · exact fig_has c h
  · have h1 : isFig c = false := decide_eq_false (by omega)
    rw [h1, Bool.eq_false_iff]
    intro q
    have hb : ∀ x ∈ ([48, 49, 50, 51, 52, 53, 54, 55, 56, 57] : List Nat), x < 60 := by decide
    exact h (hb c (List.contains_iff_mem.mp q))

/-! numbers -/
noncomputable def okF (f : List Nat) : Bool := decide (1 ≤ f.length) && decide (f.length ≤ 60) && f.head? != some 48 && f.all isFig
noncomputable def figs (w : List Nat) : List Nat := if w.take 1 = [45] then w.drop 1 else w
noncomputable def valF (w f : List Nat) : Int := if f = w then figVal f else -figVal f
noncomputable def okN (w : List Nat) : Bool := okF (figs w)
noncomputable def numV (w : List Nat) : Int := valF w (figs w)
theorem int_fig {f : List Nat} (h : okF f = true) : prim1 .int (.str f) = some (.int (figVal f)) := by
  simp only [okF, Bool.and_eq_true, decide_eq_true_eq] at h
  exact if_pos ⟨by rintro rfl; simp at h, by omega, h.2⟩
theorem fold_le (g : List Nat) : ∀ x : Nat, x ≤ g.foldl (fun a c => a * 10 + (c - 48)) x := by
  induction g with
  | nil => exact fun x => Nat.le_refl _
  | cons c g ih => exact fun x => Nat.le_trans (show x ≤ x * 10 + (c - 48) by omega) (ih _)
theorem val_ne {f : List Nat} (h : okF f = true) (w : List Nat) : valF w f ≠ 0 := by
  simp only [okF, Bool.and_eq_true, decide_eq_true_eq] at h
  cases f with
  | nil => simp at h
  | cons a g =>
    have h1 : isFig a = true := by simpa using (List.all_eq_true.mp h.2 a (.head _))
    have h2 : a ≠ 48 := by simpa using h.1.2
    have h3 : figVal (a :: g) ≠ 0 := by
      have h4 := fold_le g (0 * 10 + (a - 48))
      simp only [isFig, decide_eq_true_eq] at h1
      have h5 : figVal (a :: g) = g.foldl (fun a c => a * 10 + (c - 48)) (0 * 10 + (a - 48)) := rfl
      omega
    unfold valF
    split <;> omega
theorem nu_tail {C : Oracle} {w f : List Nat} {x : Option Val} {σ : Sto} (hw : Txt w) (hf : Txt f) : exs sub C t_number_of_2 [some (.dat (.str w)), some (.dat (.str f)), x] σ =
    if okF f then .ret (.int (valF w f)) σ else .exn 3 [some (.dat (.str w)), some (.dat (.str f)), x] σ := by
  have hln := p_len_str f (by have := hf.1; omega)
  by_cases h1 : 1 ≤ f.length
  · have e1 : (1 : Int) ≤ f.length := by omega
    by_cases h2 : f.length ≤ 60
    · have e2 : (f.length : Int) ≤ 60 := by omega
      obtain ⟨a, ha⟩ : ∃ a, f[0]? = some a := ⟨_, List.getElem?_eq_getElem (by omega)⟩
      have hid : idx2 (.str f) (.int 0) = some (.str [a]) := idx_str _ 0 a (by have := hf.1; omega) (by decide) ha
      have hz : cmp2 .eq (.str [a]) (.str [48]) = some ([a] == [48]) := eq_str (fun c hc => by rw [List.mem_singleton.mp hc]; exact hf.2 a (List.mem_of_getElem? ha)) (by decide)
      by_cases h3 : a = 48
      · have ho : okF f = false := by simp [okF, List.head?_eq_getElem?, ha, h3]
        have e3 : ([a] == [48]) = true := by simp [h3]
        rw [ho]
        generalize Dat.str f = X at hln hid
        simp only [t_number_of_2, exs_nil, exs_cons, kSeq_next, kSeq_ret, ex_assign, kAsg_val, ex_newlst, kNew_val, ex_append, kApp0_ref, kApp_dat, ex_ret, kRet_dat, ex_ite, kIte_true, kIte_false, kIte_val, ex_for1, ev_lit, ev_con, ev_var, kVar_val, ev_bin, kBin1_val, kBin2_val, kD1_val, kD2a_val, kD2_val, ev_neg, negD, ev_prim, ev_prim2, ev_idx, kIdx_val, kNotX_val, kTruX_val, ev_slFrom, ev_slTo, kTup_val, kLst_val, ev_tup, ev_lst, kNot_val, kBool_val, kTru_val, ev_not, evCmp_cons, evCmp_nil, kCmp1_val, kCmp2_nil, kCmp2_true, kCmp2_false, kCmp0_val, ev_cmp, evB_cmp, kCall_val, kDat_val, ev_call, kCons_val, kArgs_val, evArgs_nil, evArgs_cons, kToDat_dat, kEvs_val, evs_nil, evs_cons, ev_and, ev_or, evAnd_one, Out.noX_val, evOr_one, evAnd_cons, evOr_cons, kAnd_true, kAnd_false, kOr_true, kOr_false, kAnd_val, kOr_val, evAll_nil, evAny_nil, evIfs_nil, evAll_cons, evAny_cons, evIfs_cons, kAll_val, kAny_val, kIfs_val, evB_and, evB_or, evB_not, evB_var, evB_call, evB_prim, ev_isinst, evB_isinst, evB_idx, ev_comp, evI_of', kOf_lst, kOf_tup, kOf_str, evI_range1, d1_dat, d2_dat, c2_dat, look_dat, bodyF, List.map_cons, List.map_nil, List.cons_append, List.nil_append, List.append_nil, List.replicate_succ, List.replicate_zero, List.getElem?_cons_zero, List.getElem?_cons_succ, List.set_cons_zero, List.set_cons_succ, List.length_cons, List.length_nil, Nat.sub_self, Nat.zero_add, Nat.reduceAdd, Nat.reduceSub, Nat.add_sub_cancel, if_true, if_false, Bool.false_eq_true, Int.reduceLT, Int.reduceLE, Int.reduceNeg, Int.reduceAdd, Int.reduceSub, Int.reduceMul, Int.reduceToNat, Nat.reduceLT, Nat.reduceLeDiff, and_self, and_true, true_and, decide_true, decide_false, Bool.not_true, Bool.not_false, Option.map_some, Option.bind_some, b_add, b_sub, b_mul1, b_mod, b_fdiv, cmp_eq_int, cmp_eq_bool, cmp_lt, cmp_le, cmp_gt, cmp_ge, Int.reduceGT, gt_iff_lt, ge_iff_le, isTy, hln, e1, e2, hid, hz, e3, ex_raise, kSeq_exn]
      · have e3 : ([a] == [48]) = false := by simp [h3]
        have hco : kComp sub C 2 .nil (.cmp (.var 2) (.cons .isin (.con "FIGURES" (.str [48, 49, 50, 51, 52, 53, 54, 55, 56, 57])) .nil)) [some (.dat (.str w)), some (.dat (.str f)), x] (.val ⟨f.map fun c => .str [c], none⟩ σ) = .val (.dat (.lst (f.map fun c => .bool (isFig c)))) σ :=
          kComp_map (fun c => .bool (isFig c)) (by omega) fun c hc => by simp only [exs_nil, exs_cons, kSeq_next, kSeq_ret, ex_assign, kAsg_val, ex_newlst, kNew_val, ex_append, kApp0_ref, kApp_dat, ex_ret, kRet_dat, ex_ite, kIte_true, kIte_false, kIte_val, ex_for1, ev_lit, ev_con, ev_var, kVar_val, ev_bin, kBin1_val, kBin2_val, kD1_val, kD2a_val, kD2_val, ev_neg, negD, ev_prim, ev_prim2, ev_idx, kIdx_val, kNotX_val, kTruX_val, ev_slFrom, ev_slTo, kTup_val, kLst_val, ev_tup, ev_lst, kNot_val, kBool_val, kTru_val, ev_not, evCmp_cons, evCmp_nil, kCmp1_val, kCmp2_nil, kCmp2_true, kCmp2_false, kCmp0_val, ev_cmp, evB_cmp, kCall_val, kDat_val, ev_call, kCons_val, kArgs_val, evArgs_nil, evArgs_cons, kToDat_dat, kEvs_val, evs_nil, evs_cons, ev_and, ev_or, evAnd_one, Out.noX_val, evOr_one, evAnd_cons, evOr_cons, kAnd_true, kAnd_false, kOr_true, kOr_false, kAnd_val, kOr_val, evAll_nil, evAny_nil, evIfs_nil, evAll_cons, evAny_cons, evIfs_cons, kAll_val, kAny_val, kIfs_val, evB_and, evB_or, evB_not, evB_var, evB_call, evB_prim, ev_isinst, evB_isinst, evB_idx, ev_comp, evI_of', kOf_lst, kOf_tup, kOf_str, evI_range1, d1_dat, d2_dat, c2_dat, look_dat, bodyF, List.map_cons, List.map_nil, List.cons_append, List.nil_append, List.append_nil, List.replicate_succ, List.replicate_zero, List.getElem?_cons_zero, List.getElem?_cons_succ, List.set_cons_zero, List.set_cons_succ, List.length_cons, List.length_nil, Nat.sub_self, Nat.zero_add, Nat.reduceAdd, Nat.reduceSub, Nat.add_sub_cancel, if_true, if_false, Bool.false_eq_true, Int.reduceLT, Int.reduceLE, Int.reduceNeg, Int.reduceAdd, Int.reduceSub, Int.reduceMul, Int.reduceToNat, Nat.reduceLT, Nat.reduceLeDiff, and_self, and_true, true_and, decide_true, decide_false, Bool.not_true, Bool.not_false, Option.map_some, Option.bind_some, b_add, b_sub, b_mul1, b_mod, b_fdiv, cmp_eq_int, cmp_eq_bool, cmp_lt, cmp_le, cmp_gt, cmp_ge, Int.reduceGT, gt_iff_lt, ge_iff_le, isTy, cmp2, in_fig]
        have hof : ∀ τ : Sto, kOf (.val (.dat (.str f)) τ) = .val ⟨f.map fun c => .str [c], none⟩ τ := fun _ => rfl
        have hal : prim1 .all (.lst (f.map fun c => .bool (isFig c))) = some (.bool (f.all isFig)) := by
          have := p_all (f.map isFig)
          simpa [Function.comp_def] using this
        have hne := ne_str hf.2 hw.2
        have hin := int_fig (f := f)
        have ho : okF f = f.all isFig := by
          have : (f.head? != some 48) = true := by rw [List.head?_eq_getElem?, ha]; simpa using h3
          simp only [okF, h1, h2, this, decide_true, Bool.true_and]
        have hv : valF w f = if f = w then (figVal f : Int) else -figVal f := rfl
        rw [ho] at hin ⊢
        rw [hv]
        cases hA : f.all isFig with
        | false =>
          rw [hA] at hal
          generalize Dat.str f = X at hln hid hof hco
          generalize Dat.lst (f.map fun c => .bool (isFig c)) = Y at hal hco
          simp only [t_number_of_2, t_number_of_3, exs_nil, exs_cons, kSeq_next, kSeq_ret, ex_assign, kAsg_val, ex_newlst, kNew_val, ex_append, kApp0_ref, kApp_dat, ex_ret, kRet_dat, ex_ite, kIte_true, kIte_false, kIte_val, ex_for1, ev_lit, ev_con, ev_var, kVar_val, ev_bin, kBin1_val, kBin2_val, kD1_val, kD2a_val, kD2_val, ev_neg, negD, ev_prim, ev_prim2, ev_idx, kIdx_val, kNotX_val, kTruX_val, ev_slFrom, ev_slTo, kTup_val, kLst_val, ev_tup, ev_lst, kNot_val, kBool_val, kTru_val, ev_not, evCmp_cons, evCmp_nil, kCmp1_val, kCmp2_nil, kCmp2_true, kCmp2_false, kCmp0_val, ev_cmp, evB_cmp, kCall_val, kDat_val, ev_call, kCons_val, kArgs_val, evArgs_nil, evArgs_cons, kToDat_dat, kEvs_val, evs_nil, evs_cons, ev_and, ev_or, evAnd_one, Out.noX_val, evOr_one, evAnd_cons, evOr_cons, kAnd_true, kAnd_false, kOr_true, kOr_false, kAnd_val, kOr_val, evAll_nil, evAny_nil, evIfs_nil, evAll_cons, evAny_cons, evIfs_cons, kAll_val, kAny_val, kIfs_val, evB_and, evB_or, evB_not, evB_var, evB_call, evB_prim, ev_isinst, evB_isinst, evB_idx, ev_comp, evI_of', kOf_lst, kOf_tup, kOf_str, evI_range1, d1_dat, d2_dat, c2_dat, look_dat, bodyF, List.map_cons, List.map_nil, List.cons_append, List.nil_append, List.append_nil, List.replicate_succ, List.replicate_zero, List.getElem?_cons_zero, List.getElem?_cons_succ, List.set_cons_zero, List.set_cons_succ, List.length_cons, List.length_nil, Nat.sub_self, Nat.zero_add, Nat.reduceAdd, Nat.reduceSub, Nat.add_sub_cancel, if_true, if_false, Bool.false_eq_true, Int.reduceLT, Int.reduceLE, Int.reduceNeg, Int.reduceAdd, Int.reduceSub, Int.reduceMul, Int.reduceToNat, Nat.reduceLT, Nat.reduceLeDiff, and_self, and_true, true_and, decide_true, decide_false, Bool.not_true, Bool.not_false, Option.map_some, Option.bind_some, b_add, b_sub, b_mul1, b_mod, b_fdiv, cmp_eq_int, cmp_eq_bool, cmp_lt, cmp_le, cmp_gt, cmp_ge, Int.reduceGT, gt_iff_lt, ge_iff_le, isTy, hln, e1, e2, hid, hz, e3, hof, hco, hal, ex_raise, kSeq_exn]
        | true =>
          rw [hA] at hal
          replace hin := hin hA
          generalize figVal f = V at hin
          by_cases h4 : f = w
          · have e4 : (f == w) = true := by simp [h4]
            rw [if_pos h4]
            generalize Dat.str f = X at hln hid hof hco hne hin
            generalize Dat.lst (f.map fun c => .bool (isFig c)) = Y at hal hco
            simp only [t_number_of_2, t_number_of_3, t_number_of_4, t_number_of_5, exs_nil, exs_cons, kSeq_next, kSeq_ret, ex_assign, kAsg_val, ex_newlst, kNew_val, ex_append, kApp0_ref, kApp_dat, ex_ret, kRet_dat, ex_ite, kIte_true, kIte_false, kIte_val, ex_for1, ev_lit, ev_con, ev_var, kVar_val, ev_bin, kBin1_val, kBin2_val, kD1_val, kD2a_val, kD2_val, ev_neg, negD, ev_prim, ev_prim2, ev_idx, kIdx_val, kNotX_val, kTruX_val, ev_slFrom, ev_slTo, kTup_val, kLst_val, ev_tup, ev_lst, kNot_val, kBool_val, kTru_val, ev_not, evCmp_cons, evCmp_nil, kCmp1_val, kCmp2_nil, kCmp2_true, kCmp2_false, kCmp0_val, ev_cmp, evB_cmp, kCall_val, kDat_val, ev_call, kCons_val, kArgs_val, evArgs_nil, evArgs_cons, kToDat_dat, kEvs_val, evs_nil, evs_cons, ev_and, ev_or, evAnd_one, Out.noX_val, evOr_one, evAnd_cons, evOr_cons, kAnd_true, kAnd_false, kOr_true, kOr_false, kAnd_val, kOr_val, evAll_nil, evAny_nil, evIfs_nil, evAll_cons, evAny_cons, evIfs_cons, kAll_val, kAny_val, kIfs_val, evB_and, evB_or, evB_not, evB_var, evB_call, evB_prim, ev_isinst, evB_isinst, evB_idx, ev_comp, evI_of', kOf_lst, kOf_tup, kOf_str, evI_range1, d1_dat, d2_dat, c2_dat, look_dat, bodyF, List.map_cons, List.map_nil, List.cons_append, List.nil_append, List.append_nil, List.replicate_succ, List.replicate_zero, List.getElem?_cons_zero, List.getElem?_cons_succ, List.set_cons_zero, List.set_cons_succ, List.length_cons, List.length_nil, Nat.sub_self, Nat.zero_add, Nat.reduceAdd, Nat.reduceSub, Nat.add_sub_cancel, if_true, if_false, Bool.false_eq_true, Int.reduceLT, Int.reduceLE, Int.reduceNeg, Int.reduceAdd, Int.reduceSub, Int.reduceMul, Int.reduceToNat, Nat.reduceLT, Nat.reduceLeDiff, and_self, and_true, true_and, decide_true, decide_false, Bool.not_true, Bool.not_false, Option.map_some, Option.bind_some, b_add, b_sub, b_mul1, b_mod, b_fdiv, cmp_eq_int, cmp_eq_bool, cmp_lt, cmp_le, cmp_gt, cmp_ge, Int.reduceGT, gt_iff_lt, ge_iff_le, isTy, hln, e1, e2, hid, hz, e3, hof, hco, hal, hne, e4, hin]
          · have e4 : (f == w) = false := by simpa using h4
            rw [if_neg h4]
            generalize Dat.str f = X at hln hid hof hco hne hin
            generalize Dat.lst (f.map fun c => .bool (isFig c)) = Y at hal hco
            simp only [t_number_of_2, t_number_of_3, t_number_of_4, t_number_of_5, exs_nil, exs_cons, kSeq_next, kSeq_ret, ex_assign, kAsg_val, ex_newlst, kNew_val, ex_append, kApp0_ref, kApp_dat, ex_ret, kRet_dat, ex_ite, kIte_true, kIte_false, kIte_val, ex_for1, ev_lit, ev_con, ev_var, kVar_val, ev_bin, kBin1_val, kBin2_val, kD1_val, kD2a_val, kD2_val, ev_neg, negD, ev_prim, ev_prim2, ev_idx, kIdx_val, kNotX_val, kTruX_val, ev_slFrom, ev_slTo, kTup_val, kLst_val, ev_tup, ev_lst, kNot_val, kBool_val, kTru_val, ev_not, evCmp_cons, evCmp_nil, kCmp1_val, kCmp2_nil, kCmp2_true, kCmp2_false, kCmp0_val, ev_cmp, evB_cmp, kCall_val, kDat_val, ev_call, kCons_val, kArgs_val, evArgs_nil, evArgs_cons, kToDat_dat, kEvs_val, evs_nil, evs_cons, ev_and, ev_or, evAnd_one, Out.noX_val, evOr_one, evAnd_cons, evOr_cons, kAnd_true, kAnd_false, kOr_true, kOr_false, kAnd_val, kOr_val, evAll_nil, evAny_nil, evIfs_nil, evAll_cons, evAny_cons, evIfs_cons, kAll_val, kAny_val, kIfs_val, evB_and, evB_or, evB_not, evB_var, evB_call, evB_prim, ev_isinst, evB_isinst, evB_idx, ev_comp, evI_of', kOf_lst, kOf_tup, kOf_str, evI_range1, d1_dat, d2_dat, c2_dat, look_dat, bodyF, List.map_cons, List.map_nil, List.cons_append, List.nil_append, List.append_nil, List.replicate_succ, List.replicate_zero, List.getElem?_cons_zero, List.getElem?_cons_succ, List.set_cons_zero, List.set_cons_succ, List.length_cons, List.length_nil, Nat.sub_self, Nat.zero_add, Nat.reduceAdd, Nat.reduceSub, Nat.add_sub_cancel, if_true, if_false, Bool.false_eq_true, Int.reduceLT, Int.reduceLE, Int.reduceNeg, Int.reduceAdd, Int.reduceSub, Int.reduceMul, Int.reduceToNat, Nat.reduceLT, Nat.reduceLeDiff, and_self, and_true, true_and, decide_true, decide_false, Bool.not_true, Bool.not_false, Option.map_some, Option.bind_some, b_add, b_sub, b_mul1, b_mod, b_fdiv, cmp_eq_int, cmp_eq_bool, cmp_lt, cmp_le, cmp_gt, cmp_ge, Int.reduceGT, gt_iff_lt, ge_iff_le, isTy, hln, e1, e2, hid, hz, e3, hof, hco, hal, hne, e4, hin]
    · have e2 : ¬ ((f.length : Int) ≤ 60) := by omega
      have ho : okF f = false := by simp [okF, h2]
      rw [ho]
      generalize Dat.str f = X at hln
      simp only [t_number_of_2, exs_nil, exs_cons, kSeq_next, kSeq_ret, ex_assign, kAsg_val, ex_newlst, kNew_val, ex_append, kApp0_ref, kApp_dat, ex_ret, kRet_dat, ex_ite, kIte_true, kIte_false, kIte_val, ex_for1, ev_lit, ev_con, ev_var, kVar_val, ev_bin, kBin1_val, kBin2_val, kD1_val, kD2a_val, kD2_val, ev_neg, negD, ev_prim, ev_prim2, ev_idx, kIdx_val, kNotX_val, kTruX_val, ev_slFrom, ev_slTo, kTup_val, kLst_val, ev_tup, ev_lst, kNot_val, kBool_val, kTru_val, ev_not, evCmp_cons, evCmp_nil, kCmp1_val, kCmp2_nil, kCmp2_true, kCmp2_false, kCmp0_val, ev_cmp, evB_cmp, kCall_val, kDat_val, ev_call, kCons_val, kArgs_val, evArgs_nil, evArgs_cons, kToDat_dat, kEvs_val, evs_nil, evs_cons, ev_and, ev_or, evAnd_one, Out.noX_val, evOr_one, evAnd_cons, evOr_cons, kAnd_true, kAnd_false, kOr_true, kOr_false, kAnd_val, kOr_val, evAll_nil, evAny_nil, evIfs_nil, evAll_cons, evAny_cons, evIfs_cons, kAll_val, kAny_val, kIfs_val, evB_and, evB_or, evB_not, evB_var, evB_call, evB_prim, ev_isinst, evB_isinst, evB_idx, ev_comp, evI_of', kOf_lst, kOf_tup, kOf_str, evI_range1, d1_dat, d2_dat, c2_dat, look_dat, bodyF, List.map_cons, List.map_nil, List.cons_append, List.nil_append, List.append_nil, List.replicate_succ, List.replicate_zero, List.getElem?_cons_zero, List.getElem?_cons_succ, List.set_cons_zero, List.set_cons_succ, List.length_cons, List.length_nil, Nat.sub_self, Nat.zero_add, Nat.reduceAdd, Nat.reduceSub, Nat.add_sub_cancel, if_true, if_false, Bool.false_eq_true, Int.reduceLT, Int.reduceLE, Int.reduceNeg, Int.reduceAdd, Int.reduceSub, Int.reduceMul, Int.reduceToNat, Nat.reduceLT, Nat.reduceLeDiff, and_self, and_true, true_and, decide_true, decide_false, Bool.not_true, Bool.not_false, Option.map_some, Option.bind_some, b_add, b_sub, b_mul1, b_mod, b_fdiv, cmp_eq_int, cmp_eq_bool, cmp_lt, cmp_le, cmp_gt, cmp_ge, Int.reduceGT, gt_iff_lt, ge_iff_le, isTy, hln, e1, e2, ex_raise, kSeq_exn]
  · have e1 : ¬ ((1 : Int) ≤ f.length) := by omega
    have ho : okF f = false := by simp only [okF, h1, decide_false, Bool.false_and]
    rw [ho]
    generalize Dat.str f = X at hln
    simp only [t_number_of_2, exs_nil, exs_cons, kSeq_next, kSeq_ret, ex_assign, kAsg_val, ex_newlst, kNew_val, ex_append, kApp0_ref, kApp_dat, ex_ret, kRet_dat, ex_ite, kIte_true, kIte_false, kIte_val, ex_for1, ev_lit, ev_con, ev_var, kVar_val, ev_bin, kBin1_val, kBin2_val, kD1_val, kD2a_val, kD2_val, ev_neg, negD, ev_prim, ev_prim2, ev_idx, kIdx_val, kNotX_val, kTruX_val, ev_slFrom, ev_slTo, kTup_val, kLst_val, ev_tup, ev_lst, kNot_val, kBool_val, kTru_val, ev_not, evCmp_cons, evCmp_nil, kCmp1_val, kCmp2_nil, kCmp2_true, kCmp2_false, kCmp0_val, ev_cmp, evB_cmp, kCall_val, kDat_val, ev_call, kCons_val, kArgs_val, evArgs_nil, evArgs_cons, kToDat_dat, kEvs_val, evs_nil, evs_cons, ev_and, ev_or, evAnd_one, Out.noX_val, evOr_one, evAnd_cons, evOr_cons, kAnd_true, kAnd_false, kOr_true, kOr_false, kAnd_val, kOr_val, evAll_nil, evAny_nil, evIfs_nil, evAll_cons, evAny_cons, evIfs_cons, kAll_val, kAny_val, kIfs_val, evB_and, evB_or, evB_not, evB_var, evB_call, evB_prim, ev_isinst, evB_isinst, evB_idx, ev_comp, evI_of', kOf_lst, kOf_tup, kOf_str, evI_range1, d1_dat, d2_dat, c2_dat, look_dat, bodyF, List.map_cons, List.map_nil, List.cons_append, List.nil_append, List.append_nil, List.replicate_succ, List.replicate_zero, List.getElem?_cons_zero, List.getElem?_cons_succ, List.set_cons_zero, List.set_cons_succ, List.length_cons, List.length_nil, Nat.sub_self, Nat.zero_add, Nat.reduceAdd, Nat.reduceSub, Nat.add_sub_cancel, if_true, if_false, Bool.false_eq_true, Int.reduceLT, Int.reduceLE, Int.reduceNeg, Int.reduceAdd, Int.reduceSub, Int.reduceMul, Int.reduceToNat, Nat.reduceLT, Nat.reduceLeDiff, and_self, and_true, true_and, decide_true, decide_false, Bool.not_true, Bool.not_false, Option.map_some, Option.bind_some, b_add, b_sub, b_mul1, b_mod, b_fdiv, cmp_eq_int, cmp_eq_bool, cmp_lt, cmp_le, cmp_gt, cmp_ge, Int.reduceGT, gt_iff_lt, ge_iff_le, isTy, hln, e1, ex_raise, kSeq_exn]
theorem figs_txt {w : List Nat} (hw : Txt w) : Txt (figs w) := by
  unfold figs; split
  · exact hw.drop 1
  · exact hw
theorem c_number_of {n : Nat} {w : List Nat} {σ : Sto} (hw : Txt w) : callF sub tab.Δ (n + 1) 16 [.dat (.str w)] σ = if okN w then .val (.int (numV w)) σ else .exn 3 σ := by
  have h : exs sub (callF sub tab.Δ n) t_number_of_0 [some (.dat (.str w)), none, none] σ = exs sub (callF sub tab.Δ n) t_number_of_2 [some (.dat (.str w)), some (.dat (.str (figs w))), none] σ := by
    have h1 := to_str (t := w) (k := 1) (by have := hw.1; omega) (by decide)
    have h2 := fr_str (t := w) (k := 1) (by have := hw.1; omega) (by decide)
    have h3 := eq_str (hw.take 1).2 (show Low [45] by decide)
    unfold figs
    by_cases hc : w.take 1 = [45]
    · have e : (w.take 1 == [45]) = true := by simp [hc]
      rw [if_pos hc]
      generalize hX : Dat.str w = X at h1 h2
      simp only [t_number_of_0, t_number_of_1, exs_nil, exs_cons, kSeq_next, kSeq_ret, ex_assign, kAsg_val, ex_newlst, kNew_val, ex_append, kApp0_ref, kApp_dat, ex_ret, kRet_dat, ex_ite, kIte_true, kIte_false, kIte_val, ex_for1, ev_lit, ev_con, ev_var, kVar_val, ev_bin, kBin1_val, kBin2_val, kD1_val, kD2a_val, kD2_val, ev_neg, negD, ev_prim, ev_prim2, ev_idx, kIdx_val, kNotX_val, kTruX_val, ev_slFrom, ev_slTo, kTup_val, kLst_val, ev_tup, ev_lst, kNot_val, kBool_val, kTru_val, ev_not, evCmp_cons, evCmp_nil, kCmp1_val, kCmp2_nil, kCmp2_true, kCmp2_false, kCmp0_val, ev_cmp, evB_cmp, kCall_val, kDat_val, ev_call, kCons_val, kArgs_val, evArgs_nil, evArgs_cons, kToDat_dat, kEvs_val, evs_nil, evs_cons, ev_and, ev_or, evAnd_one, Out.noX_val, evOr_one, evAnd_cons, evOr_cons, kAnd_true, kAnd_false, kOr_true, kOr_false, kAnd_val, kOr_val, evAll_nil, evAny_nil, evIfs_nil, evAll_cons, evAny_cons, evIfs_cons, kAll_val, kAny_val, kIfs_val, evB_and, evB_or, evB_not, evB_var, evB_call, evB_prim, ev_isinst, evB_isinst, evB_idx, ev_comp, evI_of', kOf_lst, kOf_tup, kOf_str, evI_range1, d1_dat, d2_dat, c2_dat, look_dat, bodyF, List.map_cons, List.map_nil, List.cons_append, List.nil_append, List.append_nil, List.replicate_succ, List.replicate_zero, List.getElem?_cons_zero, List.getElem?_cons_succ, List.set_cons_zero, List.set_cons_succ, List.length_cons, List.length_nil, Nat.sub_self, Nat.zero_add, Nat.reduceAdd, Nat.reduceSub, Nat.add_sub_cancel, if_true, if_false, Bool.false_eq_true, Int.reduceLT, Int.reduceLE, Int.reduceNeg, Int.reduceAdd, Int.reduceSub, Int.reduceMul, Int.reduceToNat, Nat.reduceLT, Nat.reduceLeDiff, and_self, and_true, true_and, decide_true, decide_false, Bool.not_true, Bool.not_false, Option.map_some, Option.bind_some, b_add, b_sub, b_mul1, b_mod, b_fdiv, cmp_eq_int, cmp_eq_bool, cmp_lt, cmp_le, cmp_gt, cmp_ge, Int.reduceGT, gt_iff_lt, ge_iff_le, isTy, h1, h2, h3, e]
    · have e : (w.take 1 == [45]) = false := by simpa using hc
      rw [if_neg hc]
      generalize hX : Dat.str w = X at h1 h2
      simp only [t_number_of_0, t_number_of_1, exs_nil, exs_cons, kSeq_next, kSeq_ret, ex_assign, kAsg_val, ex_newlst, kNew_val, ex_append, kApp0_ref, kApp_dat, ex_ret, kRet_dat, ex_ite, kIte_true, kIte_false, kIte_val, ex_for1, ev_lit, ev_con, ev_var, kVar_val, ev_bin, kBin1_val, kBin2_val, kD1_val, kD2a_val, kD2_val, ev_neg, negD, ev_prim, ev_prim2, ev_idx, kIdx_val, kNotX_val, kTruX_val, ev_slFrom, ev_slTo, kTup_val, kLst_val, ev_tup, ev_lst, kNot_val, kBool_val, kTru_val, ev_not, evCmp_cons, evCmp_nil, kCmp1_val, kCmp2_nil, kCmp2_true, kCmp2_false, kCmp0_val, ev_cmp, evB_cmp, kCall_val, kDat_val, ev_call, kCons_val, kArgs_val, evArgs_nil, evArgs_cons, kToDat_dat, kEvs_val, evs_nil, evs_cons, ev_and, ev_or, evAnd_one, Out.noX_val, evOr_one, evAnd_cons, evOr_cons, kAnd_true, kAnd_false, kOr_true, kOr_false, kAnd_val, kOr_val, evAll_nil, evAny_nil, evIfs_nil, evAll_cons, evAny_cons, evIfs_cons, kAll_val, kAny_val, kIfs_val, evB_and, evB_or, evB_not, evB_var, evB_call, evB_prim, ev_isinst, evB_isinst, evB_idx, ev_comp, evI_of', kOf_lst, kOf_tup, kOf_str, evI_range1, d1_dat, d2_dat, c2_dat, look_dat, bodyF, List.map_cons, List.map_nil, List.cons_append, List.nil_append, List.append_nil, List.replicate_succ, List.replicate_zero, List.getElem?_cons_zero, List.getElem?_cons_succ, List.set_cons_zero, List.set_cons_succ, List.length_cons, List.length_nil, Nat.sub_self, Nat.zero_add, Nat.reduceAdd, Nat.reduceSub, Nat.add_sub_cancel, if_true, if_false, Bool.false_eq_true, Int.reduceLT, Int.reduceLE, Int.reduceNeg, Int.reduceAdd, Int.reduceSub, Int.reduceMul, Int.reduceToNat, Nat.reduceLT, Nat.reduceLeDiff, and_self, and_true, true_and, decide_true, decide_false, Bool.not_true, Bool.not_false, Option.map_some, Option.bind_some, b_add, b_sub, b_mul1, b_mod, b_fdiv, cmp_eq_int, cmp_eq_bool, cmp_lt, cmp_le, cmp_gt, cmp_ge, Int.reduceGT, gt_iff_lt, ge_iff_le, isTy, h1, h2, h3, e]
  have hT := h.trans (nu_tail hw (figs_txt hw))
  unfold okN numV
  cases hb : okF (figs w) with
  | true =>
    rw [hb] at hT
    exact call_ret (fn := fn_number_of) (σ' := σ) rfl rfl hT (by simp)
  | false =>
    rw [hb] at hT
    have := call_raise (sub := sub) (Δ := tab.Δ) (n := n) (f := 16) (fn := fn_number_of) (args := [.dat (.str w)]) rfl rfl hT
    simpa using this
end
end Mine

/-! ## PVC07 -/
namespace Mine
section
variable {sub : Nat → Nat → Bool}
/-! the law's own number -/
theorem ln_sign {C : Oracle} {c : Nat} {x0 x1 : Option Val} {σ : Sto} : exs sub C b_l_number_1 [x0, x1, some (.dat (.str [c]))] σ = if isFig c then .next [x0, x1, some (.dat (.str [c]))] σ else .ret (.int 0) σ := by
  have h : cmp2 .notin (.str [c]) (.str [48, 49, 50, 51, 52, 53, 54, 55, 56, 57]) = some (!isFig c) := by simp only [cmp2, in_fig, Option.map_some]
  cases hc : isFig c <;> rw [hc] at h <;> simp only [b_l_number_1, exs_nil, exs_cons, kSeq_next, kSeq_ret, ex_assign, kAsg_val, ex_newlst, kNew_val, ex_append, kApp0_ref, kApp_dat, ex_ret, kRet_dat, ex_ite, kIte_true, kIte_false, kIte_val, ex_for1, ev_lit, ev_con, ev_var, kVar_val, ev_bin, kBin1_val, kBin2_val, kD1_val, kD2a_val, kD2_val, ev_neg, negD, ev_prim, ev_prim2, ev_idx, kIdx_val, kNotX_val, kTruX_val, ev_slFrom, ev_slTo, kTup_val, kLst_val, ev_tup, ev_lst, kNot_val, kBool_val, kTru_val, ev_not, evCmp_cons, evCmp_nil, kCmp1_val, kCmp2_nil, kCmp2_true, kCmp2_false, kCmp0_val, ev_cmp, evB_cmp, kCall_val, kDat_val, ev_call, kCons_val, kArgs_val, evArgs_nil, evArgs_cons, kToDat_dat, kEvs_val, evs_nil, evs_cons, ev_and, ev_or, evAnd_one, Out.noX_val, evOr_one, evAnd_cons, evOr_cons, kAnd_true, kAnd_false, kOr_true, kOr_false, kAnd_val, kOr_val, evAll_nil, evAny_nil, evIfs_nil, evAll_cons, evAny_cons, evIfs_cons, kAll_val, kAny_val, kIfs_val, evB_and, evB_or, evB_not, evB_var, evB_call, evB_prim, ev_isinst, evB_isinst, evB_idx, ev_comp, evI_of', kOf_lst, kOf_tup, kOf_str, evI_range1, d1_dat, d2_dat, c2_dat, look_dat, bodyF, List.map_cons, List.map_nil, List.cons_append, List.nil_append, List.append_nil, List.replicate_succ, List.replicate_zero, List.getElem?_cons_zero, List.getElem?_cons_succ, List.set_cons_zero, List.set_cons_succ, List.length_cons, List.length_nil, Nat.sub_self, Nat.zero_add, Nat.reduceAdd, Nat.reduceSub, Nat.add_sub_cancel, if_true, if_false, Bool.false_eq_true, Int.reduceLT, Int.reduceLE, Int.reduceNeg, Int.reduceAdd, Int.reduceSub, Int.reduceMul, Int.reduceToNat, Nat.reduceLT, Nat.reduceLeDiff, and_self, and_true, true_and, decide_true, decide_false, Bool.not_true, Bool.not_false, Option.map_some, Option.bind_some, b_add, b_sub, b_mul1, b_mod, b_fdiv, cmp_eq_int, cmp_eq_bool, cmp_lt, cmp_le, cmp_gt, cmp_ge, Int.reduceGT, gt_iff_lt, ge_iff_le, isTy, h]
theorem ln_tail {C : Oracle} {w f : List Nat} {σ : Sto} (hw : Txt w) (hf : Txt f) : exs sub C t_l_number_2 [some (.dat (.str w)), some (.dat (.str f)), none] σ = .ret (.int (if okF f then valF w f else 0)) σ := by
  have hln := p_len_str f (by have := hf.1; omega)
  have hem := eq_str hf.2 (show Low [] from nofun)
  by_cases h1 : 1 ≤ f.length
  · have e1 : (f == []) = false := by cases f <;> simp at h1 ⊢
    obtain ⟨a, ha⟩ : ∃ a, f[0]? = some a := ⟨_, List.getElem?_eq_getElem (by omega)⟩
    have hid : idx2 (.str f) (.int 0) = some (.str [a]) := idx_str _ 0 a (by have := hf.1; omega) (by decide) ha
    have hz : cmp2 .eq (.str [a]) (.str [48]) = some ([a] == [48]) := eq_str (fun c hc => by rw [List.mem_singleton.mp hc]; exact hf.2 a (List.mem_of_getElem? ha)) (by decide)
    by_cases h3 : a = 48
    · have ho : okF f = false := by simp [okF, List.head?_eq_getElem?, ha, h3]
      have e3 : ([a] == [48]) = true := by simp [h3]
      rw [ho]
      generalize Dat.str f = X at hln hid hem
      simp only [t_l_number_2, exs_nil, exs_cons, kSeq_next, kSeq_ret, ex_assign, kAsg_val, ex_newlst, kNew_val, ex_append, kApp0_ref, kApp_dat, ex_ret, kRet_dat, ex_ite, kIte_true, kIte_false, kIte_val, ex_for1, ev_lit, ev_con, ev_var, kVar_val, ev_bin, kBin1_val, kBin2_val, kD1_val, kD2a_val, kD2_val, ev_neg, negD, ev_prim, ev_prim2, ev_idx, kIdx_val, kNotX_val, kTruX_val, ev_slFrom, ev_slTo, kTup_val, kLst_val, ev_tup, ev_lst, kNot_val, kBool_val, kTru_val, ev_not, evCmp_cons, evCmp_nil, kCmp1_val, kCmp2_nil, kCmp2_true, kCmp2_false, kCmp0_val, ev_cmp, evB_cmp, kCall_val, kDat_val, ev_call, kCons_val, kArgs_val, evArgs_nil, evArgs_cons, kToDat_dat, kEvs_val, evs_nil, evs_cons, ev_and, ev_or, evAnd_one, Out.noX_val, evOr_one, evAnd_cons, evOr_cons, kAnd_true, kAnd_false, kOr_true, kOr_false, kAnd_val, kOr_val, evAll_nil, evAny_nil, evIfs_nil, evAll_cons, evAny_cons, evIfs_cons, kAll_val, kAny_val, kIfs_val, evB_and, evB_or, evB_not, evB_var, evB_call, evB_prim, ev_isinst, evB_isinst, evB_idx, ev_comp, evI_of', kOf_lst, kOf_tup, kOf_str, evI_range1, d1_dat, d2_dat, c2_dat, look_dat, bodyF, List.map_cons, List.map_nil, List.cons_append, List.nil_append, List.append_nil, List.replicate_succ, List.replicate_zero, List.getElem?_cons_zero, List.getElem?_cons_succ, List.set_cons_zero, List.set_cons_succ, List.length_cons, List.length_nil, Nat.sub_self, Nat.zero_add, Nat.reduceAdd, Nat.reduceSub, Nat.add_sub_cancel, if_true, if_false, Bool.false_eq_true, Int.reduceLT, Int.reduceLE, Int.reduceNeg, Int.reduceAdd, Int.reduceSub, Int.reduceMul, Int.reduceToNat, Nat.reduceLT, Nat.reduceLeDiff, and_self, and_true, true_and, decide_true, decide_false, Bool.not_true, Bool.not_false, Option.map_some, Option.bind_some, b_add, b_sub, b_mul1, b_mod, b_fdiv, cmp_eq_int, cmp_eq_bool, cmp_lt, cmp_le, cmp_gt, cmp_ge, Int.reduceGT, gt_iff_lt, ge_iff_le, isTy, hem, e1, hid, hz, e3]
    · have e3 : ([a] == [48]) = false := by simp [h3]
      by_cases h2 : f.length ≤ 60
      · have e2 : ¬ ((60 : Int) < f.length) := by omega
        have ho : okF f = f.all isFig := by
          have : (f.head? != some 48) = true := by rw [List.head?_eq_getElem?, ha]; simpa using h3
          simp only [okF, h1, h2, this, decide_true, Bool.true_and]
        have hof : ∀ τ : Sto, kOf (.val (.dat (.str f)) τ) = .val ⟨f.map fun c => .str [c], none⟩ τ := fun _ => rfl
        have hlp := kFor_ret (sub := sub) (C := C) (x := 2) (body := b_l_number_1) (em := fun c => Dat.str [c]) (l := f) (fun pre ρ τ => (∃ y, ρ = [some (.dat (.str w)), some (.dat (.str f)), y]) ∧ τ = σ ∧ pre.all isFig = true) (fun d τ => d = .int 0 ∧ τ = σ ∧ f.all isFig = false)
          (ρ := [some (.dat (.str w)), some (.dat (.str f)), none]) (σ := σ) (by omega) (fun pre c post ρ τ he hP => by
            obtain ⟨⟨y, rfl⟩, rfl, hpre⟩ := hP
            have := ln_sign (sub := sub) (C := C) (c := c) (x0 := some (.dat (.str w))) (x1 := some (.dat (.str f))) (σ := τ)
            cases hc : isFig c with
            | true => rw [hc] at this; exact .inl ⟨_, _, this, ⟨_, rfl⟩, rfl, by simp only [List.all_append, hpre, List.all_cons, hc, List.all_nil, Bool.and_self]⟩
            | false => rw [hc] at this; exact .inr ⟨_, _, this, rfl, rfl, by rw [he]; simp only [List.all_append, List.all_cons, hc, Bool.false_and, Bool.and_false]⟩) ⟨⟨none, rfl⟩, rfl, rfl⟩
        rcases hlp with ⟨ρ', σ', hq, ⟨y, rfl⟩, rfl, hA⟩ | ⟨d, σ', hq, rfl, rfl, hA⟩
        · have hne := eq_str hf.2 hw.2
          have hin := int_fig (f := f)
          rw [ho, hA] at hin
          replace hin := hin rfl
          rw [ho, hA, if_pos rfl]
          have hv : valF w f = if f = w then (figVal f : Int) else -figVal f := rfl
          rw [hv]
          generalize figVal f = V at hin
          by_cases h4 : f = w
          · have e4 : (f == w) = true := by simp [h4]
            rw [if_pos h4]
            generalize Dat.str f = X at hln hid hem hof hq hne hin
            simp only [t_l_number_2, t_l_number_3, t_l_number_4, t_l_number_5, exs_nil, exs_cons, kSeq_next, kSeq_ret, ex_assign, kAsg_val, ex_newlst, kNew_val, ex_append, kApp0_ref, kApp_dat, ex_ret, kRet_dat, ex_ite, kIte_true, kIte_false, kIte_val, ex_for1, ev_lit, ev_con, ev_var, kVar_val, ev_bin, kBin1_val, kBin2_val, kD1_val, kD2a_val, kD2_val, ev_neg, negD, ev_prim, ev_prim2, ev_idx, kIdx_val, kNotX_val, kTruX_val, ev_slFrom, ev_slTo, kTup_val, kLst_val, ev_tup, ev_lst, kNot_val, kBool_val, kTru_val, ev_not, evCmp_cons, evCmp_nil, kCmp1_val, kCmp2_nil, kCmp2_true, kCmp2_false, kCmp0_val, ev_cmp, evB_cmp, kCall_val, kDat_val, ev_call, kCons_val, kArgs_val, evArgs_nil, evArgs_cons, kToDat_dat, kEvs_val, evs_nil, evs_cons, ev_and, ev_or, evAnd_one, Out.noX_val, evOr_one, evAnd_cons, evOr_cons, kAnd_true, kAnd_false, kOr_true, kOr_false, kAnd_val, kOr_val, evAll_nil, evAny_nil, evIfs_nil, evAll_cons, evAny_cons, evIfs_cons, kAll_val, kAny_val, kIfs_val, evB_and, evB_or, evB_not, evB_var, evB_call, evB_prim, ev_isinst, evB_isinst, evB_idx, ev_comp, evI_of', kOf_lst, kOf_tup, kOf_str, evI_range1, d1_dat, d2_dat, c2_dat, look_dat, bodyF, List.map_cons, List.map_nil, List.cons_append, List.nil_append, List.append_nil, List.replicate_succ, List.replicate_zero, List.getElem?_cons_zero, List.getElem?_cons_succ, List.set_cons_zero, List.set_cons_succ, List.length_cons, List.length_nil, Nat.sub_self, Nat.zero_add, Nat.reduceAdd, Nat.reduceSub, Nat.add_sub_cancel, if_true, if_false, Bool.false_eq_true, Int.reduceLT, Int.reduceLE, Int.reduceNeg, Int.reduceAdd, Int.reduceSub, Int.reduceMul, Int.reduceToNat, Nat.reduceLT, Nat.reduceLeDiff, and_self, and_true, true_and, decide_true, decide_false, Bool.not_true, Bool.not_false, Option.map_some, Option.bind_some, b_add, b_sub, b_mul1, b_mod, b_fdiv, cmp_eq_int, cmp_eq_bool, cmp_lt, cmp_le, cmp_gt, cmp_ge, Int.reduceGT, gt_iff_lt, ge_iff_le, isTy, hem, e1, hid, hz, e3, hln, e2, hof, hq, hne, e4, hin]
          · have e4 : (f == w) = false := by simpa using h4
            rw [if_neg h4]
            generalize Dat.str f = X at hln hid hem hof hq hne hin
            simp only [t_l_number_2, t_l_number_3, t_l_number_4, t_l_number_5, exs_nil, exs_cons, kSeq_next, kSeq_ret, ex_assign, kAsg_val, ex_newlst, kNew_val, ex_append, kApp0_ref, kApp_dat, ex_ret, kRet_dat, ex_ite, kIte_true, kIte_false, kIte_val, ex_for1, ev_lit, ev_con, ev_var, kVar_val, ev_bin, kBin1_val, kBin2_val, kD1_val, kD2a_val, kD2_val, ev_neg, negD, ev_prim, ev_prim2, ev_idx, kIdx_val, kNotX_val, kTruX_val, ev_slFrom, ev_slTo, kTup_val, kLst_val, ev_tup, ev_lst, kNot_val, kBool_val, kTru_val, ev_not, evCmp_cons, evCmp_nil, kCmp1_val, kCmp2_nil, kCmp2_true, kCmp2_false, kCmp0_val, ev_cmp, evB_cmp, kCall_val, kDat_val, ev_call, kCons_val, kArgs_val, evArgs_nil, evArgs_cons, kToDat_dat, kEvs_val, evs_nil, evs_cons, ev_and, ev_or, evAnd_one, Out.noX_val, evOr_one, evAnd_cons, evOr_cons, kAnd_true, kAnd_false, kOr_true, kOr_false, kAnd_val, kOr_val, evAll_nil, evAny_nil, evIfs_nil, evAll_cons, evAny_cons, evIfs_cons, kAll_val, kAny_val, kIfs_val, evB_and, evB_or, evB_not, evB_var, evB_call, evB_prim, ev_isinst, evB_isinst, evB_idx, ev_comp, evI_of', kOf_lst, kOf_tup, kOf_str, evI_range1, d1_dat, d2_dat, c2_dat, look_dat, bodyF, List.map_cons, List.map_nil, List.cons_append, List.nil_append, List.append_nil, List.replicate_succ, List.replicate_zero, List.getElem?_cons_zero, List.getElem?_cons_succ, List.set_cons_zero, List.set_cons_succ, List.length_cons, List.length_nil, Nat.sub_self, Nat.zero_add, Nat.reduceAdd, Nat.reduceSub, Nat.add_sub_cancel, if_true, if_false, Bool.false_eq_true, Int.reduceLT, Int.reduceLE, Int.reduceNeg, Int.reduceAdd, Int.reduceSub, Int.reduceMul, Int.reduceToNat, Nat.reduceLT, Nat.reduceLeDiff, and_self, and_true, true_and, decide_true, decide_false, Bool.not_true, Bool.not_false, Option.map_some, Option.bind_some, b_add, b_sub, b_mul1, b_mod, b_fdiv, cmp_eq_int, cmp_eq_bool, cmp_lt, cmp_le, cmp_gt, cmp_ge, Int.reduceGT, gt_iff_lt, ge_iff_le, isTy, hem, e1, hid, hz, e3, hln, e2, hof, hq, hne, e4, hin]
        · rw [ho, hA]
          generalize Dat.str f = X at hln hid hem hof hq
          simp only [t_l_number_2, t_l_number_3, exs_nil, exs_cons, kSeq_next, kSeq_ret, ex_assign, kAsg_val, ex_newlst, kNew_val, ex_append, kApp0_ref, kApp_dat, ex_ret, kRet_dat, ex_ite, kIte_true, kIte_false, kIte_val, ex_for1, ev_lit, ev_con, ev_var, kVar_val, ev_bin, kBin1_val, kBin2_val, kD1_val, kD2a_val, kD2_val, ev_neg, negD, ev_prim, ev_prim2, ev_idx, kIdx_val, kNotX_val, kTruX_val, ev_slFrom, ev_slTo, kTup_val, kLst_val, ev_tup, ev_lst, kNot_val, kBool_val, kTru_val, ev_not, evCmp_cons, evCmp_nil, kCmp1_val, kCmp2_nil, kCmp2_true, kCmp2_false, kCmp0_val, ev_cmp, evB_cmp, kCall_val, kDat_val, ev_call, kCons_val, kArgs_val, evArgs_nil, evArgs_cons, kToDat_dat, kEvs_val, evs_nil, evs_cons, ev_and, ev_or, evAnd_one, Out.noX_val, evOr_one, evAnd_cons, evOr_cons, kAnd_true, kAnd_false, kOr_true, kOr_false, kAnd_val, kOr_val, evAll_nil, evAny_nil, evIfs_nil, evAll_cons, evAny_cons, evIfs_cons, kAll_val, kAny_val, kIfs_val, evB_and, evB_or, evB_not, evB_var, evB_call, evB_prim, ev_isinst, evB_isinst, evB_idx, ev_comp, evI_of', kOf_lst, kOf_tup, kOf_str, evI_range1, d1_dat, d2_dat, c2_dat, look_dat, bodyF, List.map_cons, List.map_nil, List.cons_append, List.nil_append, List.append_nil, List.replicate_succ, List.replicate_zero, List.getElem?_cons_zero, List.getElem?_cons_succ, List.set_cons_zero, List.set_cons_succ, List.length_cons, List.length_nil, Nat.sub_self, Nat.zero_add, Nat.reduceAdd, Nat.reduceSub, Nat.add_sub_cancel, if_true, if_false, Bool.false_eq_true, Int.reduceLT, Int.reduceLE, Int.reduceNeg, Int.reduceAdd, Int.reduceSub, Int.reduceMul, Int.reduceToNat, Nat.reduceLT, Nat.reduceLeDiff, and_self, and_true, true_and, decide_true, decide_false, Bool.not_true, Bool.not_false, Option.map_some, Option.bind_some, b_add, b_sub, b_mul1, b_mod, b_fdiv, cmp_eq_int, cmp_eq_bool, cmp_lt, cmp_le, cmp_gt, cmp_ge, Int.reduceGT, gt_iff_lt, ge_iff_le, isTy, hem, e1, hid, hz, e3, hln, e2, hof, hq]
      · have e2 : (60 : Int) < f.length := by omega
        have ho : okF f = false := by simp [okF, h2]
        rw [ho]
        generalize Dat.str f = X at hln hid hem
        simp only [t_l_number_2, exs_nil, exs_cons, kSeq_next, kSeq_ret, ex_assign, kAsg_val, ex_newlst, kNew_val, ex_append, kApp0_ref, kApp_dat, ex_ret, kRet_dat, ex_ite, kIte_true, kIte_false, kIte_val, ex_for1, ev_lit, ev_con, ev_var, kVar_val, ev_bin, kBin1_val, kBin2_val, kD1_val, kD2a_val, kD2_val, ev_neg, negD, ev_prim, ev_prim2, ev_idx, kIdx_val, kNotX_val, kTruX_val, ev_slFrom, ev_slTo, kTup_val, kLst_val, ev_tup, ev_lst, kNot_val, kBool_val, kTru_val, ev_not, evCmp_cons, evCmp_nil, kCmp1_val, kCmp2_nil, kCmp2_true, kCmp2_false, kCmp0_val, ev_cmp, evB_cmp, kCall_val, kDat_val, ev_call, kCons_val, kArgs_val, evArgs_nil, evArgs_cons, kToDat_dat, kEvs_val, evs_nil, evs_cons, ev_and, ev_or, evAnd_one, Out.noX_val, evOr_one, evAnd_cons, evOr_cons, kAnd_true, kAnd_false, kOr_true, kOr_false, kAnd_val, kOr_val, evAll_nil, evAny_nil, evIfs_nil, evAll_cons, evAny_cons, evIfs_cons, kAll_val, kAny_val, kIfs_val, evB_and, evB_or, evB_not, evB_var, evB_call, evB_prim, ev_isinst, evB_isinst, evB_idx, ev_comp, evI_of', kOf_lst, kOf_tup, kOf_str, evI_range1, d1_dat, d2_dat, c2_dat, look_dat, bodyF, List.map_cons, List.map_nil, List.cons_append, List.nil_append, List.append_nil, List.replicate_succ, List.replicate_zero, List.getElem?_cons_zero, List.getElem?_cons_succ, List.set_cons_zero, List.set_cons_succ, List.length_cons, List.length_nil, Nat.sub_self, Nat.zero_add, Nat.reduceAdd, Nat.reduceSub, Nat.add_sub_cancel, if_true, if_false, Bool.false_eq_true, Int.reduceLT, Int.reduceLE, Int.reduceNeg, Int.reduceAdd, Int.reduceSub, Int.reduceMul, Int.reduceToNat, Nat.reduceLT, Nat.reduceLeDiff, and_self, and_true, true_and, decide_true, decide_false, Bool.not_true, Bool.not_false, Option.map_some, Option.bind_some, b_add, b_sub, b_mul1, b_mod, b_fdiv, cmp_eq_int, cmp_eq_bool, cmp_lt, cmp_le, cmp_gt, cmp_ge, Int.reduceGT, gt_iff_lt, ge_iff_le, isTy, hem, e1, hid, hz, e3, hln, e2]
  · have hn : f = [] := by cases f <;> simp at h1 ⊢
    subst hn
    simp only [t_l_number_2, exs_nil, exs_cons, kSeq_next, kSeq_ret, ex_assign, kAsg_val, ex_newlst, kNew_val, ex_append, kApp0_ref, kApp_dat, ex_ret, kRet_dat, ex_ite, kIte_true, kIte_false, kIte_val, ex_for1, ev_lit, ev_con, ev_var, kVar_val, ev_bin, kBin1_val, kBin2_val, kD1_val, kD2a_val, kD2_val, ev_neg, negD, ev_prim, ev_prim2, ev_idx, kIdx_val, kNotX_val, kTruX_val, ev_slFrom, ev_slTo, kTup_val, kLst_val, ev_tup, ev_lst, kNot_val, kBool_val, kTru_val, ev_not, evCmp_cons, evCmp_nil, kCmp1_val, kCmp2_nil, kCmp2_true, kCmp2_false, kCmp0_val, ev_cmp, evB_cmp, kCall_val, kDat_val, ev_call, kCons_val, kArgs_val, evArgs_nil, evArgs_cons, kToDat_dat, kEvs_val, evs_nil, evs_cons, ev_and, ev_or, evAnd_one, Out.noX_val, evOr_one, evAnd_cons, evOr_cons, kAnd_true, kAnd_false, kOr_true, kOr_false, kAnd_val, kOr_val, evAll_nil, evAny_nil, evIfs_nil, evAll_cons, evAny_cons, evIfs_cons, kAll_val, kAny_val, kIfs_val, evB_and, evB_or, evB_not, evB_var, evB_call, evB_prim, ev_isinst, evB_isinst, evB_idx, ev_comp, evI_of', kOf_lst, kOf_tup, kOf_str, evI_range1, d1_dat, d2_dat, c2_dat, look_dat, bodyF, List.map_cons, List.map_nil, List.cons_append, List.nil_append, List.append_nil, List.replicate_succ, List.replicate_zero, List.getElem?_cons_zero, List.getElem?_cons_succ, List.set_cons_zero, List.set_cons_succ, List.length_cons, List.length_nil, Nat.sub_self, Nat.zero_add, Nat.reduceAdd, Nat.reduceSub, Nat.add_sub_cancel, if_true, if_false, Bool.false_eq_true, Int.reduceLT, Int.reduceLE, Int.reduceNeg, Int.reduceAdd, Int.reduceSub, Int.reduceMul, Int.reduceToNat, Nat.reduceLT, Nat.reduceLeDiff, and_self, and_true, true_and, decide_true, decide_false, Bool.not_true, Bool.not_false, Option.map_some, Option.bind_some, b_add, b_sub, b_mul1, b_mod, b_fdiv, cmp_eq_int, cmp_eq_bool, cmp_lt, cmp_le, cmp_gt, cmp_ge, Int.reduceGT, gt_iff_lt, ge_iff_le, isTy, hem, show (([] : List Nat) == []) = true from rfl, show okF [] = false from rfl]
theorem c_l_number {n : Nat} {w : List Nat} {σ : Sto} (hw : Txt w) : callF sub tab.Δ (n + 1) 106 [.dat (.str w)] σ = .val (.int (if okN w then numV w else 0)) σ := by
  refine call_ret (fn := fn_l_number) (σ' := σ) rfl rfl (Eq.trans ?_ (ln_tail (sub := sub) (C := callF sub tab.Δ n) hw (figs_txt hw))) (by simp)
  show exs sub (callF sub tab.Δ n) t_l_number_0 [some (.dat (.str w)), none, none] σ = _
  have h1 := to_str (t := w) (k := 1) (by have := hw.1; omega) (by decide)
  have h2 := fr_str (t := w) (k := 1) (by have := hw.1; omega) (by decide)
  have h3 := eq_str (hw.take 1).2 (show Low [45] by decide)
  unfold figs
  by_cases hc : w.take 1 = [45]
  · have e : (w.take 1 == [45]) = true := by simp [hc]
    rw [if_pos hc]
    generalize hX : Dat.str w = X at h1 h2
    simp only [t_l_number_0, t_l_number_1, exs_nil, exs_cons, kSeq_next, kSeq_ret, ex_assign, kAsg_val, ex_newlst, kNew_val, ex_append, kApp0_ref, kApp_dat, ex_ret, kRet_dat, ex_ite, kIte_true, kIte_false, kIte_val, ex_for1, ev_lit, ev_con, ev_var, kVar_val, ev_bin, kBin1_val, kBin2_val, kD1_val, kD2a_val, kD2_val, ev_neg, negD, ev_prim, ev_prim2, ev_idx, kIdx_val, kNotX_val, kTruX_val, ev_slFrom, ev_slTo, kTup_val, kLst_val, ev_tup, ev_lst, kNot_val, kBool_val, kTru_val, ev_not, evCmp_cons, evCmp_nil, kCmp1_val, kCmp2_nil, kCmp2_true, kCmp2_false, kCmp0_val, ev_cmp, evB_cmp, kCall_val, kDat_val, ev_call, kCons_val, kArgs_val, evArgs_nil, evArgs_cons, kToDat_dat, kEvs_val, evs_nil, evs_cons, ev_and, ev_or, evAnd_one, Out.noX_val, evOr_one, evAnd_cons, evOr_cons, kAnd_true, kAnd_false, kOr_true, kOr_false, kAnd_val, kOr_val, evAll_nil, evAny_nil, evIfs_nil, evAll_cons, evAny_cons, evIfs_cons, kAll_val, kAny_val, kIfs_val, evB_and, evB_or, evB_not, evB_var, evB_call, evB_prim, ev_isinst, evB_isinst, evB_idx, ev_comp, evI_of', kOf_lst, kOf_tup, kOf_str, evI_range1, d1_dat, d2_dat, c2_dat, look_dat, bodyF, List.map_cons, List.map_nil, List.cons_append, List.nil_append, List.append_nil, List.replicate_succ, List.replicate_zero, List.getElem?_cons_zero, List.getElem?_cons_succ, List.set_cons_zero, List.set_cons_succ, List.length_cons, List.length_nil, Nat.sub_self, Nat.zero_add, Nat.reduceAdd, Nat.reduceSub, Nat.add_sub_cancel, if_true, if_false, Bool.false_eq_true, Int.reduceLT, Int.reduceLE, Int.reduceNeg, Int.reduceAdd, Int.reduceSub, Int.reduceMul, Int.reduceToNat, Nat.reduceLT, Nat.reduceLeDiff, and_self, and_true, true_and, decide_true, decide_false, Bool.not_true, Bool.not_false, Option.map_some, Option.bind_some, b_add, b_sub, b_mul1, b_mod, b_fdiv, cmp_eq_int, cmp_eq_bool, cmp_lt, cmp_le, cmp_gt, cmp_ge, Int.reduceGT, gt_iff_lt, ge_iff_le, isTy, h1, h2, h3, e]
  · have e : (w.take 1 == [45]) = false := by simpa using hc
    rw [if_neg hc]
    generalize hX : Dat.str w = X at h1 h2
    simp only [t_l_number_0, t_l_number_1, exs_nil, exs_cons, kSeq_next, kSeq_ret, ex_assign, kAsg_val, ex_newlst, kNew_val, ex_append, kApp0_ref, kApp_dat, ex_ret, kRet_dat, ex_ite, kIte_true, kIte_false, kIte_val, ex_for1, ev_lit, ev_con, ev_var, kVar_val, ev_bin, kBin1_val, kBin2_val, kD1_val, kD2a_val, kD2_val, ev_neg, negD, ev_prim, ev_prim2, ev_idx, kIdx_val, kNotX_val, kTruX_val, ev_slFrom, ev_slTo, kTup_val, kLst_val, ev_tup, ev_lst, kNot_val, kBool_val, kTru_val, ev_not, evCmp_cons, evCmp_nil, kCmp1_val, kCmp2_nil, kCmp2_true, kCmp2_false, kCmp0_val, ev_cmp, evB_cmp, kCall_val, kDat_val, ev_call, kCons_val, kArgs_val, evArgs_nil, evArgs_cons, kToDat_dat, kEvs_val, evs_nil, evs_cons, ev_and, ev_or, evAnd_one, Out.noX_val, evOr_one, evAnd_cons, evOr_cons, kAnd_true, kAnd_false, kOr_true, kOr_false, kAnd_val, kOr_val, evAll_nil, evAny_nil, evIfs_nil, evAll_cons, evAny_cons, evIfs_cons, kAll_val, kAny_val, kIfs_val, evB_and, evB_or, evB_not, evB_var, evB_call, evB_prim, ev_isinst, evB_isinst, evB_idx, ev_comp, evI_of', kOf_lst, kOf_tup, kOf_str, evI_range1, d1_dat, d2_dat, c2_dat, look_dat, bodyF, List.map_cons, List.map_nil, List.cons_append, List.nil_append, List.append_nil, List.replicate_succ, List.replicate_zero, List.getElem?_cons_zero, List.getElem?_cons_succ, List.set_cons_zero, List.set_cons_succ, List.length_cons, List.length_nil, Nat.sub_self, Nat.zero_add, Nat.reduceAdd, Nat.reduceSub, Nat.add_sub_cancel, if_true, if_false, Bool.false_eq_true, Int.reduceLT, Int.reduceLE, Int.reduceNeg, Int.reduceAdd, Int.reduceSub, Int.reduceMul, Int.reduceToNat, Nat.reduceLT, Nat.reduceLeDiff, and_self, and_true, true_and, decide_true, decide_false, Bool.not_true, Bool.not_false, Option.map_some, Option.bind_some, b_add, b_sub, b_mul1, b_mod, b_fdiv, cmp_eq_int, cmp_eq_bool, cmp_lt, cmp_le, cmp_gt, cmp_ge, Int.reduceGT, gt_iff_lt, ge_iff_le, isTy, h1, h2, h3, e]

/-! words and rows -/
theorem split_part {c : Nat} : ∀ {x p : List Nat}, p ∈ splitC c x → p.length ≤ x.length ∧ ∀ a ∈ p, a ∈ x
  | [], p, h => by simp [splitC] at h; subst h; simp
  | a :: r, p, h => by
    rw [splitC_cons] at h
    split at h
    · rcases List.mem_cons.mp h with rfl | h
      · simp
      · have := split_part h
        exact ⟨by simp; omega, fun b hb => .tail _ (this.2 b hb)⟩
    · cases hq : splitC c r with
      | nil => exact absurd hq (splitC_ne c r)
      | cons q qs =>
        rw [hq] at h
        rcases List.mem_cons.mp h with rfl | h
        · have := split_part (c := c) (x := r) (p := q) (by rw [hq]; exact .head _)
          refine ⟨by simp; omega, fun b hb => ?_⟩
          rcases List.mem_cons.mp hb with rfl | hb
          · exact .head _
          · exact .tail _ (this.2 b hb)
        · have := split_part (c := c) (x := r) (p := p) (by rw [hq]; exact .tail _ h)
          exact ⟨by simp; omega, fun b hb => .tail _ (this.2 b hb)⟩
theorem split_len {c : Nat} : ∀ x : List Nat, (splitC c x).length ≤ x.length + 1
  | [] => by simp [splitC]
  | a :: r => by
    have := split_len (c := c) r
    rw [splitC_cons]
    split
    · simp; omega
    · cases hq : splitC c r with
      | nil => simp
      | cons q qs => rw [hq] at this; simp at this ⊢; omega
theorem split_txt {c : Nat} {x : List Nat} (h : Txt x) {p : List Nat} (hp : p ∈ splitC c x) : Txt p := by
  have := split_part hp
  exact ⟨Nat.le_trans this.1 h.1, fun a ha => h.2 a (this.2 a ha)⟩
theorem split_head {c : Nat} : ∀ {p x : List Nat}, c ∉ p → ((splitC c x).head? = some p ↔ x = p ∨ x.take (p.length + 1) = p ++ [c])
  | [], [], _ => by simp [splitC]
  | [], a :: r, _ => by
    rw [splitC_cons]
    by_cases h : a = c
    · simp [h]
    · rw [if_neg h]
      cases splitC c r <;> simp [h]
  | b :: p, [], _ => by simp [splitC]
  | b :: p, a :: r, hc => by
    simp only [List.mem_cons, not_or] at hc
    have ih := split_head (p := p) (x := r) hc.2
    rw [splitC_cons]
    by_cases h : a = c
    · rw [if_pos h]
      have : a ≠ b := fun q => hc.1 (h.symm.trans q)
      simp [this]
    · rw [if_neg h]
      cases hq : splitC c r with
      | nil => exact absurd hq (splitC_ne c r)
      | cons q qs =>
        rw [hq] at ih
        simp only [List.head?_cons, Option.some.injEq] at ih
        simp only [List.head?_cons, Option.some.injEq, List.cons.injEq, List.length_cons, List.take_succ_cons, List.cons_append]
        rw [ih]
        constructor
        · rintro ⟨rfl, h | h⟩
          · exact .inl ⟨rfl, h⟩
          · exact .inr ⟨rfl, h⟩
        · rintro (⟨rfl, h⟩ | ⟨rfl, h⟩)
          · exact ⟨rfl, .inl h⟩
          · exact ⟨rfl, .inr h⟩
theorem d_split {t : List Nat} {c : Nat} (h : t.length ≤ 900) : prim2 .split (.str t) (.str [c]) = some (.lst ((splitC c t).map .str)) := if_pos (by omega)
end
end Mine

/-! ## PVD07 -/
namespace Mine
section
variable {sub : Nat → Nat → Bool}
theorem compL_try {α : Type} {s : Src} {f : Dat → Sto → Out (Option Dat)} {σ : Sto} {em : α → Dat} (hs : s.still σ = true) (ok : α → Bool) (g : α → Dat) (c : Nat) : ∀ {l : List α}, (∀ a ∈ l, f (em a) σ = if ok a then .val (some (g a)) σ else .exn c σ) →
    compL s f (l.map em) σ = if l.all ok then .val (l.map g) σ else .exn c σ
  | [], _ => by simp [compL, hs]
  | a :: l, h => by
    have ih := compL_try hs ok g c (l := l) fun d hd => h d (.tail _ hd)
    simp only [List.map_cons, compL, hs, if_true, h a (.head _), List.all_cons]
    cases ok a with
    | false => rfl
    | true => simp only [if_true, Out.bindX_val, ih, Bool.true_and]; cases l.all ok <;> rfl
theorem kComp_try {α : Type} {C : Oracle} {x f : Nat} {as : IEs} {ρ : Loc} {σ : Sto} {em : α → Dat} (ok : α → Bool) (g : α → Dat) (c : Nat) {l : List α} (hl : l.length ≤ 1000000)
    (hf : ∀ a ∈ l, ev sub C (.call f as) (ρ.set x (some (.dat (em a)))) σ = if ok a then .val (.dat (g a)) σ else .exn c σ) : kComp sub C x .nil (.call f as) ρ (.val ⟨l.map em, none⟩ σ) = if l.all ok then .val (.dat (.lst (l.map g))) σ else .exn c σ := by
  rw [kComp_val sub C x .nil _ ρ ⟨l.map em, none⟩ σ (by simpa using hl), compL_try rfl ok g c fun a ha => ?_]
  · cases l.all ok <;> rfl
  · simp only [compF, evIfs_nil, Out.bind_val, if_true, hf a ha, isCallE]
    cases ok a <;> rfl
theorem in_ints (x : Int) : ∀ l : List Int, inDs (.int x) (l.map .int) = some (l.contains x)
  | [] => rfl
  | y :: l => by
    simp only [List.map_cons, inDs, eqD, in_ints x l, List.contains_cons]
    by_cases h : y = x
    · simp [h]
    · have : (x == y) = false := by simpa using fun q => h q.symm
      have h' : (y == x) = false := by simpa using h
      rw [h', this]; rfl

/-! a wish -/
noncomputable def okW (row : List Nat) : Bool := (splitC 32 row).head? == some [119, 105, 115, 104] && (splitC 32 row).tail.all okN
noncomputable def wishV (row : List Nat) : List Int := (splitC 32 row).tail.map numV
theorem split_cons (c : Nat) (x : List Nat) : ∃ p ps, splitC c x = p :: ps := by
  cases h : splitC c x with
  | nil => exact absurd h (splitC_ne c x)
  | cons p ps => exact ⟨p, ps, rfl⟩
theorem ok_w {row p : List Nat} {ps : List (List Nat)} (h : splitC 32 row = p :: ps) : okW row = (p == [119, 105, 115, 104] && ps.all okN) ∧ wishV row = ps.map numV := by
  unfold okW wishV
  rw [h]
  exact ⟨rfl, rfl⟩
theorem c_wish_of {n : Nat} {row : List Nat} {σ : Sto} (hr : Txt row) : callF sub tab.Δ (n + 2) 18 [.dat (.str row)] σ = if okW row then .val (wD (wishV row)) σ else .exn 3 σ := by
  obtain ⟨p, ps, hsp⟩ := split_cons 32 row
  have htx : ∀ q ∈ p :: ps, Txt q := fun q hq => split_txt hr (hsp ▸ hq)
  have hle : (p :: ps).length ≤ 801 := by have h := split_len (c := 32) row; have := hr.1; rw [hsp] at h; omega
  have hpl := d_split (c := 32) (t := row) (by have := hr.1; omega)
  have hid : idx2 (.lst ((p :: ps).map .str)) (.int 0) = some (.str p) := idx_lst _ 0 _ (by rw [List.length_map]; omega) (by decide) rfl
  have hfr : slFrom2 (.lst ((p :: ps).map .str)) (.int 1) = some (.lst (ps.map .str)) := (fr_lst (by rw [List.length_map]; omega) (by decide)).trans rfl
  have hne := ne_str (htx p (.head _)).2 (show Low [119, 105, 115, 104] by decide)
  have hco := kComp_try (sub := sub) (C := callF sub tab.Δ (n + 1)) (x := 2) (f := 16) (as := .cons (.var 2) .nil) (ρ := [some (.dat (.str row)), some (.dat (.lst ((p :: ps).map .str))), none]) (σ := σ) (em := .str) okN (fun w => .int (numV w)) 3 (l := ps) (by simp at hle; omega) fun w hw => by
    have := c_number_of (sub := sub) (n := n) (σ := σ) (htx w (.tail _ hw))
    cases hb : okN w <;> rw [hb] at this <;> simp only [exs_nil, exs_cons, kSeq_next, kSeq_ret, ex_assign, kAsg_val, ex_newlst, kNew_val, ex_append, kApp0_ref, kApp_dat, ex_ret, kRet_dat, ex_ite, kIte_true, kIte_false, kIte_val, ex_for1, ev_lit, ev_con, ev_var, kVar_val, ev_bin, kBin1_val, kBin2_val, kD1_val, kD2a_val, kD2_val, ev_neg, negD, ev_prim, ev_prim2, ev_idx, kIdx_val, kNotX_val, kTruX_val, ev_slFrom, ev_slTo, kTup_val, kLst_val, ev_tup, ev_lst, kNot_val, kBool_val, kTru_val, ev_not, evCmp_cons, evCmp_nil, kCmp1_val, kCmp2_nil, kCmp2_true, kCmp2_false, kCmp0_val, ev_cmp, evB_cmp, kCall_val, kDat_val, ev_call, kCons_val, kArgs_val, evArgs_nil, evArgs_cons, kToDat_dat, kEvs_val, evs_nil, evs_cons, ev_and, ev_or, evAnd_one, Out.noX_val, evOr_one, evAnd_cons, evOr_cons, kAnd_true, kAnd_false, kOr_true, kOr_false, kAnd_val, kOr_val, evAll_nil, evAny_nil, evIfs_nil, evAll_cons, evAny_cons, evIfs_cons, kAll_val, kAny_val, kIfs_val, evB_and, evB_or, evB_not, evB_var, evB_call, evB_prim, ev_isinst, evB_isinst, evB_idx, ev_comp, evI_of', kOf_lst, kOf_tup, kOf_str, evI_range1, d1_dat, d2_dat, c2_dat, look_dat, bodyF, List.map_cons, List.map_nil, List.cons_append, List.nil_append, List.append_nil, List.replicate_succ, List.replicate_zero, List.getElem?_cons_zero, List.getElem?_cons_succ, List.set_cons_zero, List.set_cons_succ, List.length_cons, List.length_nil, Nat.sub_self, Nat.zero_add, Nat.reduceAdd, Nat.reduceSub, Nat.add_sub_cancel, if_true, if_false, Bool.false_eq_true, Int.reduceLT, Int.reduceLE, Int.reduceNeg, Int.reduceAdd, Int.reduceSub, Int.reduceMul, Int.reduceToNat, Nat.reduceLT, Nat.reduceLeDiff, and_self, and_true, true_and, decide_true, decide_false, Bool.not_true, Bool.not_false, Option.map_some, Option.bind_some, b_add, b_sub, b_mul1, b_mod, b_fdiv, cmp_eq_int, cmp_eq_bool, cmp_lt, cmp_le, cmp_gt, cmp_ge, Int.reduceGT, gt_iff_lt, ge_iff_le, isTy, this, kDat_exn]
  have hof : ∀ τ : Sto, kOf (.val (.dat (.lst (ps.map .str))) τ) = .val ⟨ps.map .str, none⟩ τ := fun _ => rfl
  rw [hsp] at hpl
  rw [(ok_w hsp).1, (ok_w hsp).2]
  by_cases h1 : p = [119, 105, 115, 104]
  · have e1 : (p == [119, 105, 115, 104]) = true := by simpa using h1
    rw [e1] at hne
    rw [e1, Bool.true_and]
    cases hA : ps.all okN with
    | true =>
      rw [hA] at hco
      have hw : Dat.lst (ps.map fun w => .int (numV w)) = wD (ps.map numV) := by simp [wD]
      rw [hw] at hco
      refine call_ret (fn := fn_wish_of) (σ' := σ) rfl rfl ?_ (by simp)
      generalize Dat.lst ((p :: ps).map .str) = X at hpl hid hfr hco
      generalize Dat.lst (ps.map .str) = Y at hfr hof
      generalize wD (ps.map numV) = Z at hco ⊢
      simp only [fn_wish_of, exs_nil, exs_cons, kSeq_next, kSeq_ret, ex_assign, kAsg_val, ex_newlst, kNew_val, ex_append, kApp0_ref, kApp_dat, ex_ret, kRet_dat, ex_ite, kIte_true, kIte_false, kIte_val, ex_for1, ev_lit, ev_con, ev_var, kVar_val, ev_bin, kBin1_val, kBin2_val, kD1_val, kD2a_val, kD2_val, ev_neg, negD, ev_prim, ev_prim2, ev_idx, kIdx_val, kNotX_val, kTruX_val, ev_slFrom, ev_slTo, kTup_val, kLst_val, ev_tup, ev_lst, kNot_val, kBool_val, kTru_val, ev_not, evCmp_cons, evCmp_nil, kCmp1_val, kCmp2_nil, kCmp2_true, kCmp2_false, kCmp0_val, ev_cmp, evB_cmp, kCall_val, kDat_val, ev_call, kCons_val, kArgs_val, evArgs_nil, evArgs_cons, kToDat_dat, kEvs_val, evs_nil, evs_cons, ev_and, ev_or, evAnd_one, Out.noX_val, evOr_one, evAnd_cons, evOr_cons, kAnd_true, kAnd_false, kOr_true, kOr_false, kAnd_val, kOr_val, evAll_nil, evAny_nil, evIfs_nil, evAll_cons, evAny_cons, evIfs_cons, kAll_val, kAny_val, kIfs_val, evB_and, evB_or, evB_not, evB_var, evB_call, evB_prim, ev_isinst, evB_isinst, evB_idx, ev_comp, evI_of', kOf_lst, kOf_tup, kOf_str, evI_range1, d1_dat, d2_dat, c2_dat, look_dat, bodyF, List.map_cons, List.map_nil, List.cons_append, List.nil_append, List.append_nil, List.replicate_succ, List.replicate_zero, List.getElem?_cons_zero, List.getElem?_cons_succ, List.set_cons_zero, List.set_cons_succ, List.length_cons, List.length_nil, Nat.sub_self, Nat.zero_add, Nat.reduceAdd, Nat.reduceSub, Nat.add_sub_cancel, if_true, if_false, Bool.false_eq_true, Int.reduceLT, Int.reduceLE, Int.reduceNeg, Int.reduceAdd, Int.reduceSub, Int.reduceMul, Int.reduceToNat, Nat.reduceLT, Nat.reduceLeDiff, and_self, and_true, true_and, decide_true, decide_false, Bool.not_true, Bool.not_false, Option.map_some, Option.bind_some, b_add, b_sub, b_mul1, b_mod, b_fdiv, cmp_eq_int, cmp_eq_bool, cmp_lt, cmp_le, cmp_gt, cmp_ge, Int.reduceGT, gt_iff_lt, ge_iff_le, isTy, hpl, hid, hne, hfr, hof, hco]
    | false =>
      rw [hA] at hco
      have := call_raise (sub := sub) (Δ := tab.Δ) (n := n + 1) (f := 18) (fn := fn_wish_of) (args := [.dat (.str row)]) (σ := σ) (σ' := σ) (c := 3) (ρ := [some (.dat (.str row)), some (.dat (.lst ((p :: ps).map .str))), none]) rfl rfl (by
        generalize Dat.lst ((p :: ps).map .str) = X at hpl hid hfr hco
        generalize Dat.lst (ps.map .str) = Y at hfr hof
        simp only [fn_wish_of, exs_nil, exs_cons, kSeq_next, kSeq_ret, ex_assign, kAsg_val, ex_newlst, kNew_val, ex_append, kApp0_ref, kApp_dat, ex_ret, kRet_dat, ex_ite, kIte_true, kIte_false, kIte_val, ex_for1, ev_lit, ev_con, ev_var, kVar_val, ev_bin, kBin1_val, kBin2_val, kD1_val, kD2a_val, kD2_val, ev_neg, negD, ev_prim, ev_prim2, ev_idx, kIdx_val, kNotX_val, kTruX_val, ev_slFrom, ev_slTo, kTup_val, kLst_val, ev_tup, ev_lst, kNot_val, kBool_val, kTru_val, ev_not, evCmp_cons, evCmp_nil, kCmp1_val, kCmp2_nil, kCmp2_true, kCmp2_false, kCmp0_val, ev_cmp, evB_cmp, kCall_val, kDat_val, ev_call, kCons_val, kArgs_val, evArgs_nil, evArgs_cons, kToDat_dat, kEvs_val, evs_nil, evs_cons, ev_and, ev_or, evAnd_one, Out.noX_val, evOr_one, evAnd_cons, evOr_cons, kAnd_true, kAnd_false, kOr_true, kOr_false, kAnd_val, kOr_val, evAll_nil, evAny_nil, evIfs_nil, evAll_cons, evAny_cons, evIfs_cons, kAll_val, kAny_val, kIfs_val, evB_and, evB_or, evB_not, evB_var, evB_call, evB_prim, ev_isinst, evB_isinst, evB_idx, ev_comp, evI_of', kOf_lst, kOf_tup, kOf_str, evI_range1, d1_dat, d2_dat, c2_dat, look_dat, bodyF, List.map_cons, List.map_nil, List.cons_append, List.nil_append, List.append_nil, List.replicate_succ, List.replicate_zero, List.getElem?_cons_zero, List.getElem?_cons_succ, List.set_cons_zero, List.set_cons_succ, List.length_cons, List.length_nil, Nat.sub_self, Nat.zero_add, Nat.reduceAdd, Nat.reduceSub, Nat.add_sub_cancel, if_true, if_false, Bool.false_eq_true, Int.reduceLT, Int.reduceLE, Int.reduceNeg, Int.reduceAdd, Int.reduceSub, Int.reduceMul, Int.reduceToNat, Nat.reduceLT, Nat.reduceLeDiff, and_self, and_true, true_and, decide_true, decide_false, Bool.not_true, Bool.not_false, Option.map_some, Option.bind_some, b_add, b_sub, b_mul1, b_mod, b_fdiv, cmp_eq_int, cmp_eq_bool, cmp_lt, cmp_le, cmp_gt, cmp_ge, Int.reduceGT, gt_iff_lt, ge_iff_le, isTy, hpl, hid, hne, hfr, hof, hco, kRet_exn, kSeq_exn])
      simpa using this
  · have e1 : (p == [119, 105, 115, 104]) = false := by simpa using h1
    rw [e1] at hne
    rw [e1, Bool.false_and]
    have := call_raise (sub := sub) (Δ := tab.Δ) (n := n + 1) (f := 18) (fn := fn_wish_of) (args := [.dat (.str row)]) (σ := σ) (σ' := σ) (c := 3) (ρ := [some (.dat (.str row)), some (.dat (.lst ((p :: ps).map .str))), none]) rfl rfl (by
      generalize Dat.lst ((p :: ps).map .str) = X at hpl hid
      simp only [fn_wish_of, exs_nil, exs_cons, kSeq_next, kSeq_ret, ex_assign, kAsg_val, ex_newlst, kNew_val, ex_append, kApp0_ref, kApp_dat, ex_ret, kRet_dat, ex_ite, kIte_true, kIte_false, kIte_val, ex_for1, ev_lit, ev_con, ev_var, kVar_val, ev_bin, kBin1_val, kBin2_val, kD1_val, kD2a_val, kD2_val, ev_neg, negD, ev_prim, ev_prim2, ev_idx, kIdx_val, kNotX_val, kTruX_val, ev_slFrom, ev_slTo, kTup_val, kLst_val, ev_tup, ev_lst, kNot_val, kBool_val, kTru_val, ev_not, evCmp_cons, evCmp_nil, kCmp1_val, kCmp2_nil, kCmp2_true, kCmp2_false, kCmp0_val, ev_cmp, evB_cmp, kCall_val, kDat_val, ev_call, kCons_val, kArgs_val, evArgs_nil, evArgs_cons, kToDat_dat, kEvs_val, evs_nil, evs_cons, ev_and, ev_or, evAnd_one, Out.noX_val, evOr_one, evAnd_cons, evOr_cons, kAnd_true, kAnd_false, kOr_true, kOr_false, kAnd_val, kOr_val, evAll_nil, evAny_nil, evIfs_nil, evAll_cons, evAny_cons, evIfs_cons, kAll_val, kAny_val, kIfs_val, evB_and, evB_or, evB_not, evB_var, evB_call, evB_prim, ev_isinst, evB_isinst, evB_idx, ev_comp, evI_of', kOf_lst, kOf_tup, kOf_str, evI_range1, d1_dat, d2_dat, c2_dat, look_dat, bodyF, List.map_cons, List.map_nil, List.cons_append, List.nil_append, List.append_nil, List.replicate_succ, List.replicate_zero, List.getElem?_cons_zero, List.getElem?_cons_succ, List.set_cons_zero, List.set_cons_succ, List.length_cons, List.length_nil, Nat.sub_self, Nat.zero_add, Nat.reduceAdd, Nat.reduceSub, Nat.add_sub_cancel, if_true, if_false, Bool.false_eq_true, Int.reduceLT, Int.reduceLE, Int.reduceNeg, Int.reduceAdd, Int.reduceSub, Int.reduceMul, Int.reduceToNat, Nat.reduceLT, Nat.reduceLeDiff, and_self, and_true, true_and, decide_true, decide_false, Bool.not_true, Bool.not_false, Option.map_some, Option.bind_some, b_add, b_sub, b_mul1, b_mod, b_fdiv, cmp_eq_int, cmp_eq_bool, cmp_lt, cmp_le, cmp_gt, cmp_ge, Int.reduceGT, gt_iff_lt, ge_iff_le, isTy, hpl, hid, hne, ex_raise, kSeq_exn])
    simpa using this
noncomputable def oN (w : List Nat) : Int := if okN w then numV w else 0
theorem zero_in : ∀ ps : List (List Nat), (ps.map oN).contains 0 = !(ps.all okN)
  | [] => rfl
  | w :: ps => by
    rw [List.map_cons, List.contains_cons, zero_in ps, List.all_cons]
    unfold oN
    cases hb : okN w with
    | true =>
      have : ((0 : Int) == numV w) = false := by rw [beq_eq_false_iff_ne]; exact (val_ne (f := figs w) hb w).symm
      simp only [if_true, this, Bool.false_or, Bool.true_and]
    | false => rfl
theorem c_l_wish {n : Nat} {row : List Nat} {σ : Sto} (hr : Txt row) : callF sub tab.Δ (n + 2) 107 [.dat (.str row)] σ = .val (if okW row then wD (wishV row) else .none) σ := by
  obtain ⟨p, ps, hsp⟩ := split_cons 32 row
  have htx : ∀ q ∈ p :: ps, Txt q := fun q hq => split_txt hr (hsp ▸ hq)
  have hle : (p :: ps).length ≤ 801 := by have h := split_len (c := 32) row; have := hr.1; rw [hsp] at h; omega
  have hpl := d_split (c := 32) (t := row) (by have := hr.1; omega)
  have hfr : slFrom2 (.lst ((p :: ps).map .str)) (.int 1) = some (.lst (ps.map .str)) := (fr_lst (by rw [List.length_map]; omega) (by decide)).trans rfl
  have hto := to_str (t := row) (k := 5) (by have := hr.1; omega) (by decide)
  have hn1 := ne_str hr.2 (show Low [119, 105, 115, 104] by decide)
  have hn2 := ne_str (hr.take 5).2 (show Low [119, 105, 115, 104, 32] by decide)
  have hco := kComp_map (sub := sub) (C := callF sub tab.Δ (n + 1)) (x := 2) (elt := .call 106 (.cons (.var 2) .nil)) (ρ := [some (.dat (.str row)), none, none]) (σ := σ) (em := .str) (fun w => .int (oN w)) (l := ps) (by simp at hle; omega) fun w hw => by
    have := c_l_number (sub := sub) (n := n) (σ := σ) (htx w (.tail _ hw))
    simp only [exs_nil, exs_cons, kSeq_next, kSeq_ret, ex_assign, kAsg_val, ex_newlst, kNew_val, ex_append, kApp0_ref, kApp_dat, ex_ret, kRet_dat, ex_ite, kIte_true, kIte_false, kIte_val, ex_for1, ev_lit, ev_con, ev_var, kVar_val, ev_bin, kBin1_val, kBin2_val, kD1_val, kD2a_val, kD2_val, ev_neg, negD, ev_prim, ev_prim2, ev_idx, kIdx_val, kNotX_val, kTruX_val, ev_slFrom, ev_slTo, kTup_val, kLst_val, ev_tup, ev_lst, kNot_val, kBool_val, kTru_val, ev_not, evCmp_cons, evCmp_nil, kCmp1_val, kCmp2_nil, kCmp2_true, kCmp2_false, kCmp0_val, ev_cmp, evB_cmp, kCall_val, kDat_val, ev_call, kCons_val, kArgs_val, evArgs_nil, evArgs_cons, kToDat_dat, kEvs_val, evs_nil, evs_cons, ev_and, ev_or, evAnd_one, Out.noX_val, evOr_one, evAnd_cons, evOr_cons, kAnd_true, kAnd_false, kOr_true, kOr_false, kAnd_val, kOr_val, evAll_nil, evAny_nil, evIfs_nil, evAll_cons, evAny_cons, evIfs_cons, kAll_val, kAny_val, kIfs_val, evB_and, evB_or, evB_not, evB_var, evB_call, evB_prim, ev_isinst, evB_isinst, evB_idx, ev_comp, evI_of', kOf_lst, kOf_tup, kOf_str, evI_range1, d1_dat, d2_dat, c2_dat, look_dat, bodyF, List.map_cons, List.map_nil, List.cons_append, List.nil_append, List.append_nil, List.replicate_succ, List.replicate_zero, List.getElem?_cons_zero, List.getElem?_cons_succ, List.set_cons_zero, List.set_cons_succ, List.length_cons, List.length_nil, Nat.sub_self, Nat.zero_add, Nat.reduceAdd, Nat.reduceSub, Nat.add_sub_cancel, if_true, if_false, Bool.false_eq_true, Int.reduceLT, Int.reduceLE, Int.reduceNeg, Int.reduceAdd, Int.reduceSub, Int.reduceMul, Int.reduceToNat, Nat.reduceLT, Nat.reduceLeDiff, and_self, and_true, true_and, decide_true, decide_false, Bool.not_true, Bool.not_false, Option.map_some, Option.bind_some, b_add, b_sub, b_mul1, b_mod, b_fdiv, cmp_eq_int, cmp_eq_bool, cmp_lt, cmp_le, cmp_gt, cmp_ge, Int.reduceGT, gt_iff_lt, ge_iff_le, isTy, this]; rfl
  have hof : ∀ τ : Sto, kOf (.val (.dat (.lst (ps.map .str))) τ) = .val ⟨ps.map .str, none⟩ τ := fun _ => rfl
  have hin : cmp2 .isin (.int 0) (.lst (ps.map fun w => .int (oN w))) = some (!(ps.all okN)) := by
    have : ps.map (fun w => Dat.int (oN w)) = (ps.map oN).map .int := by simp
    rw [this, ← zero_in]
    simp only [cmp2, inD, ok_ints, show okD (.int 0) = true from rfl, Bool.and_self, if_true, in_ints]
  have hhd := split_head (c := 32) (p := [119, 105, 115, 104]) (x := row) (by decide)
  rw [hsp] at hpl hhd
  rw [(ok_w hsp).1, (ok_w hsp).2]
  simp only [List.head?_cons, Option.some.injEq] at hhd
  refine call_ret (fn := fn_l_wish) (σ' := σ) rfl rfl ?_ (by simp)
  by_cases h1 : p = [119, 105, 115, 104]
  · have e2 : (p == [119, 105, 115, 104]) = true := by simpa using h1
    rw [e2, Bool.true_and]
    have hwv : ps.all okN = true → Dat.lst (ps.map fun w => .int (oN w)) = wD (ps.map numV) := fun hA => by
      simp only [wD, List.map_map]
      congr 1
      refine List.map_congr_left fun w hw => ?_
      simp [oN, List.all_eq_true.mp hA w hw]
    have tail : kSeq sub (callF sub tab.Δ (n + 1)) (.cons (.assign 1 (.comp 2 (.of (.slFrom (.prim2 .split (.var 0) (.lit (.str [32]))) (.lit (.int 1)))) .nil (.call 106 (.cons (.var 2) .nil)))) (.cons (.ite (.cmp (.lit (.int 0)) (.cons .isin (.var 1) .nil)) (.cons (.ret (.lit .none)) .nil) .nil) (.cons (.ret (.var 1)) .nil))) (.next [some (.dat (.str row)), none, none] σ) = .ret (if ps.all okN then wD (ps.map numV) else .none) σ := by
      cases hA : ps.all okN with
      | true =>
        rw [hA] at hin
        rw [if_pos rfl, ← hwv hA]
        generalize Dat.lst ((p :: ps).map .str) = X at hpl hfr
        generalize Dat.lst (ps.map .str) = Y at hfr hof
        generalize Dat.lst (ps.map fun w => .int (oN w)) = Z at hin hco ⊢
        simp only [exs_nil, exs_cons, kSeq_next, kSeq_ret, ex_assign, kAsg_val, ex_newlst, kNew_val, ex_append, kApp0_ref, kApp_dat, ex_ret, kRet_dat, ex_ite, kIte_true, kIte_false, kIte_val, ex_for1, ev_lit, ev_con, ev_var, kVar_val, ev_bin, kBin1_val, kBin2_val, kD1_val, kD2a_val, kD2_val, ev_neg, negD, ev_prim, ev_prim2, ev_idx, kIdx_val, kNotX_val, kTruX_val, ev_slFrom, ev_slTo, kTup_val, kLst_val, ev_tup, ev_lst, kNot_val, kBool_val, kTru_val, ev_not, evCmp_cons, evCmp_nil, kCmp1_val, kCmp2_nil, kCmp2_true, kCmp2_false, kCmp0_val, ev_cmp, evB_cmp, kCall_val, kDat_val, ev_call, kCons_val, kArgs_val, evArgs_nil, evArgs_cons, kToDat_dat, kEvs_val, evs_nil, evs_cons, ev_and, ev_or, evAnd_one, Out.noX_val, evOr_one, evAnd_cons, evOr_cons, kAnd_true, kAnd_false, kOr_true, kOr_false, kAnd_val, kOr_val, evAll_nil, evAny_nil, evIfs_nil, evAll_cons, evAny_cons, evIfs_cons, kAll_val, kAny_val, kIfs_val, evB_and, evB_or, evB_not, evB_var, evB_call, evB_prim, ev_isinst, evB_isinst, evB_idx, ev_comp, evI_of', kOf_lst, kOf_tup, kOf_str, evI_range1, d1_dat, d2_dat, c2_dat, look_dat, bodyF, List.map_cons, List.map_nil, List.cons_append, List.nil_append, List.append_nil, List.replicate_succ, List.replicate_zero, List.getElem?_cons_zero, List.getElem?_cons_succ, List.set_cons_zero, List.set_cons_succ, List.length_cons, List.length_nil, Nat.sub_self, Nat.zero_add, Nat.reduceAdd, Nat.reduceSub, Nat.add_sub_cancel, if_true, if_false, Bool.false_eq_true, Int.reduceLT, Int.reduceLE, Int.reduceNeg, Int.reduceAdd, Int.reduceSub, Int.reduceMul, Int.reduceToNat, Nat.reduceLT, Nat.reduceLeDiff, and_self, and_true, true_and, decide_true, decide_false, Bool.not_true, Bool.not_false, Option.map_some, Option.bind_some, b_add, b_sub, b_mul1, b_mod, b_fdiv, cmp_eq_int, cmp_eq_bool, cmp_lt, cmp_le, cmp_gt, cmp_ge, Int.reduceGT, gt_iff_lt, ge_iff_le, isTy, hpl, hfr, hof, hco, hin]
      | false =>
        rw [hA] at hin
        generalize Dat.lst ((p :: ps).map .str) = X at hpl hfr
        generalize Dat.lst (ps.map .str) = Y at hfr hof
        generalize Dat.lst (ps.map fun w => .int (oN w)) = Z at hin hco ⊢
        simp only [exs_nil, exs_cons, kSeq_next, kSeq_ret, ex_assign, kAsg_val, ex_newlst, kNew_val, ex_append, kApp0_ref, kApp_dat, ex_ret, kRet_dat, ex_ite, kIte_true, kIte_false, kIte_val, ex_for1, ev_lit, ev_con, ev_var, kVar_val, ev_bin, kBin1_val, kBin2_val, kD1_val, kD2a_val, kD2_val, ev_neg, negD, ev_prim, ev_prim2, ev_idx, kIdx_val, kNotX_val, kTruX_val, ev_slFrom, ev_slTo, kTup_val, kLst_val, ev_tup, ev_lst, kNot_val, kBool_val, kTru_val, ev_not, evCmp_cons, evCmp_nil, kCmp1_val, kCmp2_nil, kCmp2_true, kCmp2_false, kCmp0_val, ev_cmp, evB_cmp, kCall_val, kDat_val, ev_call, kCons_val, kArgs_val, evArgs_nil, evArgs_cons, kToDat_dat, kEvs_val, evs_nil, evs_cons, ev_and, ev_or, evAnd_one, Out.noX_val, evOr_one, evAnd_cons, evOr_cons, kAnd_true, kAnd_false, kOr_true, kOr_false, kAnd_val, kOr_val, evAll_nil, evAny_nil, evIfs_nil, evAll_cons, evAny_cons, evIfs_cons, kAll_val, kAny_val, kIfs_val, evB_and, evB_or, evB_not, evB_var, evB_call, evB_prim, ev_isinst, evB_isinst, evB_idx, ev_comp, evI_of', kOf_lst, kOf_tup, kOf_str, evI_range1, d1_dat, d2_dat, c2_dat, look_dat, bodyF, List.map_cons, List.map_nil, List.cons_append, List.nil_append, List.append_nil, List.replicate_succ, List.replicate_zero, List.getElem?_cons_zero, List.getElem?_cons_succ, List.set_cons_zero, List.set_cons_succ, List.length_cons, List.length_nil, Nat.sub_self, Nat.zero_add, Nat.reduceAdd, Nat.reduceSub, Nat.add_sub_cancel, if_true, if_false, Bool.false_eq_true, Int.reduceLT, Int.reduceLE, Int.reduceNeg, Int.reduceAdd, Int.reduceSub, Int.reduceMul, Int.reduceToNat, Nat.reduceLT, Nat.reduceLeDiff, and_self, and_true, true_and, decide_true, decide_false, Bool.not_true, Bool.not_false, Option.map_some, Option.bind_some, b_add, b_sub, b_mul1, b_mod, b_fdiv, cmp_eq_int, cmp_eq_bool, cmp_lt, cmp_le, cmp_gt, cmp_ge, Int.reduceGT, gt_iff_lt, ge_iff_le, isTy, hpl, hfr, hof, hco, hin]
    rw [← tail]
    rcases hhd.mp h1 with h2 | h2
    · have e1 : (row == [119, 105, 115, 104]) = true := by simpa using h2
      rw [e1] at hn1
      simp only [fn_l_wish, exs_nil, exs_cons, kSeq_next, kSeq_ret, ex_assign, kAsg_val, ex_newlst, kNew_val, ex_append, kApp0_ref, kApp_dat, ex_ret, kRet_dat, ex_ite, kIte_true, kIte_false, kIte_val, ex_for1, ev_lit, ev_con, ev_var, kVar_val, ev_bin, kBin1_val, kBin2_val, kD1_val, kD2a_val, kD2_val, ev_neg, negD, ev_prim, ev_prim2, ev_idx, kIdx_val, kNotX_val, kTruX_val, ev_slFrom, ev_slTo, kTup_val, kLst_val, ev_tup, ev_lst, kNot_val, kBool_val, kTru_val, ev_not, evCmp_cons, evCmp_nil, kCmp1_val, kCmp2_nil, kCmp2_true, kCmp2_false, kCmp0_val, ev_cmp, evB_cmp, kCall_val, kDat_val, ev_call, kCons_val, kArgs_val, evArgs_nil, evArgs_cons, kToDat_dat, kEvs_val, evs_nil, evs_cons, ev_and, ev_or, evAnd_one, Out.noX_val, evOr_one, evAnd_cons, evOr_cons, kAnd_true, kAnd_false, kOr_true, kOr_false, kAnd_val, kOr_val, evAll_nil, evAny_nil, evIfs_nil, evAll_cons, evAny_cons, evIfs_cons, kAll_val, kAny_val, kIfs_val, evB_and, evB_or, evB_not, evB_var, evB_call, evB_prim, ev_isinst, evB_isinst, evB_idx, ev_comp, evI_of', kOf_lst, kOf_tup, kOf_str, evI_range1, d1_dat, d2_dat, c2_dat, look_dat, bodyF, List.map_cons, List.map_nil, List.cons_append, List.nil_append, List.append_nil, List.replicate_succ, List.replicate_zero, List.getElem?_cons_zero, List.getElem?_cons_succ, List.set_cons_zero, List.set_cons_succ, List.length_cons, List.length_nil, Nat.sub_self, Nat.zero_add, Nat.reduceAdd, Nat.reduceSub, Nat.add_sub_cancel, if_true, if_false, Bool.false_eq_true, Int.reduceLT, Int.reduceLE, Int.reduceNeg, Int.reduceAdd, Int.reduceSub, Int.reduceMul, Int.reduceToNat, Nat.reduceLT, Nat.reduceLeDiff, and_self, and_true, true_and, decide_true, decide_false, Bool.not_true, Bool.not_false, Option.map_some, Option.bind_some, b_add, b_sub, b_mul1, b_mod, b_fdiv, cmp_eq_int, cmp_eq_bool, cmp_lt, cmp_le, cmp_gt, cmp_ge, Int.reduceGT, gt_iff_lt, ge_iff_le, isTy, hn1]
    · have e3 : (row.take (Int.toNat 5) == [119, 105, 115, 104, 32]) = true := by simpa using h2
      have e3' : (row.take 5 == [119, 105, 115, 104, 32]) = true := e3
      rw [e3'] at hn2
      cases e1 : (row == [119, 105, 115, 104]) <;> rw [e1] at hn1 <;> simp only [fn_l_wish, exs_nil, exs_cons, kSeq_next, kSeq_ret, ex_assign, kAsg_val, ex_newlst, kNew_val, ex_append, kApp0_ref, kApp_dat, ex_ret, kRet_dat, ex_ite, kIte_true, kIte_false, kIte_val, ex_for1, ev_lit, ev_con, ev_var, kVar_val, ev_bin, kBin1_val, kBin2_val, kD1_val, kD2a_val, kD2_val, ev_neg, negD, ev_prim, ev_prim2, ev_idx, kIdx_val, kNotX_val, kTruX_val, ev_slFrom, ev_slTo, kTup_val, kLst_val, ev_tup, ev_lst, kNot_val, kBool_val, kTru_val, ev_not, evCmp_cons, evCmp_nil, kCmp1_val, kCmp2_nil, kCmp2_true, kCmp2_false, kCmp0_val, ev_cmp, evB_cmp, kCall_val, kDat_val, ev_call, kCons_val, kArgs_val, evArgs_nil, evArgs_cons, kToDat_dat, kEvs_val, evs_nil, evs_cons, ev_and, ev_or, evAnd_one, Out.noX_val, evOr_one, evAnd_cons, evOr_cons, kAnd_true, kAnd_false, kOr_true, kOr_false, kAnd_val, kOr_val, evAll_nil, evAny_nil, evIfs_nil, evAll_cons, evAny_cons, evIfs_cons, kAll_val, kAny_val, kIfs_val, evB_and, evB_or, evB_not, evB_var, evB_call, evB_prim, ev_isinst, evB_isinst, evB_idx, ev_comp, evI_of', kOf_lst, kOf_tup, kOf_str, evI_range1, d1_dat, d2_dat, c2_dat, look_dat, bodyF, List.map_cons, List.map_nil, List.cons_append, List.nil_append, List.append_nil, List.replicate_succ, List.replicate_zero, List.getElem?_cons_zero, List.getElem?_cons_succ, List.set_cons_zero, List.set_cons_succ, List.length_cons, List.length_nil, Nat.sub_self, Nat.zero_add, Nat.reduceAdd, Nat.reduceSub, Nat.add_sub_cancel, if_true, if_false, Bool.false_eq_true, Int.reduceLT, Int.reduceLE, Int.reduceNeg, Int.reduceAdd, Int.reduceSub, Int.reduceMul, Int.reduceToNat, Nat.reduceLT, Nat.reduceLeDiff, and_self, and_true, true_and, decide_true, decide_false, Bool.not_true, Bool.not_false, Option.map_some, Option.bind_some, b_add, b_sub, b_mul1, b_mod, b_fdiv, cmp_eq_int, cmp_eq_bool, cmp_lt, cmp_le, cmp_gt, cmp_ge, Int.reduceGT, gt_iff_lt, ge_iff_le, isTy, hn1, hto, hn2]
  · have e2 : (p == [119, 105, 115, 104]) = false := by simpa using h1
    rw [e2, Bool.false_and]
    have h3 : ¬ (row = [119, 105, 115, 104] ∨ row.take (4 + 1) = [119, 105, 115, 104, 32]) := fun q => h1 (hhd.mpr q)
    have e1 : (row == [119, 105, 115, 104]) = false := by simpa using fun q => h3 (.inl q)
    have e3 : (row.take 5 == [119, 105, 115, 104, 32]) = false := by simpa using fun q => h3 (.inr q)
    rw [e1] at hn1
    rw [e3] at hn2
    simp only [fn_l_wish, exs_nil, exs_cons, kSeq_next, kSeq_ret, ex_assign, kAsg_val, ex_newlst, kNew_val, ex_append, kApp0_ref, kApp_dat, ex_ret, kRet_dat, ex_ite, kIte_true, kIte_false, kIte_val, ex_for1, ev_lit, ev_con, ev_var, kVar_val, ev_bin, kBin1_val, kBin2_val, kD1_val, kD2a_val, kD2_val, ev_neg, negD, ev_prim, ev_prim2, ev_idx, kIdx_val, kNotX_val, kTruX_val, ev_slFrom, ev_slTo, kTup_val, kLst_val, ev_tup, ev_lst, kNot_val, kBool_val, kTru_val, ev_not, evCmp_cons, evCmp_nil, kCmp1_val, kCmp2_nil, kCmp2_true, kCmp2_false, kCmp0_val, ev_cmp, evB_cmp, kCall_val, kDat_val, ev_call, kCons_val, kArgs_val, evArgs_nil, evArgs_cons, kToDat_dat, kEvs_val, evs_nil, evs_cons, ev_and, ev_or, evAnd_one, Out.noX_val, evOr_one, evAnd_cons, evOr_cons, kAnd_true, kAnd_false, kOr_true, kOr_false, kAnd_val, kOr_val, evAll_nil, evAny_nil, evIfs_nil, evAll_cons, evAny_cons, evIfs_cons, kAll_val, kAny_val, kIfs_val, evB_and, evB_or, evB_not, evB_var, evB_call, evB_prim, ev_isinst, evB_isinst, evB_idx, ev_comp, evI_of', kOf_lst, kOf_tup, kOf_str, evI_range1, d1_dat, d2_dat, c2_dat, look_dat, bodyF, List.map_cons, List.map_nil, List.cons_append, List.nil_append, List.append_nil, List.replicate_succ, List.replicate_zero, List.getElem?_cons_zero, List.getElem?_cons_succ, List.set_cons_zero, List.set_cons_succ, List.length_cons, List.length_nil, Nat.sub_self, Nat.zero_add, Nat.reduceAdd, Nat.reduceSub, Nat.add_sub_cancel, if_true, if_false, Bool.false_eq_true, Int.reduceLT, Int.reduceLE, Int.reduceNeg, Int.reduceAdd, Int.reduceSub, Int.reduceMul, Int.reduceToNat, Nat.reduceLT, Nat.reduceLeDiff, and_self, and_true, true_and, decide_true, decide_false, Bool.not_true, Bool.not_false, Option.map_some, Option.bind_some, b_add, b_sub, b_mul1, b_mod, b_fdiv, cmp_eq_int, cmp_eq_bool, cmp_lt, cmp_le, cmp_gt, cmp_ge, Int.reduceGT, gt_iff_lt, ge_iff_le, isTy, hn1, hto, hn2]
end
end Mine

/-! ## PVE07 -/
namespace Mine
section
variable {sub : Nat → Nat → Bool}
theorem kAsg_exn (i : Nat) (ρ : Loc) (c : Nat) (σ : Sto) : kAsg i ρ (.exn c σ) = .exn c ρ σ := rfl
theorem drop_val {C : Oracle} {e : IE} {ρ : Loc} {σ σ' : Sto} (h : ev sub C e ρ σ = .val (.dat .none) σ') : ex sub C (.drop e) ρ σ = .next ρ σ' := by show Out.stm _ _ _ = _; rw [h]; rfl
/-! the first row -/
noncomputable def okH (r : List Nat) : Bool := r == [108, 97, 109, 112, 115] || (r.take 6 == [108, 97, 109, 112, 115, 32] && decide (6 < r.length))
theorem c_setters_of {n : Nat} {r : List Nat} {σ : Sto} (hr : Txt r) : callF sub tab.Δ (n + 1) 17 [.dat (.str r)] σ = if okH r then .val (.str (r.drop 6)) σ else .exn 3 σ := by
  have h1 := eq_str hr.2 (show Low [108, 97, 109, 112, 115] by decide)
  have h2 := eq_str (hr.take 6).2 (show Low [108, 97, 109, 112, 115, 32] by decide)
  have hto := to_str (t := r) (k := 6) (by have := hr.1; omega) (by decide)
  have hfr := fr_str (t := r) (k := 6) (by have := hr.1; omega) (by decide)
  have hln := p_len_str r (by have := hr.1; omega)
  unfold okH
  cases e1 : r == [108, 97, 109, 112, 115] with
  | true =>
    rw [e1] at h1
    have : r.drop 6 = [] := by rw [eq_of_beq e1]; rfl
    rw [this]
    refine call_ret (fn := fn_setters_of) (σ' := σ) rfl rfl ?_ (by simp)
    simp only [fn_setters_of, exs_nil, exs_cons, kSeq_next, kSeq_ret, ex_assign, kAsg_val, ex_newlst, kNew_val, ex_append, kApp0_ref, kApp_dat, ex_ret, kRet_dat, ex_ite, kIte_true, kIte_false, kIte_val, ex_for1, ev_lit, ev_con, ev_var, kVar_val, ev_bin, kBin1_val, kBin2_val, kD1_val, kD2a_val, kD2_val, ev_neg, negD, ev_prim, ev_prim2, ev_idx, kIdx_val, kNotX_val, kTruX_val, ev_slFrom, ev_slTo, kTup_val, kLst_val, ev_tup, ev_lst, kNot_val, kBool_val, kTru_val, ev_not, evCmp_cons, evCmp_nil, kCmp1_val, kCmp2_nil, kCmp2_true, kCmp2_false, kCmp0_val, ev_cmp, evB_cmp, kCall_val, kDat_val, ev_call, kCons_val, kArgs_val, evArgs_nil, evArgs_cons, kToDat_dat, kEvs_val, evs_nil, evs_cons, ev_and, ev_or, evAnd_one, Out.noX_val, evOr_one, evAnd_cons, evOr_cons, kAnd_true, kAnd_false, kOr_true, kOr_false, kAnd_val, kOr_val, evAll_nil, evAny_nil, evIfs_nil, evAll_cons, evAny_cons, evIfs_cons, kAll_val, kAny_val, kIfs_val, evB_and, evB_or, evB_not, evB_var, evB_call, evB_prim, ev_isinst, evB_isinst, evB_idx, ev_comp, evI_of', kOf_lst, kOf_tup, kOf_str, evI_range1, d1_dat, d2_dat, c2_dat, look_dat, bodyF, List.map_cons, List.map_nil, List.cons_append, List.nil_append, List.append_nil, List.replicate_succ, List.replicate_zero, List.getElem?_cons_zero, List.getElem?_cons_succ, List.set_cons_zero, List.set_cons_succ, List.length_cons, List.length_nil, Nat.sub_self, Nat.zero_add, Nat.reduceAdd, Nat.reduceSub, Nat.add_sub_cancel, if_true, if_false, Bool.false_eq_true, Int.reduceLT, Int.reduceLE, Int.reduceNeg, Int.reduceAdd, Int.reduceSub, Int.reduceMul, Int.reduceToNat, Nat.reduceLT, Nat.reduceLeDiff, and_self, and_true, true_and, decide_true, decide_false, Bool.not_true, Bool.not_false, Option.map_some, Option.bind_some, b_add, b_sub, b_mul1, b_mod, b_fdiv, cmp_eq_int, cmp_eq_bool, cmp_lt, cmp_le, cmp_gt, cmp_ge, Int.reduceGT, gt_iff_lt, ge_iff_le, isTy, h1]
  | false =>
    rw [e1] at h1
    rw [Bool.false_or]
    have bad : exs sub (callF sub tab.Δ n) fn_setters_of.body [some (.dat (.str r))] σ = .exn 3 [some (.dat (.str r))] σ → callF sub tab.Δ (n + 1) 17 [.dat (.str r)] σ = .exn 3 σ := fun h => by
      have := call_raise (sub := sub) (Δ := tab.Δ) (n := n) (f := 17) (fn := fn_setters_of) (args := [.dat (.str r)]) (σ := σ) (σ' := σ) (c := 3) (ρ := [some (.dat (.str r))]) rfl rfl h
      simpa using this
    cases e2 : r.take 6 == [108, 97, 109, 112, 115, 32] with
    | false =>
      rw [e2] at h2
      refine bad ?_
      generalize Dat.str r = X at h1 hto
      simp only [fn_setters_of, exs_nil, exs_cons, kSeq_next, kSeq_ret, ex_assign, kAsg_val, ex_newlst, kNew_val, ex_append, kApp0_ref, kApp_dat, ex_ret, kRet_dat, ex_ite, kIte_true, kIte_false, kIte_val, ex_for1, ev_lit, ev_con, ev_var, kVar_val, ev_bin, kBin1_val, kBin2_val, kD1_val, kD2a_val, kD2_val, ev_neg, negD, ev_prim, ev_prim2, ev_idx, kIdx_val, kNotX_val, kTruX_val, ev_slFrom, ev_slTo, kTup_val, kLst_val, ev_tup, ev_lst, kNot_val, kBool_val, kTru_val, ev_not, evCmp_cons, evCmp_nil, kCmp1_val, kCmp2_nil, kCmp2_true, kCmp2_false, kCmp0_val, ev_cmp, evB_cmp, kCall_val, kDat_val, ev_call, kCons_val, kArgs_val, evArgs_nil, evArgs_cons, kToDat_dat, kEvs_val, evs_nil, evs_cons, ev_and, ev_or, evAnd_one, Out.noX_val, evOr_one, evAnd_cons, evOr_cons, kAnd_true, kAnd_false, kOr_true, kOr_false, kAnd_val, kOr_val, evAll_nil, evAny_nil, evIfs_nil, evAll_cons, evAny_cons, evIfs_cons, kAll_val, kAny_val, kIfs_val, evB_and, evB_or, evB_not, evB_var, evB_call, evB_prim, ev_isinst, evB_isinst, evB_idx, ev_comp, evI_of', kOf_lst, kOf_tup, kOf_str, evI_range1, d1_dat, d2_dat, c2_dat, look_dat, bodyF, List.map_cons, List.map_nil, List.cons_append, List.nil_append, List.append_nil, List.replicate_succ, List.replicate_zero, List.getElem?_cons_zero, List.getElem?_cons_succ, List.set_cons_zero, List.set_cons_succ, List.length_cons, List.length_nil, Nat.sub_self, Nat.zero_add, Nat.reduceAdd, Nat.reduceSub, Nat.add_sub_cancel, if_true, if_false, Bool.false_eq_true, Int.reduceLT, Int.reduceLE, Int.reduceNeg, Int.reduceAdd, Int.reduceSub, Int.reduceMul, Int.reduceToNat, Nat.reduceLT, Nat.reduceLeDiff, and_self, and_true, true_and, decide_true, decide_false, Bool.not_true, Bool.not_false, Option.map_some, Option.bind_some, b_add, b_sub, b_mul1, b_mod, b_fdiv, cmp_eq_int, cmp_eq_bool, cmp_lt, cmp_le, cmp_gt, cmp_ge, Int.reduceGT, gt_iff_lt, ge_iff_le, isTy, h1, hto, h2, ex_raise, kSeq_exn]
    | true =>
      rw [e2] at h2
      rw [Bool.true_and]
      by_cases h3 : 6 < r.length
      · have e3 : (6 : Int) < r.length := by omega
        rw [decide_eq_true h3]
        refine call_ret (fn := fn_setters_of) (σ' := σ) rfl rfl ?_ (by simp)
        generalize Dat.str r = X at h1 hto hln hfr
        simp only [fn_setters_of, exs_nil, exs_cons, kSeq_next, kSeq_ret, ex_assign, kAsg_val, ex_newlst, kNew_val, ex_append, kApp0_ref, kApp_dat, ex_ret, kRet_dat, ex_ite, kIte_true, kIte_false, kIte_val, ex_for1, ev_lit, ev_con, ev_var, kVar_val, ev_bin, kBin1_val, kBin2_val, kD1_val, kD2a_val, kD2_val, ev_neg, negD, ev_prim, ev_prim2, ev_idx, kIdx_val, kNotX_val, kTruX_val, ev_slFrom, ev_slTo, kTup_val, kLst_val, ev_tup, ev_lst, kNot_val, kBool_val, kTru_val, ev_not, evCmp_cons, evCmp_nil, kCmp1_val, kCmp2_nil, kCmp2_true, kCmp2_false, kCmp0_val, ev_cmp, evB_cmp, kCall_val, kDat_val, ev_call, kCons_val, kArgs_val, evArgs_nil, evArgs_cons, kToDat_dat, kEvs_val, evs_nil, evs_cons, ev_and, ev_or, evAnd_one, Out.noX_val, evOr_one, evAnd_cons, evOr_cons, kAnd_true, kAnd_false, kOr_true, kOr_false, kAnd_val, kOr_val, evAll_nil, evAny_nil, evIfs_nil, evAll_cons, evAny_cons, evIfs_cons, kAll_val, kAny_val, kIfs_val, evB_and, evB_or, evB_not, evB_var, evB_call, evB_prim, ev_isinst, evB_isinst, evB_idx, ev_comp, evI_of', kOf_lst, kOf_tup, kOf_str, evI_range1, d1_dat, d2_dat, c2_dat, look_dat, bodyF, List.map_cons, List.map_nil, List.cons_append, List.nil_append, List.append_nil, List.replicate_succ, List.replicate_zero, List.getElem?_cons_zero, List.getElem?_cons_succ, List.set_cons_zero, List.set_cons_succ, List.length_cons, List.length_nil, Nat.sub_self, Nat.zero_add, Nat.reduceAdd, Nat.reduceSub, Nat.add_sub_cancel, if_true, if_false, Bool.false_eq_true, Int.reduceLT, Int.reduceLE, Int.reduceNeg, Int.reduceAdd, Int.reduceSub, Int.reduceMul, Int.reduceToNat, Nat.reduceLT, Nat.reduceLeDiff, and_self, and_true, true_and, decide_true, decide_false, Bool.not_true, Bool.not_false, Option.map_some, Option.bind_some, b_add, b_sub, b_mul1, b_mod, b_fdiv, cmp_eq_int, cmp_eq_bool, cmp_lt, cmp_le, cmp_gt, cmp_ge, Int.reduceGT, gt_iff_lt, ge_iff_le, isTy, h1, hto, h2, hln, e3, hfr]
      · have e3 : ¬ ((6 : Int) < r.length) := by omega
        rw [decide_eq_false h3]
        refine bad ?_
        generalize Dat.str r = X at h1 hto hln
        simp only [fn_setters_of, exs_nil, exs_cons, kSeq_next, kSeq_ret, ex_assign, kAsg_val, ex_newlst, kNew_val, ex_append, kApp0_ref, kApp_dat, ex_ret, kRet_dat, ex_ite, kIte_true, kIte_false, kIte_val, ex_for1, ev_lit, ev_con, ev_var, kVar_val, ev_bin, kBin1_val, kBin2_val, kD1_val, kD2a_val, kD2_val, ev_neg, negD, ev_prim, ev_prim2, ev_idx, kIdx_val, kNotX_val, kTruX_val, ev_slFrom, ev_slTo, kTup_val, kLst_val, ev_tup, ev_lst, kNot_val, kBool_val, kTru_val, ev_not, evCmp_cons, evCmp_nil, kCmp1_val, kCmp2_nil, kCmp2_true, kCmp2_false, kCmp0_val, ev_cmp, evB_cmp, kCall_val, kDat_val, ev_call, kCons_val, kArgs_val, evArgs_nil, evArgs_cons, kToDat_dat, kEvs_val, evs_nil, evs_cons, ev_and, ev_or, evAnd_one, Out.noX_val, evOr_one, evAnd_cons, evOr_cons, kAnd_true, kAnd_false, kOr_true, kOr_false, kAnd_val, kOr_val, evAll_nil, evAny_nil, evIfs_nil, evAll_cons, evAny_cons, evIfs_cons, kAll_val, kAny_val, kIfs_val, evB_and, evB_or, evB_not, evB_var, evB_call, evB_prim, ev_isinst, evB_isinst, evB_idx, ev_comp, evI_of', kOf_lst, kOf_tup, kOf_str, evI_range1, d1_dat, d2_dat, c2_dat, look_dat, bodyF, List.map_cons, List.map_nil, List.cons_append, List.nil_append, List.append_nil, List.replicate_succ, List.replicate_zero, List.getElem?_cons_zero, List.getElem?_cons_succ, List.set_cons_zero, List.set_cons_succ, List.length_cons, List.length_nil, Nat.sub_self, Nat.zero_add, Nat.reduceAdd, Nat.reduceSub, Nat.add_sub_cancel, if_true, if_false, Bool.false_eq_true, Int.reduceLT, Int.reduceLE, Int.reduceNeg, Int.reduceAdd, Int.reduceSub, Int.reduceMul, Int.reduceToNat, Nat.reduceLT, Nat.reduceLeDiff, and_self, and_true, true_and, decide_true, decide_false, Bool.not_true, Bool.not_false, Option.map_some, Option.bind_some, b_add, b_sub, b_mul1, b_mod, b_fdiv, cmp_eq_int, cmp_eq_bool, cmp_lt, cmp_le, cmp_gt, cmp_ge, Int.reduceGT, gt_iff_lt, ge_iff_le, isTy, h1, hto, h2, hln, e3, ex_raise, kSeq_exn]
/-- what stands of a text -/
structure Rows (t r : List Nat) (rs : List (List Nat)) : Prop where
  txt : Txt t
  sp : splitC 10 t = r :: rs
theorem Rows.part {t r : List Nat} {rs : List (List Nat)} (h : Rows t r rs) : ∀ q ∈ r :: rs, Txt q := fun q hq => split_txt h.txt (h.sp ▸ hq)
theorem Rows.len {t r : List Nat} {rs : List (List Nat)} (h : Rows t r rs) : (r :: rs).length ≤ 801 := by
  have h1 := split_len (c := 10) t
  have := h.txt.1
  rw [h.sp] at h1; omega
theorem Rows.small {t r : List Nat} {rs : List (List Nat)} (h : Rows t r rs) : Small (r.drop 6) (rs.map wishV) := by
  have hr := (h.part r (.head _)).drop 6
  have hl := h.len
  refine ⟨by have := hr.1; omega, by simp at hl ⊢; omega, fun w hw => ?_, hr.2⟩
  obtain ⟨q, hq, rfl⟩ := List.mem_map.mp hw
  have h1 := split_len (c := 32) q
  have h2 := (h.part q (.tail _ hq)).1
  unfold wishV
  rw [List.length_map, List.length_tail]
  omega
theorem Rows.spl {t r : List Nat} {rs : List (List Nat)} (h : Rows t r rs) : prim2 .split (.str t) (.str [10]) = some (.lst ((r :: rs).map .str)) ∧ idx2 (.lst ((r :: rs).map .str)) (.int 0) = some (.str r) ∧ slFrom2 (.lst ((r :: rs).map .str)) (.int 1) = some (.lst (rs.map .str)) := by
  have hl := h.len
  have := h.txt.1
  exact ⟨h.sp ▸ d_split (by omega), idx_lst _ 0 _ (by rw [List.length_map]; omega) (by decide) rfl, (fr_lst (by rw [List.length_map]; omega) (by decide)).trans rfl⟩
/-! read -/
noncomputable def okT (r : List Nat) (rs : List (List Nat)) : Bool := okH r && rs.all okW
theorem c_read {n : Nat} {t r : List Nat} {rs : List (List Nat)} {σ : Sto} (h : Rows t r rs) :
    (okT r rs = false → callF sub tab.Δ (n + 4) 19 [.dat (.str t)] σ = .exn 3 σ) ∧
    (okT r rs = true → (goodG (r.drop 6) (rs.map wishV) → callF sub tab.Δ (n + 4) 19 [.dat (.str t)] σ = .val (.tup [.str (r.drop 6), wsD (rs.map wishV)]) σ) ∧
      (¬ goodG (r.drop 6) (rs.map wishV) → ∃ σ', callF sub tab.Δ (n + 4) 19 [.dat (.str t)] σ = .exn 1 σ')) := by
  obtain ⟨hpl, hid, hfr⟩ := h.spl
  have hse := c_setters_of (sub := sub) (n := n + 2) (σ := σ) (h.part r (.head _))
  have hco := fun S => kComp_try (sub := sub) (C := callF sub tab.Δ (n + 3)) (x := 4) (f := 18) (as := .cons (.var 4) .nil) (ρ := [some (.dat (.str t)), some (.dat (.lst ((r :: rs).map .str))), some (.dat (.str S)), none, none]) (σ := σ) (em := .str) okW (fun w => wD (wishV w)) 3 (l := rs) (by have := h.len; simp at this; omega) fun w hw => by
    have := c_wish_of (sub := sub) (n := n + 1) (σ := σ) (h.part w (.tail _ hw))
    cases hb : okW w <;> rw [hb] at this <;> simp only [exs_nil, exs_cons, kSeq_next, kSeq_ret, ex_assign, kAsg_val, ex_newlst, kNew_val, ex_append, kApp0_ref, kApp_dat, ex_ret, kRet_dat, ex_ite, kIte_true, kIte_false, kIte_val, ex_for1, ev_lit, ev_con, ev_var, kVar_val, ev_bin, kBin1_val, kBin2_val, kD1_val, kD2a_val, kD2_val, ev_neg, negD, ev_prim, ev_prim2, ev_idx, kIdx_val, kNotX_val, kTruX_val, ev_slFrom, ev_slTo, kTup_val, kLst_val, ev_tup, ev_lst, kNot_val, kBool_val, kTru_val, ev_not, evCmp_cons, evCmp_nil, kCmp1_val, kCmp2_nil, kCmp2_true, kCmp2_false, kCmp0_val, ev_cmp, evB_cmp, kCall_val, kDat_val, ev_call, kCons_val, kArgs_val, evArgs_nil, evArgs_cons, kToDat_dat, kEvs_val, evs_nil, evs_cons, ev_and, ev_or, evAnd_one, Out.noX_val, evOr_one, evAnd_cons, evOr_cons, kAnd_true, kAnd_false, kOr_true, kOr_false, kAnd_val, kOr_val, evAll_nil, evAny_nil, evIfs_nil, evAll_cons, evAny_cons, evIfs_cons, kAll_val, kAny_val, kIfs_val, evB_and, evB_or, evB_not, evB_var, evB_call, evB_prim, ev_isinst, evB_isinst, evB_idx, ev_comp, evI_of', kOf_lst, kOf_tup, kOf_str, evI_range1, d1_dat, d2_dat, c2_dat, look_dat, bodyF, List.map_cons, List.map_nil, List.cons_append, List.nil_append, List.append_nil, List.replicate_succ, List.replicate_zero, List.getElem?_cons_zero, List.getElem?_cons_succ, List.set_cons_zero, List.set_cons_succ, List.length_cons, List.length_nil, Nat.sub_self, Nat.zero_add, Nat.reduceAdd, Nat.reduceSub, Nat.add_sub_cancel, if_true, if_false, Bool.false_eq_true, Int.reduceLT, Int.reduceLE, Int.reduceNeg, Int.reduceAdd, Int.reduceSub, Int.reduceMul, Int.reduceToNat, Nat.reduceLT, Nat.reduceLeDiff, and_self, and_true, true_and, decide_true, decide_false, Bool.not_true, Bool.not_false, Option.map_some, Option.bind_some, b_add, b_sub, b_mul1, b_mod, b_fdiv, cmp_eq_int, cmp_eq_bool, cmp_lt, cmp_le, cmp_gt, cmp_ge, Int.reduceGT, gt_iff_lt, ge_iff_le, isTy, this, kDat_exn]
  have hof : ∀ τ : Sto, kOf (.val (.dat (.lst (rs.map .str))) τ) = .val ⟨rs.map .str, none⟩ τ := fun _ => rfl
  have hws : Dat.lst (rs.map fun w => wD (wishV w)) = wsD (rs.map wishV) := by simp [wsD]
  have rz : ∀ {c : Nat} {ρ : Loc} {σ' : Sto}, exs sub (callF sub tab.Δ (n + 3)) t_read_0 [some (.dat (.str t)), none, none, none, none] σ = .exn c ρ σ' → callF sub tab.Δ (n + 4) 19 [.dat (.str t)] σ = .exn c (σ'.take σ.length) := fun {c ρ σ'} e => call_raise (fn := fn_read) rfl rfl e
  unfold okT
  cases hH : okH r with
  | false =>
    rw [hH] at hse
    refine ⟨fun _ => ?_, fun q => by cases q⟩
    have := rz (c := 3) (ρ := [some (.dat (.str t)), some (.dat (.lst ((r :: rs).map .str))), none, none, none]) (σ' := σ) (by
      generalize Dat.lst ((r :: rs).map .str) = X at hpl hid
      simp only [t_read_0, t_read_1, exs_nil, exs_cons, kSeq_next, kSeq_ret, ex_assign, kAsg_val, ex_newlst, kNew_val, ex_append, kApp0_ref, kApp_dat, ex_ret, kRet_dat, ex_ite, kIte_true, kIte_false, kIte_val, ex_for1, ev_lit, ev_con, ev_var, kVar_val, ev_bin, kBin1_val, kBin2_val, kD1_val, kD2a_val, kD2_val, ev_neg, negD, ev_prim, ev_prim2, ev_idx, kIdx_val, kNotX_val, kTruX_val, ev_slFrom, ev_slTo, kTup_val, kLst_val, ev_tup, ev_lst, kNot_val, kBool_val, kTru_val, ev_not, evCmp_cons, evCmp_nil, kCmp1_val, kCmp2_nil, kCmp2_true, kCmp2_false, kCmp0_val, ev_cmp, evB_cmp, kCall_val, kDat_val, ev_call, kCons_val, kArgs_val, evArgs_nil, evArgs_cons, kToDat_dat, kEvs_val, evs_nil, evs_cons, ev_and, ev_or, evAnd_one, Out.noX_val, evOr_one, evAnd_cons, evOr_cons, kAnd_true, kAnd_false, kOr_true, kOr_false, kAnd_val, kOr_val, evAll_nil, evAny_nil, evIfs_nil, evAll_cons, evAny_cons, evIfs_cons, kAll_val, kAny_val, kIfs_val, evB_and, evB_or, evB_not, evB_var, evB_call, evB_prim, ev_isinst, evB_isinst, evB_idx, ev_comp, evI_of', kOf_lst, kOf_tup, kOf_str, evI_range1, d1_dat, d2_dat, c2_dat, look_dat, bodyF, List.map_cons, List.map_nil, List.cons_append, List.nil_append, List.append_nil, List.replicate_succ, List.replicate_zero, List.getElem?_cons_zero, List.getElem?_cons_succ, List.set_cons_zero, List.set_cons_succ, List.length_cons, List.length_nil, Nat.sub_self, Nat.zero_add, Nat.reduceAdd, Nat.reduceSub, Nat.add_sub_cancel, if_true, if_false, Bool.false_eq_true, Int.reduceLT, Int.reduceLE, Int.reduceNeg, Int.reduceAdd, Int.reduceSub, Int.reduceMul, Int.reduceToNat, Nat.reduceLT, Nat.reduceLeDiff, and_self, and_true, true_and, decide_true, decide_false, Bool.not_true, Bool.not_false, Option.map_some, Option.bind_some, b_add, b_sub, b_mul1, b_mod, b_fdiv, cmp_eq_int, cmp_eq_bool, cmp_lt, cmp_le, cmp_gt, cmp_ge, Int.reduceGT, gt_iff_lt, ge_iff_le, isTy, hpl, hid, hse, kDat_exn, kAsg_exn, kSeq_exn])
    simpa using this
  | true =>
    rw [hH] at hse
    replace hco := hco (r.drop 6)
    cases hW : rs.all okW with
    | false =>
      rw [hW] at hco
      refine ⟨fun _ => ?_, fun q => by cases q⟩
      have := rz (c := 3) (ρ := [some (.dat (.str t)), some (.dat (.lst ((r :: rs).map .str))), some (.dat (.str (r.drop 6))), none, none]) (σ' := σ) (by
        generalize Dat.lst ((r :: rs).map .str) = X at hpl hid hfr hco
        generalize Dat.lst (rs.map .str) = Y at hfr hof
        simp only [t_read_0, t_read_1, t_read_2, exs_nil, exs_cons, kSeq_next, kSeq_ret, ex_assign, kAsg_val, ex_newlst, kNew_val, ex_append, kApp0_ref, kApp_dat, ex_ret, kRet_dat, ex_ite, kIte_true, kIte_false, kIte_val, ex_for1, ev_lit, ev_con, ev_var, kVar_val, ev_bin, kBin1_val, kBin2_val, kD1_val, kD2a_val, kD2_val, ev_neg, negD, ev_prim, ev_prim2, ev_idx, kIdx_val, kNotX_val, kTruX_val, ev_slFrom, ev_slTo, kTup_val, kLst_val, ev_tup, ev_lst, kNot_val, kBool_val, kTru_val, ev_not, evCmp_cons, evCmp_nil, kCmp1_val, kCmp2_nil, kCmp2_true, kCmp2_false, kCmp0_val, ev_cmp, evB_cmp, kCall_val, kDat_val, ev_call, kCons_val, kArgs_val, evArgs_nil, evArgs_cons, kToDat_dat, kEvs_val, evs_nil, evs_cons, ev_and, ev_or, evAnd_one, Out.noX_val, evOr_one, evAnd_cons, evOr_cons, kAnd_true, kAnd_false, kOr_true, kOr_false, kAnd_val, kOr_val, evAll_nil, evAny_nil, evIfs_nil, evAll_cons, evAny_cons, evIfs_cons, kAll_val, kAny_val, kIfs_val, evB_and, evB_or, evB_not, evB_var, evB_call, evB_prim, ev_isinst, evB_isinst, evB_idx, ev_comp, evI_of', kOf_lst, kOf_tup, kOf_str, evI_range1, d1_dat, d2_dat, c2_dat, look_dat, bodyF, List.map_cons, List.map_nil, List.cons_append, List.nil_append, List.append_nil, List.replicate_succ, List.replicate_zero, List.getElem?_cons_zero, List.getElem?_cons_succ, List.set_cons_zero, List.set_cons_succ, List.length_cons, List.length_nil, Nat.sub_self, Nat.zero_add, Nat.reduceAdd, Nat.reduceSub, Nat.add_sub_cancel, if_true, if_false, Bool.false_eq_true, Int.reduceLT, Int.reduceLE, Int.reduceNeg, Int.reduceAdd, Int.reduceSub, Int.reduceMul, Int.reduceToNat, Nat.reduceLT, Nat.reduceLeDiff, and_self, and_true, true_and, decide_true, decide_false, Bool.not_true, Bool.not_false, Option.map_some, Option.bind_some, b_add, b_sub, b_mul1, b_mod, b_fdiv, cmp_eq_int, cmp_eq_bool, cmp_lt, cmp_le, cmp_gt, cmp_ge, Int.reduceGT, gt_iff_lt, ge_iff_le, isTy, hpl, hid, hse, hfr, hof, hco, kAsg_exn, kSeq_exn])
      simpa using this
    | true =>
      rw [hW, hws] at hco
      refine ⟨fun q => (by cases q), fun _ => ?_⟩
      obtain ⟨g1, g2⟩ := c_check (sub := sub) (n := n + 2) (σ := σ) h.small
      have dr : ev sub (callF sub tab.Δ (n + 3)) (.call 11 (.cons (.var 2) (.cons (.var 3) .nil))) [some (.dat (.str t)), some (.dat (.lst ((r :: rs).map .str))), some (.dat (.str (r.drop 6))), some (.dat (wsD (rs.map wishV))), none] σ = kDat (callF sub tab.Δ (n + 3) 11 [.dat (.str (r.drop 6)), .dat (wsD (rs.map wishV))] σ) := by
        generalize Dat.lst ((r :: rs).map .str) = X
        generalize wsD (rs.map wishV) = Z
        simp only [exs_nil, exs_cons, kSeq_next, kSeq_ret, ex_assign, kAsg_val, ex_newlst, kNew_val, ex_append, kApp0_ref, kApp_dat, ex_ret, kRet_dat, ex_ite, kIte_true, kIte_false, kIte_val, ex_for1, ev_lit, ev_con, ev_var, kVar_val, ev_bin, kBin1_val, kBin2_val, kD1_val, kD2a_val, kD2_val, ev_neg, negD, ev_prim, ev_prim2, ev_idx, kIdx_val, kNotX_val, kTruX_val, ev_slFrom, ev_slTo, kTup_val, kLst_val, ev_tup, ev_lst, kNot_val, kBool_val, kTru_val, ev_not, evCmp_cons, evCmp_nil, kCmp1_val, kCmp2_nil, kCmp2_true, kCmp2_false, kCmp0_val, ev_cmp, evB_cmp, kCall_val, kDat_val, ev_call, kCons_val, kArgs_val, evArgs_nil, evArgs_cons, kToDat_dat, kEvs_val, evs_nil, evs_cons, ev_and, ev_or, evAnd_one, Out.noX_val, evOr_one, evAnd_cons, evOr_cons, kAnd_true, kAnd_false, kOr_true, kOr_false, kAnd_val, kOr_val, evAll_nil, evAny_nil, evIfs_nil, evAll_cons, evAny_cons, evIfs_cons, kAll_val, kAny_val, kIfs_val, evB_and, evB_or, evB_not, evB_var, evB_call, evB_prim, ev_isinst, evB_isinst, evB_idx, ev_comp, evI_of', kOf_lst, kOf_tup, kOf_str, evI_range1, d1_dat, d2_dat, c2_dat, look_dat, bodyF, List.map_cons, List.map_nil, List.cons_append, List.nil_append, List.append_nil, List.replicate_succ, List.replicate_zero, List.getElem?_cons_zero, List.getElem?_cons_succ, List.set_cons_zero, List.set_cons_succ, List.length_cons, List.length_nil, Nat.sub_self, Nat.zero_add, Nat.reduceAdd, Nat.reduceSub, Nat.add_sub_cancel, if_true, if_false, Bool.false_eq_true, Int.reduceLT, Int.reduceLE, Int.reduceNeg, Int.reduceAdd, Int.reduceSub, Int.reduceMul, Int.reduceToNat, Nat.reduceLT, Nat.reduceLeDiff, and_self, and_true, true_and, decide_true, decide_false, Bool.not_true, Bool.not_false, Option.map_some, Option.bind_some, b_add, b_sub, b_mul1, b_mod, b_fdiv, cmp_eq_int, cmp_eq_bool, cmp_lt, cmp_le, cmp_gt, cmp_ge, Int.reduceGT, gt_iff_lt, ge_iff_le, isTy]
      refine ⟨fun hg => ?_, fun hg => ?_⟩
      · rw [g1 hg] at dr
        have dv := drop_val dr
        refine call_ret (fn := fn_read) (σ' := σ) rfl rfl ?_ (by simp)
        show exs sub (callF sub tab.Δ (n + 3)) t_read_0 [some (.dat (.str t)), none, none, none, none] σ = _
        generalize Dat.lst ((r :: rs).map .str) = X at hpl hid hfr hco dv
        generalize Dat.lst (rs.map .str) = Y at hfr hof
        generalize wsD (rs.map wishV) = Z at hco dv ⊢
        simp only [t_read_0, t_read_1, t_read_2, t_read_3, t_read_4, exs_nil, exs_cons, kSeq_next, kSeq_ret, ex_assign, kAsg_val, ex_newlst, kNew_val, ex_append, kApp0_ref, kApp_dat, ex_ret, kRet_dat, ex_ite, kIte_true, kIte_false, kIte_val, ex_for1, ev_lit, ev_con, ev_var, kVar_val, ev_bin, kBin1_val, kBin2_val, kD1_val, kD2a_val, kD2_val, ev_neg, negD, ev_prim, ev_prim2, ev_idx, kIdx_val, kNotX_val, kTruX_val, ev_slFrom, ev_slTo, kTup_val, kLst_val, ev_tup, ev_lst, kNot_val, kBool_val, kTru_val, ev_not, evCmp_cons, evCmp_nil, kCmp1_val, kCmp2_nil, kCmp2_true, kCmp2_false, kCmp0_val, ev_cmp, evB_cmp, kCall_val, kDat_val, ev_call, kCons_val, kArgs_val, evArgs_nil, evArgs_cons, kToDat_dat, kEvs_val, evs_nil, evs_cons, ev_and, ev_or, evAnd_one, Out.noX_val, evOr_one, evAnd_cons, evOr_cons, kAnd_true, kAnd_false, kOr_true, kOr_false, kAnd_val, kOr_val, evAll_nil, evAny_nil, evIfs_nil, evAll_cons, evAny_cons, evIfs_cons, kAll_val, kAny_val, kIfs_val, evB_and, evB_or, evB_not, evB_var, evB_call, evB_prim, ev_isinst, evB_isinst, evB_idx, ev_comp, evI_of', kOf_lst, kOf_tup, kOf_str, evI_range1, d1_dat, d2_dat, c2_dat, look_dat, bodyF, List.map_cons, List.map_nil, List.cons_append, List.nil_append, List.append_nil, List.replicate_succ, List.replicate_zero, List.getElem?_cons_zero, List.getElem?_cons_succ, List.set_cons_zero, List.set_cons_succ, List.length_cons, List.length_nil, Nat.sub_self, Nat.zero_add, Nat.reduceAdd, Nat.reduceSub, Nat.add_sub_cancel, if_true, if_false, Bool.false_eq_true, Int.reduceLT, Int.reduceLE, Int.reduceNeg, Int.reduceAdd, Int.reduceSub, Int.reduceMul, Int.reduceToNat, Nat.reduceLT, Nat.reduceLeDiff, and_self, and_true, true_and, decide_true, decide_false, Bool.not_true, Bool.not_false, Option.map_some, Option.bind_some, b_add, b_sub, b_mul1, b_mod, b_fdiv, cmp_eq_int, cmp_eq_bool, cmp_lt, cmp_le, cmp_gt, cmp_ge, Int.reduceGT, gt_iff_lt, ge_iff_le, isTy, hpl, hid, hse, hfr, hof, hco, dv]
      · obtain ⟨σ', hx⟩ := g2 hg
        rw [hx] at dr
        have dv := drop_exn dr
        refine ⟨_, rz (c := 1) (σ' := σ') (ρ := [some (.dat (.str t)), some (.dat (.lst ((r :: rs).map .str))), some (.dat (.str (r.drop 6))), some (.dat (wsD (rs.map wishV))), none]) ?_⟩
        generalize Dat.lst ((r :: rs).map .str) = X at hpl hid hfr hco dv
        generalize Dat.lst (rs.map .str) = Y at hfr hof
        generalize wsD (rs.map wishV) = Z at hco dv ⊢
        simp only [t_read_0, t_read_1, t_read_2, t_read_3, exs_nil, exs_cons, kSeq_next, kSeq_ret, ex_assign, kAsg_val, ex_newlst, kNew_val, ex_append, kApp0_ref, kApp_dat, ex_ret, kRet_dat, ex_ite, kIte_true, kIte_false, kIte_val, ex_for1, ev_lit, ev_con, ev_var, kVar_val, ev_bin, kBin1_val, kBin2_val, kD1_val, kD2a_val, kD2_val, ev_neg, negD, ev_prim, ev_prim2, ev_idx, kIdx_val, kNotX_val, kTruX_val, ev_slFrom, ev_slTo, kTup_val, kLst_val, ev_tup, ev_lst, kNot_val, kBool_val, kTru_val, ev_not, evCmp_cons, evCmp_nil, kCmp1_val, kCmp2_nil, kCmp2_true, kCmp2_false, kCmp0_val, ev_cmp, evB_cmp, kCall_val, kDat_val, ev_call, kCons_val, kArgs_val, evArgs_nil, evArgs_cons, kToDat_dat, kEvs_val, evs_nil, evs_cons, ev_and, ev_or, evAnd_one, Out.noX_val, evOr_one, evAnd_cons, evOr_cons, kAnd_true, kAnd_false, kOr_true, kOr_false, kAnd_val, kOr_val, evAll_nil, evAny_nil, evIfs_nil, evAll_cons, evAny_cons, evIfs_cons, kAll_val, kAny_val, kIfs_val, evB_and, evB_or, evB_not, evB_var, evB_call, evB_prim, ev_isinst, evB_isinst, evB_idx, ev_comp, evI_of', kOf_lst, kOf_tup, kOf_str, evI_range1, d1_dat, d2_dat, c2_dat, look_dat, bodyF, List.map_cons, List.map_nil, List.cons_append, List.nil_append, List.append_nil, List.replicate_succ, List.replicate_zero, List.getElem?_cons_zero, List.getElem?_cons_succ, List.set_cons_zero, List.set_cons_succ, List.length_cons, List.length_nil, Nat.sub_self, Nat.zero_add, Nat.reduceAdd, Nat.reduceSub, Nat.add_sub_cancel, if_true, if_false, Bool.false_eq_true, Int.reduceLT, Int.reduceLE, Int.reduceNeg, Int.reduceAdd, Int.reduceSub, Int.reduceMul, Int.reduceToNat, Nat.reduceLT, Nat.reduceLeDiff, and_self, and_true, true_and, decide_true, decide_false, Bool.not_true, Bool.not_false, Option.map_some, Option.bind_some, b_add, b_sub, b_mul1, b_mod, b_fdiv, cmp_eq_int, cmp_eq_bool, cmp_lt, cmp_le, cmp_gt, cmp_ge, Int.reduceGT, gt_iff_lt, ge_iff_le, isTy, hpl, hid, hse, hfr, hof, hco, dv, kSeq_exn]
end
end Mine

/-! ## PVF07 -/
namespace Mine
section
variable {sub : Nat → Nat → Bool}
/-! the law's own reading -/
noncomputable def oW (row : List Nat) : Dat := if okW row then wD (wishV row) else .none
theorem none_in : ∀ rs : List (List Nat), inDs .none (rs.map oW) = some (!(rs.all okW))
  | [] => rfl
  | r :: rs => by
    rw [List.map_cons, inDs, List.all_cons]
    unfold oW
    cases hb : okW r with
    | true => simp only [if_true, wD, eqD, Bool.true_and]; exact none_in rs
    | false => rfl
theorem ok_wishes : ∀ rs : List (List Nat), fineDs (rs.map oW) = true ∧ depthDs (rs.map oW) ≤ 1
  | [] => ⟨rfl, Nat.zero_le _⟩
  | r :: rs => by
    obtain ⟨h1, h2⟩ := ok_wishes rs
    have h3 : fineD (oW r) = true ∧ depthD (oW r) ≤ 1 := by
      unfold oW
      cases okW r with
      | true => simp [wD, fineD, depthD, fine_ints, depth_ints]
      | false => exact ⟨rfl, Nat.zero_le _⟩
    simp only [List.map_cons, fineDs, depthDs, h1, h3.1, Bool.and_self, true_and]
    exact Nat.max_le.mpr ⟨h3.2, h2⟩
theorem oW_all {rs : List (List Nat)} (h : rs.all okW = true) : rs.map oW = (rs.map wishV).map wD := by
  rw [List.map_map]
  refine List.map_congr_left fun r hr => ?_
  simp [oW, List.all_eq_true.mp h r hr]
theorem c_game {n : Nat} {t r : List Nat} {rs : List (List Nat)} {σ : Sto} (h : Rows t r rs) : callF sub tab.Δ (n + 3) 108 [.dat (.str t)] σ = .val (if okT r rs then .tup [.str (r.drop 6), wsD (rs.map wishV)] else .none) σ := by
  obtain ⟨hpl, hid, hfr⟩ := h.spl
  have hr := h.part r (.head _)
  have h1 := ne_str hr.2 (show Low [108, 97, 109, 112, 115] by decide)
  have h2 := ne_str (hr.take 6).2 (show Low [108, 97, 109, 112, 115, 32] by decide)
  have h3 := eq_str hr.2 (show Low [108, 97, 109, 112, 115, 32] by decide)
  have hto := to_str (t := r) (k := 6) (by have := hr.1; omega) (by decide)
  have hfs := fr_str (t := r) (k := 6) (by have := hr.1; omega) (by decide)
  have hco := kComp_map (sub := sub) (C := callF sub tab.Δ (n + 2)) (x := 3) (elt := .call 107 (.cons (.var 3) .nil)) (ρ := [some (.dat (.str t)), some (.dat (.lst ((r :: rs).map .str))), none, none]) (σ := σ) (em := .str) oW (l := rs) (by have := h.len; simp at this; omega) fun w hw => by
    have := c_l_wish (sub := sub) (n := n) (σ := σ) (h.part w (.tail _ hw))
    simp only [exs_nil, exs_cons, kSeq_next, kSeq_ret, ex_assign, kAsg_val, ex_newlst, kNew_val, ex_append, kApp0_ref, kApp_dat, ex_ret, kRet_dat, ex_ite, kIte_true, kIte_false, kIte_val, ex_for1, ev_lit, ev_con, ev_var, kVar_val, ev_bin, kBin1_val, kBin2_val, kD1_val, kD2a_val, kD2_val, ev_neg, negD, ev_prim, ev_prim2, ev_idx, kIdx_val, kNotX_val, kTruX_val, ev_slFrom, ev_slTo, kTup_val, kLst_val, ev_tup, ev_lst, kNot_val, kBool_val, kTru_val, ev_not, evCmp_cons, evCmp_nil, kCmp1_val, kCmp2_nil, kCmp2_true, kCmp2_false, kCmp0_val, ev_cmp, evB_cmp, kCall_val, kDat_val, ev_call, kCons_val, kArgs_val, evArgs_nil, evArgs_cons, kToDat_dat, kEvs_val, evs_nil, evs_cons, ev_and, ev_or, evAnd_one, Out.noX_val, evOr_one, evAnd_cons, evOr_cons, kAnd_true, kAnd_false, kOr_true, kOr_false, kAnd_val, kOr_val, evAll_nil, evAny_nil, evIfs_nil, evAll_cons, evAny_cons, evIfs_cons, kAll_val, kAny_val, kIfs_val, evB_and, evB_or, evB_not, evB_var, evB_call, evB_prim, ev_isinst, evB_isinst, evB_idx, ev_comp, evI_of', kOf_lst, kOf_tup, kOf_str, evI_range1, d1_dat, d2_dat, c2_dat, look_dat, bodyF, List.map_cons, List.map_nil, List.cons_append, List.nil_append, List.append_nil, List.replicate_succ, List.replicate_zero, List.getElem?_cons_zero, List.getElem?_cons_succ, List.set_cons_zero, List.set_cons_succ, List.length_cons, List.length_nil, Nat.sub_self, Nat.zero_add, Nat.reduceAdd, Nat.reduceSub, Nat.add_sub_cancel, if_true, if_false, Bool.false_eq_true, Int.reduceLT, Int.reduceLE, Int.reduceNeg, Int.reduceAdd, Int.reduceSub, Int.reduceMul, Int.reduceToNat, Nat.reduceLT, Nat.reduceLeDiff, and_self, and_true, true_and, decide_true, decide_false, Bool.not_true, Bool.not_false, Option.map_some, Option.bind_some, b_add, b_sub, b_mul1, b_mod, b_fdiv, cmp_eq_int, cmp_eq_bool, cmp_lt, cmp_le, cmp_gt, cmp_ge, Int.reduceGT, gt_iff_lt, ge_iff_le, isTy, this]; rfl
  have hof : ∀ τ : Sto, kOf (.val (.dat (.lst (rs.map .str))) τ) = .val ⟨rs.map .str, none⟩ τ := fun _ => rfl
  have hin : cmp2 .isin .none (.lst (rs.map oW)) = some (!(rs.all okW)) := by
    have hk : okD (.lst (rs.map oW)) = true := by
      obtain ⟨k1, k2⟩ := ok_wishes rs
      simp only [okD, fineD, depthD, k1, Bool.true_and]
      exact decide_eq_true (Nat.le_trans (Nat.add_le_add_right k2 1) (by decide))
    simp only [cmp2, inD, hk, show okD .none = true from rfl, Bool.and_self, if_true, none_in]
  refine call_ret (fn := fn_l_game) (σ' := σ) rfl rfl ?_ (by simp)
  show exs sub (callF sub tab.Δ (n + 2)) t_l_game_0 [some (.dat (.str t)), none, none, none] σ = _
  have tail : exs sub (callF sub tab.Δ (n + 2)) t_l_game_2 [some (.dat (.str t)), some (.dat (.lst ((r :: rs).map .str))), none, none] σ = .ret (if rs.all okW then .tup [.str (r.drop 6), wsD (rs.map wishV)] else .none) σ := by
    cases hA : rs.all okW with
    | true =>
      rw [hA] at hin
      rw [oW_all hA] at hin hco
      generalize Dat.lst ((r :: rs).map .str) = X at hid hfr hco
      generalize Dat.lst (rs.map .str) = Y at hfr hof
      show _ = SOut.ret (.tup [.str (r.drop 6), .lst ((rs.map wishV).map wD)]) σ
      generalize Dat.lst ((rs.map wishV).map wD) = Z at hin hco ⊢
      simp only [t_l_game_2, t_l_game_3, t_l_game_4, exs_nil, exs_cons, kSeq_next, kSeq_ret, ex_assign, kAsg_val, ex_newlst, kNew_val, ex_append, kApp0_ref, kApp_dat, ex_ret, kRet_dat, ex_ite, kIte_true, kIte_false, kIte_val, ex_for1, ev_lit, ev_con, ev_var, kVar_val, ev_bin, kBin1_val, kBin2_val, kD1_val, kD2a_val, kD2_val, ev_neg, negD, ev_prim, ev_prim2, ev_idx, kIdx_val, kNotX_val, kTruX_val, ev_slFrom, ev_slTo, kTup_val, kLst_val, ev_tup, ev_lst, kNot_val, kBool_val, kTru_val, ev_not, evCmp_cons, evCmp_nil, kCmp1_val, kCmp2_nil, kCmp2_true, kCmp2_false, kCmp0_val, ev_cmp, evB_cmp, kCall_val, kDat_val, ev_call, kCons_val, kArgs_val, evArgs_nil, evArgs_cons, kToDat_dat, kEvs_val, evs_nil, evs_cons, ev_and, ev_or, evAnd_one, Out.noX_val, evOr_one, evAnd_cons, evOr_cons, kAnd_true, kAnd_false, kOr_true, kOr_false, kAnd_val, kOr_val, evAll_nil, evAny_nil, evIfs_nil, evAll_cons, evAny_cons, evIfs_cons, kAll_val, kAny_val, kIfs_val, evB_and, evB_or, evB_not, evB_var, evB_call, evB_prim, ev_isinst, evB_isinst, evB_idx, ev_comp, evI_of', kOf_lst, kOf_tup, kOf_str, evI_range1, d1_dat, d2_dat, c2_dat, look_dat, bodyF, List.map_cons, List.map_nil, List.cons_append, List.nil_append, List.append_nil, List.replicate_succ, List.replicate_zero, List.getElem?_cons_zero, List.getElem?_cons_succ, List.set_cons_zero, List.set_cons_succ, List.length_cons, List.length_nil, Nat.sub_self, Nat.zero_add, Nat.reduceAdd, Nat.reduceSub, Nat.add_sub_cancel, if_true, if_false, Bool.false_eq_true, Int.reduceLT, Int.reduceLE, Int.reduceNeg, Int.reduceAdd, Int.reduceSub, Int.reduceMul, Int.reduceToNat, Nat.reduceLT, Nat.reduceLeDiff, and_self, and_true, true_and, decide_true, decide_false, Bool.not_true, Bool.not_false, Option.map_some, Option.bind_some, b_add, b_sub, b_mul1, b_mod, b_fdiv, cmp_eq_int, cmp_eq_bool, cmp_lt, cmp_le, cmp_gt, cmp_ge, Int.reduceGT, gt_iff_lt, ge_iff_le, isTy, hfr, hof, hco, hin, hid, hfs]
    | false =>
      rw [hA] at hin
      generalize Dat.lst ((r :: rs).map .str) = X at hid hfr hco
      generalize Dat.lst (rs.map .str) = Y at hfr hof
      generalize Dat.lst (rs.map oW) = Z at hin hco ⊢
      simp only [t_l_game_2, t_l_game_3, exs_nil, exs_cons, kSeq_next, kSeq_ret, ex_assign, kAsg_val, ex_newlst, kNew_val, ex_append, kApp0_ref, kApp_dat, ex_ret, kRet_dat, ex_ite, kIte_true, kIte_false, kIte_val, ex_for1, ev_lit, ev_con, ev_var, kVar_val, ev_bin, kBin1_val, kBin2_val, kD1_val, kD2a_val, kD2_val, ev_neg, negD, ev_prim, ev_prim2, ev_idx, kIdx_val, kNotX_val, kTruX_val, ev_slFrom, ev_slTo, kTup_val, kLst_val, ev_tup, ev_lst, kNot_val, kBool_val, kTru_val, ev_not, evCmp_cons, evCmp_nil, kCmp1_val, kCmp2_nil, kCmp2_true, kCmp2_false, kCmp0_val, ev_cmp, evB_cmp, kCall_val, kDat_val, ev_call, kCons_val, kArgs_val, evArgs_nil, evArgs_cons, kToDat_dat, kEvs_val, evs_nil, evs_cons, ev_and, ev_or, evAnd_one, Out.noX_val, evOr_one, evAnd_cons, evOr_cons, kAnd_true, kAnd_false, kOr_true, kOr_false, kAnd_val, kOr_val, evAll_nil, evAny_nil, evIfs_nil, evAll_cons, evAny_cons, evIfs_cons, kAll_val, kAny_val, kIfs_val, evB_and, evB_or, evB_not, evB_var, evB_call, evB_prim, ev_isinst, evB_isinst, evB_idx, ev_comp, evI_of', kOf_lst, kOf_tup, kOf_str, evI_range1, d1_dat, d2_dat, c2_dat, look_dat, bodyF, List.map_cons, List.map_nil, List.cons_append, List.nil_append, List.append_nil, List.replicate_succ, List.replicate_zero, List.getElem?_cons_zero, List.getElem?_cons_succ, List.set_cons_zero, List.set_cons_succ, List.length_cons, List.length_nil, Nat.sub_self, Nat.zero_add, Nat.reduceAdd, Nat.reduceSub, Nat.add_sub_cancel, if_true, if_false, Bool.false_eq_true, Int.reduceLT, Int.reduceLE, Int.reduceNeg, Int.reduceAdd, Int.reduceSub, Int.reduceMul, Int.reduceToNat, Nat.reduceLT, Nat.reduceLeDiff, and_self, and_true, true_and, decide_true, decide_false, Bool.not_true, Bool.not_false, Option.map_some, Option.bind_some, b_add, b_sub, b_mul1, b_mod, b_fdiv, cmp_eq_int, cmp_eq_bool, cmp_lt, cmp_le, cmp_gt, cmp_ge, Int.reduceGT, gt_iff_lt, ge_iff_le, isTy, hfr, hof, hco, hin]
  unfold okT okH
  cases e1 : r == [108, 97, 109, 112, 115] with
  | true =>
    rw [e1] at h1
    rw [Bool.true_or, Bool.true_and, ← tail]
    generalize Dat.lst ((r :: rs).map .str) = X at hpl hid
    simp only [t_l_game_0, t_l_game_1, exs_nil, exs_cons, kSeq_next, kSeq_ret, ex_assign, kAsg_val, ex_newlst, kNew_val, ex_append, kApp0_ref, kApp_dat, ex_ret, kRet_dat, ex_ite, kIte_true, kIte_false, kIte_val, ex_for1, ev_lit, ev_con, ev_var, kVar_val, ev_bin, kBin1_val, kBin2_val, kD1_val, kD2a_val, kD2_val, ev_neg, negD, ev_prim, ev_prim2, ev_idx, kIdx_val, kNotX_val, kTruX_val, ev_slFrom, ev_slTo, kTup_val, kLst_val, ev_tup, ev_lst, kNot_val, kBool_val, kTru_val, ev_not, evCmp_cons, evCmp_nil, kCmp1_val, kCmp2_nil, kCmp2_true, kCmp2_false, kCmp0_val, ev_cmp, evB_cmp, kCall_val, kDat_val, ev_call, kCons_val, kArgs_val, evArgs_nil, evArgs_cons, kToDat_dat, kEvs_val, evs_nil, evs_cons, ev_and, ev_or, evAnd_one, Out.noX_val, evOr_one, evAnd_cons, evOr_cons, kAnd_true, kAnd_false, kOr_true, kOr_false, kAnd_val, kOr_val, evAll_nil, evAny_nil, evIfs_nil, evAll_cons, evAny_cons, evIfs_cons, kAll_val, kAny_val, kIfs_val, evB_and, evB_or, evB_not, evB_var, evB_call, evB_prim, ev_isinst, evB_isinst, evB_idx, ev_comp, evI_of', kOf_lst, kOf_tup, kOf_str, evI_range1, d1_dat, d2_dat, c2_dat, look_dat, bodyF, List.map_cons, List.map_nil, List.cons_append, List.nil_append, List.append_nil, List.replicate_succ, List.replicate_zero, List.getElem?_cons_zero, List.getElem?_cons_succ, List.set_cons_zero, List.set_cons_succ, List.length_cons, List.length_nil, Nat.sub_self, Nat.zero_add, Nat.reduceAdd, Nat.reduceSub, Nat.add_sub_cancel, if_true, if_false, Bool.false_eq_true, Int.reduceLT, Int.reduceLE, Int.reduceNeg, Int.reduceAdd, Int.reduceSub, Int.reduceMul, Int.reduceToNat, Nat.reduceLT, Nat.reduceLeDiff, and_self, and_true, true_and, decide_true, decide_false, Bool.not_true, Bool.not_false, Option.map_some, Option.bind_some, b_add, b_sub, b_mul1, b_mod, b_fdiv, cmp_eq_int, cmp_eq_bool, cmp_lt, cmp_le, cmp_gt, cmp_ge, Int.reduceGT, gt_iff_lt, ge_iff_le, isTy, hpl, hid, h1]
  | false =>
    rw [e1] at h1
    rw [Bool.false_or]
    cases e2 : r.take 6 == [108, 97, 109, 112, 115, 32] with
    | false =>
      rw [e2] at h2
      generalize Dat.lst ((r :: rs).map .str) = X at hpl hid
      simp only [t_l_game_0, t_l_game_1, exs_nil, exs_cons, kSeq_next, kSeq_ret, ex_assign, kAsg_val, ex_newlst, kNew_val, ex_append, kApp0_ref, kApp_dat, ex_ret, kRet_dat, ex_ite, kIte_true, kIte_false, kIte_val, ex_for1, ev_lit, ev_con, ev_var, kVar_val, ev_bin, kBin1_val, kBin2_val, kD1_val, kD2a_val, kD2_val, ev_neg, negD, ev_prim, ev_prim2, ev_idx, kIdx_val, kNotX_val, kTruX_val, ev_slFrom, ev_slTo, kTup_val, kLst_val, ev_tup, ev_lst, kNot_val, kBool_val, kTru_val, ev_not, evCmp_cons, evCmp_nil, kCmp1_val, kCmp2_nil, kCmp2_true, kCmp2_false, kCmp0_val, ev_cmp, evB_cmp, kCall_val, kDat_val, ev_call, kCons_val, kArgs_val, evArgs_nil, evArgs_cons, kToDat_dat, kEvs_val, evs_nil, evs_cons, ev_and, ev_or, evAnd_one, Out.noX_val, evOr_one, evAnd_cons, evOr_cons, kAnd_true, kAnd_false, kOr_true, kOr_false, kAnd_val, kOr_val, evAll_nil, evAny_nil, evIfs_nil, evAll_cons, evAny_cons, evIfs_cons, kAll_val, kAny_val, kIfs_val, evB_and, evB_or, evB_not, evB_var, evB_call, evB_prim, ev_isinst, evB_isinst, evB_idx, ev_comp, evI_of', kOf_lst, kOf_tup, kOf_str, evI_range1, d1_dat, d2_dat, c2_dat, look_dat, bodyF, List.map_cons, List.map_nil, List.cons_append, List.nil_append, List.append_nil, List.replicate_succ, List.replicate_zero, List.getElem?_cons_zero, List.getElem?_cons_succ, List.set_cons_zero, List.set_cons_succ, List.length_cons, List.length_nil, Nat.sub_self, Nat.zero_add, Nat.reduceAdd, Nat.reduceSub, Nat.add_sub_cancel, if_true, if_false, Bool.false_eq_true, Int.reduceLT, Int.reduceLE, Int.reduceNeg, Int.reduceAdd, Int.reduceSub, Int.reduceMul, Int.reduceToNat, Nat.reduceLT, Nat.reduceLeDiff, and_self, and_true, true_and, decide_true, decide_false, Bool.not_true, Bool.not_false, Option.map_some, Option.bind_some, b_add, b_sub, b_mul1, b_mod, b_fdiv, cmp_eq_int, cmp_eq_bool, cmp_lt, cmp_le, cmp_gt, cmp_ge, Int.reduceGT, gt_iff_lt, ge_iff_le, isTy, hpl, hid, h1, hto, h2, Bool.false_and]
    | true =>
      rw [e2] at h2
      have e2' := eq_of_beq e2
      have hl : 6 ≤ r.length := by
        have := congrArg List.length e2'
        simp at this; omega
      by_cases hL : 6 < r.length
      · have e3 : (r == [108, 97, 109, 112, 115, 32]) = false := by
          rw [beq_eq_false_iff_ne]; rintro rfl; simp at hL
        rw [e3] at h3
        rw [decide_eq_true hL, Bool.true_and, Bool.true_and, ← tail]
        generalize Dat.lst ((r :: rs).map .str) = X at hpl hid
        simp only [t_l_game_0, t_l_game_1, exs_nil, exs_cons, kSeq_next, kSeq_ret, ex_assign, kAsg_val, ex_newlst, kNew_val, ex_append, kApp0_ref, kApp_dat, ex_ret, kRet_dat, ex_ite, kIte_true, kIte_false, kIte_val, ex_for1, ev_lit, ev_con, ev_var, kVar_val, ev_bin, kBin1_val, kBin2_val, kD1_val, kD2a_val, kD2_val, ev_neg, negD, ev_prim, ev_prim2, ev_idx, kIdx_val, kNotX_val, kTruX_val, ev_slFrom, ev_slTo, kTup_val, kLst_val, ev_tup, ev_lst, kNot_val, kBool_val, kTru_val, ev_not, evCmp_cons, evCmp_nil, kCmp1_val, kCmp2_nil, kCmp2_true, kCmp2_false, kCmp0_val, ev_cmp, evB_cmp, kCall_val, kDat_val, ev_call, kCons_val, kArgs_val, evArgs_nil, evArgs_cons, kToDat_dat, kEvs_val, evs_nil, evs_cons, ev_and, ev_or, evAnd_one, Out.noX_val, evOr_one, evAnd_cons, evOr_cons, kAnd_true, kAnd_false, kOr_true, kOr_false, kAnd_val, kOr_val, evAll_nil, evAny_nil, evIfs_nil, evAll_cons, evAny_cons, evIfs_cons, kAll_val, kAny_val, kIfs_val, evB_and, evB_or, evB_not, evB_var, evB_call, evB_prim, ev_isinst, evB_isinst, evB_idx, ev_comp, evI_of', kOf_lst, kOf_tup, kOf_str, evI_range1, d1_dat, d2_dat, c2_dat, look_dat, bodyF, List.map_cons, List.map_nil, List.cons_append, List.nil_append, List.append_nil, List.replicate_succ, List.replicate_zero, List.getElem?_cons_zero, List.getElem?_cons_succ, List.set_cons_zero, List.set_cons_succ, List.length_cons, List.length_nil, Nat.sub_self, Nat.zero_add, Nat.reduceAdd, Nat.reduceSub, Nat.add_sub_cancel, if_true, if_false, Bool.false_eq_true, Int.reduceLT, Int.reduceLE, Int.reduceNeg, Int.reduceAdd, Int.reduceSub, Int.reduceMul, Int.reduceToNat, Nat.reduceLT, Nat.reduceLeDiff, and_self, and_true, true_and, decide_true, decide_false, Bool.not_true, Bool.not_false, Option.map_some, Option.bind_some, b_add, b_sub, b_mul1, b_mod, b_fdiv, cmp_eq_int, cmp_eq_bool, cmp_lt, cmp_le, cmp_gt, cmp_ge, Int.reduceGT, gt_iff_lt, ge_iff_le, isTy, hpl, hid, h1, hto, h2, h3]
      · have e3 : (r == [108, 97, 109, 112, 115, 32]) = true := by
          rw [List.take_of_length_le (by omega)] at e2'
          simpa using e2'
        rw [e3] at h3
        rw [decide_eq_false hL]
        generalize Dat.lst ((r :: rs).map .str) = X at hpl hid
        simp only [t_l_game_0, t_l_game_1, exs_nil, exs_cons, kSeq_next, kSeq_ret, ex_assign, kAsg_val, ex_newlst, kNew_val, ex_append, kApp0_ref, kApp_dat, ex_ret, kRet_dat, ex_ite, kIte_true, kIte_false, kIte_val, ex_for1, ev_lit, ev_con, ev_var, kVar_val, ev_bin, kBin1_val, kBin2_val, kD1_val, kD2a_val, kD2_val, ev_neg, negD, ev_prim, ev_prim2, ev_idx, kIdx_val, kNotX_val, kTruX_val, ev_slFrom, ev_slTo, kTup_val, kLst_val, ev_tup, ev_lst, kNot_val, kBool_val, kTru_val, ev_not, evCmp_cons, evCmp_nil, kCmp1_val, kCmp2_nil, kCmp2_true, kCmp2_false, kCmp0_val, ev_cmp, evB_cmp, kCall_val, kDat_val, ev_call, kCons_val, kArgs_val, evArgs_nil, evArgs_cons, kToDat_dat, kEvs_val, evs_nil, evs_cons, ev_and, ev_or, evAnd_one, Out.noX_val, evOr_one, evAnd_cons, evOr_cons, kAnd_true, kAnd_false, kOr_true, kOr_false, kAnd_val, kOr_val, evAll_nil, evAny_nil, evIfs_nil, evAll_cons, evAny_cons, evIfs_cons, kAll_val, kAny_val, kIfs_val, evB_and, evB_or, evB_not, evB_var, evB_call, evB_prim, ev_isinst, evB_isinst, evB_idx, ev_comp, evI_of', kOf_lst, kOf_tup, kOf_str, evI_range1, d1_dat, d2_dat, c2_dat, look_dat, bodyF, List.map_cons, List.map_nil, List.cons_append, List.nil_append, List.append_nil, List.replicate_succ, List.replicate_zero, List.getElem?_cons_zero, List.getElem?_cons_succ, List.set_cons_zero, List.set_cons_succ, List.length_cons, List.length_nil, Nat.sub_self, Nat.zero_add, Nat.reduceAdd, Nat.reduceSub, Nat.add_sub_cancel, if_true, if_false, Bool.false_eq_true, Int.reduceLT, Int.reduceLE, Int.reduceNeg, Int.reduceAdd, Int.reduceSub, Int.reduceMul, Int.reduceToNat, Nat.reduceLT, Nat.reduceLeDiff, and_self, and_true, true_and, decide_true, decide_false, Bool.not_true, Bool.not_false, Option.map_some, Option.bind_some, b_add, b_sub, b_mul1, b_mod, b_fdiv, cmp_eq_int, cmp_eq_bool, cmp_lt, cmp_le, cmp_gt, cmp_ge, Int.reduceGT, gt_iff_lt, ge_iff_le, isTy, hpl, hid, h1, hto, h2, h3, Bool.and_false, Bool.false_and]
/-! good -/
theorem go_sign {C : Oracle} {c : Nat} {x0 x2 x3 : Option Val} {σ : Sto} (hc : c < 1000) : exs sub C b_l_good_3 [x0, some (.dat (.str [c])), x2, x3] σ = if c = 102 ∨ c = 111 then .next [x0, some (.dat (.str [c])), x2, x3] σ else .ret (.bool false) σ := by
  have hk := ok_str (t := [c]) (fun a ha => by rw [List.mem_singleton.mp ha]; exact hc)
  have h : cmp2 .notin (.str [c]) (.tup [.str [102], .str [111]]) = some (!(decide (c = 102 ∨ c = 111))) := by
    simp only [cmp2, inD, hk, show okD (.tup [.str [102], .str [111]]) = true from rfl, Bool.and_self, if_true, inDs, eqD]
    by_cases h1 : c = 102
    · simp [h1]
    · have e1 : (([102] : List Nat) == [c]) = false := by simpa using fun q => h1 q.symm
      by_cases h2 : c = 111
      · simp [h2]
      · have e2 : (([111] : List Nat) == [c]) = false := by simpa using fun q => h2 q.symm
        simp [e1, e2, h1, h2]
  by_cases hd : c = 102 ∨ c = 111
  · rw [decide_eq_true hd] at h
    rw [if_pos hd]
    simp only [b_l_good_3, exs_nil, exs_cons, kSeq_next, kSeq_ret, ex_assign, kAsg_val, ex_newlst, kNew_val, ex_append, kApp0_ref, kApp_dat, ex_ret, kRet_dat, ex_ite, kIte_true, kIte_false, kIte_val, ex_for1, ev_lit, ev_con, ev_var, kVar_val, ev_bin, kBin1_val, kBin2_val, kD1_val, kD2a_val, kD2_val, ev_neg, negD, ev_prim, ev_prim2, ev_idx, kIdx_val, kNotX_val, kTruX_val, ev_slFrom, ev_slTo, kTup_val, kLst_val, ev_tup, ev_lst, kNot_val, kBool_val, kTru_val, ev_not, evCmp_cons, evCmp_nil, kCmp1_val, kCmp2_nil, kCmp2_true, kCmp2_false, kCmp0_val, ev_cmp, evB_cmp, kCall_val, kDat_val, ev_call, kCons_val, kArgs_val, evArgs_nil, evArgs_cons, kToDat_dat, kEvs_val, evs_nil, evs_cons, ev_and, ev_or, evAnd_one, Out.noX_val, evOr_one, evAnd_cons, evOr_cons, kAnd_true, kAnd_false, kOr_true, kOr_false, kAnd_val, kOr_val, evAll_nil, evAny_nil, evIfs_nil, evAll_cons, evAny_cons, evIfs_cons, kAll_val, kAny_val, kIfs_val, evB_and, evB_or, evB_not, evB_var, evB_call, evB_prim, ev_isinst, evB_isinst, evB_idx, ev_comp, evI_of', kOf_lst, kOf_tup, kOf_str, evI_range1, d1_dat, d2_dat, c2_dat, look_dat, bodyF, List.map_cons, List.map_nil, List.cons_append, List.nil_append, List.append_nil, List.replicate_succ, List.replicate_zero, List.getElem?_cons_zero, List.getElem?_cons_succ, List.set_cons_zero, List.set_cons_succ, List.length_cons, List.length_nil, Nat.sub_self, Nat.zero_add, Nat.reduceAdd, Nat.reduceSub, Nat.add_sub_cancel, if_true, if_false, Bool.false_eq_true, Int.reduceLT, Int.reduceLE, Int.reduceNeg, Int.reduceAdd, Int.reduceSub, Int.reduceMul, Int.reduceToNat, Nat.reduceLT, Nat.reduceLeDiff, and_self, and_true, true_and, decide_true, decide_false, Bool.not_true, Bool.not_false, Option.map_some, Option.bind_some, b_add, b_sub, b_mul1, b_mod, b_fdiv, cmp_eq_int, cmp_eq_bool, cmp_lt, cmp_le, cmp_gt, cmp_ge, Int.reduceGT, gt_iff_lt, ge_iff_le, isTy, h]
  · rw [decide_eq_false hd] at h
    rw [if_neg hd]
    simp only [b_l_good_3, exs_nil, exs_cons, kSeq_next, kSeq_ret, ex_assign, kAsg_val, ex_newlst, kNew_val, ex_append, kApp0_ref, kApp_dat, ex_ret, kRet_dat, ex_ite, kIte_true, kIte_false, kIte_val, ex_for1, ev_lit, ev_con, ev_var, kVar_val, ev_bin, kBin1_val, kBin2_val, kD1_val, kD2a_val, kD2_val, ev_neg, negD, ev_prim, ev_prim2, ev_idx, kIdx_val, kNotX_val, kTruX_val, ev_slFrom, ev_slTo, kTup_val, kLst_val, ev_tup, ev_lst, kNot_val, kBool_val, kTru_val, ev_not, evCmp_cons, evCmp_nil, kCmp1_val, kCmp2_nil, kCmp2_true, kCmp2_false, kCmp0_val, ev_cmp, evB_cmp, kCall_val, kDat_val, ev_call, kCons_val, kArgs_val, evArgs_nil, evArgs_cons, kToDat_dat, kEvs_val, evs_nil, evs_cons, ev_and, ev_or, evAnd_one, Out.noX_val, evOr_one, evAnd_cons, evOr_cons, kAnd_true, kAnd_false, kOr_true, kOr_false, kAnd_val, kOr_val, evAll_nil, evAny_nil, evIfs_nil, evAll_cons, evAny_cons, evIfs_cons, kAll_val, kAny_val, kIfs_val, evB_and, evB_or, evB_not, evB_var, evB_call, evB_prim, ev_isinst, evB_isinst, evB_idx, ev_comp, evI_of', kOf_lst, kOf_tup, kOf_str, evI_range1, d1_dat, d2_dat, c2_dat, look_dat, bodyF, List.map_cons, List.map_nil, List.cons_append, List.nil_append, List.append_nil, List.replicate_succ, List.replicate_zero, List.getElem?_cons_zero, List.getElem?_cons_succ, List.set_cons_zero, List.set_cons_succ, List.length_cons, List.length_nil, Nat.sub_self, Nat.zero_add, Nat.reduceAdd, Nat.reduceSub, Nat.add_sub_cancel, if_true, if_false, Bool.false_eq_true, Int.reduceLT, Int.reduceLE, Int.reduceNeg, Int.reduceAdd, Int.reduceSub, Int.reduceMul, Int.reduceToNat, Nat.reduceLT, Nat.reduceLeDiff, and_self, and_true, true_and, decide_true, decide_false, Bool.not_true, Bool.not_false, Option.map_some, Option.bind_some, b_add, b_sub, b_mul1, b_mod, b_fdiv, cmp_eq_int, cmp_eq_bool, cmp_lt, cmp_le, cmp_gt, cmp_ge, Int.reduceGT, gt_iff_lt, ge_iff_le, isTy, h]
theorem go_num {C : Oracle} {S : List Nat} {Y : Dat} {z : Int} {x1 x2 : Option Val} {σ : Sto} (hS : S.length ≤ 900) : exs sub C b_l_good_1 [some (.dat (.tup [.str S, Y])), x1, x2, some (.dat (.int z))] σ =
    if z.natAbs ≤ S.length then .next [some (.dat (.tup [.str S, Y])), x1, x2, some (.dat (.int z))] σ else .ret (.bool false) σ := by
  have hid : idx2 (.tup [.str S, Y]) (.int 0) = some (.str S) := rfl
  have hln := len_S S hS
  have hmx := p_max z (-z)
  rw [max_neg] at hmx
  generalize Dat.str S = X at hln hid
  by_cases h : z.natAbs ≤ S.length
  · have e : ¬ ((S.length : Int) < z.natAbs) := by omega
    rw [if_pos h]
    simp only [b_l_good_1, exs_nil, exs_cons, kSeq_next, kSeq_ret, ex_assign, kAsg_val, ex_newlst, kNew_val, ex_append, kApp0_ref, kApp_dat, ex_ret, kRet_dat, ex_ite, kIte_true, kIte_false, kIte_val, ex_for1, ev_lit, ev_con, ev_var, kVar_val, ev_bin, kBin1_val, kBin2_val, kD1_val, kD2a_val, kD2_val, ev_neg, negD, ev_prim, ev_prim2, ev_idx, kIdx_val, kNotX_val, kTruX_val, ev_slFrom, ev_slTo, kTup_val, kLst_val, ev_tup, ev_lst, kNot_val, kBool_val, kTru_val, ev_not, evCmp_cons, evCmp_nil, kCmp1_val, kCmp2_nil, kCmp2_true, kCmp2_false, kCmp0_val, ev_cmp, evB_cmp, kCall_val, kDat_val, ev_call, kCons_val, kArgs_val, evArgs_nil, evArgs_cons, kToDat_dat, kEvs_val, evs_nil, evs_cons, ev_and, ev_or, evAnd_one, Out.noX_val, evOr_one, evAnd_cons, evOr_cons, kAnd_true, kAnd_false, kOr_true, kOr_false, kAnd_val, kOr_val, evAll_nil, evAny_nil, evIfs_nil, evAll_cons, evAny_cons, evIfs_cons, kAll_val, kAny_val, kIfs_val, evB_and, evB_or, evB_not, evB_var, evB_call, evB_prim, ev_isinst, evB_isinst, evB_idx, ev_comp, evI_of', kOf_lst, kOf_tup, kOf_str, evI_range1, d1_dat, d2_dat, c2_dat, look_dat, bodyF, List.map_cons, List.map_nil, List.cons_append, List.nil_append, List.append_nil, List.replicate_succ, List.replicate_zero, List.getElem?_cons_zero, List.getElem?_cons_succ, List.set_cons_zero, List.set_cons_succ, List.length_cons, List.length_nil, Nat.sub_self, Nat.zero_add, Nat.reduceAdd, Nat.reduceSub, Nat.add_sub_cancel, if_true, if_false, Bool.false_eq_true, Int.reduceLT, Int.reduceLE, Int.reduceNeg, Int.reduceAdd, Int.reduceSub, Int.reduceMul, Int.reduceToNat, Nat.reduceLT, Nat.reduceLeDiff, and_self, and_true, true_and, decide_true, decide_false, Bool.not_true, Bool.not_false, Option.map_some, Option.bind_some, b_add, b_sub, b_mul1, b_mod, b_fdiv, cmp_eq_int, cmp_eq_bool, cmp_lt, cmp_le, cmp_gt, cmp_ge, Int.reduceGT, gt_iff_lt, ge_iff_le, isTy, hid, hln, hmx, e]
  · have e : (S.length : Int) < z.natAbs := by omega
    rw [if_neg h]
    simp only [b_l_good_1, exs_nil, exs_cons, kSeq_next, kSeq_ret, ex_assign, kAsg_val, ex_newlst, kNew_val, ex_append, kApp0_ref, kApp_dat, ex_ret, kRet_dat, ex_ite, kIte_true, kIte_false, kIte_val, ex_for1, ev_lit, ev_con, ev_var, kVar_val, ev_bin, kBin1_val, kBin2_val, kD1_val, kD2a_val, kD2_val, ev_neg, negD, ev_prim, ev_prim2, ev_idx, kIdx_val, kNotX_val, kTruX_val, ev_slFrom, ev_slTo, kTup_val, kLst_val, ev_tup, ev_lst, kNot_val, kBool_val, kTru_val, ev_not, evCmp_cons, evCmp_nil, kCmp1_val, kCmp2_nil, kCmp2_true, kCmp2_false, kCmp0_val, ev_cmp, evB_cmp, kCall_val, kDat_val, ev_call, kCons_val, kArgs_val, evArgs_nil, evArgs_cons, kToDat_dat, kEvs_val, evs_nil, evs_cons, ev_and, ev_or, evAnd_one, Out.noX_val, evOr_one, evAnd_cons, evOr_cons, kAnd_true, kAnd_false, kOr_true, kOr_false, kAnd_val, kOr_val, evAll_nil, evAny_nil, evIfs_nil, evAll_cons, evAny_cons, evIfs_cons, kAll_val, kAny_val, kIfs_val, evB_and, evB_or, evB_not, evB_var, evB_call, evB_prim, ev_isinst, evB_isinst, evB_idx, ev_comp, evI_of', kOf_lst, kOf_tup, kOf_str, evI_range1, d1_dat, d2_dat, c2_dat, look_dat, bodyF, List.map_cons, List.map_nil, List.cons_append, List.nil_append, List.append_nil, List.replicate_succ, List.replicate_zero, List.getElem?_cons_zero, List.getElem?_cons_succ, List.set_cons_zero, List.set_cons_succ, List.length_cons, List.length_nil, Nat.sub_self, Nat.zero_add, Nat.reduceAdd, Nat.reduceSub, Nat.add_sub_cancel, if_true, if_false, Bool.false_eq_true, Int.reduceLT, Int.reduceLE, Int.reduceNeg, Int.reduceAdd, Int.reduceSub, Int.reduceMul, Int.reduceToNat, Nat.reduceLT, Nat.reduceLeDiff, and_self, and_true, true_and, decide_true, decide_false, Bool.not_true, Bool.not_false, Option.map_some, Option.bind_some, b_add, b_sub, b_mul1, b_mod, b_fdiv, cmp_eq_int, cmp_eq_bool, cmp_lt, cmp_le, cmp_gt, cmp_ge, Int.reduceGT, gt_iff_lt, ge_iff_le, isTy, hid, hln, hmx, e]
theorem go_wish {C : Oracle} {S : List Nat} {Y : Dat} {w : List Int} {x1 y : Option Val} {σ : Sto} (hS : S.length ≤ 900) (hw : w.length ≤ 900) (hz : ∀ z ∈ w, z ≠ 0) :
    (goodW S w ∧ ∃ y', exs sub C b_l_good_2 [some (.dat (.tup [.str S, Y])), x1, some (.dat (wD w)), y] σ = .next [some (.dat (.tup [.str S, Y])), x1, some (.dat (wD w)), y'] σ) ∨
    (¬ goodW S w ∧ exs sub C b_l_good_2 [some (.dat (.tup [.str S, Y])), x1, some (.dat (wD w)), y] σ = .ret (.bool false) σ) := by
  have hln := len_w w hw
  have hof : ∀ τ : Sto, kOf (.val (.dat (wD w)) τ) = .val ⟨w.map .int, none⟩ τ := fun _ => rfl
  have hlp := kFor_ret (sub := sub) (C := C) (x := 3) (body := b_l_good_1) (em := Dat.int) (l := w) (fun pre ρ τ => (∃ y, ρ = [some (.dat (.tup [.str S, Y])), x1, some (.dat (wD w)), y]) ∧ τ = σ ∧ ∀ z ∈ pre, z.natAbs ≤ S.length) (fun d τ => d = .bool false ∧ τ = σ ∧ ¬ goodW S w)
    (ρ := [some (.dat (.tup [.str S, Y])), x1, some (.dat (wD w)), y]) (σ := σ) (by omega) (fun pre z post ρ τ he hP => by
      obtain ⟨⟨y, rfl⟩, rfl, hpre⟩ := hP
      have := go_num (sub := sub) (C := C) (S := S) (Y := Y) (z := z) (x1 := x1) (x2 := some (.dat (wD w))) (σ := τ) hS
      by_cases hc : z.natAbs ≤ S.length
      · rw [if_pos hc] at this
        exact .inl ⟨_, _, this, ⟨_, rfl⟩, rfl, fun a ha => by rcases List.mem_append.mp ha with ha | ha; exact hpre a ha; rw [List.mem_singleton.mp ha]; exact hc⟩
      · rw [if_neg hc] at this
        exact .inr ⟨_, _, this, rfl, rfl, fun hg => hc (hg.2 z (pre_lt he).2).2⟩) ⟨⟨y, rfl⟩, rfl, nofun⟩
  rcases hlp with ⟨ρ', σ', hq, ⟨y', rfl⟩, rfl, hA⟩ | ⟨d, σ', hq, rfl, rfl, hA⟩
  · by_cases hl : w.length ≤ 10
    · have hlt : ¬ ((10 : Int) < w.length) := by omega
      refine .inl ⟨⟨hl, fun z h => ⟨hz z h, hA z h⟩⟩, y', ?_⟩
      generalize wD w = X at hln hof hq
      generalize Dat.tup [.str S, Y] = T at hq
      simp only [b_l_good_2, exs_nil, exs_cons, kSeq_next, kSeq_ret, ex_assign, kAsg_val, ex_newlst, kNew_val, ex_append, kApp0_ref, kApp_dat, ex_ret, kRet_dat, ex_ite, kIte_true, kIte_false, kIte_val, ex_for1, ev_lit, ev_con, ev_var, kVar_val, ev_bin, kBin1_val, kBin2_val, kD1_val, kD2a_val, kD2_val, ev_neg, negD, ev_prim, ev_prim2, ev_idx, kIdx_val, kNotX_val, kTruX_val, ev_slFrom, ev_slTo, kTup_val, kLst_val, ev_tup, ev_lst, kNot_val, kBool_val, kTru_val, ev_not, evCmp_cons, evCmp_nil, kCmp1_val, kCmp2_nil, kCmp2_true, kCmp2_false, kCmp0_val, ev_cmp, evB_cmp, kCall_val, kDat_val, ev_call, kCons_val, kArgs_val, evArgs_nil, evArgs_cons, kToDat_dat, kEvs_val, evs_nil, evs_cons, ev_and, ev_or, evAnd_one, Out.noX_val, evOr_one, evAnd_cons, evOr_cons, kAnd_true, kAnd_false, kOr_true, kOr_false, kAnd_val, kOr_val, evAll_nil, evAny_nil, evIfs_nil, evAll_cons, evAny_cons, evIfs_cons, kAll_val, kAny_val, kIfs_val, evB_and, evB_or, evB_not, evB_var, evB_call, evB_prim, ev_isinst, evB_isinst, evB_idx, ev_comp, evI_of', kOf_lst, kOf_tup, kOf_str, evI_range1, d1_dat, d2_dat, c2_dat, look_dat, bodyF, List.map_cons, List.map_nil, List.cons_append, List.nil_append, List.append_nil, List.replicate_succ, List.replicate_zero, List.getElem?_cons_zero, List.getElem?_cons_succ, List.set_cons_zero, List.set_cons_succ, List.length_cons, List.length_nil, Nat.sub_self, Nat.zero_add, Nat.reduceAdd, Nat.reduceSub, Nat.add_sub_cancel, if_true, if_false, Bool.false_eq_true, Int.reduceLT, Int.reduceLE, Int.reduceNeg, Int.reduceAdd, Int.reduceSub, Int.reduceMul, Int.reduceToNat, Nat.reduceLT, Nat.reduceLeDiff, and_self, and_true, true_and, decide_true, decide_false, Bool.not_true, Bool.not_false, Option.map_some, Option.bind_some, b_add, b_sub, b_mul1, b_mod, b_fdiv, cmp_eq_int, cmp_eq_bool, cmp_lt, cmp_le, cmp_gt, cmp_ge, Int.reduceGT, gt_iff_lt, ge_iff_le, isTy, hof, hq, hln, hlt]
    · have hlt : (10 : Int) < w.length := by omega
      refine .inr ⟨fun hg => hl hg.1, ?_⟩
      generalize wD w = X at hln hof hq
      generalize Dat.tup [.str S, Y] = T at hq
      simp only [b_l_good_2, exs_nil, exs_cons, kSeq_next, kSeq_ret, ex_assign, kAsg_val, ex_newlst, kNew_val, ex_append, kApp0_ref, kApp_dat, ex_ret, kRet_dat, ex_ite, kIte_true, kIte_false, kIte_val, ex_for1, ev_lit, ev_con, ev_var, kVar_val, ev_bin, kBin1_val, kBin2_val, kD1_val, kD2a_val, kD2_val, ev_neg, negD, ev_prim, ev_prim2, ev_idx, kIdx_val, kNotX_val, kTruX_val, ev_slFrom, ev_slTo, kTup_val, kLst_val, ev_tup, ev_lst, kNot_val, kBool_val, kTru_val, ev_not, evCmp_cons, evCmp_nil, kCmp1_val, kCmp2_nil, kCmp2_true, kCmp2_false, kCmp0_val, ev_cmp, evB_cmp, kCall_val, kDat_val, ev_call, kCons_val, kArgs_val, evArgs_nil, evArgs_cons, kToDat_dat, kEvs_val, evs_nil, evs_cons, ev_and, ev_or, evAnd_one, Out.noX_val, evOr_one, evAnd_cons, evOr_cons, kAnd_true, kAnd_false, kOr_true, kOr_false, kAnd_val, kOr_val, evAll_nil, evAny_nil, evIfs_nil, evAll_cons, evAny_cons, evIfs_cons, kAll_val, kAny_val, kIfs_val, evB_and, evB_or, evB_not, evB_var, evB_call, evB_prim, ev_isinst, evB_isinst, evB_idx, ev_comp, evI_of', kOf_lst, kOf_tup, kOf_str, evI_range1, d1_dat, d2_dat, c2_dat, look_dat, bodyF, List.map_cons, List.map_nil, List.cons_append, List.nil_append, List.append_nil, List.replicate_succ, List.replicate_zero, List.getElem?_cons_zero, List.getElem?_cons_succ, List.set_cons_zero, List.set_cons_succ, List.length_cons, List.length_nil, Nat.sub_self, Nat.zero_add, Nat.reduceAdd, Nat.reduceSub, Nat.add_sub_cancel, if_true, if_false, Bool.false_eq_true, Int.reduceLT, Int.reduceLE, Int.reduceNeg, Int.reduceAdd, Int.reduceSub, Int.reduceMul, Int.reduceToNat, Nat.reduceLT, Nat.reduceLeDiff, and_self, and_true, true_and, decide_true, decide_false, Bool.not_true, Bool.not_false, Option.map_some, Option.bind_some, b_add, b_sub, b_mul1, b_mod, b_fdiv, cmp_eq_int, cmp_eq_bool, cmp_lt, cmp_le, cmp_gt, cmp_ge, Int.reduceGT, gt_iff_lt, ge_iff_le, isTy, hof, hq, hln, hlt]
  · refine .inr ⟨hA, ?_⟩
    generalize wD w = X at hln hof hq
    generalize Dat.tup [.str S, Y] = T at hq
    simp only [b_l_good_2, exs_nil, exs_cons, kSeq_next, kSeq_ret, ex_assign, kAsg_val, ex_newlst, kNew_val, ex_append, kApp0_ref, kApp_dat, ex_ret, kRet_dat, ex_ite, kIte_true, kIte_false, kIte_val, ex_for1, ev_lit, ev_con, ev_var, kVar_val, ev_bin, kBin1_val, kBin2_val, kD1_val, kD2a_val, kD2_val, ev_neg, negD, ev_prim, ev_prim2, ev_idx, kIdx_val, kNotX_val, kTruX_val, ev_slFrom, ev_slTo, kTup_val, kLst_val, ev_tup, ev_lst, kNot_val, kBool_val, kTru_val, ev_not, evCmp_cons, evCmp_nil, kCmp1_val, kCmp2_nil, kCmp2_true, kCmp2_false, kCmp0_val, ev_cmp, evB_cmp, kCall_val, kDat_val, ev_call, kCons_val, kArgs_val, evArgs_nil, evArgs_cons, kToDat_dat, kEvs_val, evs_nil, evs_cons, ev_and, ev_or, evAnd_one, Out.noX_val, evOr_one, evAnd_cons, evOr_cons, kAnd_true, kAnd_false, kOr_true, kOr_false, kAnd_val, kOr_val, evAll_nil, evAny_nil, evIfs_nil, evAll_cons, evAny_cons, evIfs_cons, kAll_val, kAny_val, kIfs_val, evB_and, evB_or, evB_not, evB_var, evB_call, evB_prim, ev_isinst, evB_isinst, evB_idx, ev_comp, evI_of', kOf_lst, kOf_tup, kOf_str, evI_range1, d1_dat, d2_dat, c2_dat, look_dat, bodyF, List.map_cons, List.map_nil, List.cons_append, List.nil_append, List.append_nil, List.replicate_succ, List.replicate_zero, List.getElem?_cons_zero, List.getElem?_cons_succ, List.set_cons_zero, List.set_cons_succ, List.length_cons, List.length_nil, Nat.sub_self, Nat.zero_add, Nat.reduceAdd, Nat.reduceSub, Nat.add_sub_cancel, if_true, if_false, Bool.false_eq_true, Int.reduceLT, Int.reduceLE, Int.reduceNeg, Int.reduceAdd, Int.reduceSub, Int.reduceMul, Int.reduceToNat, Nat.reduceLT, Nat.reduceLeDiff, and_self, and_true, true_and, decide_true, decide_false, Bool.not_true, Bool.not_false, Option.map_some, Option.bind_some, b_add, b_sub, b_mul1, b_mod, b_fdiv, cmp_eq_int, cmp_eq_bool, cmp_lt, cmp_le, cmp_gt, cmp_ge, Int.reduceGT, gt_iff_lt, ge_iff_le, isTy, hof, hq]
theorem c_good {n : Nat} {S : List Nat} {ws : List (List Int)} {σ : Sto} (hs : Small S ws) (hz : ∀ w ∈ ws, ∀ z ∈ w, z ≠ 0) : ∃ b, callF sub tab.Δ (n + 1) 109 [.dat (.tup [.str S, wsD ws])] σ = .val (.bool b) σ ∧ (b = true ↔ goodG S ws) := by
  obtain ⟨hS, hW, hw, hch⟩ := hs
  have hlS := len_S S hS
  have hlW := len_ws ws hW
  have hi0 : idx2 (.tup [.str S, wsD ws]) (.int 0) = some (.str S) := rfl
  have hi1 : idx2 (.tup [.str S, wsD ws]) (.int 1) = some (wsD ws) := rfl
  have hofS : ∀ τ : Sto, kOf (.val (.dat (.str S)) τ) = .val ⟨S.map fun c => .str [c], none⟩ τ := fun _ => rfl
  have hofW : ∀ τ : Sto, kOf (.val (.dat (wsD ws)) τ) = .val ⟨ws.map wD, none⟩ τ := fun _ => rfl
  have l1 := kFor_ret (sub := sub) (C := callF sub tab.Δ n) (x := 1) (body := b_l_good_3) (em := fun c => Dat.str [c]) (l := S) (fun pre ρ τ => (∃ y, ρ = [some (.dat (.tup [.str S, wsD ws])), y, none, none]) ∧ τ = σ ∧ ∀ c ∈ pre, c = 102 ∨ c = 111) (fun d τ => d = .bool false ∧ τ = σ ∧ ¬ goodG S ws)
    (ρ := [some (.dat (.tup [.str S, wsD ws])), none, none, none]) (σ := σ) (by omega) (fun pre c post ρ τ he hP => by
      obtain ⟨⟨y, rfl⟩, rfl, hpre⟩ := hP
      have := go_sign (sub := sub) (C := callF sub tab.Δ n) (c := c) (x0 := some (.dat (.tup [.str S, wsD ws]))) (x2 := none) (x3 := none) (σ := τ) (hch c (pre_lt he).2)
      by_cases hc : c = 102 ∨ c = 111
      · rw [if_pos hc] at this
        exact .inl ⟨_, _, this, ⟨_, rfl⟩, rfl, fun a ha => by rcases List.mem_append.mp ha with ha | ha; exact hpre a ha; rw [List.mem_singleton.mp ha]; exact hc⟩
      · rw [if_neg hc] at this
        exact .inr ⟨_, _, this, rfl, rfl, fun hg => hc (hg.2.2.1 c (pre_lt he).2)⟩) ⟨⟨none, rfl⟩, rfl, nofun⟩
  rcases l1 with ⟨ρ', σ', q1, ⟨y, rfl⟩, rfl, hA⟩ | ⟨d, σ', q1, rfl, rfl, hA⟩
  · have l2 := kFor_ret (sub := sub) (C := callF sub tab.Δ n) (x := 2) (body := b_l_good_2) (em := wD) (l := ws) (fun pre ρ τ => (∃ y2 y3, ρ = [some (.dat (.tup [.str S, wsD ws])), y, y2, y3]) ∧ τ = σ' ∧ ∀ w ∈ pre, goodW S w) (fun d τ => d = .bool false ∧ τ = σ' ∧ ¬ goodG S ws)
      (ρ := [some (.dat (.tup [.str S, wsD ws])), y, none, none]) (σ := σ') (by omega) (fun pre w post ρ τ he hP => by
        obtain ⟨⟨y2, y3, rfl⟩, rfl, hpre⟩ := hP
        have hm := (pre_lt he).2
        rcases go_wish (sub := sub) (C := callF sub tab.Δ n) (S := S) (Y := wsD ws) (w := w) (x1 := y) (y := y3) (σ := τ) hS (hw w hm) (hz w hm) with ⟨hg, y', e⟩ | ⟨hg, e⟩
        · exact .inl ⟨_, _, e, ⟨_, _, rfl⟩, rfl, fun a ha => by rcases List.mem_append.mp ha with ha | ha; exact hpre a ha; rw [List.mem_singleton.mp ha]; exact hg⟩
        · exact .inr ⟨_, _, e, rfl, rfl, fun hG => hg (hG.2.2.2 w hm)⟩) ⟨⟨none, none, rfl⟩, rfl, nofun⟩
    rcases l2 with ⟨ρ₂, σ₂, q2, ⟨y2, y3, rfl⟩, rfl, hB⟩ | ⟨d, σ₂, q2, rfl, rfl, hB⟩
    · refine ⟨decide (S.length ≤ 10) && decide (ws.length ≤ 20), call_ret (fn := fn_l_good) (σ' := σ₂) rfl rfl ?_ (by simp), ?_⟩
      · generalize Dat.tup [.str S, wsD ws] = T at hi0 hi1 q1 q2
        generalize wsD ws = X at hlW hofW hi1
        generalize Dat.str S = Y at hlS hofS hi0
        by_cases h1 : S.length ≤ 10
        · have e1 : (S.length : Int) ≤ 10 := by omega
          have e2 : decide ((ws.length : Int) ≤ 20) = decide (ws.length ≤ 20) := by rw [decide_eq_decide]; omega
          rw [decide_eq_true h1, Bool.true_and, ← e2]
          simp only [fn_l_good, exs_nil, exs_cons, kSeq_next, kSeq_ret, ex_assign, kAsg_val, ex_newlst, kNew_val, ex_append, kApp0_ref, kApp_dat, ex_ret, kRet_dat, ex_ite, kIte_true, kIte_false, kIte_val, ex_for1, ev_lit, ev_con, ev_var, kVar_val, ev_bin, kBin1_val, kBin2_val, kD1_val, kD2a_val, kD2_val, ev_neg, negD, ev_prim, ev_prim2, ev_idx, kIdx_val, kNotX_val, kTruX_val, ev_slFrom, ev_slTo, kTup_val, kLst_val, ev_tup, ev_lst, kNot_val, kBool_val, kTru_val, ev_not, evCmp_cons, evCmp_nil, kCmp1_val, kCmp2_nil, kCmp2_true, kCmp2_false, kCmp0_val, ev_cmp, evB_cmp, kCall_val, kDat_val, ev_call, kCons_val, kArgs_val, evArgs_nil, evArgs_cons, kToDat_dat, kEvs_val, evs_nil, evs_cons, ev_and, ev_or, evAnd_one, Out.noX_val, evOr_one, evAnd_cons, evOr_cons, kAnd_true, kAnd_false, kOr_true, kOr_false, kAnd_val, kOr_val, evAll_nil, evAny_nil, evIfs_nil, evAll_cons, evAny_cons, evIfs_cons, kAll_val, kAny_val, kIfs_val, evB_and, evB_or, evB_not, evB_var, evB_call, evB_prim, ev_isinst, evB_isinst, evB_idx, ev_comp, evI_of', kOf_lst, kOf_tup, kOf_str, evI_range1, d1_dat, d2_dat, c2_dat, look_dat, bodyF, List.map_cons, List.map_nil, List.cons_append, List.nil_append, List.append_nil, List.replicate_succ, List.replicate_zero, List.getElem?_cons_zero, List.getElem?_cons_succ, List.set_cons_zero, List.set_cons_succ, List.length_cons, List.length_nil, Nat.sub_self, Nat.zero_add, Nat.reduceAdd, Nat.reduceSub, Nat.add_sub_cancel, if_true, if_false, Bool.false_eq_true, Int.reduceLT, Int.reduceLE, Int.reduceNeg, Int.reduceAdd, Int.reduceSub, Int.reduceMul, Int.reduceToNat, Nat.reduceLT, Nat.reduceLeDiff, and_self, and_true, true_and, decide_true, decide_false, Bool.not_true, Bool.not_false, Option.map_some, Option.bind_some, b_add, b_sub, b_mul1, b_mod, b_fdiv, cmp_eq_int, cmp_eq_bool, cmp_lt, cmp_le, cmp_gt, cmp_ge, Int.reduceGT, gt_iff_lt, ge_iff_le, isTy, hi0, hi1, hofS, hofW, q1, q2, hlS, hlW, e1]
        · have e1 : ¬ ((S.length : Int) ≤ 10) := by omega
          rw [decide_eq_false h1, Bool.false_and]
          simp only [fn_l_good, exs_nil, exs_cons, kSeq_next, kSeq_ret, ex_assign, kAsg_val, ex_newlst, kNew_val, ex_append, kApp0_ref, kApp_dat, ex_ret, kRet_dat, ex_ite, kIte_true, kIte_false, kIte_val, ex_for1, ev_lit, ev_con, ev_var, kVar_val, ev_bin, kBin1_val, kBin2_val, kD1_val, kD2a_val, kD2_val, ev_neg, negD, ev_prim, ev_prim2, ev_idx, kIdx_val, kNotX_val, kTruX_val, ev_slFrom, ev_slTo, kTup_val, kLst_val, ev_tup, ev_lst, kNot_val, kBool_val, kTru_val, ev_not, evCmp_cons, evCmp_nil, kCmp1_val, kCmp2_nil, kCmp2_true, kCmp2_false, kCmp0_val, ev_cmp, evB_cmp, kCall_val, kDat_val, ev_call, kCons_val, kArgs_val, evArgs_nil, evArgs_cons, kToDat_dat, kEvs_val, evs_nil, evs_cons, ev_and, ev_or, evAnd_one, Out.noX_val, evOr_one, evAnd_cons, evOr_cons, kAnd_true, kAnd_false, kOr_true, kOr_false, kAnd_val, kOr_val, evAll_nil, evAny_nil, evIfs_nil, evAll_cons, evAny_cons, evIfs_cons, kAll_val, kAny_val, kIfs_val, evB_and, evB_or, evB_not, evB_var, evB_call, evB_prim, ev_isinst, evB_isinst, evB_idx, ev_comp, evI_of', kOf_lst, kOf_tup, kOf_str, evI_range1, d1_dat, d2_dat, c2_dat, look_dat, bodyF, List.map_cons, List.map_nil, List.cons_append, List.nil_append, List.append_nil, List.replicate_succ, List.replicate_zero, List.getElem?_cons_zero, List.getElem?_cons_succ, List.set_cons_zero, List.set_cons_succ, List.length_cons, List.length_nil, Nat.sub_self, Nat.zero_add, Nat.reduceAdd, Nat.reduceSub, Nat.add_sub_cancel, if_true, if_false, Bool.false_eq_true, Int.reduceLT, Int.reduceLE, Int.reduceNeg, Int.reduceAdd, Int.reduceSub, Int.reduceMul, Int.reduceToNat, Nat.reduceLT, Nat.reduceLeDiff, and_self, and_true, true_and, decide_true, decide_false, Bool.not_true, Bool.not_false, Option.map_some, Option.bind_some, b_add, b_sub, b_mul1, b_mod, b_fdiv, cmp_eq_int, cmp_eq_bool, cmp_lt, cmp_le, cmp_gt, cmp_ge, Int.reduceGT, gt_iff_lt, ge_iff_le, isTy, hi0, hi1, hofS, hofW, q1, q2, hlS, hlW, e1]
      · simp only [Bool.and_eq_true, decide_eq_true_eq]
        exact ⟨fun h => ⟨h.1, h.2, hA, hB⟩, fun h => ⟨h.1, h.2.1⟩⟩
    · refine ⟨false, call_ret (fn := fn_l_good) (σ' := σ₂) rfl rfl ?_ (by simp), ⟨fun h => (nomatch h), fun h => absurd h hB⟩⟩
      generalize Dat.tup [.str S, wsD ws] = T at hi0 hi1 q1 q2
      generalize wsD ws = X at hlW hofW hi1
      generalize Dat.str S = Y at hlS hofS hi0
      simp only [fn_l_good, exs_nil, exs_cons, kSeq_next, kSeq_ret, ex_assign, kAsg_val, ex_newlst, kNew_val, ex_append, kApp0_ref, kApp_dat, ex_ret, kRet_dat, ex_ite, kIte_true, kIte_false, kIte_val, ex_for1, ev_lit, ev_con, ev_var, kVar_val, ev_bin, kBin1_val, kBin2_val, kD1_val, kD2a_val, kD2_val, ev_neg, negD, ev_prim, ev_prim2, ev_idx, kIdx_val, kNotX_val, kTruX_val, ev_slFrom, ev_slTo, kTup_val, kLst_val, ev_tup, ev_lst, kNot_val, kBool_val, kTru_val, ev_not, evCmp_cons, evCmp_nil, kCmp1_val, kCmp2_nil, kCmp2_true, kCmp2_false, kCmp0_val, ev_cmp, evB_cmp, kCall_val, kDat_val, ev_call, kCons_val, kArgs_val, evArgs_nil, evArgs_cons, kToDat_dat, kEvs_val, evs_nil, evs_cons, ev_and, ev_or, evAnd_one, Out.noX_val, evOr_one, evAnd_cons, evOr_cons, kAnd_true, kAnd_false, kOr_true, kOr_false, kAnd_val, kOr_val, evAll_nil, evAny_nil, evIfs_nil, evAll_cons, evAny_cons, evIfs_cons, kAll_val, kAny_val, kIfs_val, evB_and, evB_or, evB_not, evB_var, evB_call, evB_prim, ev_isinst, evB_isinst, evB_idx, ev_comp, evI_of', kOf_lst, kOf_tup, kOf_str, evI_range1, d1_dat, d2_dat, c2_dat, look_dat, bodyF, List.map_cons, List.map_nil, List.cons_append, List.nil_append, List.append_nil, List.replicate_succ, List.replicate_zero, List.getElem?_cons_zero, List.getElem?_cons_succ, List.set_cons_zero, List.set_cons_succ, List.length_cons, List.length_nil, Nat.sub_self, Nat.zero_add, Nat.reduceAdd, Nat.reduceSub, Nat.add_sub_cancel, if_true, if_false, Bool.false_eq_true, Int.reduceLT, Int.reduceLE, Int.reduceNeg, Int.reduceAdd, Int.reduceSub, Int.reduceMul, Int.reduceToNat, Nat.reduceLT, Nat.reduceLeDiff, and_self, and_true, true_and, decide_true, decide_false, Bool.not_true, Bool.not_false, Option.map_some, Option.bind_some, b_add, b_sub, b_mul1, b_mod, b_fdiv, cmp_eq_int, cmp_eq_bool, cmp_lt, cmp_le, cmp_gt, cmp_ge, Int.reduceGT, gt_iff_lt, ge_iff_le, isTy, hi0, hi1, hofS, hofW, q1, q2]
  · refine ⟨false, call_ret (fn := fn_l_good) (σ' := σ') rfl rfl ?_ (by simp), ⟨fun h => (nomatch h), fun h => absurd h hA⟩⟩
    generalize Dat.tup [.str S, wsD ws] = T at hi0 hi1 q1
    generalize Dat.str S = Y at hlS hofS hi0
    simp only [fn_l_good, exs_nil, exs_cons, kSeq_next, kSeq_ret, ex_assign, kAsg_val, ex_newlst, kNew_val, ex_append, kApp0_ref, kApp_dat, ex_ret, kRet_dat, ex_ite, kIte_true, kIte_false, kIte_val, ex_for1, ev_lit, ev_con, ev_var, kVar_val, ev_bin, kBin1_val, kBin2_val, kD1_val, kD2a_val, kD2_val, ev_neg, negD, ev_prim, ev_prim2, ev_idx, kIdx_val, kNotX_val, kTruX_val, ev_slFrom, ev_slTo, kTup_val, kLst_val, ev_tup, ev_lst, kNot_val, kBool_val, kTru_val, ev_not, evCmp_cons, evCmp_nil, kCmp1_val, kCmp2_nil, kCmp2_true, kCmp2_false, kCmp0_val, ev_cmp, evB_cmp, kCall_val, kDat_val, ev_call, kCons_val, kArgs_val, evArgs_nil, evArgs_cons, kToDat_dat, kEvs_val, evs_nil, evs_cons, ev_and, ev_or, evAnd_one, Out.noX_val, evOr_one, evAnd_cons, evOr_cons, kAnd_true, kAnd_false, kOr_true, kOr_false, kAnd_val, kOr_val, evAll_nil, evAny_nil, evIfs_nil, evAll_cons, evAny_cons, evIfs_cons, kAll_val, kAny_val, kIfs_val, evB_and, evB_or, evB_not, evB_var, evB_call, evB_prim, ev_isinst, evB_isinst, evB_idx, ev_comp, evI_of', kOf_lst, kOf_tup, kOf_str, evI_range1, d1_dat, d2_dat, c2_dat, look_dat, bodyF, List.map_cons, List.map_nil, List.cons_append, List.nil_append, List.append_nil, List.replicate_succ, List.replicate_zero, List.getElem?_cons_zero, List.getElem?_cons_succ, List.set_cons_zero, List.set_cons_succ, List.length_cons, List.length_nil, Nat.sub_self, Nat.zero_add, Nat.reduceAdd, Nat.reduceSub, Nat.add_sub_cancel, if_true, if_false, Bool.false_eq_true, Int.reduceLT, Int.reduceLE, Int.reduceNeg, Int.reduceAdd, Int.reduceSub, Int.reduceMul, Int.reduceToNat, Nat.reduceLT, Nat.reduceLeDiff, and_self, and_true, true_and, decide_true, decide_false, Bool.not_true, Bool.not_false, Option.map_some, Option.bind_some, b_add, b_sub, b_mul1, b_mod, b_fdiv, cmp_eq_int, cmp_eq_bool, cmp_lt, cmp_le, cmp_gt, cmp_ge, Int.reduceGT, gt_iff_lt, ge_iff_le, isTy, hi0, hofS, q1]
end
end Mine

/-! ## PVG07 -/
namespace Mine
section
variable {sub : Nat → Nat → Bool}
theorem c_refused {n : Nat} {t r : List Nat} {rs : List (List Nat)} {σ : Sto} {g : Bool} (hσ : σ.all (fun e => !e.1) = true) (h : Rows t r rs) (hb : if g then okT r rs = true ∧ ¬ goodG (r.drop 6) (rs.map wishV) else okT r rs = false) :
    callF sub tab.Δ (n + 5) 1000 [.dat (.str t), .dat (.bool g)] σ = .val (.bool true) σ := by
  have hr := c_read (sub := sub) (n := n) (σ := σ) h
  refine call_ret (fn := fn_l_refused) (σ' := σ) rfl rfl ?_ (by simp)
  cases g with
  | true =>
    obtain ⟨σ', hx⟩ := (hr.2 hb.1).2 hb.2
    have := ex_tryc (sub := sub) (C := callF sub tab.Δ (n + 4)) (f := 19) (as := .cons (.var 0) .nil) (hs := [⟨1, 2, [(false, .var 1), (false, .isi 0), (true, .isi 3)]⟩, ⟨3, 2, [(true, .var 1), (false, .isi 0), (true, .isi 2)]⟩]) (ρ := [some (.dat (.str t)), some (.dat (.bool true)), none]) (b := true) hσ (by simp only [exs_nil, exs_cons, kSeq_next, kSeq_ret, ex_assign, kAsg_val, ex_newlst, kNew_val, ex_append, kApp0_ref, kApp_dat, ex_ret, kRet_dat, ex_ite, kIte_true, kIte_false, kIte_val, ex_for1, ev_lit, ev_con, ev_var, kVar_val, ev_bin, kBin1_val, kBin2_val, kD1_val, kD2a_val, kD2_val, ev_neg, negD, ev_prim, ev_prim2, ev_idx, kIdx_val, kNotX_val, kTruX_val, ev_slFrom, ev_slTo, kTup_val, kLst_val, ev_tup, ev_lst, kNot_val, kBool_val, kTru_val, ev_not, evCmp_cons, evCmp_nil, kCmp1_val, kCmp2_nil, kCmp2_true, kCmp2_false, kCmp0_val, ev_cmp, evB_cmp, kCall_val, kDat_val, ev_call, kCons_val, kArgs_val, evArgs_nil, evArgs_cons, kToDat_dat, kEvs_val, evs_nil, evs_cons, ev_and, ev_or, evAnd_one, Out.noX_val, evOr_one, evAnd_cons, evOr_cons, kAnd_true, kAnd_false, kOr_true, kOr_false, kAnd_val, kOr_val, evAll_nil, evAny_nil, evIfs_nil, evAll_cons, evAny_cons, evIfs_cons, kAll_val, kAny_val, kIfs_val, evB_and, evB_or, evB_not, evB_var, evB_call, evB_prim, ev_isinst, evB_isinst, evB_idx, ev_comp, evI_of', kOf_lst, kOf_tup, kOf_str, evI_range1, d1_dat, d2_dat, c2_dat, look_dat, bodyF, List.map_cons, List.map_nil, List.cons_append, List.nil_append, List.append_nil, List.replicate_succ, List.replicate_zero, List.getElem?_cons_zero, List.getElem?_cons_succ, List.set_cons_zero, List.set_cons_succ, List.length_cons, List.length_nil, Nat.sub_self, Nat.zero_add, Nat.reduceAdd, Nat.reduceSub, Nat.add_sub_cancel, if_true, if_false, Bool.false_eq_true, Int.reduceLT, Int.reduceLE, Int.reduceNeg, Int.reduceAdd, Int.reduceSub, Int.reduceMul, Int.reduceToNat, Nat.reduceLT, Nat.reduceLeDiff, and_self, and_true, true_and, decide_true, decide_false, Bool.not_true, Bool.not_false, Option.map_some, Option.bind_some, b_add, b_sub, b_mul1, b_mod, b_fdiv, cmp_eq_int, cmp_eq_bool, cmp_lt, cmp_le, cmp_gt, cmp_ge, Int.reduceGT, gt_iff_lt, ge_iff_le, isTy]) hx (by decide) rfl rfl
    simp only [fn_l_refused, exs_nil, exs_cons, kSeq_next, kSeq_ret, ex_assign, kAsg_val, ex_newlst, kNew_val, ex_append, kApp0_ref, kApp_dat, ex_ret, kRet_dat, ex_ite, kIte_true, kIte_false, kIte_val, ex_for1, ev_lit, ev_con, ev_var, kVar_val, ev_bin, kBin1_val, kBin2_val, kD1_val, kD2a_val, kD2_val, ev_neg, negD, ev_prim, ev_prim2, ev_idx, kIdx_val, kNotX_val, kTruX_val, ev_slFrom, ev_slTo, kTup_val, kLst_val, ev_tup, ev_lst, kNot_val, kBool_val, kTru_val, ev_not, evCmp_cons, evCmp_nil, kCmp1_val, kCmp2_nil, kCmp2_true, kCmp2_false, kCmp0_val, ev_cmp, evB_cmp, kCall_val, kDat_val, ev_call, kCons_val, kArgs_val, evArgs_nil, evArgs_cons, kToDat_dat, kEvs_val, evs_nil, evs_cons, ev_and, ev_or, evAnd_one, Out.noX_val, evOr_one, evAnd_cons, evOr_cons, kAnd_true, kAnd_false, kOr_true, kOr_false, kAnd_val, kOr_val, evAll_nil, evAny_nil, evIfs_nil, evAll_cons, evAny_cons, evIfs_cons, kAll_val, kAny_val, kIfs_val, evB_and, evB_or, evB_not, evB_var, evB_call, evB_prim, ev_isinst, evB_isinst, evB_idx, ev_comp, evI_of', kOf_lst, kOf_tup, kOf_str, evI_range1, d1_dat, d2_dat, c2_dat, look_dat, bodyF, List.map_cons, List.map_nil, List.cons_append, List.nil_append, List.append_nil, List.replicate_succ, List.replicate_zero, List.getElem?_cons_zero, List.getElem?_cons_succ, List.set_cons_zero, List.set_cons_succ, List.length_cons, List.length_nil, Nat.sub_self, Nat.zero_add, Nat.reduceAdd, Nat.reduceSub, Nat.add_sub_cancel, if_true, if_false, Bool.false_eq_true, Int.reduceLT, Int.reduceLE, Int.reduceNeg, Int.reduceAdd, Int.reduceSub, Int.reduceMul, Int.reduceToNat, Nat.reduceLT, Nat.reduceLeDiff, and_self, and_true, true_and, decide_true, decide_false, Bool.not_true, Bool.not_false, Option.map_some, Option.bind_some, b_add, b_sub, b_mul1, b_mod, b_fdiv, cmp_eq_int, cmp_eq_bool, cmp_lt, cmp_le, cmp_gt, cmp_ge, Int.reduceGT, gt_iff_lt, ge_iff_le, isTy, this]
  | false =>
    have hx := hr.1 hb
    have := ex_tryc (sub := sub) (C := callF sub tab.Δ (n + 4)) (f := 19) (as := .cons (.var 0) .nil) (hs := [⟨1, 2, [(false, .var 1), (false, .isi 0), (true, .isi 3)]⟩, ⟨3, 2, [(true, .var 1), (false, .isi 0), (true, .isi 2)]⟩]) (ρ := [some (.dat (.str t)), some (.dat (.bool false)), none]) (b := true) hσ (by simp only [exs_nil, exs_cons, kSeq_next, kSeq_ret, ex_assign, kAsg_val, ex_newlst, kNew_val, ex_append, kApp0_ref, kApp_dat, ex_ret, kRet_dat, ex_ite, kIte_true, kIte_false, kIte_val, ex_for1, ev_lit, ev_con, ev_var, kVar_val, ev_bin, kBin1_val, kBin2_val, kD1_val, kD2a_val, kD2_val, ev_neg, negD, ev_prim, ev_prim2, ev_idx, kIdx_val, kNotX_val, kTruX_val, ev_slFrom, ev_slTo, kTup_val, kLst_val, ev_tup, ev_lst, kNot_val, kBool_val, kTru_val, ev_not, evCmp_cons, evCmp_nil, kCmp1_val, kCmp2_nil, kCmp2_true, kCmp2_false, kCmp0_val, ev_cmp, evB_cmp, kCall_val, kDat_val, ev_call, kCons_val, kArgs_val, evArgs_nil, evArgs_cons, kToDat_dat, kEvs_val, evs_nil, evs_cons, ev_and, ev_or, evAnd_one, Out.noX_val, evOr_one, evAnd_cons, evOr_cons, kAnd_true, kAnd_false, kOr_true, kOr_false, kAnd_val, kOr_val, evAll_nil, evAny_nil, evIfs_nil, evAll_cons, evAny_cons, evIfs_cons, kAll_val, kAny_val, kIfs_val, evB_and, evB_or, evB_not, evB_var, evB_call, evB_prim, ev_isinst, evB_isinst, evB_idx, ev_comp, evI_of', kOf_lst, kOf_tup, kOf_str, evI_range1, d1_dat, d2_dat, c2_dat, look_dat, bodyF, List.map_cons, List.map_nil, List.cons_append, List.nil_append, List.append_nil, List.replicate_succ, List.replicate_zero, List.getElem?_cons_zero, List.getElem?_cons_succ, List.set_cons_zero, List.set_cons_succ, List.length_cons, List.length_nil, Nat.sub_self, Nat.zero_add, Nat.reduceAdd, Nat.reduceSub, Nat.add_sub_cancel, if_true, if_false, Bool.false_eq_true, Int.reduceLT, Int.reduceLE, Int.reduceNeg, Int.reduceAdd, Int.reduceSub, Int.reduceMul, Int.reduceToNat, Nat.reduceLT, Nat.reduceLeDiff, and_self, and_true, true_and, decide_true, decide_false, Bool.not_true, Bool.not_false, Option.map_some, Option.bind_some, b_add, b_sub, b_mul1, b_mod, b_fdiv, cmp_eq_int, cmp_eq_bool, cmp_lt, cmp_le, cmp_gt, cmp_ge, Int.reduceGT, gt_iff_lt, ge_iff_le, isTy]) hx (by decide) rfl rfl
    simp only [fn_l_refused, exs_nil, exs_cons, kSeq_next, kSeq_ret, ex_assign, kAsg_val, ex_newlst, kNew_val, ex_append, kApp0_ref, kApp_dat, ex_ret, kRet_dat, ex_ite, kIte_true, kIte_false, kIte_val, ex_for1, ev_lit, ev_con, ev_var, kVar_val, ev_bin, kBin1_val, kBin2_val, kD1_val, kD2a_val, kD2_val, ev_neg, negD, ev_prim, ev_prim2, ev_idx, kIdx_val, kNotX_val, kTruX_val, ev_slFrom, ev_slTo, kTup_val, kLst_val, ev_tup, ev_lst, kNot_val, kBool_val, kTru_val, ev_not, evCmp_cons, evCmp_nil, kCmp1_val, kCmp2_nil, kCmp2_true, kCmp2_false, kCmp0_val, ev_cmp, evB_cmp, kCall_val, kDat_val, ev_call, kCons_val, kArgs_val, evArgs_nil, evArgs_cons, kToDat_dat, kEvs_val, evs_nil, evs_cons, ev_and, ev_or, evAnd_one, Out.noX_val, evOr_one, evAnd_cons, evOr_cons, kAnd_true, kAnd_false, kOr_true, kOr_false, kAnd_val, kOr_val, evAll_nil, evAny_nil, evIfs_nil, evAll_cons, evAny_cons, evIfs_cons, kAll_val, kAny_val, kIfs_val, evB_and, evB_or, evB_not, evB_var, evB_call, evB_prim, ev_isinst, evB_isinst, evB_idx, ev_comp, evI_of', kOf_lst, kOf_tup, kOf_str, evI_range1, d1_dat, d2_dat, c2_dat, look_dat, bodyF, List.map_cons, List.map_nil, List.cons_append, List.nil_append, List.append_nil, List.replicate_succ, List.replicate_zero, List.getElem?_cons_zero, List.getElem?_cons_succ, List.set_cons_zero, List.set_cons_succ, List.length_cons, List.length_nil, Nat.sub_self, Nat.zero_add, Nat.reduceAdd, Nat.reduceSub, Nat.add_sub_cancel, if_true, if_false, Bool.false_eq_true, Int.reduceLT, Int.reduceLE, Int.reduceNeg, Int.reduceAdd, Int.reduceSub, Int.reduceMul, Int.reduceToNat, Nat.reduceLT, Nat.reduceLeDiff, and_self, and_true, true_and, decide_true, decide_false, Bool.not_true, Bool.not_false, Option.map_some, Option.bind_some, b_add, b_sub, b_mul1, b_mod, b_fdiv, cmp_eq_int, cmp_eq_bool, cmp_lt, cmp_le, cmp_gt, cmp_ge, Int.reduceGT, gt_iff_lt, ge_iff_le, isTy, this]
theorem al_num {C : Oracle} {z : Int} {x0 x1 x2 : Option Val} {σ : Sto} : exs sub C b_l_alike_1 [x0, x1, x2, some (.dat (.int z))] σ = .next [x0, x1, x2, some (.dat (.int z))] σ := by
  have k1 := fun τ : Sto => kIsin_dat sub .int (.int z) τ (by simp)
  have k2 := fun τ : Sto => kIsin_dat sub .bool (.int z) τ (by simp)
  simp only [b_l_alike_1, exs_nil, exs_cons, kSeq_next, kSeq_ret, ex_assign, kAsg_val, ex_newlst, kNew_val, ex_append, kApp0_ref, kApp_dat, ex_ret, kRet_dat, ex_ite, kIte_true, kIte_false, kIte_val, ex_for1, ev_lit, ev_con, ev_var, kVar_val, ev_bin, kBin1_val, kBin2_val, kD1_val, kD2a_val, kD2_val, ev_neg, negD, ev_prim, ev_prim2, ev_idx, kIdx_val, kNotX_val, kTruX_val, ev_slFrom, ev_slTo, kTup_val, kLst_val, ev_tup, ev_lst, kNot_val, kBool_val, kTru_val, ev_not, evCmp_cons, evCmp_nil, kCmp1_val, kCmp2_nil, kCmp2_true, kCmp2_false, kCmp0_val, ev_cmp, evB_cmp, kCall_val, kDat_val, ev_call, kCons_val, kArgs_val, evArgs_nil, evArgs_cons, kToDat_dat, kEvs_val, evs_nil, evs_cons, ev_and, ev_or, evAnd_one, Out.noX_val, evOr_one, evAnd_cons, evOr_cons, kAnd_true, kAnd_false, kOr_true, kOr_false, kAnd_val, kOr_val, evAll_nil, evAny_nil, evIfs_nil, evAll_cons, evAny_cons, evIfs_cons, kAll_val, kAny_val, kIfs_val, evB_and, evB_or, evB_not, evB_var, evB_call, evB_prim, ev_isinst, evB_isinst, evB_idx, ev_comp, evI_of', kOf_lst, kOf_tup, kOf_str, evI_range1, d1_dat, d2_dat, c2_dat, look_dat, bodyF, List.map_cons, List.map_nil, List.cons_append, List.nil_append, List.append_nil, List.replicate_succ, List.replicate_zero, List.getElem?_cons_zero, List.getElem?_cons_succ, List.set_cons_zero, List.set_cons_succ, List.length_cons, List.length_nil, Nat.sub_self, Nat.zero_add, Nat.reduceAdd, Nat.reduceSub, Nat.add_sub_cancel, if_true, if_false, Bool.false_eq_true, Int.reduceLT, Int.reduceLE, Int.reduceNeg, Int.reduceAdd, Int.reduceSub, Int.reduceMul, Int.reduceToNat, Nat.reduceLT, Nat.reduceLeDiff, and_self, and_true, true_and, decide_true, decide_false, Bool.not_true, Bool.not_false, Option.map_some, Option.bind_some, b_add, b_sub, b_mul1, b_mod, b_fdiv, cmp_eq_int, cmp_eq_bool, cmp_lt, cmp_le, cmp_gt, cmp_ge, Int.reduceGT, gt_iff_lt, ge_iff_le, isTy, k1, k2]
theorem ok_ws : ∀ ws : List (List Int), fineDs (ws.map wD) = true ∧ depthDs (ws.map wD) ≤ 1
  | [] => ⟨rfl, Nat.zero_le _⟩
  | w :: ws => by
    obtain ⟨h1, h2⟩ := ok_ws ws
    have h3 : fineD (wD w) = true ∧ depthD (wD w) ≤ 1 := by simp [wD, fineD, depthD, fine_ints, depth_ints]
    simp only [List.map_cons, fineDs, depthDs, h1, h3.1, Bool.and_self, true_and]
    exact Nat.max_le.mpr ⟨h3.2, h2⟩
theorem c_alike {n : Nat} {S : List Nat} {ws : List (List Int)} {σ : Sto} (hs : Small S ws) : callF sub tab.Δ (n + 1) 110 [.dat (.tup [.str S, wsD ws]), .dat (.tup [.str S, wsD ws])] σ = .val (.bool true) σ := by
  obtain ⟨hS, hW, hw, hch⟩ := hs
  have hi0 : idx2 (.tup [.str S, wsD ws]) (.int 0) = some (.str S) := rfl
  have hi1 : idx2 (.tup [.str S, wsD ws]) (.int 1) = some (wsD ws) := rfl
  have hln : prim1 .len (.tup [.str S, wsD ws]) = some (.int 2) := rfl
  have hne : cmp2 .ne (.int 2) (.int 2) = some false := rfl
  have hofW : ∀ τ : Sto, kOf (.val (.dat (wsD ws)) τ) = .val ⟨ws.map wD, none⟩ τ := fun _ => rfl
  have k1 : ∀ τ : Sto, kIsin sub .tuple (.val (.dat (.tup [.str S, wsD ws])) τ) = .val (.dat (.bool true)) τ := fun _ => rfl
  have k2 : ∀ τ : Sto, kIsin sub .str (.val (.dat (.str S)) τ) = .val (.dat (.bool true)) τ := fun _ => rfl
  have k3 : ∀ τ : Sto, kIsin sub .list (.val (.dat (wsD ws)) τ) = .val (.dat (.bool true)) τ := fun _ => rfl
  have heq : cmp2 .eq (.tup [.str S, wsD ws]) (.tup [.str S, wsD ws]) = some true := cmp_eq_self _ (by
    obtain ⟨f1, f2⟩ := ok_ws ws
    have hf : fineD (.str S) = true := (Bool.and_eq_true_iff.mp (ok_str (t := S) hch)).1
    have hd : depthD (.tup [.str S, wsD ws]) ≤ 3 := by
      show max 0 (max (depthDs (ws.map wD) + 1) 0) + 1 ≤ 3
      omega
    have hff : fineD (.tup [.str S, wsD ws]) = true := by
      show (fineD (.str S) && (fineDs (ws.map wD) && true)) = true
      rw [hf, f1]; rfl
    unfold okD
    rw [hff, Bool.true_and]
    exact decide_eq_true (Nat.le_trans hd (by decide)))
  have hlp := kFor_all (sub := sub) (C := callF sub tab.Δ n) (x := 2) (body := b_l_alike_2) (em := wD) (l := ws) (fun pre ρ τ => (∃ y2 y3, ρ = [some (.dat (.tup [.str S, wsD ws])), some (.dat (.tup [.str S, wsD ws])), y2, y3]) ∧ τ = σ)
    (ρ := [some (.dat (.tup [.str S, wsD ws])), some (.dat (.tup [.str S, wsD ws])), none, none]) (σ := σ) (by omega) (fun pre w post ρ τ he hP => by
      obtain ⟨⟨y2, y3, rfl⟩, rfl⟩ := hP
      have hof : ∀ τ : Sto, kOf (.val (.dat (wD w)) τ) = .val ⟨w.map .int, none⟩ τ := fun _ => rfl
      have kl : ∀ τ : Sto, kIsin sub .list (.val (.dat (wD w)) τ) = .val (.dat (.bool true)) τ := fun _ => rfl
      have := hw w (pre_lt he).2
      obtain ⟨ρ', σ', q, ⟨y, rfl⟩, rfl⟩ := kFor_all (sub := sub) (C := callF sub tab.Δ n) (x := 3) (body := b_l_alike_1) (em := Dat.int) (l := w) (fun pre ρ τ' => (∃ y, ρ = [some (.dat (.tup [.str S, wsD ws])), some (.dat (.tup [.str S, wsD ws])), some (.dat (wD w)), y]) ∧ τ' = τ)
        (ρ := [some (.dat (.tup [.str S, wsD ws])), some (.dat (.tup [.str S, wsD ws])), some (.dat (wD w)), y3]) (σ := τ) (by omega) (fun pre z post ρ τ' he hP => by
          obtain ⟨⟨y, rfl⟩, rfl⟩ := hP
          exact ⟨_, _, al_num, ⟨_, rfl⟩, rfl⟩) ⟨⟨y3, rfl⟩, rfl⟩
      refine ⟨_, _, ?_, ⟨some (.dat (wD w)), y, rfl⟩, rfl⟩
      generalize Dat.tup [.str S, wsD ws] = T at q ⊢
      generalize wD w = X at hof kl q ⊢
      simp only [b_l_alike_2, exs_nil, exs_cons, kSeq_next, kSeq_ret, ex_assign, kAsg_val, ex_newlst, kNew_val, ex_append, kApp0_ref, kApp_dat, ex_ret, kRet_dat, ex_ite, kIte_true, kIte_false, kIte_val, ex_for1, ev_lit, ev_con, ev_var, kVar_val, ev_bin, kBin1_val, kBin2_val, kD1_val, kD2a_val, kD2_val, ev_neg, negD, ev_prim, ev_prim2, ev_idx, kIdx_val, kNotX_val, kTruX_val, ev_slFrom, ev_slTo, kTup_val, kLst_val, ev_tup, ev_lst, kNot_val, kBool_val, kTru_val, ev_not, evCmp_cons, evCmp_nil, kCmp1_val, kCmp2_nil, kCmp2_true, kCmp2_false, kCmp0_val, ev_cmp, evB_cmp, kCall_val, kDat_val, ev_call, kCons_val, kArgs_val, evArgs_nil, evArgs_cons, kToDat_dat, kEvs_val, evs_nil, evs_cons, ev_and, ev_or, evAnd_one, Out.noX_val, evOr_one, evAnd_cons, evOr_cons, kAnd_true, kAnd_false, kOr_true, kOr_false, kAnd_val, kOr_val, evAll_nil, evAny_nil, evIfs_nil, evAll_cons, evAny_cons, evIfs_cons, kAll_val, kAny_val, kIfs_val, evB_and, evB_or, evB_not, evB_var, evB_call, evB_prim, ev_isinst, evB_isinst, evB_idx, ev_comp, evI_of', kOf_lst, kOf_tup, kOf_str, evI_range1, d1_dat, d2_dat, c2_dat, look_dat, bodyF, List.map_cons, List.map_nil, List.cons_append, List.nil_append, List.append_nil, List.replicate_succ, List.replicate_zero, List.getElem?_cons_zero, List.getElem?_cons_succ, List.set_cons_zero, List.set_cons_succ, List.length_cons, List.length_nil, Nat.sub_self, Nat.zero_add, Nat.reduceAdd, Nat.reduceSub, Nat.add_sub_cancel, if_true, if_false, Bool.false_eq_true, Int.reduceLT, Int.reduceLE, Int.reduceNeg, Int.reduceAdd, Int.reduceSub, Int.reduceMul, Int.reduceToNat, Nat.reduceLT, Nat.reduceLeDiff, and_self, and_true, true_and, decide_true, decide_false, Bool.not_true, Bool.not_false, Option.map_some, Option.bind_some, b_add, b_sub, b_mul1, b_mod, b_fdiv, cmp_eq_int, cmp_eq_bool, cmp_lt, cmp_le, cmp_gt, cmp_ge, Int.reduceGT, gt_iff_lt, ge_iff_le, isTy, kl, hof, q]) ⟨⟨none, none, rfl⟩, rfl⟩
  obtain ⟨ρ', σ', q, ⟨y2, y3, rfl⟩, rfl⟩ := hlp
  refine call_ret (fn := fn_l_alike) (σ' := σ') rfl rfl ?_ (by simp)
  show exs sub (callF sub tab.Δ n) t_l_alike_0 [some (.dat (.tup [.str S, wsD ws])), some (.dat (.tup [.str S, wsD ws])), none, none] σ' = _
  generalize Dat.tup [.str S, wsD ws] = T at hi0 hi1 hln k1 heq q
  generalize wsD ws = X at hofW hi1 k3
  generalize Dat.str S = Y at hi0 k2
  simp only [t_l_alike_0, t_l_alike_1, t_l_alike_2, t_l_alike_3, exs_nil, exs_cons, kSeq_next, kSeq_ret, ex_assign, kAsg_val, ex_newlst, kNew_val, ex_append, kApp0_ref, kApp_dat, ex_ret, kRet_dat, ex_ite, kIte_true, kIte_false, kIte_val, ex_for1, ev_lit, ev_con, ev_var, kVar_val, ev_bin, kBin1_val, kBin2_val, kD1_val, kD2a_val, kD2_val, ev_neg, negD, ev_prim, ev_prim2, ev_idx, kIdx_val, kNotX_val, kTruX_val, ev_slFrom, ev_slTo, kTup_val, kLst_val, ev_tup, ev_lst, kNot_val, kBool_val, kTru_val, ev_not, evCmp_cons, evCmp_nil, kCmp1_val, kCmp2_nil, kCmp2_true, kCmp2_false, kCmp0_val, ev_cmp, evB_cmp, kCall_val, kDat_val, ev_call, kCons_val, kArgs_val, evArgs_nil, evArgs_cons, kToDat_dat, kEvs_val, evs_nil, evs_cons, ev_and, ev_or, evAnd_one, Out.noX_val, evOr_one, evAnd_cons, evOr_cons, kAnd_true, kAnd_false, kOr_true, kOr_false, kAnd_val, kOr_val, evAll_nil, evAny_nil, evIfs_nil, evAll_cons, evAny_cons, evIfs_cons, kAll_val, kAny_val, kIfs_val, evB_and, evB_or, evB_not, evB_var, evB_call, evB_prim, ev_isinst, evB_isinst, evB_idx, ev_comp, evI_of', kOf_lst, kOf_tup, kOf_str, evI_range1, d1_dat, d2_dat, c2_dat, look_dat, bodyF, List.map_cons, List.map_nil, List.cons_append, List.nil_append, List.append_nil, List.replicate_succ, List.replicate_zero, List.getElem?_cons_zero, List.getElem?_cons_succ, List.set_cons_zero, List.set_cons_succ, List.length_cons, List.length_nil, Nat.sub_self, Nat.zero_add, Nat.reduceAdd, Nat.reduceSub, Nat.add_sub_cancel, if_true, if_false, Bool.false_eq_true, Int.reduceLT, Int.reduceLE, Int.reduceNeg, Int.reduceAdd, Int.reduceSub, Int.reduceMul, Int.reduceToNat, Nat.reduceLT, Nat.reduceLeDiff, and_self, and_true, true_and, decide_true, decide_false, Bool.not_true, Bool.not_false, Option.map_some, Option.bind_some, b_add, b_sub, b_mul1, b_mod, b_fdiv, cmp_eq_int, cmp_eq_bool, cmp_lt, cmp_le, cmp_gt, cmp_ge, Int.reduceGT, gt_iff_lt, ge_iff_le, isTy, k1, hln, hne, hi0, hi1, k2, k3, hofW, q, heq]
/-- the law, when the text is made -/
theorem wish_ne {row : List Nat} (h : okW row = true) : ∀ z ∈ wishV row, z ≠ 0 := fun z hz => by
  obtain ⟨w, hw, rfl⟩ := List.mem_map.mp hz
  have := List.all_eq_true.mp (Bool.and_eq_true_iff.mp h).2 w hw
  exact val_ne (f := figs w) this w
theorem c_law {n : Nat} {s : Dat} {t : List Nat} {σ : Sto} (hσ : σ.all (fun e => !e.1) = true) (ht : Txt t) (hx : callF sub tab.Δ (n + 5) 105 [.dat s] σ = .val (.str t) σ) : callF sub tab.Δ (n + 6) 111 [.dat s] σ = .val (.bool true) σ := by
  obtain ⟨r, rs, hsp⟩ := split_cons 10 t
  have h : Rows t r rs := ⟨ht, hsp⟩
  have hg := c_game (sub := sub) (n := n + 2) (σ := σ) h
  refine call_ret (fn := fn_law) (σ' := σ) rfl rfl ?_ (by simp)
  show exs sub (callF sub tab.Δ (n + 5)) t_law_0 [some (.dat s), none, none] σ = _
  cases hT : okT r rs with
  | false =>
    rw [hT] at hg
    have hr := c_refused (sub := sub) (n := n) (g := false) hσ h hT
    have hi : cmp2 .is .none .none = some true := rfl
    simp only [t_law_0, t_law_1, t_law_2, exs_nil, exs_cons, kSeq_next, kSeq_ret, ex_assign, kAsg_val, ex_newlst, kNew_val, ex_append, kApp0_ref, kApp_dat, ex_ret, kRet_dat, ex_ite, kIte_true, kIte_false, kIte_val, ex_for1, ev_lit, ev_con, ev_var, kVar_val, ev_bin, kBin1_val, kBin2_val, kD1_val, kD2a_val, kD2_val, ev_neg, negD, ev_prim, ev_prim2, ev_idx, kIdx_val, kNotX_val, kTruX_val, ev_slFrom, ev_slTo, kTup_val, kLst_val, ev_tup, ev_lst, kNot_val, kBool_val, kTru_val, ev_not, evCmp_cons, evCmp_nil, kCmp1_val, kCmp2_nil, kCmp2_true, kCmp2_false, kCmp0_val, ev_cmp, evB_cmp, kCall_val, kDat_val, ev_call, kCons_val, kArgs_val, evArgs_nil, evArgs_cons, kToDat_dat, kEvs_val, evs_nil, evs_cons, ev_and, ev_or, evAnd_one, Out.noX_val, evOr_one, evAnd_cons, evOr_cons, kAnd_true, kAnd_false, kOr_true, kOr_false, kAnd_val, kOr_val, evAll_nil, evAny_nil, evIfs_nil, evAll_cons, evAny_cons, evIfs_cons, kAll_val, kAny_val, kIfs_val, evB_and, evB_or, evB_not, evB_var, evB_call, evB_prim, ev_isinst, evB_isinst, evB_idx, ev_comp, evI_of', kOf_lst, kOf_tup, kOf_str, evI_range1, d1_dat, d2_dat, c2_dat, look_dat, bodyF, List.map_cons, List.map_nil, List.cons_append, List.nil_append, List.append_nil, List.replicate_succ, List.replicate_zero, List.getElem?_cons_zero, List.getElem?_cons_succ, List.set_cons_zero, List.set_cons_succ, List.length_cons, List.length_nil, Nat.sub_self, Nat.zero_add, Nat.reduceAdd, Nat.reduceSub, Nat.add_sub_cancel, if_true, if_false, Bool.false_eq_true, Int.reduceLT, Int.reduceLE, Int.reduceNeg, Int.reduceAdd, Int.reduceSub, Int.reduceMul, Int.reduceToNat, Nat.reduceLT, Nat.reduceLeDiff, and_self, and_true, true_and, decide_true, decide_false, Bool.not_true, Bool.not_false, Option.map_some, Option.bind_some, b_add, b_sub, b_mul1, b_mod, b_fdiv, cmp_eq_int, cmp_eq_bool, cmp_lt, cmp_le, cmp_gt, cmp_ge, Int.reduceGT, gt_iff_lt, ge_iff_le, isTy, hx, hg, hi, hr]
  | true =>
    rw [hT, if_pos rfl] at hg
    have hi : cmp2 .is (.tup [.str (r.drop 6), wsD (rs.map wishV)]) .none = some false := rfl
    have hall := (Bool.and_eq_true_iff.mp (show (okH r && rs.all okW) = true from hT)).2
    obtain ⟨b, hb, hbg⟩ := c_good (sub := sub) (n := n + 4) (σ := σ) h.small (fun w hw => by
      obtain ⟨q, hq, rfl⟩ := List.mem_map.mp hw
      exact wish_ne (List.all_eq_true.mp hall q hq))
    cases b with
    | false =>
      have hr := c_refused (sub := sub) (n := n) (g := true) hσ h ⟨hT, fun q => nomatch hbg.mpr q⟩
      generalize Dat.tup [.str (r.drop 6), wsD (rs.map wishV)] = G at hg hi hb
      simp only [t_law_0, t_law_1, t_law_2, t_law_3, exs_nil, exs_cons, kSeq_next, kSeq_ret, ex_assign, kAsg_val, ex_newlst, kNew_val, ex_append, kApp0_ref, kApp_dat, ex_ret, kRet_dat, ex_ite, kIte_true, kIte_false, kIte_val, ex_for1, ev_lit, ev_con, ev_var, kVar_val, ev_bin, kBin1_val, kBin2_val, kD1_val, kD2a_val, kD2_val, ev_neg, negD, ev_prim, ev_prim2, ev_idx, kIdx_val, kNotX_val, kTruX_val, ev_slFrom, ev_slTo, kTup_val, kLst_val, ev_tup, ev_lst, kNot_val, kBool_val, kTru_val, ev_not, evCmp_cons, evCmp_nil, kCmp1_val, kCmp2_nil, kCmp2_true, kCmp2_false, kCmp0_val, ev_cmp, evB_cmp, kCall_val, kDat_val, ev_call, kCons_val, kArgs_val, evArgs_nil, evArgs_cons, kToDat_dat, kEvs_val, evs_nil, evs_cons, ev_and, ev_or, evAnd_one, Out.noX_val, evOr_one, evAnd_cons, evOr_cons, kAnd_true, kAnd_false, kOr_true, kOr_false, kAnd_val, kOr_val, evAll_nil, evAny_nil, evIfs_nil, evAll_cons, evAny_cons, evIfs_cons, kAll_val, kAny_val, kIfs_val, evB_and, evB_or, evB_not, evB_var, evB_call, evB_prim, ev_isinst, evB_isinst, evB_idx, ev_comp, evI_of', kOf_lst, kOf_tup, kOf_str, evI_range1, d1_dat, d2_dat, c2_dat, look_dat, bodyF, List.map_cons, List.map_nil, List.cons_append, List.nil_append, List.append_nil, List.replicate_succ, List.replicate_zero, List.getElem?_cons_zero, List.getElem?_cons_succ, List.set_cons_zero, List.set_cons_succ, List.length_cons, List.length_nil, Nat.sub_self, Nat.zero_add, Nat.reduceAdd, Nat.reduceSub, Nat.add_sub_cancel, if_true, if_false, Bool.false_eq_true, Int.reduceLT, Int.reduceLE, Int.reduceNeg, Int.reduceAdd, Int.reduceSub, Int.reduceMul, Int.reduceToNat, Nat.reduceLT, Nat.reduceLeDiff, and_self, and_true, true_and, decide_true, decide_false, Bool.not_true, Bool.not_false, Option.map_some, Option.bind_some, b_add, b_sub, b_mul1, b_mod, b_fdiv, cmp_eq_int, cmp_eq_bool, cmp_lt, cmp_le, cmp_gt, cmp_ge, Int.reduceGT, gt_iff_lt, ge_iff_le, isTy, hx, hg, hi, hb, hr]
    | true =>
      have hr := ((c_read (sub := sub) (n := n + 1) (σ := σ) h).2 hT).1 (hbg.mp rfl)
      have ha := c_alike (sub := sub) (n := n + 4) (σ := σ) h.small
      generalize Dat.tup [.str (r.drop 6), wsD (rs.map wishV)] = G at hg hi hb hr ha
      simp only [t_law_0, t_law_1, t_law_2, t_law_3, t_law_4, exs_nil, exs_cons, kSeq_next, kSeq_ret, ex_assign, kAsg_val, ex_newlst, kNew_val, ex_append, kApp0_ref, kApp_dat, ex_ret, kRet_dat, ex_ite, kIte_true, kIte_false, kIte_val, ex_for1, ev_lit, ev_con, ev_var, kVar_val, ev_bin, kBin1_val, kBin2_val, kD1_val, kD2a_val, kD2_val, ev_neg, negD, ev_prim, ev_prim2, ev_idx, kIdx_val, kNotX_val, kTruX_val, ev_slFrom, ev_slTo, kTup_val, kLst_val, ev_tup, ev_lst, kNot_val, kBool_val, kTru_val, ev_not, evCmp_cons, evCmp_nil, kCmp1_val, kCmp2_nil, kCmp2_true, kCmp2_false, kCmp0_val, ev_cmp, evB_cmp, kCall_val, kDat_val, ev_call, kCons_val, kArgs_val, evArgs_nil, evArgs_cons, kToDat_dat, kEvs_val, evs_nil, evs_cons, ev_and, ev_or, evAnd_one, Out.noX_val, evOr_one, evAnd_cons, evOr_cons, kAnd_true, kAnd_false, kOr_true, kOr_false, kAnd_val, kOr_val, evAll_nil, evAny_nil, evIfs_nil, evAll_cons, evAny_cons, evIfs_cons, kAll_val, kAny_val, kIfs_val, evB_and, evB_or, evB_not, evB_var, evB_call, evB_prim, ev_isinst, evB_isinst, evB_idx, ev_comp, evI_of', kOf_lst, kOf_tup, kOf_str, evI_range1, d1_dat, d2_dat, c2_dat, look_dat, bodyF, List.map_cons, List.map_nil, List.cons_append, List.nil_append, List.append_nil, List.replicate_succ, List.replicate_zero, List.getElem?_cons_zero, List.getElem?_cons_succ, List.set_cons_zero, List.set_cons_succ, List.length_cons, List.length_nil, Nat.sub_self, Nat.zero_add, Nat.reduceAdd, Nat.reduceSub, Nat.add_sub_cancel, if_true, if_false, Bool.false_eq_true, Int.reduceLT, Int.reduceLE, Int.reduceNeg, Int.reduceAdd, Int.reduceSub, Int.reduceMul, Int.reduceToNat, Nat.reduceLT, Nat.reduceLeDiff, and_self, and_true, true_and, decide_true, decide_false, Bool.not_true, Bool.not_false, Option.map_some, Option.bind_some, b_add, b_sub, b_mul1, b_mod, b_fdiv, cmp_eq_int, cmp_eq_bool, cmp_lt, cmp_le, cmp_gt, cmp_ge, Int.reduceGT, gt_iff_lt, ge_iff_le, isTy, hx, hg, hi, hb, hr, ha]
end
end Mine

/-! ## PVH07 -/
namespace Mine
noncomputable def firsts : List (List Nat) := [[108, 97, 109, 112, 115], [108, 97, 109, 112, 115, 32, 102, 111], [108, 97, 109, 112, 115, 32, 111, 102, 102, 111], [108, 97, 109, 112, 115, 32, 111], [108, 97, 109, 112, 115, 32], [108, 97, 109, 112, 115, 32, 32, 102, 111], [76, 97, 109, 112, 115, 32, 102, 111], [108, 97, 109, 112, 115, 32, 102, 32, 111], [108, 97, 109, 112, 115, 32, 102, 120], [108, 97, 109, 112, 32, 102, 111], [], [32, 108, 97, 109, 112, 115, 32, 102, 111], [108, 97, 109, 112, 115, 102, 111]]
noncomputable def nexts : List (List Nat) := [[119, 105, 115, 104], [119, 105, 115, 104, 32, 49], [119, 105, 115, 104, 32, 45, 49, 32, 50], [119, 105, 115, 104, 32, 50, 32, 50, 32, 45, 50], [119, 105, 115, 104, 32, 49, 32, 32, 50], [119, 105, 115, 104, 32, 49, 32], [32, 119, 105, 115, 104, 32, 49], [119, 105, 115, 104, 32, 48, 49], [119, 105, 115, 104, 32, 43, 49], [119, 105, 115, 104, 32, 45, 48], [119, 105, 115, 104, 32, 48], [119, 105, 115, 104, 32, 51], [119, 105, 115, 104, 32, 45, 51, 32, 49], [119, 105, 115, 104, 32, 45], [119, 105, 115, 104, 32, 45, 45, 49], [119, 105, 115, 104, 32, 49, 45], [87, 105, 115, 104, 32, 49], [119, 105, 115, 104, 101, 115, 32, 49], [], [108, 97, 109, 112, 115, 32, 102, 111], [119, 105, 115, 104, 44, 49], [119, 105, 115, 104, 49], [119, 105, 115, 104, 32, 49, 32, 97], [119, 105, 115, 104, 32, 45, 48, 49]]
noncomputable def signs : List Nat := [32, 33, 34, 35, 36, 38, 39, 40, 41, 42, 43, 44, 45, 46, 47, 48, 49, 50, 51, 52, 53, 54, 55, 56, 57, 58, 59, 60, 61, 62, 63, 64, 65, 66, 67, 68, 69, 70, 71, 72, 73, 74, 75, 76, 77, 78, 79, 80, 81, 82, 83, 84, 85, 86, 87, 88, 89, 90, 91, 92, 93, 94, 95, 96, 97, 98, 99, 100, 101, 102, 103, 104, 105, 106, 107, 108, 109, 110, 111, 112, 113, 114, 115, 116, 117, 118, 119, 120, 121, 122, 123, 124, 125, 126, 10, 9]
/-- a text of at most k signs -/
noncomputable def TL (k : Nat) (t : List Nat) : Prop := t.length ≤ k ∧ Low t
theorem TL.app {a b : Nat} {s t : List Nat} (x : TL a s) (y : TL b t) : TL (a + b) (s ++ t) := ⟨by have := x.1; have := y.1; simp; omega, fun c hc => (List.mem_append.mp hc).elim (x.2 c) (y.2 c)⟩
theorem TL.le {a b : Nat} {t : List Nat} (x : TL a t) (h : a ≤ b) : TL b t := ⟨Nat.le_trans x.1 h, x.2⟩
theorem TL.take {a : Nat} {t : List Nat} (x : TL a t) (k : Nat) : TL a (t.take k) := ⟨by have := x.1; simp; omega, fun c hc => x.2 c (List.mem_of_mem_take hc)⟩
theorem TL.drop {a : Nat} {t : List Nat} (x : TL a t) (k : Nat) : TL a (t.drop k) := ⟨by have := x.1; simp; omega, fun c hc => x.2 c (List.mem_of_mem_drop hc)⟩
theorem add_str {a b : Nat} {s t : List Nat} (x : TL a s) (y : TL b t) (h : a + b ≤ 1000) : bin2 .add (.str s) (.str t) = some (.str (s ++ t)) := if_pos (by have := x.1; have := y.1; omega)
theorem mul_len (s : List Nat) (n : Nat) : (List.replicate n s).flatten.length = n * s.length := by simp
theorem mul_str {a m : Nat} {s : List Nat} {k : Int} (x : TL a s) (h : 0 ≤ k ∧ k ≤ m) (hb : m * a ≤ 1000) (hm : m ≤ 1000) : ∃ t, bin2 .mul (.str s) (.int k) = some (.str t) ∧ TL (m * a) t := by
  have h1 : k.toNat * s.length ≤ m * a := Nat.mul_le_mul (by omega) x.1
  refine ⟨(List.replicate k.toNat s).flatten, if_pos ⟨by rw [Nat.mul_comm]; omega, by omega, by omega⟩, by rw [mul_len]; exact h1, fun c hc => ?_⟩
  obtain ⟨l, hl, hcl⟩ := List.mem_flatten.mp hc
  rw [List.eq_of_mem_replicate hl] at hcl
  exact x.2 c hcl
theorem pick {L : List (List Nat)} {k : Nat} {r : Int} (hL : ∀ t ∈ L, TL k t) (hl : L.length ≤ 1000) (h0 : 0 ≤ r) (h1 : r < L.length) : ∃ t, idx2 (.lst (L.map .str)) (.int r) = some (.str t) ∧ TL k t := by
  have h : r.toNat < L.length := by omega
  exact ⟨L[r.toNat], idx_lst _ r _ (by rw [List.length_map]; omega) h0 (by simp [h]), hL _ (List.getElem_mem h)⟩
theorem join_len (s : List Nat) : ∀ ts : List (List Nat), (joinC s ts).length ≤ (ts.map List.length).sum + ts.length * s.length
  | [] => by simp [joinC]
  | [x] => by simp [joinC]
  | x :: y :: r => by
    have := join_len s (y :: r)
    rw [joinC_cons]
    simp only [List.length_append, List.map_cons, List.sum_cons, List.length_cons, Nat.add_mul, Nat.one_mul] at this ⊢
    omega
theorem join_low {s : List Nat} (hs : Low s) : ∀ {ts : List (List Nat)}, (∀ t ∈ ts, Low t) → Low (joinC s ts)
  | [], _ => nofun
  | [x], h => h x (.head _)
  | x :: y :: r, h => by
    have := join_low hs (ts := y :: r) fun t ht => h t (.tail _ ht)
    rw [joinC_cons]
    intro c hc
    rcases List.mem_append.mp hc with hc | hc
    · rcases List.mem_append.mp hc with hc | hc
      · exact h x (.head _) c hc
      · exact hs c hc
    · exact this c hc
theorem sum_le {b : Nat} : ∀ {ts : List (List Nat)}, (∀ t ∈ ts, TL b t) → (ts.map List.length).sum ≤ ts.length * b
  | [], _ => by simp
  | x :: r, h => by
    have := sum_le (ts := r) fun t ht => h t (.tail _ ht)
    have := (h x (.head _)).1
    simp only [List.map_cons, List.sum_cons, List.length_cons, Nat.add_mul, Nat.one_mul]
    omega
theorem join_ok {b k : Nat} {ts : List (List Nat)} (h : ∀ t ∈ ts, TL b t) (hk : ts.length ≤ k) (hb : k * (b + 1) ≤ 1000) : ∃ t, prim2 .join (.str [10]) (.lst (ts.map .str)) = some (.str t) ∧ TL (k * (b + 1)) t := by
  have h1 := sum_le h
  have h2 : ts.length * (b + 1) ≤ k * (b + 1) := Nat.mul_le_mul_right _ hk
  have h3 := join_len [10] ts
  simp only [List.length_cons, List.length_nil, Nat.mul_add, Nat.mul_one] at h2 h3 hb ⊢
  refine ⟨joinC [10] ts, ?_, by omega, join_low (by decide) fun t ht => (h t ht).2⟩
  show (strsOf (ts.map .str)).bind _ = _
  rw [strsOf_map]
  exact if_pos (by simp only [List.length_cons, List.length_nil]; omega)
theorem d2_ref {f : Dat → Dat → Option Dat} {a : Dat} {k : Nat} {σ : Sto} {b : Bool} {l : List Dat} (h : σ[k]? = some (b, l)) : d2 f (.dat a) (.ref k) σ = match f a (.lst l) with | some d => .val (.dat d) σ | none => .bad := by
  simp only [d2, look, h, Option.map_some, Option.bind_some] <;> (cases f a (.lst l) <;> rfl)
section
variable {sub : Nat → Nat → Bool}
theorem c_first {n : Nat} {c : Int} {σ : Sto} : ∃ t, callF sub tab.Δ (n + 1) 101 [.dat (.int c)] σ = .val (.str t) σ ∧ TL 10 t := by
  obtain ⟨t, h1, h2⟩ := pick (L := firsts) (k := 10) (r := c % 13) (by unfold TL; decide) (by decide) (by omega) (by show c % 13 < 13; omega)
  refine ⟨t, call_ret (fn := fn_l_first) (σ' := σ) rfl rfl ?_ (by simp), h2⟩
  have e : exs sub (callF sub tab.Δ n) t_l_first_0 [some (.dat (.int c)), none] σ = exs sub (callF sub tab.Δ n) t_l_first_2 [some (.dat (.int c)), some (.dat (.lst (firsts.map .str)))] σ := rfl
  refine e.trans ?_
  generalize Dat.lst (firsts.map .str) = X at h1
  simp only [t_l_first_2, exs_nil, exs_cons, kSeq_next, kSeq_ret, ex_assign, kAsg_val, ex_newlst, kNew_val, ex_append, kApp0_ref, kApp_dat, ex_ret, kRet_dat, ex_ite, kIte_true, kIte_false, kIte_val, ex_for1, ev_lit, ev_con, ev_var, kVar_val, ev_bin, kBin1_val, kBin2_val, kD1_val, kD2a_val, kD2_val, ev_neg, negD, ev_prim, ev_prim2, ev_idx, kIdx_val, kNotX_val, kTruX_val, ev_slFrom, ev_slTo, kTup_val, kLst_val, ev_tup, ev_lst, kNot_val, kBool_val, kTru_val, ev_not, evCmp_cons, evCmp_nil, kCmp1_val, kCmp2_nil, kCmp2_true, kCmp2_false, kCmp0_val, ev_cmp, evB_cmp, kCall_val, kDat_val, ev_call, kCons_val, kArgs_val, evArgs_nil, evArgs_cons, kToDat_dat, kEvs_val, evs_nil, evs_cons, ev_and, ev_or, evAnd_one, Out.noX_val, evOr_one, evAnd_cons, evOr_cons, kAnd_true, kAnd_false, kOr_true, kOr_false, kAnd_val, kOr_val, evAll_nil, evAny_nil, evIfs_nil, evAll_cons, evAny_cons, evIfs_cons, kAll_val, kAny_val, kIfs_val, evB_and, evB_or, evB_not, evB_var, evB_call, evB_prim, ev_isinst, evB_isinst, evB_idx, ev_comp, evI_of', kOf_lst, kOf_tup, kOf_str, evI_range1, d1_dat, d2_dat, c2_dat, look_dat, bodyF, List.map_cons, List.map_nil, List.cons_append, List.nil_append, List.append_nil, List.replicate_succ, List.replicate_zero, List.getElem?_cons_zero, List.getElem?_cons_succ, List.set_cons_zero, List.set_cons_succ, List.length_cons, List.length_nil, Nat.sub_self, Nat.zero_add, Nat.reduceAdd, Nat.reduceSub, Nat.add_sub_cancel, if_true, if_false, Bool.false_eq_true, Int.reduceLT, Int.reduceLE, Int.reduceNeg, Int.reduceAdd, Int.reduceSub, Int.reduceMul, Int.reduceToNat, Nat.reduceLT, Nat.reduceLeDiff, and_self, and_true, true_and, decide_true, decide_false, Bool.not_true, Bool.not_false, Option.map_some, Option.bind_some, b_add, b_sub, b_mul1, b_mod, b_fdiv, cmp_eq_int, cmp_eq_bool, cmp_lt, cmp_le, cmp_gt, cmp_ge, Int.reduceGT, gt_iff_lt, ge_iff_le, isTy, h1]
theorem c_next {n : Nat} {c : Int} {σ : Sto} : ∃ t, callF sub tab.Δ (n + 1) 102 [.dat (.int c)] σ = .val (.str t) σ ∧ TL 67 t := by
  have e : exs sub (callF sub tab.Δ n) t_l_next_0 [some (.dat (.int c)), none, none] σ = exs sub (callF sub tab.Δ n) t_l_next_3 [some (.dat (.int c)), some (.dat (.lst (nexts.map .str))), none] σ := rfl
  by_cases h : c % 27 < 24
  · obtain ⟨t, h1, h2⟩ := pick (L := nexts) (k := 67) (r := c % 27) (by unfold TL; decide) (by decide) (by omega) h
    refine ⟨t, call_ret (fn := fn_l_next) (σ' := σ) rfl rfl (e.trans ?_) (by simp), h2⟩
    generalize Dat.lst (nexts.map .str) = X at h1
    simp only [t_l_next_3, exs_nil, exs_cons, kSeq_next, kSeq_ret, ex_assign, kAsg_val, ex_newlst, kNew_val, ex_append, kApp0_ref, kApp_dat, ex_ret, kRet_dat, ex_ite, kIte_true, kIte_false, kIte_val, ex_for1, ev_lit, ev_con, ev_var, kVar_val, ev_bin, kBin1_val, kBin2_val, kD1_val, kD2a_val, kD2_val, ev_neg, negD, ev_prim, ev_prim2, ev_idx, kIdx_val, kNotX_val, kTruX_val, ev_slFrom, ev_slTo, kTup_val, kLst_val, ev_tup, ev_lst, kNot_val, kBool_val, kTru_val, ev_not, evCmp_cons, evCmp_nil, kCmp1_val, kCmp2_nil, kCmp2_true, kCmp2_false, kCmp0_val, ev_cmp, evB_cmp, kCall_val, kDat_val, ev_call, kCons_val, kArgs_val, evArgs_nil, evArgs_cons, kToDat_dat, kEvs_val, evs_nil, evs_cons, ev_and, ev_or, evAnd_one, Out.noX_val, evOr_one, evAnd_cons, evOr_cons, kAnd_true, kAnd_false, kOr_true, kOr_false, kAnd_val, kOr_val, evAll_nil, evAny_nil, evIfs_nil, evAll_cons, evAny_cons, evIfs_cons, kAll_val, kAny_val, kIfs_val, evB_and, evB_or, evB_not, evB_var, evB_call, evB_prim, ev_isinst, evB_isinst, evB_idx, ev_comp, evI_of', kOf_lst, kOf_tup, kOf_str, evI_range1, d1_dat, d2_dat, c2_dat, look_dat, bodyF, List.map_cons, List.map_nil, List.cons_append, List.nil_append, List.append_nil, List.replicate_succ, List.replicate_zero, List.getElem?_cons_zero, List.getElem?_cons_succ, List.set_cons_zero, List.set_cons_succ, List.length_cons, List.length_nil, Nat.sub_self, Nat.zero_add, Nat.reduceAdd, Nat.reduceSub, Nat.add_sub_cancel, if_true, if_false, Bool.false_eq_true, Int.reduceLT, Int.reduceLE, Int.reduceNeg, Int.reduceAdd, Int.reduceSub, Int.reduceMul, Int.reduceToNat, Nat.reduceLT, Nat.reduceLeDiff, and_self, and_true, true_and, decide_true, decide_false, Bool.not_true, Bool.not_false, Option.map_some, Option.bind_some, b_add, b_sub, b_mul1, b_mod, b_fdiv, cmp_eq_int, cmp_eq_bool, cmp_lt, cmp_le, cmp_gt, cmp_ge, Int.reduceGT, gt_iff_lt, ge_iff_le, isTy, h, h1]
  · obtain ⟨g, h1, h2⟩ := pick (L := [[], [45]]) (k := 1) (r := c / 27 % 2) (by unfold TL; decide) (by decide) (by omega) (by show c / 27 % 2 < 2; omega)
    have hk : ∃ k : Int, idx2 (.lst [.int 58, .int 59, .int 60]) (.int (c % 27 - 24)) = some (.int k) ∧ 0 ≤ k ∧ k ≤ 60 := by
      have : c % 27 - 24 = 0 ∨ c % 27 - 24 = 1 ∨ c % 27 - 24 = 2 := by omega
      rcases this with q | q | q <;> rw [q] <;> exact ⟨_, rfl, by decide, by decide⟩
    obtain ⟨k, h3, h4⟩ := hk
    obtain ⟨z, h5, h6⟩ := mul_str (a := 1) (m := 60) (s := [48]) (k := k) (by unfold TL; decide) (by omega) (by decide) (by decide)
    have w0 : TL 5 [119, 105, 115, 104, 32] := by unfold TL; decide
    have w1 : TL 1 [55] := by unfold TL; decide
    have a1 := add_str w0 h2 (by decide)
    have a2 := add_str (w0.app h2) w1 (by decide)
    have a3 := add_str ((w0.app h2).app w1) h6 (by decide)
    replace h1 : idx2 (.lst [.str [], .str [45]]) (.int (c / 27 % 2)) = some (.str g) := h1
    refine ⟨_, call_ret (fn := fn_l_next) (σ' := σ) rfl rfl (e.trans ?_) (by simp), ((w0.app h2).app w1).app h6⟩
    generalize Dat.lst (nexts.map .str) = X
    generalize [119, 105, 115, 104, 32] ++ g = G1 at a1 a2 a3 ⊢
    generalize G1 ++ [55] = G2 at a2 a3 ⊢
    generalize G2 ++ z = G3 at a3 ⊢
    simp only [t_l_next_3, t_l_next_4, t_l_next_5, exs_nil, exs_cons, kSeq_next, kSeq_ret, ex_assign, kAsg_val, ex_newlst, kNew_val, ex_append, kApp0_ref, kApp_dat, ex_ret, kRet_dat, ex_ite, kIte_true, kIte_false, kIte_val, ex_for1, ev_lit, ev_con, ev_var, kVar_val, ev_bin, kBin1_val, kBin2_val, kD1_val, kD2a_val, kD2_val, ev_neg, negD, ev_prim, ev_prim2, ev_idx, kIdx_val, kNotX_val, kTruX_val, ev_slFrom, ev_slTo, kTup_val, kLst_val, ev_tup, ev_lst, kNot_val, kBool_val, kTru_val, ev_not, evCmp_cons, evCmp_nil, kCmp1_val, kCmp2_nil, kCmp2_true, kCmp2_false, kCmp0_val, ev_cmp, evB_cmp, kCall_val, kDat_val, ev_call, kCons_val, kArgs_val, evArgs_nil, evArgs_cons, kToDat_dat, kEvs_val, evs_nil, evs_cons, ev_and, ev_or, evAnd_one, Out.noX_val, evOr_one, evAnd_cons, evOr_cons, kAnd_true, kAnd_false, kOr_true, kOr_false, kAnd_val, kOr_val, evAll_nil, evAny_nil, evIfs_nil, evAll_cons, evAny_cons, evIfs_cons, kAll_val, kAny_val, kIfs_val, evB_and, evB_or, evB_not, evB_var, evB_call, evB_prim, ev_isinst, evB_isinst, evB_idx, ev_comp, evI_of', kOf_lst, kOf_tup, kOf_str, evI_range1, d1_dat, d2_dat, c2_dat, look_dat, bodyF, List.map_cons, List.map_nil, List.cons_append, List.nil_append, List.append_nil, List.replicate_succ, List.replicate_zero, List.getElem?_cons_zero, List.getElem?_cons_succ, List.set_cons_zero, List.set_cons_succ, List.length_cons, List.length_nil, Nat.sub_self, Nat.zero_add, Nat.reduceAdd, Nat.reduceSub, Nat.add_sub_cancel, if_true, if_false, Bool.false_eq_true, Int.reduceLT, Int.reduceLE, Int.reduceNeg, Int.reduceAdd, Int.reduceSub, Int.reduceMul, Int.reduceToNat, Nat.reduceLT, Nat.reduceLeDiff, and_self, and_true, true_and, decide_true, decide_false, Bool.not_true, Bool.not_false, Option.map_some, Option.bind_some, b_add, b_sub, b_mul1, b_mod, b_fdiv, cmp_eq_int, cmp_eq_bool, cmp_lt, cmp_le, cmp_gt, cmp_ge, Int.reduceGT, gt_iff_lt, ge_iff_le, isTy, h, h1, h3, h5, a1, a2, a3]
theorem c_sign_by {n : Nat} {c : Int} {σ : Sto} : ∃ t, callF sub tab.Δ (n + 1) 103 [.dat (.int c)] σ = .val (.str t) σ ∧ TL 1 t := by
  have h : (c % 96).toNat < signs.length := by show (c % 96).toNat < 96; omega
  have h1 : idx2 (.str signs) (.int (c % 96)) = some (.str [signs[(c % 96).toNat]]) := idx_str _ _ _ (by decide) (by omega) (List.getElem?_eq_getElem h)
  have hm : signs[(c % 96).toNat] ∈ signs := List.getElem_mem h
  generalize signs[(c % 96).toNat] = a at h1 hm
  refine ⟨[a], call_ret (fn := fn_l_sign_by) (σ' := σ) rfl rfl ?_ (by simp), Nat.le_refl 1, fun b hb => ?_⟩
  · have e : exs sub (callF sub tab.Δ n) t_l_sign_by_0 [some (.dat (.int c)), none] σ = exs sub (callF sub tab.Δ n) t_l_sign_by_2 [some (.dat (.int c)), some (.dat (.str signs))] σ := rfl
    refine e.trans ?_
    generalize Dat.str signs = X at h1
    simp only [t_l_sign_by_2, exs_nil, exs_cons, kSeq_next, kSeq_ret, ex_assign, kAsg_val, ex_newlst, kNew_val, ex_append, kApp0_ref, kApp_dat, ex_ret, kRet_dat, ex_ite, kIte_true, kIte_false, kIte_val, ex_for1, ev_lit, ev_con, ev_var, kVar_val, ev_bin, kBin1_val, kBin2_val, kD1_val, kD2a_val, kD2_val, ev_neg, negD, ev_prim, ev_prim2, ev_idx, kIdx_val, kNotX_val, kTruX_val, ev_slFrom, ev_slTo, kTup_val, kLst_val, ev_tup, ev_lst, kNot_val, kBool_val, kTru_val, ev_not, evCmp_cons, evCmp_nil, kCmp1_val, kCmp2_nil, kCmp2_true, kCmp2_false, kCmp0_val, ev_cmp, evB_cmp, kCall_val, kDat_val, ev_call, kCons_val, kArgs_val, evArgs_nil, evArgs_cons, kToDat_dat, kEvs_val, evs_nil, evs_cons, ev_and, ev_or, evAnd_one, Out.noX_val, evOr_one, evAnd_cons, evOr_cons, kAnd_true, kAnd_false, kOr_true, kOr_false, kAnd_val, kOr_val, evAll_nil, evAny_nil, evIfs_nil, evAll_cons, evAny_cons, evIfs_cons, kAll_val, kAny_val, kIfs_val, evB_and, evB_or, evB_not, evB_var, evB_call, evB_prim, ev_isinst, evB_isinst, evB_idx, ev_comp, evI_of', kOf_lst, kOf_tup, kOf_str, evI_range1, d1_dat, d2_dat, c2_dat, look_dat, bodyF, List.map_cons, List.map_nil, List.cons_append, List.nil_append, List.append_nil, List.replicate_succ, List.replicate_zero, List.getElem?_cons_zero, List.getElem?_cons_succ, List.set_cons_zero, List.set_cons_succ, List.length_cons, List.length_nil, Nat.sub_self, Nat.zero_add, Nat.reduceAdd, Nat.reduceSub, Nat.add_sub_cancel, if_true, if_false, Bool.false_eq_true, Int.reduceLT, Int.reduceLE, Int.reduceNeg, Int.reduceAdd, Int.reduceSub, Int.reduceMul, Int.reduceToNat, Nat.reduceLT, Nat.reduceLeDiff, and_self, and_true, true_and, decide_true, decide_false, Bool.not_true, Bool.not_false, Option.map_some, Option.bind_some, b_add, b_sub, b_mul1, b_mod, b_fdiv, cmp_eq_int, cmp_eq_bool, cmp_lt, cmp_le, cmp_gt, cmp_ge, Int.reduceGT, gt_iff_lt, ge_iff_le, isTy, h1]
  · rw [List.mem_singleton.mp hb]
    have : ∀ x ∈ signs, x < 1000 := by decide
    exact this a hm
end
end Mine

/-! ## P07 -/
namespace Mine
section
variable {sub : Nat → Nat → Bool}
theorem c_great {n : Nat} {c : Int} : ∃ t, callF sub tab.Δ (n + 1) 104 [.dat (.int c)] [] = .val (.str t) [] ∧ TL 300 t := by
  have hL : ∃ l : Nat, idx2 (.lst [.int 9, .int 10, .int 11, .int 12]) (.int (c / 3 % 4)) = some (.int l) ∧ 9 ≤ l ∧ l ≤ 12 := by
    have : c / 3 % 4 = 0 ∨ c / 3 % 4 = 1 ∨ c / 3 % 4 = 2 ∨ c / 3 % 4 = 3 := by omega
    rcases this with q | q | q | q <;> rw [q]
    · exact ⟨9, rfl, by decide, by decide⟩
    · exact ⟨10, rfl, by decide, by decide⟩
    · exact ⟨11, rfl, by decide, by decide⟩
    · exact ⟨12, rfl, by decide, by decide⟩
  obtain ⟨l, hi, h9, h12⟩ := hL
  have e0 : exs sub (callF sub tab.Δ n) t_l_great_0 [some (.dat (.int c)), none, none, none, none] [] = exs sub (callF sub tab.Δ n) t_l_great_2 [some (.dat (.int c)), some (.dat (.int (c % 3))), some (.dat (.int l)), none, none] [] := by
    simp only [t_l_great_0, t_l_great_1, exs_nil, exs_cons, kSeq_next, kSeq_ret, ex_assign, kAsg_val, ex_newlst, kNew_val, ex_append, kApp0_ref, kApp_dat, ex_ret, kRet_dat, ex_ite, kIte_true, kIte_false, kIte_val, ex_for1, ev_lit, ev_con, ev_var, kVar_val, ev_bin, kBin1_val, kBin2_val, kD1_val, kD2a_val, kD2_val, ev_neg, negD, ev_prim, ev_prim2, ev_idx, kIdx_val, kNotX_val, kTruX_val, ev_slFrom, ev_slTo, kTup_val, kLst_val, ev_tup, ev_lst, kNot_val, kBool_val, kTru_val, ev_not, evCmp_cons, evCmp_nil, kCmp1_val, kCmp2_nil, kCmp2_true, kCmp2_false, kCmp0_val, ev_cmp, evB_cmp, kCall_val, kDat_val, ev_call, kCons_val, kArgs_val, evArgs_nil, evArgs_cons, kToDat_dat, kEvs_val, evs_nil, evs_cons, ev_and, ev_or, evAnd_one, Out.noX_val, evOr_one, evAnd_cons, evOr_cons, kAnd_true, kAnd_false, kOr_true, kOr_false, kAnd_val, kOr_val, evAll_nil, evAny_nil, evIfs_nil, evAll_cons, evAny_cons, evIfs_cons, kAll_val, kAny_val, kIfs_val, evB_and, evB_or, evB_not, evB_var, evB_call, evB_prim, ev_isinst, evB_isinst, evB_idx, ev_comp, evI_of', kOf_lst, kOf_tup, kOf_str, evI_range1, d1_dat, d2_dat, c2_dat, look_dat, bodyF, List.map_cons, List.map_nil, List.cons_append, List.nil_append, List.append_nil, List.replicate_succ, List.replicate_zero, List.getElem?_cons_zero, List.getElem?_cons_succ, List.set_cons_zero, List.set_cons_succ, List.length_cons, List.length_nil, Nat.sub_self, Nat.zero_add, Nat.reduceAdd, Nat.reduceSub, Nat.add_sub_cancel, if_true, if_false, Bool.false_eq_true, Int.reduceLT, Int.reduceLE, Int.reduceNeg, Int.reduceAdd, Int.reduceSub, Int.reduceMul, Int.reduceToNat, Nat.reduceLT, Nat.reduceLeDiff, and_self, and_true, true_and, decide_true, decide_false, Bool.not_true, Bool.not_false, Option.map_some, Option.bind_some, b_add, b_sub, b_mul1, b_mod, b_fdiv, cmp_eq_int, cmp_eq_bool, cmp_lt, cmp_le, cmp_gt, cmp_ge, Int.reduceGT, gt_iff_lt, ge_iff_le, isTy, hi]
  have fin : ∀ {t : List Nat} {σ' : Sto}, TL 300 t → exs sub (callF sub tab.Δ n) t_l_great_2 [some (.dat (.int c)), some (.dat (.int (c % 3))), some (.dat (.int l)), none, none] [] = .ret (.str t) σ' → ∃ t, callF sub tab.Δ (n + 1) 104 [.dat (.int c)] [] = .val (.str t) [] ∧ TL 300 t := fun {t σ'} ht h =>
    ⟨t, call_ret (fn := fn_l_great) (σ' := σ') rfl rfl (e0.trans h) (by simp), ht⟩
  by_cases w0 : c % 3 = 0
  · have a0 : TL 6 [108, 97, 109, 112, 115, 32] := by unfold TL; decide
    have a3 : TL 7 [10, 119, 105, 115, 104, 32, 49] := by unfold TL; decide
    obtain ⟨x, m1, x1⟩ := mul_str (a := 2) (m := 6) (s := [102, 111]) (k := (l : Int) / 2) (by unfold TL; decide) (by omega) (by decide) (by decide)
    obtain ⟨y, m2, y1⟩ := mul_str (a := 1) (m := 1) (s := [102]) (k := (l : Int) % 2) (by unfold TL; decide) (by omega) (by decide) (by decide)
    have b1 := add_str a0 x1 (by decide)
    have b2 := add_str (a0.app x1) y1 (by decide)
    have b3 := add_str ((a0.app x1).app y1) a3 (by decide)
    refine fin ((((a0.app x1).app y1).app a3).le (by decide)) (σ' := []) ?_
    rw [w0]
    generalize [108, 97, 109, 112, 115, 32] ++ x = G1 at b1 b2 b3 ⊢
    generalize G1 ++ y = G2 at b2 b3 ⊢
    generalize G2 ++ [10, 119, 105, 115, 104, 32, 49] = G3 at b3 ⊢
    simp only [t_l_great_2, exs_nil, exs_cons, kSeq_next, kSeq_ret, ex_assign, kAsg_val, ex_newlst, kNew_val, ex_append, kApp0_ref, kApp_dat, ex_ret, kRet_dat, ex_ite, kIte_true, kIte_false, kIte_val, ex_for1, ev_lit, ev_con, ev_var, kVar_val, ev_bin, kBin1_val, kBin2_val, kD1_val, kD2a_val, kD2_val, ev_neg, negD, ev_prim, ev_prim2, ev_idx, kIdx_val, kNotX_val, kTruX_val, ev_slFrom, ev_slTo, kTup_val, kLst_val, ev_tup, ev_lst, kNot_val, kBool_val, kTru_val, ev_not, evCmp_cons, evCmp_nil, kCmp1_val, kCmp2_nil, kCmp2_true, kCmp2_false, kCmp0_val, ev_cmp, evB_cmp, kCall_val, kDat_val, ev_call, kCons_val, kArgs_val, evArgs_nil, evArgs_cons, kToDat_dat, kEvs_val, evs_nil, evs_cons, ev_and, ev_or, evAnd_one, Out.noX_val, evOr_one, evAnd_cons, evOr_cons, kAnd_true, kAnd_false, kOr_true, kOr_false, kAnd_val, kOr_val, evAll_nil, evAny_nil, evIfs_nil, evAll_cons, evAny_cons, evIfs_cons, kAll_val, kAny_val, kIfs_val, evB_and, evB_or, evB_not, evB_var, evB_call, evB_prim, ev_isinst, evB_isinst, evB_idx, ev_comp, evI_of', kOf_lst, kOf_tup, kOf_str, evI_range1, d1_dat, d2_dat, c2_dat, look_dat, bodyF, List.map_cons, List.map_nil, List.cons_append, List.nil_append, List.append_nil, List.replicate_succ, List.replicate_zero, List.getElem?_cons_zero, List.getElem?_cons_succ, List.set_cons_zero, List.set_cons_succ, List.length_cons, List.length_nil, Nat.sub_self, Nat.zero_add, Nat.reduceAdd, Nat.reduceSub, Nat.add_sub_cancel, if_true, if_false, Bool.false_eq_true, Int.reduceLT, Int.reduceLE, Int.reduceNeg, Int.reduceAdd, Int.reduceSub, Int.reduceMul, Int.reduceToNat, Nat.reduceLT, Nat.reduceLeDiff, and_self, and_true, true_and, decide_true, decide_false, Bool.not_true, Bool.not_false, Option.map_some, Option.bind_some, b_add, b_sub, b_mul1, b_mod, b_fdiv, cmp_eq_int, cmp_eq_bool, cmp_lt, cmp_le, cmp_gt, cmp_ge, Int.reduceGT, gt_iff_lt, ge_iff_le, isTy, show ((0 : Int) == 0) = true from rfl, m1, m2, b1, b2, b3]
  · have q0 : (c % 3 == 0) = false := by simpa using w0
    by_cases w1 : c % 3 = 1
    · obtain ⟨ρ', σ', hq, ⟨y, rfl⟩, rows, rfl, hlen, hrows⟩ := kFor_all (sub := sub) (C := callF sub tab.Δ n) (x := 4) (body := b_l_great_1) (em := fun i : Nat => Dat.int i) (l := List.range (l + 10))
        (fun pre ρ τ => (∃ y, ρ = [some (.dat (.int c)), some (.dat (.int 1)), some (.dat (.int l)), some (.ref 0), y]) ∧ ∃ rows : List (List Nat), τ = [(true, rows.map .str)] ∧ rows.length = pre.length + 1 ∧ ∀ r ∈ rows, TL 9 r)
        (ρ := [some (.dat (.int c)), some (.dat (.int 1)), some (.dat (.int l)), some (.ref 0), none]) (σ := [(true, [.str [108, 97, 109, 112, 115, 32, 111, 102]])]) (by simp; omega) (fun pre i post ρ τ he hP => by
          obtain ⟨⟨y, rfl⟩, rows, rfl, hlen, hrows⟩ := hP
          have hp := (pre_lt he).1
          rw [List.length_range] at hp
          have ht := to_str (t := [119, 105, 115, 104, 32, 49, 32, 45, 50]) (k := 4 + 2 * ((i : Int) % 2)) (by decide) (by omega)
          have hT : TL 9 [119, 105, 115, 104, 32, 49, 32, 45, 50] := by unfold TL; decide
          have hT2 := hT.take (4 + 2 * ((i : Int) % 2)).toNat
          generalize [119, 105, 115, 104, 32, 49, 32, 45, 50].take (4 + 2 * ((i : Int) % 2)).toNat = u at ht hT2
          have hl : (rows.map Dat.str).length < 1000000 := by rw [List.length_map]; omega
          refine ⟨_, [(true, (rows ++ [u]).map .str)], ?_, ⟨some (.dat (.int i)), rfl⟩, rows ++ [u], rfl, by simp [hlen], fun r hr => ?_⟩
          · rw [List.map_append]
            generalize rows.map Dat.str = Z at hl ⊢
            simp only [b_l_great_1, exs_nil, exs_cons, kSeq_next, kSeq_ret, ex_assign, kAsg_val, ex_newlst, kNew_val, ex_append, kApp0_ref, kApp_dat, ex_ret, kRet_dat, ex_ite, kIte_true, kIte_false, kIte_val, ex_for1, ev_lit, ev_con, ev_var, kVar_val, ev_bin, kBin1_val, kBin2_val, kD1_val, kD2a_val, kD2_val, ev_neg, negD, ev_prim, ev_prim2, ev_idx, kIdx_val, kNotX_val, kTruX_val, ev_slFrom, ev_slTo, kTup_val, kLst_val, ev_tup, ev_lst, kNot_val, kBool_val, kTru_val, ev_not, evCmp_cons, evCmp_nil, kCmp1_val, kCmp2_nil, kCmp2_true, kCmp2_false, kCmp0_val, ev_cmp, evB_cmp, kCall_val, kDat_val, ev_call, kCons_val, kArgs_val, evArgs_nil, evArgs_cons, kToDat_dat, kEvs_val, evs_nil, evs_cons, ev_and, ev_or, evAnd_one, Out.noX_val, evOr_one, evAnd_cons, evOr_cons, kAnd_true, kAnd_false, kOr_true, kOr_false, kAnd_val, kOr_val, evAll_nil, evAny_nil, evIfs_nil, evAll_cons, evAny_cons, evIfs_cons, kAll_val, kAny_val, kIfs_val, evB_and, evB_or, evB_not, evB_var, evB_call, evB_prim, ev_isinst, evB_isinst, evB_idx, ev_comp, evI_of', kOf_lst, kOf_tup, kOf_str, evI_range1, d1_dat, d2_dat, c2_dat, look_dat, bodyF, List.map_cons, List.map_nil, List.cons_append, List.nil_append, List.append_nil, List.replicate_succ, List.replicate_zero, List.getElem?_cons_zero, List.getElem?_cons_succ, List.set_cons_zero, List.set_cons_succ, List.length_cons, List.length_nil, Nat.sub_self, Nat.zero_add, Nat.reduceAdd, Nat.reduceSub, Nat.add_sub_cancel, if_true, if_false, Bool.false_eq_true, Int.reduceLT, Int.reduceLE, Int.reduceNeg, Int.reduceAdd, Int.reduceSub, Int.reduceMul, Int.reduceToNat, Nat.reduceLT, Nat.reduceLeDiff, and_self, and_true, true_and, decide_true, decide_false, Bool.not_true, Bool.not_false, Option.map_some, Option.bind_some, b_add, b_sub, b_mul1, b_mod, b_fdiv, cmp_eq_int, cmp_eq_bool, cmp_lt, cmp_le, cmp_gt, cmp_ge, Int.reduceGT, gt_iff_lt, ge_iff_le, isTy, ht, kApp2_some _ _ _ _ _ hl]
          · rcases List.mem_append.mp hr with hr | hr
            · exact hrows r hr
            · rw [List.mem_singleton.mp hr]; exact hT2) ⟨⟨none, rfl⟩, [[108, 97, 109, 112, 115, 32, 111, 102]], rfl, rfl, fun r hr => by rw [List.mem_singleton.mp hr]; unfold TL; decide⟩
      obtain ⟨t, hj, ht⟩ := join_ok (b := 9) (k := 23) hrows (by rw [hlen, List.length_range]; omega) (by decide)
      have hr : kRange1 (.val (.dat (.int ((l : Int) + 10))) [(true, [Dat.str [108, 97, 109, 112, 115, 32, 111, 102]])]) = .val ⟨(List.range (l + 10)).map fun i : Nat => Dat.int i, none⟩ [(true, [Dat.str [108, 97, 109, 112, 115, 32, 111, 102]])] := by
        rw [kRange1_val _ _ (by omega), ← rangeD_map]; rfl
      refine fin (ht.le (by decide)) (σ' := [(true, rows.map .str)]) ?_
      rw [w1]
      have hd : d2 (prim2 .join) (.dat (.str [10])) (.ref 0) [(true, rows.map Dat.str)] = .val (.dat (.str t)) [(true, rows.map .str)] := by rw [d2_ref (b := true) (l := rows.map Dat.str) rfl, hj]
      generalize rows.map Dat.str = Z at hd hq
      simp only [t_l_great_2, t_l_great_3, exs_nil, exs_cons, kSeq_next, kSeq_ret, ex_assign, kAsg_val, ex_newlst, kNew_val, ex_append, kApp0_ref, kApp_dat, ex_ret, kRet_dat, ex_ite, kIte_true, kIte_false, kIte_val, ex_for1, ev_lit, ev_con, ev_var, kVar_val, ev_bin, kBin1_val, kBin2_val, kD1_val, kD2a_val, kD2_val, ev_neg, negD, ev_prim, ev_prim2, ev_idx, kIdx_val, kNotX_val, kTruX_val, ev_slFrom, ev_slTo, kTup_val, kLst_val, ev_tup, ev_lst, kNot_val, kBool_val, kTru_val, ev_not, evCmp_cons, evCmp_nil, kCmp1_val, kCmp2_nil, kCmp2_true, kCmp2_false, kCmp0_val, ev_cmp, evB_cmp, kCall_val, kDat_val, ev_call, kCons_val, kArgs_val, evArgs_nil, evArgs_cons, kToDat_dat, kEvs_val, evs_nil, evs_cons, ev_and, ev_or, evAnd_one, Out.noX_val, evOr_one, evAnd_cons, evOr_cons, kAnd_true, kAnd_false, kOr_true, kOr_false, kAnd_val, kOr_val, evAll_nil, evAny_nil, evIfs_nil, evAll_cons, evAny_cons, evIfs_cons, kAll_val, kAny_val, kIfs_val, evB_and, evB_or, evB_not, evB_var, evB_call, evB_prim, ev_isinst, evB_isinst, evB_idx, ev_comp, evI_of', kOf_lst, kOf_tup, kOf_str, evI_range1, d1_dat, d2_dat, c2_dat, look_dat, bodyF, List.map_cons, List.map_nil, List.cons_append, List.nil_append, List.append_nil, List.replicate_succ, List.replicate_zero, List.getElem?_cons_zero, List.getElem?_cons_succ, List.set_cons_zero, List.set_cons_succ, List.length_cons, List.length_nil, Nat.sub_self, Nat.zero_add, Nat.reduceAdd, Nat.reduceSub, Nat.add_sub_cancel, if_true, if_false, Bool.false_eq_true, Int.reduceLT, Int.reduceLE, Int.reduceNeg, Int.reduceAdd, Int.reduceSub, Int.reduceMul, Int.reduceToNat, Nat.reduceLT, Nat.reduceLeDiff, and_self, and_true, true_and, decide_true, decide_false, Bool.not_true, Bool.not_false, Option.map_some, Option.bind_some, b_add, b_sub, b_mul1, b_mod, b_fdiv, cmp_eq_int, cmp_eq_bool, cmp_lt, cmp_le, cmp_gt, cmp_ge, Int.reduceGT, gt_iff_lt, ge_iff_le, isTy, show ((1 : Int) == 0) = false from rfl, show ((1 : Int) == 1) = true from rfl, hr, hq, hd]
    · have q1 : (c % 3 == 1) = false := by simpa using w1
      have a0 : TL 18 [108, 97, 109, 112, 115, 32, 102, 111, 10, 119, 105, 115, 104, 10, 119, 105, 115, 104] := by unfold TL; decide
      have hm : prim2 .min (.int l) (.int 11) = some (.int (minD l 11)) := rfl
      have hmb : 0 ≤ minD l 11 ∧ minD l 11 ≤ (11 : Nat) := by unfold minD; split <;> omega
      obtain ⟨x, m1, x1⟩ := mul_str (a := 3) (m := 11) (s := [32, 45, 50]) (k := minD l 11) (by unfold TL; decide) hmb (by decide) (by decide)
      have b1 := add_str a0 x1 (by decide)
      refine fin ((a0.app x1).le (by decide)) (σ' := []) ?_
      generalize [108, 97, 109, 112, 115, 32, 102, 111, 10, 119, 105, 115, 104, 10, 119, 105, 115, 104] ++ x = G1 at b1 ⊢
      simp only [t_l_great_2, t_l_great_3, t_l_great_4, exs_nil, exs_cons, kSeq_next, kSeq_ret, ex_assign, kAsg_val, ex_newlst, kNew_val, ex_append, kApp0_ref, kApp_dat, ex_ret, kRet_dat, ex_ite, kIte_true, kIte_false, kIte_val, ex_for1, ev_lit, ev_con, ev_var, kVar_val, ev_bin, kBin1_val, kBin2_val, kD1_val, kD2a_val, kD2_val, ev_neg, negD, ev_prim, ev_prim2, ev_idx, kIdx_val, kNotX_val, kTruX_val, ev_slFrom, ev_slTo, kTup_val, kLst_val, ev_tup, ev_lst, kNot_val, kBool_val, kTru_val, ev_not, evCmp_cons, evCmp_nil, kCmp1_val, kCmp2_nil, kCmp2_true, kCmp2_false, kCmp0_val, ev_cmp, evB_cmp, kCall_val, kDat_val, ev_call, kCons_val, kArgs_val, evArgs_nil, evArgs_cons, kToDat_dat, kEvs_val, evs_nil, evs_cons, ev_and, ev_or, evAnd_one, Out.noX_val, evOr_one, evAnd_cons, evOr_cons, kAnd_true, kAnd_false, kOr_true, kOr_false, kAnd_val, kOr_val, evAll_nil, evAny_nil, evIfs_nil, evAll_cons, evAny_cons, evIfs_cons, kAll_val, kAny_val, kIfs_val, evB_and, evB_or, evB_not, evB_var, evB_call, evB_prim, ev_isinst, evB_isinst, evB_idx, ev_comp, evI_of', kOf_lst, kOf_tup, kOf_str, evI_range1, d1_dat, d2_dat, c2_dat, look_dat, bodyF, List.map_cons, List.map_nil, List.cons_append, List.nil_append, List.append_nil, List.replicate_succ, List.replicate_zero, List.getElem?_cons_zero, List.getElem?_cons_succ, List.set_cons_zero, List.set_cons_succ, List.length_cons, List.length_nil, Nat.sub_self, Nat.zero_add, Nat.reduceAdd, Nat.reduceSub, Nat.add_sub_cancel, if_true, if_false, Bool.false_eq_true, Int.reduceLT, Int.reduceLE, Int.reduceNeg, Int.reduceAdd, Int.reduceSub, Int.reduceMul, Int.reduceToNat, Nat.reduceLT, Nat.reduceLeDiff, and_self, and_true, true_and, decide_true, decide_false, Bool.not_true, Bool.not_false, Option.map_some, Option.bind_some, b_add, b_sub, b_mul1, b_mod, b_fdiv, cmp_eq_int, cmp_eq_bool, cmp_lt, cmp_le, cmp_gt, cmp_ge, Int.reduceGT, gt_iff_lt, ge_iff_le, isTy, q0, q1, hm, m1, b1]
theorem c_text {n : Nat} {s : List Int} (hs : s.length ≤ 63) : ∃ t, callF sub tab.Δ (n + 2) 105 [.dat (.lst (s.map .int))] [] = .val (.str t) [] ∧ TL 800 t := by
  have hc : ∀ (k : Int) (σ : Sto), 0 ≤ k → callF sub tab.Δ (n + 1) 100 [.dat (.lst (s.map .int)), .dat (.int k)] σ = .val (.int (cellAt s k)) σ := fun k σ hk => c_cell_at hs hk
  have c0 := fun σ => hc 0 σ (by decide)
  have c1 := fun σ => hc 1 σ (by decide)
  have c2 := fun σ => hc 2 σ (by decide)
  have c3 := fun σ => hc 3 σ (by decide)
  have fin : ∀ {t : List Nat} {σ' : Sto}, TL 800 t → exs sub (callF sub tab.Δ (n + 1)) t_l_text_0 [some (.dat (.lst (s.map .int))), none, none, none, none, none] [] = .ret (.str t) σ' → ∃ t, callF sub tab.Δ (n + 2) 105 [.dat (.lst (s.map .int))] [] = .val (.str t) [] ∧ TL 800 t := fun {t σ'} ht h =>
    ⟨t, call_ret (fn := fn_l_text) (σ' := σ') rfl rfl h (by simp), ht⟩
  generalize Dat.lst (s.map .int) = X at hc c0 c1 c2 c3 fin ⊢
  by_cases hg : cellAt s 1 / 12 % 8 = 1
  · obtain ⟨t, h1, h2⟩ := c_great (sub := sub) (n := n) (c := cellAt s 0)
    have e : (cellAt s 1 / 12 % 8 == 1) = true := by simpa using hg
    refine fin (h2.le (by decide)) (σ' := []) ?_
    simp only [t_l_text_0, exs_nil, exs_cons, kSeq_next, kSeq_ret, ex_assign, kAsg_val, ex_newlst, kNew_val, ex_append, kApp0_ref, kApp_dat, ex_ret, kRet_dat, ex_ite, kIte_true, kIte_false, kIte_val, ex_for1, ev_lit, ev_con, ev_var, kVar_val, ev_bin, kBin1_val, kBin2_val, kD1_val, kD2a_val, kD2_val, ev_neg, negD, ev_prim, ev_prim2, ev_idx, kIdx_val, kNotX_val, kTruX_val, ev_slFrom, ev_slTo, kTup_val, kLst_val, ev_tup, ev_lst, kNot_val, kBool_val, kTru_val, ev_not, evCmp_cons, evCmp_nil, kCmp1_val, kCmp2_nil, kCmp2_true, kCmp2_false, kCmp0_val, ev_cmp, evB_cmp, kCall_val, kDat_val, ev_call, kCons_val, kArgs_val, evArgs_nil, evArgs_cons, kToDat_dat, kEvs_val, evs_nil, evs_cons, ev_and, ev_or, evAnd_one, Out.noX_val, evOr_one, evAnd_cons, evOr_cons, kAnd_true, kAnd_false, kOr_true, kOr_false, kAnd_val, kOr_val, evAll_nil, evAny_nil, evIfs_nil, evAll_cons, evAny_cons, evIfs_cons, kAll_val, kAny_val, kIfs_val, evB_and, evB_or, evB_not, evB_var, evB_call, evB_prim, ev_isinst, evB_isinst, evB_idx, ev_comp, evI_of', kOf_lst, kOf_tup, kOf_str, evI_range1, d1_dat, d2_dat, c2_dat, look_dat, bodyF, List.map_cons, List.map_nil, List.cons_append, List.nil_append, List.append_nil, List.replicate_succ, List.replicate_zero, List.getElem?_cons_zero, List.getElem?_cons_succ, List.set_cons_zero, List.set_cons_succ, List.length_cons, List.length_nil, Nat.sub_self, Nat.zero_add, Nat.reduceAdd, Nat.reduceSub, Nat.add_sub_cancel, if_true, if_false, Bool.false_eq_true, Int.reduceLT, Int.reduceLE, Int.reduceNeg, Int.reduceAdd, Int.reduceSub, Int.reduceMul, Int.reduceToNat, Nat.reduceLT, Nat.reduceLeDiff, and_self, and_true, true_and, decide_true, decide_false, Bool.not_true, Bool.not_false, Option.map_some, Option.bind_some, b_add, b_sub, b_mul1, b_mod, b_fdiv, cmp_eq_int, cmp_eq_bool, cmp_lt, cmp_le, cmp_gt, cmp_ge, Int.reduceGT, gt_iff_lt, ge_iff_le, isTy, c0, c1, e, h1]
  · have e : (cellAt s 1 / 12 % 8 == 1) = false := by simpa using hg
    obtain ⟨f, f1, f2⟩ := c_first (sub := sub) (n := n) (c := cellAt s 0) (σ := [])
    obtain ⟨m, hm, hm4⟩ : ∃ m : Nat, cellAt s 1 % 4 = m ∧ m ≤ 3 := ⟨(cellAt s 1 % 4).toNat, by omega, by omega⟩
    obtain ⟨ρ', σ', hq, ⟨y, rfl⟩, rows, rfl, hlen, hrows⟩ := kFor_all (sub := sub) (C := callF sub tab.Δ (n + 1)) (x := 2) (body := b_l_text_1) (em := fun i : Nat => Dat.int i) (l := List.range m)
      (fun pre ρ τ => (∃ y, ρ = [some (.dat X), some (.ref 0), y, none, none, none]) ∧ ∃ rows : List (List Nat), τ = [(true, rows.map .str)] ∧ rows.length = pre.length + 1 ∧ ∀ r ∈ rows, TL 67 r)
      (ρ := [some (.dat X), some (.ref 0), none, none, none, none]) (σ := [(true, [.str f])]) (by simp; omega) (fun pre i post ρ τ he hP => by
        obtain ⟨⟨y, rfl⟩, rows, rfl, hlen, hrows⟩ := hP
        have hp := (pre_lt he).1
        rw [List.length_range] at hp
        have hci := fun σ => hc (4 + (i : Int)) σ (by omega)
        obtain ⟨u, hu, hT2⟩ := c_next (sub := sub) (n := n) (c := cellAt s (4 + i)) (σ := [(true, rows.map .str)])
        have hl : (rows.map Dat.str).length < 1000000 := by rw [List.length_map]; omega
        refine ⟨_, [(true, (rows ++ [u]).map .str)], ?_, ⟨some (.dat (.int i)), rfl⟩, rows ++ [u], rfl, by simp [hlen], fun r hr => ?_⟩
        · rw [List.map_append]
          generalize rows.map Dat.str = Z at hl hu ⊢
          simp only [b_l_text_1, exs_nil, exs_cons, kSeq_next, kSeq_ret, ex_assign, kAsg_val, ex_newlst, kNew_val, ex_append, kApp0_ref, kApp_dat, ex_ret, kRet_dat, ex_ite, kIte_true, kIte_false, kIte_val, ex_for1, ev_lit, ev_con, ev_var, kVar_val, ev_bin, kBin1_val, kBin2_val, kD1_val, kD2a_val, kD2_val, ev_neg, negD, ev_prim, ev_prim2, ev_idx, kIdx_val, kNotX_val, kTruX_val, ev_slFrom, ev_slTo, kTup_val, kLst_val, ev_tup, ev_lst, kNot_val, kBool_val, kTru_val, ev_not, evCmp_cons, evCmp_nil, kCmp1_val, kCmp2_nil, kCmp2_true, kCmp2_false, kCmp0_val, ev_cmp, evB_cmp, kCall_val, kDat_val, ev_call, kCons_val, kArgs_val, evArgs_nil, evArgs_cons, kToDat_dat, kEvs_val, evs_nil, evs_cons, ev_and, ev_or, evAnd_one, Out.noX_val, evOr_one, evAnd_cons, evOr_cons, kAnd_true, kAnd_false, kOr_true, kOr_false, kAnd_val, kOr_val, evAll_nil, evAny_nil, evIfs_nil, evAll_cons, evAny_cons, evIfs_cons, kAll_val, kAny_val, kIfs_val, evB_and, evB_or, evB_not, evB_var, evB_call, evB_prim, ev_isinst, evB_isinst, evB_idx, ev_comp, evI_of', kOf_lst, kOf_tup, kOf_str, evI_range1, d1_dat, d2_dat, c2_dat, look_dat, bodyF, List.map_cons, List.map_nil, List.cons_append, List.nil_append, List.append_nil, List.replicate_succ, List.replicate_zero, List.getElem?_cons_zero, List.getElem?_cons_succ, List.set_cons_zero, List.set_cons_succ, List.length_cons, List.length_nil, Nat.sub_self, Nat.zero_add, Nat.reduceAdd, Nat.reduceSub, Nat.add_sub_cancel, if_true, if_false, Bool.false_eq_true, Int.reduceLT, Int.reduceLE, Int.reduceNeg, Int.reduceAdd, Int.reduceSub, Int.reduceMul, Int.reduceToNat, Nat.reduceLT, Nat.reduceLeDiff, and_self, and_true, true_and, decide_true, decide_false, Bool.not_true, Bool.not_false, Option.map_some, Option.bind_some, b_add, b_sub, b_mul1, b_mod, b_fdiv, cmp_eq_int, cmp_eq_bool, cmp_lt, cmp_le, cmp_gt, cmp_ge, Int.reduceGT, gt_iff_lt, ge_iff_le, isTy, hci, hu, kApp2_some _ _ _ _ _ hl]
        · rcases List.mem_append.mp hr with hr | hr
          · exact hrows r hr
          · rw [List.mem_singleton.mp hr]; exact hT2) ⟨⟨none, rfl⟩, [f], rfl, rfl, fun r hr => by rw [List.mem_singleton.mp hr]; exact f2.le (by decide)⟩
    obtain ⟨t, hj, ht⟩ := join_ok (b := 67) (k := 4) hrows (by rw [hlen, List.length_range]; omega) (by decide)
    have hr : kRange1 (.val (.dat (.int (cellAt s 1 % 4))) [(true, [Dat.str f])]) = .val ⟨(List.range m).map fun i : Nat => Dat.int i, none⟩ [(true, [Dat.str f])] := by
      rw [kRange1_val _ _ (by omega), ← rangeD_map, hm]
    have hd : d2 (prim2 .join) (.dat (.str [10])) (.ref 0) [(true, rows.map Dat.str)] = .val (.dat (.str t)) [(true, rows.map .str)] := by rw [d2_ref (b := true) (l := rows.map Dat.str) rfl, hj]
    obtain ⟨g, g1, g2⟩ := c_sign_by (sub := sub) (n := n) (c := cellAt s 3) (σ := [(true, rows.map .str)])
    have hL := ht.1
    have hln := p_len_str t (by omega)
    have hmo := b_mod (cellAt s 2) ((t.length : Int) + 1) (by omega)
    have hb0 := Int.emod_nonneg (cellAt s 2) (show (t.length : Int) + 1 ≠ 0 by omega)
    have hb1 := Int.emod_lt_of_pos (cellAt s 2) (show 0 < (t.length : Int) + 1 by omega)
    generalize cellAt s 2 % ((t.length : Int) + 1) = k at hmo hb0 hb1
    have t1 := to_str (t := t) (k := k) (by omega) (by omega)
    have t2 := fr_str (t := t) (k := k) (by omega) (by omega)
    have t3 := fr_str (t := t) (k := k + 1) (by omega) (by omega)
    have u1 := add_str (ht.take k.toNat) g2 (by decide)
    have u2 := add_str ((ht.take k.toNat).app g2) (ht.drop k.toNat) (by decide)
    have u3 := add_str (ht.take k.toNat) (ht.drop (k + 1).toNat) (by decide)
    have s0 : exs sub (callF sub tab.Δ (n + 1)) t_l_text_0 [some (.dat X), none, none, none, none, none] [] = exs sub (callF sub tab.Δ (n + 1)) t_l_text_6 [some (.dat X), some (.ref 0), y, some (.dat (.str t)), some (.dat (.int (cellAt s 1 / 4 % 3))), some (.dat (.int k))] [(true, rows.map .str)] := by
      generalize rows.map Dat.str = Z at hd hq
      simp only [t_l_text_0, t_l_text_1, t_l_text_2, t_l_text_3, t_l_text_4, t_l_text_5, exs_nil, exs_cons, kSeq_next, kSeq_ret, ex_assign, kAsg_val, ex_newlst, kNew_val, ex_append, kApp0_ref, kApp_dat, ex_ret, kRet_dat, ex_ite, kIte_true, kIte_false, kIte_val, ex_for1, ev_lit, ev_con, ev_var, kVar_val, ev_bin, kBin1_val, kBin2_val, kD1_val, kD2a_val, kD2_val, ev_neg, negD, ev_prim, ev_prim2, ev_idx, kIdx_val, kNotX_val, kTruX_val, ev_slFrom, ev_slTo, kTup_val, kLst_val, ev_tup, ev_lst, kNot_val, kBool_val, kTru_val, ev_not, evCmp_cons, evCmp_nil, kCmp1_val, kCmp2_nil, kCmp2_true, kCmp2_false, kCmp0_val, ev_cmp, evB_cmp, kCall_val, kDat_val, ev_call, kCons_val, kArgs_val, evArgs_nil, evArgs_cons, kToDat_dat, kEvs_val, evs_nil, evs_cons, ev_and, ev_or, evAnd_one, Out.noX_val, evOr_one, evAnd_cons, evOr_cons, kAnd_true, kAnd_false, kOr_true, kOr_false, kAnd_val, kOr_val, evAll_nil, evAny_nil, evIfs_nil, evAll_cons, evAny_cons, evIfs_cons, kAll_val, kAny_val, kIfs_val, evB_and, evB_or, evB_not, evB_var, evB_call, evB_prim, ev_isinst, evB_isinst, evB_idx, ev_comp, evI_of', kOf_lst, kOf_tup, kOf_str, evI_range1, d1_dat, d2_dat, c2_dat, look_dat, bodyF, List.map_cons, List.map_nil, List.cons_append, List.nil_append, List.append_nil, List.replicate_succ, List.replicate_zero, List.getElem?_cons_zero, List.getElem?_cons_succ, List.set_cons_zero, List.set_cons_succ, List.length_cons, List.length_nil, Nat.sub_self, Nat.zero_add, Nat.reduceAdd, Nat.reduceSub, Nat.add_sub_cancel, if_true, if_false, Bool.false_eq_true, Int.reduceLT, Int.reduceLE, Int.reduceNeg, Int.reduceAdd, Int.reduceSub, Int.reduceMul, Int.reduceToNat, Nat.reduceLT, Nat.reduceLeDiff, and_self, and_true, true_and, decide_true, decide_false, Bool.not_true, Bool.not_false, Option.map_some, Option.bind_some, b_add, b_sub, b_mul1, b_mod, b_fdiv, cmp_eq_int, cmp_eq_bool, cmp_lt, cmp_le, cmp_gt, cmp_ge, Int.reduceGT, gt_iff_lt, ge_iff_le, isTy, c0, c1, c2, e, f1, hr, hq, hd, hln, hmo]
    by_cases w1 : cellAt s 1 / 4 % 3 = 1
    · rw [w1] at s0
      refine fin ((((ht.take k.toNat).app g2).app (ht.drop k.toNat)).le (by decide)) (s0.trans (?_ : _ = SOut.ret _ [(true, rows.map .str)]))
      generalize rows.map Dat.str = Z at g1
      generalize t.take k.toNat ++ g = G1 at u1 u2 ⊢
      generalize G1 ++ t.drop k.toNat = G2 at u2 ⊢
      generalize Dat.str t = Y at t1 t2
      simp only [t_l_text_6, t_l_text_7, t_l_text_8, exs_nil, exs_cons, kSeq_next, kSeq_ret, ex_assign, kAsg_val, ex_newlst, kNew_val, ex_append, kApp0_ref, kApp_dat, ex_ret, kRet_dat, ex_ite, kIte_true, kIte_false, kIte_val, ex_for1, ev_lit, ev_con, ev_var, kVar_val, ev_bin, kBin1_val, kBin2_val, kD1_val, kD2a_val, kD2_val, ev_neg, negD, ev_prim, ev_prim2, ev_idx, kIdx_val, kNotX_val, kTruX_val, ev_slFrom, ev_slTo, kTup_val, kLst_val, ev_tup, ev_lst, kNot_val, kBool_val, kTru_val, ev_not, evCmp_cons, evCmp_nil, kCmp1_val, kCmp2_nil, kCmp2_true, kCmp2_false, kCmp0_val, ev_cmp, evB_cmp, kCall_val, kDat_val, ev_call, kCons_val, kArgs_val, evArgs_nil, evArgs_cons, kToDat_dat, kEvs_val, evs_nil, evs_cons, ev_and, ev_or, evAnd_one, Out.noX_val, evOr_one, evAnd_cons, evOr_cons, kAnd_true, kAnd_false, kOr_true, kOr_false, kAnd_val, kOr_val, evAll_nil, evAny_nil, evIfs_nil, evAll_cons, evAny_cons, evIfs_cons, kAll_val, kAny_val, kIfs_val, evB_and, evB_or, evB_not, evB_var, evB_call, evB_prim, ev_isinst, evB_isinst, evB_idx, ev_comp, evI_of', kOf_lst, kOf_tup, kOf_str, evI_range1, d1_dat, d2_dat, c2_dat, look_dat, bodyF, List.map_cons, List.map_nil, List.cons_append, List.nil_append, List.append_nil, List.replicate_succ, List.replicate_zero, List.getElem?_cons_zero, List.getElem?_cons_succ, List.set_cons_zero, List.set_cons_succ, List.length_cons, List.length_nil, Nat.sub_self, Nat.zero_add, Nat.reduceAdd, Nat.reduceSub, Nat.add_sub_cancel, if_true, if_false, Bool.false_eq_true, Int.reduceLT, Int.reduceLE, Int.reduceNeg, Int.reduceAdd, Int.reduceSub, Int.reduceMul, Int.reduceToNat, Nat.reduceLT, Nat.reduceLeDiff, and_self, and_true, true_and, decide_true, decide_false, Bool.not_true, Bool.not_false, Option.map_some, Option.bind_some, b_add, b_sub, b_mul1, b_mod, b_fdiv, cmp_eq_int, cmp_eq_bool, cmp_lt, cmp_le, cmp_gt, cmp_ge, Int.reduceGT, gt_iff_lt, ge_iff_le, isTy, show ((1 : Int) == 1) = true from rfl, show ((1 : Int) == 2) = false from rfl, t1, t2, c3, g1, u1, u2]
    · have q1 : (cellAt s 1 / 4 % 3 == 1) = false := by simpa using w1
      by_cases w2 : cellAt s 1 / 4 % 3 = 2
      · rw [w2] at s0
        refine fin (((ht.take k.toNat).app (ht.drop (k + 1).toNat)).le (by decide)) (s0.trans (?_ : _ = SOut.ret _ [(true, rows.map .str)]))
        generalize t.take k.toNat ++ t.drop (k + 1).toNat = G1 at u3 ⊢
        generalize Dat.str t = Y at t1 t3
        simp only [t_l_text_6, t_l_text_7, t_l_text_8, exs_nil, exs_cons, kSeq_next, kSeq_ret, ex_assign, kAsg_val, ex_newlst, kNew_val, ex_append, kApp0_ref, kApp_dat, ex_ret, kRet_dat, ex_ite, kIte_true, kIte_false, kIte_val, ex_for1, ev_lit, ev_con, ev_var, kVar_val, ev_bin, kBin1_val, kBin2_val, kD1_val, kD2a_val, kD2_val, ev_neg, negD, ev_prim, ev_prim2, ev_idx, kIdx_val, kNotX_val, kTruX_val, ev_slFrom, ev_slTo, kTup_val, kLst_val, ev_tup, ev_lst, kNot_val, kBool_val, kTru_val, ev_not, evCmp_cons, evCmp_nil, kCmp1_val, kCmp2_nil, kCmp2_true, kCmp2_false, kCmp0_val, ev_cmp, evB_cmp, kCall_val, kDat_val, ev_call, kCons_val, kArgs_val, evArgs_nil, evArgs_cons, kToDat_dat, kEvs_val, evs_nil, evs_cons, ev_and, ev_or, evAnd_one, Out.noX_val, evOr_one, evAnd_cons, evOr_cons, kAnd_true, kAnd_false, kOr_true, kOr_false, kAnd_val, kOr_val, evAll_nil, evAny_nil, evIfs_nil, evAll_cons, evAny_cons, evIfs_cons, kAll_val, kAny_val, kIfs_val, evB_and, evB_or, evB_not, evB_var, evB_call, evB_prim, ev_isinst, evB_isinst, evB_idx, ev_comp, evI_of', kOf_lst, kOf_tup, kOf_str, evI_range1, d1_dat, d2_dat, c2_dat, look_dat, bodyF, List.map_cons, List.map_nil, List.cons_append, List.nil_append, List.append_nil, List.replicate_succ, List.replicate_zero, List.getElem?_cons_zero, List.getElem?_cons_succ, List.set_cons_zero, List.set_cons_succ, List.length_cons, List.length_nil, Nat.sub_self, Nat.zero_add, Nat.reduceAdd, Nat.reduceSub, Nat.add_sub_cancel, if_true, if_false, Bool.false_eq_true, Int.reduceLT, Int.reduceLE, Int.reduceNeg, Int.reduceAdd, Int.reduceSub, Int.reduceMul, Int.reduceToNat, Nat.reduceLT, Nat.reduceLeDiff, and_self, and_true, true_and, decide_true, decide_false, Bool.not_true, Bool.not_false, Option.map_some, Option.bind_some, b_add, b_sub, b_mul1, b_mod, b_fdiv, cmp_eq_int, cmp_eq_bool, cmp_lt, cmp_le, cmp_gt, cmp_ge, Int.reduceGT, gt_iff_lt, ge_iff_le, isTy, show ((2 : Int) == 1) = false from rfl, show ((2 : Int) == 2) = true from rfl, t1, t3, u3]
      · have q2 : (cellAt s 1 / 4 % 3 == 2) = false := by simpa using w2
        refine fin (ht.le (by decide)) (s0.trans (?_ : _ = SOut.ret _ [(true, rows.map .str)]))
        simp only [t_l_text_6, t_l_text_7, t_l_text_8, exs_nil, exs_cons, kSeq_next, kSeq_ret, ex_assign, kAsg_val, ex_newlst, kNew_val, ex_append, kApp0_ref, kApp_dat, ex_ret, kRet_dat, ex_ite, kIte_true, kIte_false, kIte_val, ex_for1, ev_lit, ev_con, ev_var, kVar_val, ev_bin, kBin1_val, kBin2_val, kD1_val, kD2a_val, kD2_val, ev_neg, negD, ev_prim, ev_prim2, ev_idx, kIdx_val, kNotX_val, kTruX_val, ev_slFrom, ev_slTo, kTup_val, kLst_val, ev_tup, ev_lst, kNot_val, kBool_val, kTru_val, ev_not, evCmp_cons, evCmp_nil, kCmp1_val, kCmp2_nil, kCmp2_true, kCmp2_false, kCmp0_val, ev_cmp, evB_cmp, kCall_val, kDat_val, ev_call, kCons_val, kArgs_val, evArgs_nil, evArgs_cons, kToDat_dat, kEvs_val, evs_nil, evs_cons, ev_and, ev_or, evAnd_one, Out.noX_val, evOr_one, evAnd_cons, evOr_cons, kAnd_true, kAnd_false, kOr_true, kOr_false, kAnd_val, kOr_val, evAll_nil, evAny_nil, evIfs_nil, evAll_cons, evAny_cons, evIfs_cons, kAll_val, kAny_val, kIfs_val, evB_and, evB_or, evB_not, evB_var, evB_call, evB_prim, ev_isinst, evB_isinst, evB_idx, ev_comp, evI_of', kOf_lst, kOf_tup, kOf_str, evI_range1, d1_dat, d2_dat, c2_dat, look_dat, bodyF, List.map_cons, List.map_nil, List.cons_append, List.nil_append, List.append_nil, List.replicate_succ, List.replicate_zero, List.getElem?_cons_zero, List.getElem?_cons_succ, List.set_cons_zero, List.set_cons_succ, List.length_cons, List.length_nil, Nat.sub_self, Nat.zero_add, Nat.reduceAdd, Nat.reduceSub, Nat.add_sub_cancel, if_true, if_false, Bool.false_eq_true, Int.reduceLT, Int.reduceLE, Int.reduceNeg, Int.reduceAdd, Int.reduceSub, Int.reduceMul, Int.reduceToNat, Nat.reduceLT, Nat.reduceLeDiff, and_self, and_true, true_and, decide_true, decide_false, Bool.not_true, Bool.not_false, Option.map_some, Option.bind_some, b_add, b_sub, b_mul1, b_mod, b_fdiv, cmp_eq_int, cmp_eq_bool, cmp_lt, cmp_le, cmp_gt, cmp_ge, Int.reduceGT, gt_iff_lt, ge_iff_le, isTy, q1, q2]
theorem law_true (script : List Int) (hs : script.length ≤ 63) : callF sub tab.Δ 50 lawNo [.dat (.lst (script.map .int))] [] = .val (.bool true) [] := by
  obtain ⟨t, h1, h2⟩ := c_text (sub := sub) (n := 47) hs
  exact c_law (n := 44) rfl h2 h1
end
end Mine

namespace Mine
open PySem PySem.W PyProof.Rows
/-- the head: the top of the text, run once -/
noncomputable def keepSt : Stmt → Bool
  | .Assign [.Name n _] _ _ => !(n == ("__name__" : PySem.Str))
  | _ => true
abbrev theRow : OpenRow := OpenLaw.row PySem.Challenge.rw_uf060010_07
noncomputable def view : Program := { theRow.prog with main := { theRow.prog.main with body := theRow.prog.main.body.filter keepSt } }
set_option maxRecDepth 100000 in
theorem left : LeftO theRow.prog view [] (fun s => clsAll s.heap && recOk (RowW.records theRow.toRowW) s) (Hook.obs Hook.none) (Hook.val Hook.none) 3000 := fun w => by kernel_rfl
end Mine
open PySem PySem.W PyProof.Rows
set_option maxRecDepth 100000 in
set_option maxHeartbeats 8000000 in
theorem PySem.Challenge.cw_uf060010_07_holds : PySem.Challenge.rw_uf060010_07.Holds := by
  w_on
  refine holds_law (by decide +kernel) fun said => ?_
  change OpenRow.Holds Mine.theRow
  refine PySem.W.holds_open (q := Mine.view) (loose := []) (XP := fun mg h => Mine.ClsOk h mg) (YP := Hook.says Hook.none) Mine.left (Hook.of Hook.none) (Hook.keeps Hook.none) (fun s e => Mine.cls_ok (Bool.and_eq_true_iff.mp e).1) (fun mg h h' x hk => x.keeps hk) (by rfl) (by rfl) (by rfl) (fun s e => recFacts_of (Bool.and_eq_true_iff.mp e).2) (by rfl) (by first | assumption | decide +kernel) (by decide +kernel) ⟨rfl, rfl, rfl, rfl, rfl, by decide +kernel⟩ ?hw ?hc
  case hw => w_witness2
  intro w s₀ s₁ mg mb G Y fa o pm cd doc dV kV ho hd hcd hD hmg hg args vals as hpre hlay hrd hwl hlo
  have TT := G.T
  have KK := G.X
  clear Y ho hd hcd hD
  wrow_args hpre hlay hrd hwl hlo
  rename_i script hs1 hlay1 hL1 hr1 hl21 as1 as2 la vs as3 hL2 ra1 w1 r01 hI hr2 hcond hcond2
  refine Mine.law_glue (sub := fun _ _ => false) (f := Mine.lawNo) (n := 50) (Mine.wd_of TT Mine.tab [("MOST_LAMPS", .int 10), ("MOST_WISHES", .int 20), ("MOST_NUMBERS", .int 10), ("FIGURES", .str [48, 49, 50, 51, 52, 53, 54, 55, 56, 57]), ("MOST_FIGURES", .int 60)] (by decide +kernel) (by decide +kernel) (Mine.con_ok (by intro e he; simp only [List.mem_cons, List.not_mem_nil, or_false] at he; rcases he with rfl | rfl | rfl | rfl | rfl <;> exact ⟨_, rfl, by kernel_rfl⟩))) KK rfl rfl hmg hL2 hI (by decide) (Mine.law_true script (by omega)) fun h' tk hk => ?_
  exact ⟨.inl ⟨_, _, [], rfl, fun _ => rfl, ReadsW.bool true, by first | rfl | wrow_post, fun _ => ⟨List.nodup_nil, fun _ hm => (nomatch hm)⟩⟩, .of_keep hk, rfl, .of_eq hg⟩
