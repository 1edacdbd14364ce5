import PyProof.Rows.All
import PySem.Syntax
import PyProof.CompFree
import PyProof.WalksMore
import PyProof.Rows.Top
import PyProof.Rows.ListMulArg
import PyProof.AutoIntOps
import PyProof.P3In
import PyProof.IsiNone
import PyProof.IsInstanceH
import KE.KSortKey
import PyProof.Conv_int_bool
import KE.KRevIter
import PyProof.Draws
import PyProof.EnumMake
import PyProof.ZipIter
import PyProof.Rows.ZipForRows
import PyProof.ForAny
import PyProof.StationsW
import PyProof.ExcClass3
import PyProof.ExcArgsOwn
import PyProof.IsiH_tuple
import PyProof.IsInstance
import PyProof.ExcBaseAll.ValueError
import PyProof.ExcAttrAll.ValueError
import PyProof.RulesAs
import Wide.All
import OpenK.AllK
import Wide.FinOn
import PySem.Challenge.RW_uf060010_05
set_option Elab.async false
set_option maxRecDepth 100000
set_option autoImplicit false
set_option linter.all false
/-! ## MCore -/
namespace Mine

/-- plain data of the programs -/
inductive Dat where
  | none
  | bool (b : Bool)
  | int (i : Int)
  | str (s : List Nat)
  | tup (l : List Dat)
  | lst (l : List Dat)

/-- what a name holds: data, a list that may still grow, an exception -/
inductive Val where
  | dat (d : Dat)
  | ref (k : Nat)
  | exc (c : Nat)

/-- the lists that may grow: (may it still?, its items) -/
abbrev Sto := List (Bool × List Dat)

inductive Out (α : Type) where
  | val (a : α) (σ : Sto)
  | exn (c : Nat) (σ : Sto)
  | bad

noncomputable def Out.bind {α β : Type} (o : Out α) (f : α → Sto → Out β) : Out β :=
  match o with
  | .val a σ => f a σ
  | .exn _ _ => .bad
  | .bad => .bad
/-- the same, where an exception may pass -/
noncomputable def Out.bindX {α β : Type} (o : Out α) (f : α → Sto → Out β) : Out β :=
  match o with
  | .val a σ => f a σ
  | .exn c σ => .exn c σ
  | .bad => .bad
noncomputable def Out.noX {α : Type} (o : Out α) : Out α := match o with
  | .exn .. => .bad
  | o => o
@[simp] theorem Out.noX_val {α : Type} (a : α) (σ : Sto) : (Out.val a σ).noX = .val a σ := rfl
@[simp] theorem Out.bindX_val {α β : Type} (a : α) (σ : Sto) (f : α → Sto → Out β) : (Out.val a σ).bindX f = f a σ := rfl
@[simp] theorem Out.bindX_exn {α β : Type} (c : Nat) (σ : Sto) (f : α → Sto → Out β) : (Out.exn c σ).bindX f = .exn c σ := rfl
@[simp] theorem Out.bindX_bad {α β : Type} (f : α → Sto → Out β) : (Out.bad : Out α).bindX f = .bad := rfl
@[simp] theorem Out.bind_val {α β : Type} (a : α) (σ : Sto) (f : α → Sto → Out β) : (Out.val a σ).bind f = f a σ := rfl
@[simp] theorem Out.bind_exn {α β : Type} (c : Nat) (σ : Sto) (f : α → Sto → Out β) : (Out.exn c σ).bind f = .bad := rfl
@[simp] theorem Out.bind_bad {α β : Type} (f : α → Sto → Out β) : (Out.bad : Out α).bind f = .bad := rfl

noncomputable def ofOpt {α : Type} (o : Option α) (σ : Sto) : Out α := match o with | some a => .val a σ | Option.none => .bad
@[simp] theorem ofOpt_some {α : Type} (a : α) (σ : Sto) : ofOpt (some a) σ = .val a σ := rfl
@[simp] theorem ofOpt_none {α : Type} (σ : Sto) : (ofOpt (Option.none : Option α) σ) = .bad := rfl


inductive Ty where | bool | int | str | tuple | list | own (c : Nat)
  deriving DecidableEq
inductive BOp where | add | sub | mul | fdiv | mod | pow
  deriving DecidableEq
inductive COp where | eq | ne | lt | le | gt | ge | is | isnot | isin | notin
  deriving DecidableEq
inductive Prim where | len | abs | any | all | int | str
  deriving DecidableEq
inductive Prim2 where | max | min | join | split
  deriving DecidableEq

set_option genInjectivity false
set_option genSizeOfSpec false
set_option genSizeOf false
mutual
inductive IE where
  | lit (d : Dat)
  | con (x : String) (d : Dat)
  | var (i : Nat)
  | tup (es : IEs)
  | lst (es : IEs)
  | bin (op : BOp) (a b : IE)
  | neg (a : IE)
  | not (a : IE)
  | and (es : IEs)
  | or (es : IEs)
  | cmp (a : IE) (cs : ICs)
  | call (f : Nat) (as : IEs)
  | prim (p : Prim) (a : IE)
  | prim2 (p : Prim2) (a b : IE)
  | listOf (e : IE)
  | listRange (e : IE)
  | isinst (a : IE) (t : Ty)
  | idx (a i : IE)
  | slFrom (a i : IE)
  | slTo (a i : IE)
  | sorted (a : IE)
  | comp (x : Nat) (it : II) (ifs : IEs) (elt : IE)
inductive IEs where
  | nil
  | cons (e : IE) (es : IEs)
inductive ICs where
  | nil
  | cons (op : COp) (e : IE) (cs : ICs)
inductive II where
  | of (e : IE)
  | range1 (e : IE)
  | range2 (a b : IE)
  | rev (e : IE)
  | enum (e : IE)
  | zip (a b : IE)
end

/-- what a handler asks of the exception, or of a name -/
inductive Atom where
  | isi (c : Nat)
  | var (i : Nat)
/-- except CLASS as NAME: return ATOM and .. (each with 'not', or without) -/
structure Hnd where
  cls : Nat
  x : Nat
  atoms : List (Bool × Atom)

mutual
inductive IS where
  | assign (i : Nat) (e : IE)
  | newlst (i : Nat) (es : IEs)
  | newcopy (i : Nat) (e : IE)
  | append (i : Nat) (e : IE)
  | drop (e : IE)
  | ret (e : IE)
  | ite (c : IE) (a b : ISs)
  | for1 (x : Nat) (it : II) (body : ISs)
  | for2 (x y : Nat) (it : II) (body : ISs)
  | while (c : IE) (body : ISs)
  | raise (c : Nat) (msg : List Nat)
  | tryc (f : Nat) (as : IEs) (hs : List Hnd)
  | any
inductive ISs where
  | nil
  | cons (s : IS) (ss : ISs)
end

set_option genInjectivity true
set_option genSizeOfSpec true
set_option genSizeOf true
/-! ## data operations -/

noncomputable def intsOf : List Dat → Option (List Int)
  | [] => some []
  | .int i :: l => (intsOf l).map (i :: ·)
  | _ => Option.none
noncomputable def boolsOf : List Dat → Option (List Bool)
  | [] => some []
  | .bool b :: l => (boolsOf l).map (b :: ·)
  | _ => Option.none
@[simp] theorem intsOf_map (l : List Int) : intsOf (l.map Dat.int) = some l := by
  induction l with
  | nil => rfl
  | cons x l ih => simp [intsOf, ih]
@[simp] theorem boolsOf_map (l : List Bool) : boolsOf (l.map Dat.bool) = some l := by
  induction l with
  | nil => rfl
  | cons x l ih => simp [boolsOf, ih]
theorem intsOf_some : ∀ {l : List Dat} {is : List Int}, intsOf l = some is → l = is.map Dat.int
  | [], is, h => by cases h; rfl
  | d :: l, is, h => by
    cases d <;> simp only [intsOf] at h <;> try cases h
    cases h' : intsOf l with
    | none => rw [h'] at h; cases h
    | some js => rw [h'] at h; cases h; rw [intsOf_some h']; rfl
theorem boolsOf_some : ∀ {l : List Dat} {is : List Bool}, boolsOf l = some is → l = is.map Dat.bool
  | [], is, h => by cases h; rfl
  | d :: l, is, h => by
    cases d <;> simp only [boolsOf] at h <;> try cases h
    cases h' : boolsOf l with
    | none => rw [h'] at h; cases h
    | some js => rw [h'] at h; cases h; rw [boolsOf_some h']; rfl
mutual
/-- == of two data, where it is served -/
noncomputable def eqD : Dat → Dat → Option Bool
  | .none, .none => some true
  | .bool a, .bool b => some (a == b)
  | .int a, .int b => some (a == b)
  | .str a, .str b => some (a == b)
  | .tup a, .tup b => eqDs a b
  | .lst a, .lst b => eqDs a b
  | .bool _, .int _ => Option.none
  | .int _, .bool _ => Option.none
  | _, _ => some false
noncomputable def eqDs : List Dat → List Dat → Option Bool
  | [], [] => some true
  | [], _ :: _ => some false
  | _ :: _, [] => some false
  | a :: as, b :: bs => match eqD a b with
    | some true => eqDs as bs
    | r => r
end

mutual
/-- how deep tuples and lists stand in one another -/
noncomputable def depthD : Dat → Nat
  | .tup l => depthDs l + 1
  | .lst l => depthDs l + 1
  | _ => 0
noncomputable def depthDs : List Dat → Nat
  | [] => 0
  | d :: ds => max (depthD d) (depthDs ds)
end
mutual
/-- texts of signs alone -/
noncomputable def fineD : Dat → Bool
  | .tup l => fineDs l
  | .lst l => fineDs l
  | .str s => s.all fun c => decide (c < 1114112)
  | _ => true
noncomputable def fineDs : List Dat → Bool
  | [] => true
  | d :: ds => fineD d && fineDs ds
end
noncomputable def okD (d : Dat) : Bool := fineD d && decide (depthD d ≤ 40)

noncomputable def inDs (x : Dat) : List Dat → Option Bool
  | [] => some false
  | y :: ys => match eqD y x with
    | some true => some true
    | some false => inDs x ys
    | Option.none => Option.none

noncomputable def inD (x : Dat) : Dat → Option Bool
  | .lst l => if okD x && okD (.lst l) then inDs x l else Option.none
  | .tup l => if okD x && okD (.tup l) then inDs x l else Option.none
  | .str s => match x with
    | .str [c] => some (s.contains c)
    | _ => Option.none
  | _ => Option.none

noncomputable def eq2 (a b : Dat) : Option Bool := if okD a && okD b then eqD a b else Option.none

noncomputable def isNoneD (a : Dat) : Bool := match a with | .none => true | _ => false
noncomputable def intC (f : Int → Int → Bool) (a b : Dat) : Option Bool := match a with
  | .int x => (match b with | .int y => some (f x y) | _ => Option.none)
  | _ => Option.none
noncomputable def isC (f : Bool → Bool) (a b : Dat) : Option Bool := match b with
  | .none => some (f (isNoneD a))
  | _ => Option.none
noncomputable def cmp2 (op : COp) (a b : Dat) : Option Bool := match op with
  | .eq => eq2 a b
  | .ne => (eq2 a b).map (!·)
  | .lt => intC (fun x y => decide (x < y)) a b
  | .le => intC (fun x y => decide (x ≤ y)) a b
  | .gt => intC (fun x y => decide (y < x)) a b
  | .ge => intC (fun x y => decide (y ≤ x)) a b
  | .is => isC id a b
  | .isnot => isC (!·) a b
  | .isin => inD a b
  | .notin => (inD a b).map (!·)

/-- an int of at most 64 bits -/
noncomputable def shortInt (a : Int) : Bool := decide (-18446744073709551616 < a ∧ a < 18446744073709551616)

noncomputable def addD (a b : Dat) : Option Dat := match a with
  | .int x => (match b with | .int y => some (.int (x + y)) | _ => Option.none)
  | .str x => (match b with | .str y => if x.length + y.length ≤ 1000000 then some (.str (x ++ y)) else Option.none | _ => Option.none)
  | .lst x => (match b with | .lst y => if x.length + y.length ≤ 1000000 then some (.lst (x ++ y)) else Option.none | _ => Option.none)
  | _ => Option.none
noncomputable def intB (f : Int → Int → Option Dat) (a b : Dat) : Option Dat := match a with
  | .int x => (match b with | .int y => f x y | _ => Option.none)
  | _ => Option.none
noncomputable def mulD (a b : Dat) : Option Dat := match a with
  | .int x => (match b with | .int y => if (shortInt x || shortInt y) = true then some (.int (x * y)) else Option.none | _ => Option.none)
  | .str x => (match b with | .int n => if x.length * n.toNat ≤ 1000000 ∧ n < 1000000 ∧ -1000000 < n then some (.str (List.replicate n.toNat x).flatten) else Option.none | _ => Option.none)
  | .lst x => (match b with | .int n => if x.length * n.toNat ≤ 1000000 ∧ n < 1000000 ∧ -1000000 < n then some (.lst (List.replicate n.toNat x).flatten) else Option.none | _ => Option.none)
  | _ => Option.none
noncomputable def bin2 (op : BOp) (a b : Dat) : Option Dat := match op with
  | .add => addD a b
  | .sub => intB (fun x y => some (.int (x - y))) a b
  | .mul => mulD a b
  | .fdiv => intB (fun x y => if 0 < y ∧ y < 18446744073709551616 then some (.int (x / y)) else Option.none) a b
  | .mod => intB (fun x y => if 0 < y ∧ y < 18446744073709551616 then some (.int (x % y)) else Option.none) a b
  | .pow => intB (fun x y => if x = 10 ∧ y = 30 then some (.int 1000000000000000000000000000000) else Option.none) a b

theorem nos {α : Type} {P : Prop} {x : α} (h : (none : Option α) = some x) : P := by cases h
theorem nof {P : Prop} (h : false = true) : P := by cases h
theorem iff_some {α : Type} {c : Prop} [Decidable c] {o : Option α} {d : α} (h : (if c then o else Option.none) = some d) : c ∧ o = some d := by
  by_cases hc : c
  · rw [if_pos hc] at h; exact ⟨hc, h⟩
  · rw [if_neg hc] at h; cases h

noncomputable def truthD : Dat → Option Bool
  | .bool b => some b
  | _ => Option.none

noncomputable def absOne (l : List Int) : Bool := l.all fun a => l.all fun b => a.natAbs != b.natAbs || a == b
noncomputable def sortAbs (l : List Int) : List Int := l.mergeSort fun a b => decide (a.natAbs ≤ b.natAbs)

noncomputable def lenD (a : Dat) : Option Dat := match a with
  | .lst l => if l.length ≤ 1000000 then some (.int l.length) else Option.none
  | .tup l => if l.length ≤ 1000000 then some (.int l.length) else Option.none
  | .str l => if l.length ≤ 1000000 then some (.int l.length) else Option.none
  | _ => Option.none
noncomputable def absD (a : Dat) : Option Dat := match a with | .int i => some (.int i.natAbs) | _ => Option.none
noncomputable def anyD (a : Dat) : Option Dat := match a with | .lst l => (boolsOf l).map fun bs => .bool (bs.any id) | _ => Option.none
noncomputable def allD (a : Dat) : Option Dat := match a with | .lst l => (boolsOf l).map fun bs => .bool (bs.all id) | _ => Option.none
noncomputable def intD (a : Dat) : Option Dat := match a with
  | .bool b => some (.int (if b then 1 else 0))

  | _ => Option.none
noncomputable def prim1 (p : Prim) (a : Dat) : Option Dat := match p with
  | .len => lenD a
  | .abs => absD a
  | .any => anyD a
  | .all => allD a
  | .int => intD a
  | .str => Option.none

noncomputable def sortD : Dat → Option Dat
  | .lst l => (intsOf l).bind fun is => if absOne is = true ∧ is.length ≤ 60 then some (.lst ((sortAbs is).map .int)) else Option.none
  | _ => Option.none

noncomputable def maxD (x y : Int) : Int := if y > x then y else x
noncomputable def minD (x y : Int) : Int := if y < x then y else x
noncomputable def prim2 (p : Prim2) (a b : Dat) : Option Dat := match p with
  | .max => intB (fun x y => some (.int (maxD x y))) a b
  | .min => intB (fun x y => some (.int (minD x y))) a b
  | .join => Option.none
  | .split => Option.none

noncomputable def isTy (t : Ty) (d : Dat) : Bool := match t with
  | .bool => (match d with | .bool _ => true | _ => false)
  | .int => (match d with | .bool _ => true | .int _ => true | _ => false)
  | .str => (match d with | .str _ => true | _ => false)
  | .tuple => (match d with | .tup _ => true | _ => false)
  | .list => (match d with | .lst _ => true | _ => false)
  | .own _ => false

/-- the place of an item -/
noncomputable def place (n : Nat) (k : Int) : Option Nat :=
  if 0 ≤ k then (if k < n then some k.toNat else Option.none) else (if -n ≤ k then some (k + n).toNat else Option.none)

noncomputable def idx2 : Dat → Dat → Option Dat
  | .lst l, .int k => if l.length ≤ 1000000 then (place l.length k).bind fun i => l[i]? else Option.none
  | .tup l, .int k => if l.length ≤ 1000000 then (place l.length k).bind fun i => l[i]? else Option.none
  | .str l, .int k => if l.length ≤ 1000000 then (place l.length k).bind fun i => l[i]?.map fun c => .str [c] else Option.none
  | _, _ => Option.none
noncomputable def slFrom2 : Dat → Dat → Option Dat
  | .lst l, .int k => if 0 ≤ k ∧ k ≤ 1000000 ∧ l.length ≤ 1000000 then some (.lst (l.drop k.toNat)) else Option.none
  | .str l, .int k => if 0 ≤ k ∧ k ≤ 1000000 ∧ l.length ≤ 1000000 then some (.str (l.drop k.toNat)) else Option.none
  | _, _ => Option.none
noncomputable def slTo2 : Dat → Dat → Option Dat
  | .lst l, .int k => if 0 ≤ k ∧ k ≤ 1000000 ∧ l.length ≤ 1000000 then some (.lst (l.take k.toNat)) else Option.none
  | .str l, .int k => if 0 ≤ k ∧ k ≤ 1000000 ∧ l.length ≤ 1000000 then some (.str (l.take k.toNat)) else Option.none
  | _, _ => Option.none

/-- what a loop takes, one by one -/
noncomputable def itemsOf : Dat → Option (List Dat)
  | .lst l => some l
  | .tup l => some l
  | .str s => some (s.map fun c => .str [c])
  | _ => Option.none
noncomputable def rangeD (a b : Int) : List Dat := (List.range (b - a).toNat).map fun i : Nat => Dat.int (a + i)
noncomputable def enumD (l : List Dat) : List Dat := l.zipIdx.map fun p => .tup [.int p.2, p.1]
noncomputable def zipD (l m : List Dat) : List Dat := (l.zip m).map fun p => .tup [p.1, p.2]

/-- list(x), list(range(n)) -/
noncomputable def seqD : Dat → Option Dat
  | .lst l => if l.length ≤ 1000000 then some (.lst l) else Option.none
  | .tup l => if l.length ≤ 1000000 then some (.lst l) else Option.none
  | _ => Option.none
noncomputable def listRangeD : Dat → Option Dat
  | .int n => if n ≤ 1000000 ∧ -1000000 ≤ n then some (.lst (rangeD 0 n)) else Option.none
  | _ => Option.none

/-! ## names, the store -/

noncomputable def look (σ : Sto) : Val → Option Dat
  | .dat d => some d
  | .ref k => (σ[k]?).map fun e => .lst e.2
  | .exc _ => Option.none
@[simp] theorem look_dat (σ : Sto) (d : Dat) : look σ (.dat d) = some d := rfl

/-- data of a value; a list that may grow stops growing -/
noncomputable def toDat (v : Val) (σ : Sto) : Out Dat := match v with
  | .dat d => .val d σ
  | .ref k => match σ[k]? with
    | some e => .val (.lst e.2) (σ.set k (false, e.2))
    | Option.none => .bad
  | .exc _ => .bad
@[simp] theorem toDat_dat (σ : Sto) (d : Dat) : toDat (.dat d) σ = .val d σ := rfl

/-- a list a loop goes over: the items, and what must stay as it is while it goes -/
structure Src where
  items : List Dat
  held : Option Nat

open Classical in
noncomputable def Src.still (s : Src) (σ : Sto) : Bool := match s.held with
  | Option.none => true
  | some k => decide (σ[k]?.map (·.2) = some s.items)
@[simp] theorem still_none (l : List Dat) (σ : Sto) : (Src.mk l Option.none).still σ = true := rfl

abbrev Oracle := Nat → List Val → Sto → Out Dat
abbrev Loc := List (Option Val)

noncomputable def d1 (f : Dat → Option Dat) (v : Val) (σ : Sto) : Out Val := match (look σ v).bind f with
  | some d => .val (.dat d) σ
  | Option.none => .bad
noncomputable def d2 (f : Dat → Dat → Option Dat) (v w : Val) (σ : Sto) : Out Val := match (look σ v).bind fun a => (look σ w).bind fun b => f a b with
  | some d => .val (.dat d) σ
  | Option.none => .bad
noncomputable def c2 (op : COp) (v w : Val) (σ : Sto) : Option Bool := (look σ v).bind fun a => (look σ w).bind fun b => cmp2 op a b
@[simp] theorem d1_dat (f : Dat → Option Dat) (a : Dat) (σ : Sto) : d1 f (.dat a) σ = match f a with | some d => .val (.dat d) σ | Option.none => .bad := rfl
@[simp] theorem d2_dat (f : Dat → Dat → Option Dat) (a b : Dat) (σ : Sto) : d2 f (.dat a) (.dat b) σ = match f a b with | some d => .val (.dat d) σ | Option.none => .bad := rfl
@[simp] theorem c2_dat (op : COp) (a b : Dat) (σ : Sto) : c2 op (.dat a) (.dat b) σ = cmp2 op a b := rfl

noncomputable def compL (s : Src) (f : Dat → Sto → Out (Option Dat)) : List Dat → Sto → Out (List Dat)
  | [], σ => if s.still σ then .val [] σ else .bad
  | d :: ds, σ => if s.still σ then (f d σ).bind fun o σ => (compL s f ds σ).bind fun r σ => .val (o.toList ++ r) σ else .bad

noncomputable def truthOf (v : Val) (σ : Sto) : Out Bool := ofOpt ((look σ v).bind truthD) σ
@[simp] theorem truthOf_bool (b : Bool) (σ : Sto) : truthOf (.dat (.bool b)) σ = .val b σ := rfl

noncomputable def isinstOf (t : Ty) (v : Val) (sub : Nat → Nat → Bool) (σ : Sto) : Out Val := match t with
  | .own c' => (match v with | .exc c => .val (.dat (.bool (sub c c'))) σ | _ => .bad)
  | t => ofOpt ((look σ v).map fun d => Val.dat (.bool (isTy t d))) σ

section
variable (sub : Nat → Nat → Bool) (C : Oracle)
mutual
noncomputable def ev : IE → Loc → Sto → Out Val
  | .lit d, _, σ => .val (.dat d) σ
  | .con _ d, _, σ => .val (.dat d) σ
  | .var i, ρ, σ => match ρ[i]? with
    | some (some v) => .val v σ
    | _ => .bad
  | .tup es, ρ, σ => (evs es ρ σ).bind fun ds σ => .val (.dat (.tup ds)) σ
  | .lst es, ρ, σ => (evs es ρ σ).bind fun ds σ => .val (.dat (.lst ds)) σ
  | .bin op a b, ρ, σ => (ev a ρ σ).bind fun v σ => (ev b ρ σ).bind fun w σ => d2 (bin2 op) v w σ
  | .neg a, ρ, σ => (ev a ρ σ).bind fun v σ => d1 (fun d => match d with | .int i => some (.int (-i)) | _ => Option.none) v σ
  | .not a, ρ, σ => (ev a ρ σ).bind fun v σ => (truthOf v σ).bind fun b σ => .val (.dat (.bool (!b))) σ
  | .and es, ρ, σ => evAnd es ρ σ
  | .or es, ρ, σ => evOr es ρ σ
  | .cmp a cs, ρ, σ => (ev a ρ σ).bind fun v σ => (evCmp v cs ρ σ).bind fun b σ => .val (.dat (.bool b)) σ
  | .call f as, ρ, σ => (evArgs as ρ σ).bind fun vs σ => (C f vs σ).bindX fun d σ => .val (.dat d) σ
  | .prim p a, ρ, σ => (ev a ρ σ).bind fun v σ => d1 (prim1 p) v σ
  | .prim2 p a b, ρ, σ => (ev a ρ σ).bind fun v σ => (ev b ρ σ).bind fun w σ => d2 (prim2 p) v w σ
  | .listOf e, ρ, σ => (ev e ρ σ).bind fun v σ => d1 seqD v σ
  | .listRange e, ρ, σ => (ev e ρ σ).bind fun v σ => d1 listRangeD v σ
  | .isinst a t, ρ, σ => (ev a ρ σ).bind fun v σ => isinstOf t v sub σ
  | .idx a i, ρ, σ => (ev a ρ σ).bindX fun v σ => (ev i ρ σ).bind fun w σ => d2 idx2 v w σ
  | .slFrom a i, ρ, σ => (ev a ρ σ).bind fun v σ => (ev i ρ σ).bind fun w σ => d2 slFrom2 v w σ
  | .slTo a i, ρ, σ => (ev a ρ σ).bind fun v σ => (ev i ρ σ).bind fun w σ => d2 slTo2 v w σ
  | .sorted a, ρ, σ => (ev a ρ σ).bind fun v σ => d1 sortD v σ
  | .comp x it ifs elt, ρ, σ => (evI it ρ σ).bind fun s σ => if s.items.length ≤ 1000000 then
      (compL s (fun d σ => (evIfs ifs (ρ.set x (some (.dat d))) σ).bind fun b σ =>
        if b then (ev elt (ρ.set x (some (.dat d))) σ).bind fun v σ => (toDat v σ).bind fun e σ => .val (some e) σ else .val Option.none σ) s.items σ).bind fun ds σ => .val (.dat (.lst ds)) σ
      else .bad
noncomputable def evs : IEs → Loc → Sto → Out (List Dat)
  | .nil, _, σ => .val [] σ
  | .cons e es, ρ, σ => (ev e ρ σ).bind fun v σ => (toDat v σ).bind fun d σ => (evs es ρ σ).bind fun ds σ => .val (d :: ds) σ
noncomputable def evArgs : IEs → Loc → Sto → Out (List Val)
  | .nil, _, σ => .val [] σ
  | .cons e es, ρ, σ => (ev e ρ σ).bind fun v σ => (evArgs es ρ σ).bind fun vs σ => .val (v :: vs) σ
noncomputable def evAnd : IEs → Loc → Sto → Out Val
  | .nil, _, _ => .bad
  | .cons e .nil, ρ, σ => (ev e ρ σ).noX
  | .cons e es, ρ, σ => (ev e ρ σ).bind fun v σ => (truthOf v σ).bind fun b σ => if b then evAnd es ρ σ else .val v σ
noncomputable def evOr : IEs → Loc → Sto → Out Val
  | .nil, _, _ => .bad
  | .cons e .nil, ρ, σ => (ev e ρ σ).noX
  | .cons e es, ρ, σ => (ev e ρ σ).bind fun v σ => (truthOf v σ).bind fun b σ => if b then .val v σ else evOr es ρ σ
noncomputable def evCmp : Val → ICs → Loc → Sto → Out Bool
  | _, .nil, _, σ => .val true σ
  | v, .cons op e cs, ρ, σ => (ev e ρ σ).bind fun w σ => match c2 op v w σ with
    | some true => evCmp w cs ρ σ
    | some false => .val false σ
    | Option.none => .bad
noncomputable def evI : II → Loc → Sto → Out Src
  | .of e, ρ, σ => (ev e ρ σ).bind fun v σ => match v with
    | .dat d => ofOpt ((itemsOf d).map fun l => ⟨l, Option.none⟩) σ
    | .ref k => ofOpt ((σ[k]?).map fun e => ⟨e.2, some k⟩) σ
    | .exc _ => .bad
  | .range1 e, ρ, σ => (ev e ρ σ).bind fun v σ => match v with
    | .dat (.int n) => if n ≤ 1000000 ∧ -1000000 ≤ n then .val ⟨rangeD 0 n, Option.none⟩ σ else .bad
    | _ => .bad
  | .range2 a b, ρ, σ => (ev a ρ σ).bind fun v σ => (ev b ρ σ).bind fun w σ => match v, w with
    | .dat (.int n), .dat (.int m) => if -1000000 ≤ n ∧ n ≤ 1000000 ∧ m ≤ 1000000 ∧ -1000000 ≤ m then .val ⟨rangeD n m, Option.none⟩ σ else .bad
    | _, _ => .bad
  | .rev e, ρ, σ => (ev e ρ σ).bind fun v σ => match v with
    | .dat (.str s) => if s.length ≤ 1000000 then .val ⟨(s.map fun c => Dat.str [c]).reverse, Option.none⟩ σ else .bad
    | _ => .bad
  | .enum e, ρ, σ => (ev e ρ σ).bind fun v σ => match v with
    | .dat (.lst l) => .val ⟨enumD l, Option.none⟩ σ
    | .dat (.str x) => .val ⟨enumD (x.map fun c => .str [c]), Option.none⟩ σ
    | _ => .bad
  | .zip a b, ρ, σ => (ev a ρ σ).bind fun v σ => (toDat v σ).bind fun d σ => (ev b ρ σ).bind fun w σ => (toDat w σ).bind fun e σ => match d, e with
    | .lst l, .lst m => .val ⟨zipD l m, Option.none⟩ σ
    | _, _ => .bad
noncomputable def evIfs : IEs → Loc → Sto → Out Bool
  | .nil, _, σ => .val true σ
  | .cons e es, ρ, σ => (evB e ρ σ).bind fun b σ => if b then evIfs es ρ σ else .val false σ
noncomputable def evB : IE → Loc → Sto → Out Bool
  | .not a, ρ, σ => (evB a ρ σ).bindX fun b σ => .val (!b) σ
  | .and es, ρ, σ => evAll es ρ σ
  | .or es, ρ, σ => evAny es ρ σ
  | .cmp a cs, ρ, σ => (ev a ρ σ).bind fun v σ => evCmp v cs ρ σ
  | .lit d, ρ, σ => truthOf (.dat d) σ
  | .con x d, ρ, σ => truthOf (.dat d) σ
  | .var i, ρ, σ => (match ρ[i]? with | some (some v) => truthOf v σ | _ => .bad)
  | .call f as, ρ, σ => (evArgs as ρ σ).bind fun vs σ => (C f vs σ).bind fun d σ => truthOf (.dat d) σ
  | .prim p a, ρ, σ => (ev a ρ σ).bind fun v σ => (d1 (prim1 p) v σ).bind truthOf
  | .isinst a t, ρ, σ => (ev a ρ σ).bind fun v σ => (isinstOf t v sub σ).bind truthOf
  | .idx a i, ρ, σ => (ev a ρ σ).bindX fun v σ => (ev i ρ σ).bind fun w σ => (d2 idx2 v w σ).bind truthOf
  | _, _, _ => .bad
noncomputable def evAll : IEs → Loc → Sto → Out Bool
  | .nil, _, σ => .val true σ
  | .cons e es, ρ, σ => (evB e ρ σ).bind fun b σ => if b then evAll es ρ σ else .val false σ
noncomputable def evAny : IEs → Loc → Sto → Out Bool
  | .nil, _, σ => .val false σ
  | .cons e es, ρ, σ => (evB e ρ σ).bind fun b σ => if b then .val true σ else evAny es ρ σ
end

inductive SOut where
  | next (ρ : Loc) (σ : Sto)
  | ret (d : Dat) (σ : Sto)
  | exn (c : Nat) (ρ : Loc) (σ : Sto)
  | bad

noncomputable def SOut.bind (o : SOut) (f : Loc → Sto → SOut) : SOut := match o with
  | .next ρ σ => f ρ σ
  | o => o
@[simp] theorem SOut.bind_next (ρ : Loc) (σ : Sto) (f : Loc → Sto → SOut) : (SOut.next ρ σ).bind f = f ρ σ := rfl
@[simp] theorem SOut.bind_ret (d : Dat) (σ : Sto) (f : Loc → Sto → SOut) : (SOut.ret d σ).bind f = .ret d σ := rfl
@[simp] theorem SOut.bind_exn (c : Nat) (ρ : Loc) (σ : Sto) (f : Loc → Sto → SOut) : (SOut.exn c ρ σ).bind f = .exn c ρ σ := rfl
@[simp] theorem SOut.bind_bad (f : Loc → Sto → SOut) : SOut.bad.bind f = .bad := rfl

noncomputable def Out.stm {α : Type} (o : Out α) (ρ : Loc) (f : α → Sto → SOut) : SOut := match o with
  | .val a σ => f a σ
  | .exn c σ => .exn c ρ σ
  | .bad => .bad
/-- the same, where no exception may pass -/
noncomputable def Out.stmK {α : Type} (o : Out α) (f : α → Sto → SOut) : SOut := match o with
  | .val a σ => f a σ
  | _ => .bad
@[simp] theorem Out.stmK_val {α : Type} (a : α) (σ : Sto) (f : α → Sto → SOut) : (Out.val a σ).stmK f = f a σ := rfl
noncomputable def SOut.noX (o : SOut) : SOut := match o with
  | .exn .. => .bad
  | o => o
@[simp] theorem Out.stm_val {α : Type} (a : α) (σ : Sto) (ρ : Loc) (f : α → Sto → SOut) : (Out.val a σ).stm ρ f = f a σ := rfl
@[simp] theorem Out.stm_exn {α : Type} (c : Nat) (σ : Sto) (ρ : Loc) (f : α → Sto → SOut) : (Out.exn c σ : Out α).stm ρ f = .exn c ρ σ := rfl
@[simp] theorem Out.stm_bad {α : Type} (ρ : Loc) (f : α → Sto → SOut) : (Out.bad : Out α).stm ρ f = .bad := rfl

noncomputable def forL (s : Src) (f : Dat → Loc → Sto → SOut) : List Dat → Loc → Sto → SOut
  | [], ρ, σ => if s.still σ then .next ρ σ else .bad
  | d :: ds, ρ, σ => if s.still σ then (f d ρ σ).bind fun ρ σ => forL s f ds ρ σ else .bad

noncomputable def whileL (c : Loc → Sto → Out Bool) (f : Loc → Sto → SOut) : Nat → Loc → Sto → SOut
  | 0, _, _ => .bad
  | n + 1, ρ, σ => (c ρ σ).stmK fun b σ => if b then (f ρ σ).bind fun ρ σ => whileL c f n ρ σ else .next ρ σ

noncomputable def pairD : Dat → Option (Dat × Dat)
  | .tup [a, b] => some (a, b)
  | _ => Option.none

/-- the classes: 0 WishError, 1 BadGame, 2 BadRow, 3 BadText; 9 ValueError -/
noncomputable def subC (c c' : Nat) : Bool := c == c' || c' == 0 || c' == 9
noncomputable def atomV (c : Nat) (ρ : Loc) : Atom → Option Bool
  | .isi c' => some (subC c c')
  | .var i => match ρ[i]? with
    | some (some (.dat (.bool b))) => some b
    | _ => Option.none
noncomputable def atomsV (c : Nat) (ρ : Loc) : List (Bool × Atom) → Option Bool
  | [] => some true
  | (n, a) :: l => (atomV c ρ a).bind fun b => (atomsV c ρ l).map fun r => (b != n) && r
noncomputable def ofHnd (c : Nat) (ρ : Loc) (σ : Sto) : Option Hnd → SOut
  | some h => (match atomsV c ρ h.atoms with | some b => .ret (.bool b) σ | Option.none => .bad)
  | Option.none => .bad

mutual
noncomputable def ex : IS → Loc → Sto → SOut
  | .assign i e, ρ, σ => (ev sub C e ρ σ).stm ρ fun v σ => .next (ρ.set i (some v)) σ
  | .newlst i es, ρ, σ => (evs sub C es ρ σ).stm ρ fun ds σ => .next (ρ.set i (some (.ref σ.length))) (σ ++ [(true, ds)])
  | .newcopy i e, ρ, σ => (ev sub C e ρ σ).stmK fun v σ => match (look σ v).bind seqD with
    | some (.lst l) => .next (ρ.set i (some (.ref σ.length))) (σ ++ [(true, l)])
    | _ => .bad
  | .append i e, ρ, σ => match ρ[i]? with
    | some (some (.ref k)) => (ev sub C e ρ σ).stmK fun v σ => match toDat v σ with
      | .val d σ => (match σ[k]? with
        | some (true, l) => if l.length < 1000000 then .next ρ (σ.set k (true, l ++ [d])) else .bad
        | _ => .bad)
      | _ => .bad
    | _ => .bad
  | .drop e, ρ, σ => (ev sub C e ρ σ).stm ρ fun v σ => match v with
    | .dat .none => .next ρ σ
    | _ => .bad
  | .ret e, ρ, σ => (ev sub C e ρ σ).stm ρ fun v σ => (toDat v σ).stm ρ fun d σ => .ret d σ
  | .ite c a b, ρ, σ => (evB sub C c ρ σ).stm ρ fun t σ => if t then exs a ρ σ else exs b ρ σ
  | .for1 x it body, ρ, σ => (evI sub C it ρ σ).stm ρ fun s σ => if s.items.length ≤ 1000000 then forL s (fun d ρ σ => exs body (ρ.set x (some (.dat d))) σ) s.items ρ σ else .bad
  | .for2 x y it body, ρ, σ => (evI sub C it ρ σ).stm ρ fun s σ => if s.items.length ≤ 1000000 then (forL s (fun d ρ σ => match pairD d with
      | some (a, b) => exs body ((ρ.set x (some (.dat a))).set y (some (.dat b))) σ
      | Option.none => .bad) s.items ρ σ).noX else .bad
  | .while c body, ρ, σ => whileL (fun ρ σ => evB sub C c ρ σ) (fun ρ σ => exs body ρ σ) 1000 ρ σ
  | .raise c _, ρ, σ => .exn c ρ σ
  | .tryc f as hs, ρ, σ => (evArgs sub C as ρ σ).stmK fun vs σ => match C f vs σ with
    | .exn c _ => if (σ.all (fun e => !e.1) && decide (c < 4)) = true then ofHnd c ρ σ (hs.find? fun h => subC c h.cls) else .bad
    | _ => .bad
  | .any, _, _ => .bad
noncomputable def exs : ISs → Loc → Sto → SOut
  | .nil, ρ, σ => .next ρ σ
  | .cons s ss, ρ, σ => (ex s ρ σ).bind fun ρ σ => exs ss ρ σ
end
end

structure Fn where
  arity : Nat
  slots : Nat
  body : ISs

noncomputable def SOut.back (o : SOut) (n : Nat) : Out Dat := match o with
  | .ret d σ => .val d (σ.take n)
  | .next _ σ => .val .none (σ.take n)
  | .exn c _ σ => .exn c (σ.take n)
  | .bad => .bad
@[simp] theorem SOut.back_ret (d : Dat) (σ : Sto) (n : Nat) : (SOut.ret d σ).back n = .val d (σ.take n) := rfl
@[simp] theorem SOut.back_next (ρ : Loc) (σ : Sto) (n : Nat) : (SOut.next ρ σ).back n = .val .none (σ.take n) := rfl
@[simp] theorem SOut.back_exn (c : Nat) (ρ : Loc) (σ : Sto) (n : Nat) : (SOut.exn c ρ σ).back n = .exn c (σ.take n) := rfl
@[simp] theorem SOut.back_bad (n : Nat) : SOut.bad.back n = .bad := rfl

/-- a call of a def, at most n calls deep -/
noncomputable def callF (sub : Nat → Nat → Bool) (Δ : Nat → Option Fn) : Nat → Oracle
  | 0, _, _, _ => .bad
  | n + 1, f, args, σ => match Δ f with
    | Option.none => .bad
    | some fn => if args.length = fn.arity then
        (exs sub (callF sub Δ n) fn.body (args.map some ++ List.replicate (fn.slots - fn.arity) Option.none) σ).back σ.length
      else .bad
end Mine

/-! ## MTab -/
namespace Mine
open PySem
abbrev Tab := List (Nat × Str × List Str × Fn)
noncomputable def Tab.fnm (t : Tab) (f : Nat) : Option Str := (t.lookup f).map (·.1)
noncomputable def Tab.Δ (t : Tab) (f : Nat) : Option Fn := (t.lookup f).map (·.2.2)
end Mine

/-! ## MSim -/
namespace Mine
open PySem

/-! ## a value stands for data -/
mutual
noncomputable def Rep (h : Heap) (γ : List Addr) : Dat → Value → Prop
  | .none, v => v = .none
  | .bool b, v => v = .bool b
  | .int i, v => ∃ t, v = .int i t
  | .str s, v => ∃ t, v = .str ⟨s.toArray⟩ t
  | .tup ds, v => ∃ a vs, v = .ref a ∧ a ∉ γ ∧ h.IsTuple a vs ∧ Reps h γ ds vs.toList
  | .lst ds, v => ∃ a vs, v = .ref a ∧ a ∉ γ ∧ h.IsList a vs ∧ Reps h γ ds vs.toList
noncomputable def Reps (h : Heap) (γ : List Addr) : List Dat → List Value → Prop
  | [], [] => True
  | d :: ds, v :: vs => Rep h γ d v ∧ Reps h γ ds vs
  | [], _ :: _ => False
  | _ :: _, [] => False
end

/-- what a step keeps of the made tuples and lists -/
noncomputable def SeqKeep (γ γ' : List Addr) (h h' : Heap) : Prop :=
  ∀ a o xs n, h.get? a = some o → o.data = .seq xs n → a ∉ γ → a ∉ γ' ∧ h'.get? a = some o

mutual
theorem Rep.mono {h h' : Heap} {γ γ' : List Addr} (hk : SeqKeep γ γ' h h') : ∀ {d : Dat} {v : Value}, Rep h γ d v → Rep h' γ' d v
  | .none, v, r => by simpa only [Rep] using r
  | .bool b, v, r => by simpa only [Rep] using r
  | .int i, v, r => by simpa only [Rep] using r
  | .str s, v, r => by simpa only [Rep] using r
  | .tup ds, v, r => by
    simp only [Rep] at r ⊢
    obtain ⟨a, vs, e, ha, ⟨o, ho, hc, n, hd⟩, hr⟩ := r
    have := hk a o vs n ho hd ha
    exact ⟨a, vs, e, this.1, ⟨o, this.2, hc, n, hd⟩, Reps.mono hk hr⟩
  | .lst ds, v, r => by
    simp only [Rep] at r ⊢
    obtain ⟨a, vs, e, ha, ⟨o, ho, hc, n, hd⟩, hr⟩ := r
    have := hk a o vs n ho hd ha
    exact ⟨a, vs, e, this.1, ⟨o, this.2, hc, n, hd⟩, Reps.mono hk hr⟩
theorem Reps.mono {h h' : Heap} {γ γ' : List Addr} (hk : SeqKeep γ γ' h h') : ∀ {ds : List Dat} {vs : List Value}, Reps h γ ds vs → Reps h' γ' ds vs
  | [], [], _ => by simp only [Reps]
  | d :: ds, v :: vs, r => by
    simp only [Reps] at r ⊢
    exact ⟨Rep.mono hk r.1, Reps.mono hk r.2⟩
  | [], _ :: _, r => by simp only [Reps] at r
  | _ :: _, [], r => by simp only [Reps] at r
end

theorem Reps.length {h : Heap} {γ : List Addr} : ∀ {ds : List Dat} {vs : List Value}, Reps h γ ds vs → ds.length = vs.length
  | [], [], _ => rfl
  | d :: ds, v :: vs, r => by simp only [Reps] at r; simp [Reps.length r.2]
  | [], _ :: _, r => by simp only [Reps] at r
  | _ :: _, [], r => by simp only [Reps] at r
theorem Reps.get {h : Heap} {γ : List Addr} : ∀ {ds : List Dat} {vs : List Value} {i : Nat} {d : Dat}, Reps h γ ds vs → ds[i]? = some d → ∃ v, vs[i]? = some v ∧ Rep h γ d v
  | [], [], i, d, _, e => by simp at e
  | d' :: ds, v :: vs, 0, d, r, e => by simp only [Reps] at r; simp at e; subst e; exact ⟨v, by simp, r.1⟩
  | d' :: ds, v :: vs, i + 1, d, r, e => by simp only [Reps] at r; simp at e; simpa using Reps.get r.2 e
  | [], _ :: _, _, _, r, _ => by simp only [Reps] at r
  | _ :: _, [], _, _, r, _ => by simp only [Reps] at r
theorem Reps.append {h : Heap} {γ : List Addr} : ∀ {ds es : List Dat} {vs ws : List Value}, Reps h γ ds vs → Reps h γ es ws → Reps h γ (ds ++ es) (vs ++ ws)
  | [], _, [], _, _, r' => by simpa using r'
  | d :: ds, _, v :: vs, _, r, r' => by
    simp only [Reps] at r
    simp only [List.cons_append, Reps]
    exact ⟨r.1, Reps.append r.2 r'⟩
  | [], _, _ :: _, _, r, _ => by simp only [Reps] at r
  | _ :: _, _, [], _, r, _ => by simp only [Reps] at r
theorem Reps.drop {h : Heap} {γ : List Addr} : ∀ {ds : List Dat} {vs : List Value} (n : Nat), Reps h γ ds vs → Reps h γ (ds.drop n) (vs.drop n)
  | ds, vs, 0, r => by simpa using r
  | [], [], n + 1, _ => by simp [Reps]
  | d :: ds, v :: vs, n + 1, r => by simp only [Reps] at r; simpa using Reps.drop n r.2
  | [], _ :: _, _, r => by simp only [Reps] at r
  | _ :: _, [], _, r => by simp only [Reps] at r
theorem Reps.take {h : Heap} {γ : List Addr} : ∀ {ds : List Dat} {vs : List Value} (n : Nat), Reps h γ ds vs → Reps h γ (ds.take n) (vs.take n)
  | ds, vs, 0, r => by simp [Reps]
  | [], [], n + 1, _ => by simp [Reps]
  | d :: ds, v :: vs, n + 1, r => by simp only [Reps] at r; simp only [List.take_succ_cons, Reps]; exact ⟨r.1, Reps.take n r.2⟩
  | [], _ :: _, _, r => by simp only [Reps] at r
  | _ :: _, [], _, r => by simp only [Reps] at r
theorem Reps.snoc {h : Heap} {γ : List Addr} {ds : List Dat} {vs : List Value} {d : Dat} {v : Value} (r : Reps h γ ds vs) (x : Rep h γ d v) : Reps h γ (ds ++ [d]) (vs ++ [v]) :=
  r.append (by simp only [Reps]; exact ⟨x, trivial⟩)
theorem Reps.of_get {h : Heap} {γ : List Addr} : ∀ {ds : List Dat} {vs : List Value}, ds.length = vs.length → (∀ (i : Nat) (d : Dat) (v : Value), ds[i]? = some d → vs[i]? = some v → Rep h γ d v) → Reps h γ ds vs
  | [], [], _, _ => by simp [Reps]
  | d :: ds, v :: vs, e, k => by
    simp only [Reps]
    exact ⟨k 0 d v (by simp) (by simp), Reps.of_get (by simpa using e) fun i d' v' h1 h2 => k (i + 1) d' v' (by simpa using h1) (by simpa using h2)⟩
  | [], _ :: _, e, _ => by simp at e
  | _ :: _, [], e, _ => by simp at e

/-! ## the store -/

/-- the places of the lists that may still grow -/
noncomputable def growS (σ : Sto) (β : List Addr) : List Addr := ((σ.zip β).filter (·.1.1)).map (·.2)
/-- and of those that are being made -/
noncomputable def grow (π : List Addr) (σ : Sto) (β : List Addr) : List Addr := π ++ growS σ β

theorem mem_growS {σ : Sto} {β : List Addr} {a : Addr} : a ∈ growS σ β ↔ ∃ (k : Nat) (l : List Dat), σ[k]? = some (true, l) ∧ β[k]? = some a := by
  unfold growS
  simp only [List.mem_map, List.mem_filter]
  constructor
  · rintro ⟨⟨⟨b, l⟩, a'⟩, ⟨hm, hb⟩, rfl⟩
    obtain ⟨k, hk, e⟩ := List.mem_iff_getElem.mp hm
    simp only at hb
    subst hb
    rw [List.getElem_zip] at e
    rw [List.length_zip] at hk
    have h1 : k < σ.length := by omega
    have h2 : k < β.length := by omega
    exact ⟨k, l, by rw [List.getElem?_eq_getElem h1]; exact congrArg some (Prod.mk.inj e).1, by rw [List.getElem?_eq_getElem h2]; exact congrArg some (Prod.mk.inj e).2⟩
  · rintro ⟨k, l, h1, h2⟩
    refine ⟨((true, l), a), ⟨?_, rfl⟩, rfl⟩
    obtain ⟨k1, e1⟩ := List.getElem?_eq_some_iff.mp h1
    obtain ⟨k2, e2⟩ := List.getElem?_eq_some_iff.mp h2
    refine List.mem_iff_getElem.mpr ⟨k, by rw [List.length_zip]; omega, ?_⟩
    rw [List.getElem_zip, e1, e2]
theorem mem_grow {π : List Addr} {σ : Sto} {β : List Addr} {a : Addr} : a ∈ grow π σ β ↔ a ∈ π ∨ a ∈ growS σ β := List.mem_append
theorem grow_mono {π : List Addr} {σ σ' : Sto} {β β' : List Addr} (h : ∀ a, a ∈ growS σ' β' → a ∈ growS σ β) {a : Addr} (x : a ∈ grow π σ' β') : a ∈ grow π σ β :=
  mem_grow.mpr ((mem_grow.mp x).imp id (h a))
theorem growS_grow {π : List Addr} {σ : Sto} {β : List Addr} {a : Addr} (h : a ∉ grow π σ β) : a ∉ growS σ β := fun q => h (mem_grow.mpr (.inr q))

structure Sim (B : Heap) (π : List Addr) (h : Heap) (σ : Sto) (β : List Addr) : Prop where
  len : β.length = σ.length
  nodup : β.Nodup
  base : ∀ b o, B.get? b = some o → h.get? b = some o
  new : ∀ a ∈ β, B.objs.size ≤ a
  ent : ∀ (k : Nat) (e : Bool × List Dat) (a : Addr), σ[k]? = some e → β[k]? = some a → ∃ vs, h.PlainList a vs ∧ Reps h (grow π σ β) e.2 vs.toList
  priv : ∀ a ∈ π, (h.get? a).isSome = true ∧ a ∉ β

noncomputable def RelV (h : Heap) (π β : List Addr) (σ : Sto) : Val → Value → Prop
  | .dat d, v' => Rep h (grow π σ β) d v'
  | .ref k, v' => ∃ a, β[k]? = some a ∧ v' = .ref a
  | .exc _, _ => False

/-- an object stands, but for a table's slots -/
noncomputable def Kept (h : Heap) (b : Addr) (o : Obj) : Prop := (∃ sl, h.get? b = some { o with slots := sl }) ∧ ((∀ es ep, o.data ≠ .dict es ep) → h.get? b = some o)
theorem Kept.of {h : Heap} {b : Addr} {o : Obj} (e : h.get? b = some o) : Kept h b o := ⟨⟨o.slots, e⟩, fun _ => e⟩
theorem Kept.step {h h' : Heap} {b : Addr} {o : Obj} (x : Kept h b o) (k : ∀ o', h.get? b = some o' → Kept h' b o') : Kept h' b o := by
  obtain ⟨⟨sl, e⟩, f⟩ := x
  obtain ⟨⟨sl', e'⟩, _⟩ := k _ e
  exact ⟨⟨sl', e'⟩, fun hn => (k o (f hn)).2 hn⟩
theorem Kept.seq {h : Heap} {b : Addr} {o : Obj} {xs : Array Value} {n : Nat} (x : Kept h b o) (hd : o.data = .seq xs n) : h.get? b = some o := x.2 fun es ep q => by rw [hd] at q; cases q
theorem Kept.fields {h : Heap} {b : Addr} {o : Obj} {vs : Array Value} (x : Kept h b o) (hd : o.data = .fields vs) : h.get? b = some o := x.2 fun es ep q => by rw [hd] at q; cases q
theorem Kept.cell {h : Heap} {b : Addr} {o : Obj} {v : Option Value} (x : Kept h b o) (hd : o.data = .cell v) : h.get? b = some o := x.2 fun es ep q => by rw [hd] at q; cases q
theorem Kept.is {h : Heap} {b : Addr} {o : Obj} (x : Kept h b o) : (h.get? b).isSome = true := by obtain ⟨⟨sl, e⟩, _⟩ := x; rw [e]; rfl
theorem Kept.ns {h h' : Heap} {a : Addr} {m : Str → Option Value} (hn : h.Ns a m) (k : ∀ o, h.get? a = some o → Kept h' a o) : h'.Ns a m := by
  obtain ⟨o, es, ep, ho, hd, r⟩ := hn
  obtain ⟨⟨sl, e⟩, _⟩ := k o ho
  exact ⟨_, es, ep, e, hd, r⟩

/-- from s to s' an expression was reckoned: what was there stands, but for the lists that may grow and the frame's own table -/
structure Ok (B : Heap) (π : List Addr) (L : Addr) (β : List Addr) (s s' : Shared) (σ σ' : Sto) : Prop where
  sh : ∃ h' tk, s' = { s with heap := h', toks := tk }
  sim : Sim B π s'.heap σ' β
  keep : ∀ b o, s.heap.get? b = some o → b ∉ growS σ β → b ≠ L → Kept s'.heap b o
  ns : ∀ m, s.heap.Ns L m → s'.heap.Ns L m
  mon : ∀ a, a ∈ growS σ' β → a ∈ growS σ β

theorem Ok.refl {B : Heap} {L : Addr} {π β : List Addr} {s : Shared} {σ : Sto} (S : Sim B π s.heap σ β) : Ok B π L β s s σ σ :=
  ⟨⟨s.heap, s.toks, rfl⟩, S, fun _ _ e _ _ => .of e, fun _ x => x, fun _ x => x⟩
theorem Ok.trans {B : Heap} {L : Addr} {π β : List Addr} {s s₁ s₂ : Shared} {σ σ₁ σ₂ : Sto} (x : Ok B π L β s s₁ σ σ₁) (y : Ok B π L β s₁ s₂ σ₁ σ₂) : Ok B π L β s s₂ σ σ₂ where
  sh := by obtain ⟨h1, t1, rfl⟩ := x.sh; obtain ⟨h2, t2, rfl⟩ := y.sh; exact ⟨h2, t2, rfl⟩
  sim := y.sim
  keep := fun b o e hb hL => (x.keep b o e hb hL).step fun o' e' => y.keep b o' e' (fun q => hb (x.mon b q)) hL
  ns := fun m q => y.ns m (x.ns m q)
  mon := fun a q => x.mon a (y.mon a q)

theorem Ok.seq {B : Heap} {L : Addr} {π β : List Addr} {s s' : Shared} {σ σ' : Sto} {m : Str → Option Value} (x : Ok B π L β s s' σ σ') (hL : s.heap.Ns L m) : SeqKeep (grow π σ β) (grow π σ' β) s.heap s'.heap := by
  intro a o xs n ho hd ha
  refine ⟨fun q => ha (grow_mono x.mon q), (x.keep a o ho (growS_grow ha) ?_).seq hd⟩
  rintro rfl
  obtain ⟨o', es, ep, ho', hd', _⟩ := hL
  rw [ho] at ho'; cases ho'
  rw [hd] at hd'; cases hd'

theorem RelV.ok {B : Heap} {L : Addr} {π β : List Addr} {s s' : Shared} {σ σ' : Sto} {m : Str → Option Value} {v : Val} {v' : Value} (x : Ok B π L β s s' σ σ') (hL : s.heap.Ns L m) (r : RelV s.heap π β σ v v') : RelV s'.heap π β σ' v v' := by
  cases v with
  | dat d => exact Rep.mono (x.seq hL) r
  | ref k => exact r
  | exc c => exact r

/-! ## heaps that only grew, by what is no list of the store -/

theorem Sim.keeps {B h h' : Heap} {σ : Sto} {π β : List Addr} (S : Sim B π h σ β) (hk : ∀ b o, h.get? b = some o → h'.get? b = some o) : Sim B π h' σ β where
  len := S.len
  nodup := S.nodup
  base := fun b o e => hk b o (S.base b o e)
  new := S.new
  ent := fun k e a h1 h2 => by
    obtain ⟨vs, hp, hr⟩ := S.ent k e a h1 h2
    exact ⟨vs, hp.at fun o e => hk _ o e, Reps.mono (fun a o xs n ho hd ha => ⟨ha, hk _ _ ho⟩) hr⟩
  priv := fun a ha => ⟨by obtain ⟨o, ho⟩ := Option.isSome_iff_exists.mp (S.priv a ha).1; rw [hk a o ho]; rfl, (S.priv a ha).2⟩

theorem Ok.keeps {B : Heap} {L : Addr} {π β : List Addr} {s s' : Shared} {σ : Sto} (S : Sim B π s.heap σ β) (hs : ∃ h' tk, s' = { s with heap := h', toks := tk })
    (hk : ∀ b o, s.heap.get? b = some o → s'.heap.get? b = some o) : Ok B π L β s s' σ σ where
  sh := hs
  sim := S.keeps hk
  keep := fun b o e _ _ => .of (hk b o e)
  ns := fun m q => q.keeps hk
  mon := fun _ q => q
theorem Ok.toks {B : Heap} {L : Addr} {π β : List Addr} {s : Shared} {σ : Sto} (S : Sim B π s.heap σ β) (tk : Nat) : Ok B π L β s { s with toks := tk } σ σ :=
  Ok.keeps S ⟨s.heap, tk, rfl⟩ (fun _ _ e => e)
theorem Ok.push {B : Heap} {L : Addr} {π β : List Addr} {s : Shared} {σ : Sto} (S : Sim B π s.heap σ β) (o : Obj) : Ok B π L β s { s with heap := s.heap.push o } σ σ :=
  Ok.keeps S ⟨_, s.toks, rfl⟩ (fun _ _ e => Heap.get?_push_of_some _ e)

theorem Sim.lt {B h : Heap} {σ : Sto} {π β : List Addr} (S : Sim B π h σ β) {a : Addr} (ha : a ∈ β) : a < h.objs.size := by
  obtain ⟨k, hk, e⟩ := List.mem_iff_getElem.mp ha
  have hk' : k < σ.length := by rw [← S.len]; exact hk
  obtain ⟨vs, ⟨n, hp⟩, _⟩ := S.ent k σ[k] a (List.getElem?_eq_getElem hk') (by rw [List.getElem?_eq_getElem hk, e])
  exact Heap.lt_size hp
theorem growS_sub {σ : Sto} {β : List Addr} {a : Addr} (h : a ∈ growS σ β) : a ∈ β := by
  obtain ⟨k, l, _, e⟩ := mem_growS.mp h
  exact List.mem_of_getElem? e
theorem Sim.fresh {B h : Heap} {σ : Sto} {π β : List Addr} (S : Sim B π h σ β) : h.objs.size ∉ grow π σ β := fun q => by
  rcases mem_grow.mp q with q | q
  · obtain ⟨o, ho⟩ := Option.isSome_iff_exists.mp (S.priv _ q).1
    exact Nat.lt_irrefl _ (Heap.lt_size ho)
  · exact Nat.lt_irrefl _ (S.lt (growS_sub q))

/-- a new tuple or list -/
theorem Rep.newTuple {h : Heap} {γ : List Addr} {ds : List Dat} {vs : List Value} (hr : Reps h γ ds vs) (hf : h.objs.size ∉ γ) :
    Rep (h.push { cls := .type "tuple", data := .seq vs.toArray }) γ (.tup ds) (.ref h.objs.size) := by
  simp only [Rep]
  refine ⟨_, vs.toArray, rfl, hf, ⟨_, Heap.get?_push_size _ rfl, rfl, _, rfl⟩, ?_⟩
  simpa using Reps.mono (fun a o xs n ho hd ha => ⟨ha, Heap.get?_push_of_some _ ho⟩) hr
theorem Rep.newList {h : Heap} {γ : List Addr} {ds : List Dat} {vs : List Value} (hr : Reps h γ ds vs) (hf : h.objs.size ∉ γ) :
    Rep (h.push { cls := .type "list", data := .seq vs.toArray }) γ (.lst ds) (.ref h.objs.size) := by
  simp only [Rep]
  refine ⟨_, vs.toArray, rfl, hf, ⟨_, Heap.get?_push_size _ rfl, rfl, _, rfl⟩, ?_⟩
  simpa using Reps.mono (fun a o xs n ho hd ha => ⟨ha, Heap.get?_push_of_some _ ho⟩) hr

/-! ## freezing -/
theorem mem_grow_set {σ : Sto} {β : List Addr} {k : Nat} {l : List Dat} (a : Addr) (h : a ∈ growS (σ.set k (false, l)) β) : a ∈ growS σ β := by
  obtain ⟨j, l', h1, h2⟩ := mem_growS.mp h
  by_cases hjk : k = j
  · subst hjk
    rw [List.getElem?_set_self'] at h1
    cases hq : σ[k]? with
    | none => rw [hq] at h1; cases h1
    | some e => rw [hq] at h1; simp at h1
  · rw [List.getElem?_set_ne hjk] at h1
    exact mem_growS.mpr ⟨j, l', h1, h2⟩

theorem Sim.freeze {B h : Heap} {σ : Sto} {π β : List Addr} (S : Sim B π h σ β) {k : Nat} {e : Bool × List Dat} (he : σ[k]? = some e) : Sim B π h (σ.set k (false, e.2)) β where
  len := by simpa using S.len
  nodup := S.nodup
  base := S.base
  new := S.new
  ent := fun j e' a h1 h2 => by
    have sk : SeqKeep (grow π σ β) (grow π (σ.set k (false, e.2)) β) h h := fun a o xs n ho hd ha => ⟨fun q => ha (grow_mono mem_grow_set q), ho⟩
    by_cases hjk : k = j
    · subst hjk
      have hlt : k < σ.length := (List.getElem?_eq_some_iff.mp he).1
      rw [List.getElem?_set_self hlt] at h1
      cases h1
      obtain ⟨vs, hp, hr⟩ := S.ent k e a he h2
      exact ⟨vs, hp, Reps.mono sk hr⟩
    · rw [List.getElem?_set_ne hjk] at h1
      obtain ⟨vs, hp, hr⟩ := S.ent j e' a h1 h2
      exact ⟨vs, hp, Reps.mono sk hr⟩
  priv := S.priv

theorem Ok.freeze {B : Heap} {L : Addr} {π β : List Addr} {s : Shared} {σ : Sto} (S : Sim B π s.heap σ β) {k : Nat} {e : Bool × List Dat} (he : σ[k]? = some e) : Ok B π L β s s σ (σ.set k (false, e.2)) where
  sh := ⟨s.heap, s.toks, rfl⟩
  sim := S.freeze he
  keep := fun _ _ x _ _ => .of x
  ns := fun _ x => x
  mon := mem_grow_set

theorem nodup_get {β : List Addr} (hn : β.Nodup) {i j : Nat} {a : Addr} (h1 : β[i]? = some a) (h2 : β[j]? = some a) : i = j := by
  obtain ⟨k1, e1⟩ := List.getElem?_eq_some_iff.mp h1
  obtain ⟨k2, e2⟩ := List.getElem?_eq_some_iff.mp h2
  rcases Nat.lt_trichotomy i j with h | h | h
  · exact absurd (e1.trans e2.symm) (List.pairwise_iff_getElem.mp hn i j k1 k2 h)
  · exact h
  · exact absurd (e2.trans e1.symm) (List.pairwise_iff_getElem.mp hn j i k2 k1 h)

/-- the data of a value, and the step that freezes it -/
theorem toDat_sound {B : Heap} {L : Addr} {π β : List Addr} {s : Shared} {σ σ' : Sto} {v : Val} {d : Dat} {v' : Value} (S : Sim B π s.heap σ β) (r : RelV s.heap π β σ v v') (e : toDat v σ = .val d σ') :
    Rep s.heap (grow π σ' β) d v' ∧ Ok B π L β s s σ σ' := by
  cases v with
  | dat d' => simp only [toDat] at e; cases e; exact ⟨r, Ok.refl S⟩
  | ref k =>
    simp only [toDat] at e
    cases hk : σ[k]? with
    | none => rw [hk] at e; cases e
    | some en =>
      rw [hk] at e; cases e
      obtain ⟨a, ha, rfl⟩ := r
      refine ⟨?_, Ok.freeze S hk⟩
      obtain ⟨vs, hp, hr⟩ := S.ent k en a hk ha
      have hr' := Reps.mono (γ' := grow π (σ.set k (false, en.2)) β) (fun a o xs n ho hd ha => ⟨fun q => ha (grow_mono mem_grow_set q), ho⟩) hr
      simp only [Rep]
      refine ⟨a, vs, rfl, fun q => ?_, hp.isList, hr'⟩
      rcases mem_grow.mp q with q | q
      · exact (S.priv a q).2 (List.mem_of_getElem? ha)
      · obtain ⟨j, l, h1, h2⟩ := mem_growS.mp q
        have hjk := nodup_get S.nodup ha h2
        subst hjk
        rw [List.getElem?_set_self (List.getElem?_eq_some_iff.mp hk).1] at h1
        cases h1
  | exc c => cases e

/-- reading: the outermost list may still grow -/
noncomputable def Seen (h : Heap) (γ : List Addr) : Dat → Value → Prop
  | .lst ds, v => ∃ a vs, v = .ref a ∧ h.IsList a vs ∧ Reps h γ ds vs.toList
  | .tup ds, v => ∃ a vs, v = .ref a ∧ h.IsTuple a vs ∧ Reps h γ ds vs.toList
  | d, v => Rep h γ d v

theorem Rep.seen {h : Heap} {γ : List Addr} {d : Dat} {v : Value} (r : Rep h γ d v) : Seen h γ d v := by
  cases d with
  | lst ds => simp only [Rep] at r; obtain ⟨a, vs, e, _, h1, h2⟩ := r; exact ⟨a, vs, e, h1, h2⟩
  | tup ds => simp only [Rep] at r; obtain ⟨a, vs, e, _, h1, h2⟩ := r; exact ⟨a, vs, e, h1, h2⟩
  | _ => exact r
theorem look_seen {B h : Heap} {π β : List Addr} {σ : Sto} {v : Val} {d : Dat} {v' : Value} (S : Sim B π h σ β) (r : RelV h π β σ v v') (e : look σ v = some d) : Seen h (grow π σ β) d v' := by
  cases v with
  | dat d' => simp only [look] at e; cases e; exact Rep.seen r
  | ref k =>
    simp only [look] at e
    cases hk : σ[k]? with
    | none => rw [hk] at e; cases e
    | some en =>
      rw [hk] at e; cases e
      obtain ⟨a, ha, rfl⟩ := r
      obtain ⟨vs, hp, hr⟩ := S.ent k en a hk ha
      exact ⟨a, vs, rfl, hp.isList, hr⟩
  | exc c => cases e
end Mine

/-! ## MOps -/
namespace Mine
open PySem PyProof.Rows

/-! ## from frames and ledgers to Ok -/
noncomputable def noHeap : Heap := {}
theorem noHeap_get (a : Addr) : noHeap.get? a = none := by simp [noHeap, Heap.get?]
noncomputable def ledger (h : Heap) (L : Addr) : List (Addr × Obj) := (List.range h.objs.size).filterMap fun b => if b = L then none else (h.get? b).map fun o => (b, o)
theorem mem_ledger {h : Heap} {L b : Addr} {o : Obj} : (b, o) ∈ ledger h L ↔ b ≠ L ∧ h.get? b = some o := by
  unfold ledger
  simp only [List.mem_filterMap, List.mem_range]
  constructor
  · rintro ⟨c, hc, e⟩
    split at e
    · cases e
    · rename_i hcl
      cases hq : h.get? c with
      | none => rw [hq] at e; cases e
      | some o' => rw [hq] at e; simp at e; obtain ⟨rfl, rfl⟩ := e; exact ⟨hcl, hq⟩
  · rintro ⟨hL, e⟩
    exact ⟨b, Heap.lt_size e, by rw [if_neg hL, e]; rfl⟩
theorem frOf {h : Heap} {L : Addr} {m : Str → Option Value} (hn : h.Ns L m) : Fr noHeap L h m := ⟨hn, fun b o e => (by rw [noHeap_get] at e; cases e), Nat.zero_le _⟩
theorem newsOf (h : Heap) (L : Addr) : News noHeap L h (ledger h L) := fun p hp => ⟨(mem_ledger.mp hp).2, (mem_ledger.mp hp).1, noHeap_get _⟩
theorem Ns.unique {h : Heap} {L : Addr} {m m' : Str → Option Value} (x : h.Ns L m) (y : h.Ns L m') : m = m' := by
  obtain ⟨o, es, ep, ho, hd, _, hm⟩ := x
  obtain ⟨o', es', ep', ho', hd', _, hm'⟩ := y
  rw [ho] at ho'; cases ho'
  rw [hd] at hd'; cases hd'
  exact funext fun n => (hm n).symm.trans (hm' n)

section
variable {B : Heap} {L : Addr} {π β : List Addr} {s : Shared} {σ : Sto} {m : Str → Option Value}

theorem Sim.ledger {h h' : Heap} (S : Sim B π h σ β) (hk : ∀ b o, h.get? b = some o → b ≠ L → h'.get? b = some o) (hL : h.Ns L m) (hL' : h'.Ns L m) (hB : L ∉ β ∧ B.objs.size ≤ L) : Sim B π h' σ β where
  len := S.len
  nodup := S.nodup
  base := fun b o e => hk b o (S.base b o e) (fun q => Nat.lt_irrefl _ (Nat.lt_of_lt_of_le (Heap.lt_size (q ▸ e)) hB.2))
  new := S.new
  ent := fun k e a h1 h2 => by
    obtain ⟨vs, hp, hr⟩ := S.ent k e a h1 h2
    have hne : a ≠ L := fun q => hB.1 (q ▸ List.mem_of_getElem? h2)
    refine ⟨vs, hp.at fun o e => hk _ o e hne, Reps.mono (fun a o xs n ho hd ha => ⟨ha, hk _ _ ho ?_⟩) hr⟩
    rintro rfl
    obtain ⟨o', es, ep, ho', hd', _⟩ := hL
    rw [ho] at ho'; cases ho'
    rw [hd] at hd'; cases hd'
  priv := fun a ha => ⟨by
    obtain ⟨o, ho⟩ := Option.isSome_iff_exists.mp (S.priv a ha).1
    by_cases hq : a = L
    · subst hq; obtain ⟨o', _, _, ho', _⟩ := hL'; rw [ho']; rfl
    · rw [hk a o ho hq]; rfl, (S.priv a ha).2⟩

theorem Ok.ledger {h' : Heap} {tk : Nat} {extra : List (Addr × Obj)} (S : Sim B π s.heap σ β) (hL : s.heap.Ns L m) (hB : L ∉ β ∧ B.objs.size ≤ L) (F : Fr noHeap L h' m) (N : News noHeap L h' extra) (hsub : ∀ p ∈ ledger s.heap L, p ∈ extra) :
    Ok B π L β s { s with heap := h', toks := tk } σ σ where
  sh := ⟨_, _, rfl⟩
  sim := S.ledger (fun b o e hb => (N (b, o) (hsub _ (mem_ledger.mpr ⟨hb, e⟩))).1) hL F.ns hB
  keep := fun b o e _ hb => .of (N (b, o) (hsub _ (mem_ledger.mpr ⟨hb, e⟩))).1
  ns := fun m' q => (Ns.unique q hL) ▸ F.ns
  mon := fun _ q => q
end
end Mine

/-! ## MBin -/
namespace Mine
open PySem PyProof.Rows

noncomputable def VPost (B : Heap) (π : List Addr) (L : Addr) (β : List Addr) (σ : Sto) (s : Shared) (d : Dat) (v' : Value) (s' : Shared) : Prop := Rep s'.heap (grow π σ β) d v' ∧ Ok B π L β s s' σ σ

theorem str_app (a b : List Nat) : (Str.mk a.toArray) ++ (Str.mk b.toArray) = Str.mk (a ++ b).toArray := by
  show Str.append _ _ = _
  simp [Str.append]
theorem str_len (a : List Nat) : (Str.mk a.toArray).length = a.length := by simp [Str.length]

section
variable {prog : Program} {w : World} {A : Around} {E : Value → Shared → Prop} {s : Shared} {B : Heap} {L : Addr} {π β : List Addr} {σ : Sto}

theorem vInt (S : Sim B π s.heap σ β) (i : Int) (t tk : Nat) : VPost B π L β σ s (.int i) (.int i t) { s with toks := tk } := ⟨⟨t, rfl⟩, Ok.toks S tk⟩
theorem vInt0 (S : Sim B π s.heap σ β) (i : Int) (t : Nat) : VPost B π L β σ s (.int i) (.int i t) s := ⟨⟨t, rfl⟩, Ok.refl S⟩
theorem vStr (S : Sim B π s.heap σ β) (x : List Nat) (t tk : Nat) : VPost B π L β σ s (.str x) (.str ⟨x.toArray⟩ t) { s with toks := tk } := ⟨⟨t, rfl⟩, Ok.toks S tk⟩
theorem vBool (S : Sim B π s.heap σ β) (b : Bool) : VPost B π L β σ s (.bool b) (.bool b) s := ⟨rfl, Ok.refl S⟩
theorem vBoolT (S : Sim B π s.heap σ β) (b : Bool) (tk : Nat) : VPost B π L β σ s (.bool b) (.bool b) { s with toks := tk } := ⟨rfl, Ok.toks S tk⟩

noncomputable def chkB (op : BOp) (o : Operator) : Bool := match op with
  | .add => (match o with | .Add => true | _ => false)
  | .sub => (match o with | .Sub => true | _ => false)
  | .mul => (match o with | .Mult => true | _ => false)
  | .fdiv => (match o with | .FloorDiv => true | _ => false)
  | .mod => (match o with | .Mod => true | _ => false)
  | .pow => (match o with | .Pow => true | _ => false)

theorem shortInt_bits {a : Int} (h : shortInt a = true) : Builtin.Int.intBits a ≤ 64 := by
  simp only [shortInt, decide_eq_true_eq] at h
  exact intBits_le_64 (by omega) (by omega)

theorem flat_rep (a : List Nat) (n : Nat) : (List.replicate n a.toArray).foldl (· ++ ·) #[] = ((List.replicate n a).flatten).toArray := by
  suffices h : ∀ acc : Array Nat, (List.replicate n a.toArray).foldl (· ++ ·) acc = acc ++ ((List.replicate n a).flatten).toArray by simpa using h #[]
  induction n with
  | zero => intro acc; simp
  | succ n ih => intro acc; rw [List.replicate_succ, List.foldl_cons, ih]; simp [List.replicate_succ]

theorem txt_mul (a : List Nat) (n : Int) : Txt.mul ⟨a.toArray⟩ n = ⟨((List.replicate n.toNat a).flatten).toArray⟩ := by
  unfold Txt.mul
  split
  · rename_i h
    have : n.toNat = 0 := by omega
    simp [this]; rfl
  · split
    · rename_i h1 h2
      simp only [Bool.or_eq_true, beq_iff_eq] at h2
      rcases h2 with h2 | h2
      · subst h2; simp
      · have : a = [] := by simpa [Str.length] using h2
        subst this; simp
    · rw [flat_rep]

/-- a list, n times -/
theorem mul_list_any {l : Addr} {vs : Array Value} {x : Int} {u : Tok} {Q : Value → Shared → Prop} (hl : s.heap.IsList l vs) (hlo : -(2 ^ 63 : Int) ≤ x) (hhi : x < 2 ^ 63) (hsz : vs.size * x.toNat ≤ 2 ^ 24)
    (h : Q (.ref s.heap.objs.size) { s with heap := s.heap.push { cls := .type "list", data := .seq (List.replicate x.toNat vs.toList).flatten.toArray } }) : wpAny (model prog w) A (binaryOp .Mult (.ref l) (.int x u)) Q E s := by
  obtain ⟨⟨cls, d, data, sl⟩, ho, hcl, k, hd⟩ := id hl
  simp only at hcl hd
  subst hcl hd
  refine wpAny_binaryOp_repeat_ref (T := "list") (U := "int") (by decide) ⟨_, ho, rfl⟩ (fun s' => typeIs_int s' x u) noFill_list_mul PySem.F.fills_int_mul PySem.F.slot_int_rmul repeat_list PySem.F.slot_int_index.lookup
    (call_meets PySem.F.slot_int_rmul (typeIs_int s x u) PySem.F.entry_int_rmul (PySem.F.args_int_rmul_2 _ _) (lm_int_rmul_list_any x u l vs k d sl)
      ⟨ho, rfl, ⟨_, ho, rfl⟩, call_meets PySem.F.slot_list_mul ⟨_, ho, rfl⟩ PySem.F.entry_list_mul (PySem.F.args_list_mul_2 _ _)
        (lm_list_mul_any l vs k d sl x u (by simp [Builtin.List.listFitsIndex]; omega) (by omega) (by simp [Builtin.List.listTooLong, sizeLine]; omega))
        ⟨ho, ?_⟩⟩)
  rw [listMul_foldl_if]
  exact h
theorem Reps.rep {h : Heap} {γ : List Addr} {ds : List Dat} {vs : List Value} (r : Reps h γ ds vs) : ∀ n : Nat, Reps h γ (List.replicate n ds).flatten (List.replicate n vs).flatten
  | 0 => by simp [Reps]
  | n + 1 => by simp only [List.replicate_succ, List.flatten_cons]; exact r.append (Reps.rep r n)

theorem bin2_sound {op : BOp} {op' : Operator} {a b d : Dat} {va vb : Value} (S : Sim B π s.heap σ β) (hop : chkB op op' = true) (ha : Seen s.heap (grow π σ β) a va) (hb : Seen s.heap (grow π σ β) b vb) (e : bin2 op a b = some d) :
    wpAny (model prog w) A (binaryOp op' va vb) (VPost B π L β σ s d) E s := by
  have hij : ∀ {i j : Int}, a = .int i → b = .int j → ∃ t u, va = .int i t ∧ vb = .int j u := by
    rintro i j rfl rfl
    obtain ⟨t, rfl⟩ := ha; obtain ⟨u, rfl⟩ := hb; exact ⟨t, u, rfl, rfl⟩
  cases op <;> cases op' <;> first | exact nof hop | skip
  · -- add
    cases a <;> cases b <;> first | exact nos e | skip
    · cases Option.some.inj e
      obtain ⟨t, u, rfl, rfl⟩ := hij rfl rfl
      exact add_int (vInt S _ _ _)
    · rename_i x y
      · obtain ⟨hsz, e⟩ := iff_some e
        cases e
        obtain ⟨t, rfl⟩ := ha; obtain ⟨u, rfl⟩ := hb
        refine add_str (fun t' tk => ?_) (by rw [str_len, str_len]; show _ ≤ 2 ^ 24; omega)
        rw [str_app]; exact vStr S _ _ _
    · rename_i x y
      · obtain ⟨hsz, e⟩ := iff_some e
        cases e
        obtain ⟨la, va, rfl, hl, hr⟩ := ha
        obtain ⟨lb, vb, rfl, hl', hr'⟩ := hb
        obtain ⟨⟨cls, dd, data, sl⟩, ho, hc, n, hd⟩ := id hl
        obtain ⟨⟨cls2, dd2, data2, sl2⟩, ho2, hc2, n2, hd2⟩ := id hl'
        simp only at hc hd hc2 hd2
        subst hc hd hc2 hd2
        have h1 := hr.length
        have h2 := hr'.length
        refine concat_meets ⟨_, ho, rfl⟩ ⟨_, ho2, rfl⟩ noFill_list_add seq_list_add PySem.F.slot_list_add PySem.F.entry_list_add (PySem.F.args_list_add_2 _ _) (list_addW la lb va vb n n2 dd dd2 sl sl2 (by simp only [Array.length_toList] at h1 h2; show _ ≤ 2 ^ 24; omega)) ⟨ho, ho2, ?_⟩
        have q : va ++ vb = (va.toList ++ vb.toList).toArray := by simp
        rw [q]
        exact ⟨Rep.newList (hr.append hr') S.fresh, Ok.push S _⟩
  · -- sub
    cases a <;> cases b <;> first | exact nos e | skip
    cases Option.some.inj e
    obtain ⟨t, u, rfl, rfl⟩ := hij rfl rfl
    exact sub_int (vInt S _ _ _)
  · -- mul
    cases a <;> cases b <;> first | exact nos e | skip
    · rename_i x y
      · obtain ⟨hsz, e⟩ := iff_some e
        cases e
        obtain ⟨t, u, rfl, rfl⟩ := hij rfl rfl
        refine PyProof.Rows.mul_int (vInt S _ _ _) ?_
        simp only [Bool.or_eq_true] at hsz
        rcases hsz with h | h
        · exact IntMulOk.of_left (shortInt_bits h)
        · exact IntMulOk.of_right (shortInt_bits h)
    · rename_i x n
      · obtain ⟨hsz, e⟩ := iff_some e
        cases e
        obtain ⟨t, rfl⟩ := ha; obtain ⟨u, rfl⟩ := hb
        refine SB.mul ⟨?_, ?_, ?_⟩ fun t' k => ?_
        · simp; omega
        · intro h1 h2
          rw [str_len]
          have h3 : (x.length : Int) ≤ 1000000 ∨ n.toNat = 0 := by
            rcases Nat.eq_zero_or_pos n.toNat with h | h
            · exact .inr h
            · left
              have := Nat.le_trans (Nat.le_mul_of_pos_right x.length h) hsz.1
              omega
          have h4 : (1000000 : Int) ≤ (2 ^ 63 - 1) / n := by
            rw [Int.le_ediv_iff_mul_le (by omega)]
            omega
          omega
        · intro h1 h2
          rw [str_len]
          simp [Builtin.Str.tooLong, sizeLine]
          omega
        · rw [txt_mul]; exact vStr S _ _ _
    · rename_i x n
      obtain ⟨hsz, e⟩ := iff_some e
      cases e
      obtain ⟨la, va, rfl, hl, hr⟩ := ha
      obtain ⟨u, rfl⟩ := hb
      have h1 := hr.length
      simp only [Array.length_toList] at h1
      refine mul_list_any hl (by omega) (by omega) (by rw [← h1]; omega) ?_
      exact ⟨Rep.newList (hr.rep _) S.fresh, Ok.push S _⟩
  · -- fdiv
    cases a <;> cases b <;> first | exact nos e | skip
    rename_i x y
    · obtain ⟨hsz, e⟩ := iff_some e
      cases e
      obtain ⟨t, u, rfl, rfl⟩ := hij rfl rfl
      refine floordiv_int (by omega) ?_ (.inl ?_)
      · rw [Int.fdiv_eq_ediv_of_nonneg _ (by omega)]; exact vInt S _ _ _
      · refine PyProof.noPylong_of_log2 ?_
        have : y.natAbs < 2 ^ 64 := by omega
        have := (Nat.log2_lt (n := y.natAbs) (k := 64) (by omega)).mpr this
        omega
  · -- mod
    cases a <;> cases b <;> first | exact nos e | skip
    rename_i x y
    · obtain ⟨hsz, e⟩ := iff_some e
      cases e
      obtain ⟨t, u, rfl, rfl⟩ := hij rfl rfl
      refine mod_int' (by omega) ?_
      rw [Int.fmod_eq_emod_of_nonneg _ (by omega)]; exact vInt S _ _ _
  · -- pow
    cases a <;> cases b <;> first | exact nos e | skip
    rename_i x y
    obtain ⟨⟨rfl, rfl⟩, e⟩ := iff_some e
    cases e
    obtain ⟨t, u, rfl, rfl⟩ := hij rfl rfl
    exact PySem.AutoIntOps.pow_4 (by decide) (by decide) (by decide) (by decide) (by decide +kernel) (vInt S _ _ _)

theorem neg_sound {a : Int} {va : Value} (S : Sim B π s.heap σ β) (ha : Seen s.heap (grow π σ β) (.int a) va) :
    wpAny (model prog w) A (unaryOp .USub va) (VPost B π L β σ s (.int (-a))) E s := by
  obtain ⟨t, rfl⟩ := ha
  exact P.neg_int (vInt S _ _ _)
end
end Mine

/-! ## MCmp -/
namespace Mine
open PySem PyProof.Rows

mutual
noncomputable def toPy : Dat → PyData
  | .none => .none
  | .bool b => .bool b
  | .int i => .int i
  | .str s => .str ⟨s.toArray⟩
  | .tup l => .tuple (toPys l)
  | .lst l => .list (toPys l)
noncomputable def toPys : List Dat → List PyData
  | [] => []
  | d :: ds => toPy d :: toPys ds
end

mutual
theorem Rep.reads {h : Heap} {γ : List Addr} : ∀ {d : Dat} {v : Value}, Rep h γ d v → ∃ as, Reads h v (toPy d) as
  | .none, v, r => by simp only [Rep] at r; subst r; exact ⟨_, Reads.none⟩
  | .bool b, v, r => by simp only [Rep] at r; subst r; exact ⟨_, Reads.bool b⟩
  | .int i, v, r => by simp only [Rep] at r; obtain ⟨t, rfl⟩ := r; exact ⟨_, Reads.int i t⟩
  | .str s, v, r => by simp only [Rep] at r; obtain ⟨t, rfl⟩ := r; exact ⟨_, Reads.str _ t⟩
  | .tup ds, v, r => by
    simp only [Rep] at r
    obtain ⟨a, vs, rfl, _, ⟨o, ho, hc, n, hd⟩, hr⟩ := r
    obtain ⟨as, q⟩ := Reps.reads hr
    exact ⟨_, Reads.tuple ho hc hd q⟩
  | .lst ds, v, r => by
    simp only [Rep] at r
    obtain ⟨a, vs, rfl, _, ⟨o, ho, hc, n, hd⟩, hr⟩ := r
    obtain ⟨as, q⟩ := Reps.reads hr
    exact ⟨_, Reads.list ho hc hd q⟩
theorem Reps.reads {h : Heap} {γ : List Addr} : ∀ {ds : List Dat} {vs : List Value}, Reps h γ ds vs → ∃ as, ReadsAll h vs (toPys ds) as
  | [], [], _ => ⟨_, ReadsAll.nil⟩
  | d :: ds, v :: vs, r => by
    simp only [Reps] at r
    obtain ⟨as, q⟩ := Rep.reads r.1
    obtain ⟨bs, q'⟩ := Reps.reads r.2
    exact ⟨_, ReadsAll.cons q q'⟩
  | [], _ :: _, r => by simp only [Reps] at r
  | _ :: _, [], r => by simp only [Reps] at r
end
theorem Seen.reads {h : Heap} {γ : List Addr} {d : Dat} {v : Value} (r : Seen h γ d v) : ∃ as, Reads h v (toPy d) as := by
  cases d with
  | tup ds =>
    obtain ⟨a, vs, rfl, ⟨o, ho, hc, n, hd⟩, hr⟩ := r
    obtain ⟨as, q⟩ := Reps.reads hr
    exact ⟨_, Reads.tuple ho hc hd q⟩
  | lst ds =>
    obtain ⟨a, vs, rfl, ⟨o, ho, hc, n, hd⟩, hr⟩ := r
    obtain ⟨as, q⟩ := Reps.reads hr
    exact ⟨_, Reads.list ho hc hd q⟩
  | none => exact Rep.reads (d := .none) (γ := γ) r
  | bool b => exact Rep.reads (d := .bool b) (γ := γ) r
  | int i => exact Rep.reads (d := .int i) (γ := γ) r
  | str x => exact Rep.reads (d := .str x) (γ := γ) r

mutual
theorem fine_py : ∀ d : Dat, (toPy d).canLay0 = fineD d
  | .none => rfl
  | .bool _ => rfl
  | .int _ => rfl
  | .str s => by simp [toPy, PyData.canLay0, PyData.strOk, fineD]
  | .tup l => by simp only [toPy, PyData.canLay0, fineD]; exact fine_pys l
  | .lst l => by simp only [toPy, PyData.canLay0, fineD]; exact fine_pys l
theorem fine_pys : ∀ ds : List Dat, PyData.canLayAll0 (toPys ds) = fineDs ds
  | [] => rfl
  | d :: ds => by simp only [toPys, PyData.canLayAll0, fineDs, fine_py d, fine_pys ds]
end
mutual
theorem depth_py : ∀ d : Dat, (toPy d).depth = depthD d
  | .none => rfl
  | .bool _ => rfl
  | .int _ => rfl
  | .str s => rfl
  | .tup l => by simp only [toPy, PyData.depth, depthD]; rw [depth_pys l]
  | .lst l => by simp only [toPy, PyData.depth, depthD]; rw [depth_pys l]
theorem depth_pys : ∀ ds : List Dat, PyData.depthAll (toPys ds) = depthDs ds
  | [] => rfl
  | d :: ds => by simp only [toPys, PyData.depthAll, depthDs, depth_py d, depth_pys ds]
end
theorem shaped_py {d : Dat} (h : okD d = true) : SeqAt.shaped (toPy d) = true := by
  simp only [okD, Bool.and_eq_true, decide_eq_true_eq] at h
  unfold SeqAt.shaped
  rw [fine_py, depth_py, h.1, Bool.true_and]
  exact decide_eq_true (by omega)

theorem str_beq (a b : List Nat) : (Str.mk a.toArray == Str.mk b.toArray) = (a == b) := by
  by_cases h : a = b
  · subst h; simp
  · have h2 : Str.mk a.toArray ≠ Str.mk b.toArray := by
      intro q; apply h
      have := congrArg (fun x : Str => x.cps.toList) q
      simpa using this
    rw [beq_eq_false_iff_ne.mpr h, beq_eq_false_iff_ne.mpr h2]

mutual
theorem eqv_py : ∀ (a b : Dat) {r : Bool}, eqD a b = some r → PyData.eqv (toPy a) (toPy b) = r
  | .none, b, r, h => by cases b <;> simp [eqD] at h <;> simp [toPy, PyData.eqv, h]
  | .bool x, b, r, h => by cases b <;> simp [eqD] at h <;> simp [toPy, PyData.eqv, h]
  | .int x, b, r, h => by cases b <;> simp [eqD] at h <;> simp [toPy, PyData.eqv, h]
  | .str x, b, r, h => by
    cases b <;> simp only [eqD, Option.some.injEq] at h <;> simp only [toPy, PyData.eqv, str_beq, h]
    all_goals first | exact h | skip
  | .tup x, b, r, h => by
    cases b <;> simp only [eqD, Option.some.injEq] at h <;> simp only [toPy, PyData.eqv]
    all_goals first | exact h | exact eqv_pys _ _ h
  | .lst x, b, r, h => by
    cases b <;> simp only [eqD, Option.some.injEq] at h <;> simp only [toPy, PyData.eqv]
    all_goals first | exact h | exact eqv_pys _ _ h
theorem eqv_pys : ∀ (as bs : List Dat) {r : Bool}, eqDs as bs = some r → PyData.eqvAll (toPys as) (toPys bs) = r
  | [], [], r, h => by simp [eqDs] at h; simp [toPys, PyData.eqvAll, h]
  | [], _ :: _, r, h => by simp [eqDs] at h; simp [toPys, PyData.eqvAll, h]
  | _ :: _, [], r, h => by simp [eqDs] at h; simp [toPys, PyData.eqvAll, h]
  | a :: as, b :: bs, r, h => by
    simp only [eqDs] at h
    simp only [toPys, PyData.eqvAll]
    cases q : eqD a b with
    | none => rw [q] at h; cases h
    | some t =>
      rw [q] at h
      rw [eqv_py a b q]
      cases t with
      | true => simp only at h; rw [Bool.true_and]; exact eqv_pys as bs h
      | false => simp only [Option.some.injEq] at h; rw [Bool.false_and]; exact h
end
theorem any_py (x : Dat) : ∀ (l : List Dat) {r : Bool}, inDs x l = some r → ((toPys l).any fun y => PyData.eqv y (toPy x)) = r
  | [], r, h => by simp [inDs] at h; simp [toPys, h]
  | y :: ys, r, h => by
    simp only [inDs] at h
    simp only [toPys, List.any_cons]
    cases q : eqD y x with
    | none => rw [q] at h; cases h
    | some t =>
      rw [q] at h
      rw [eqv_py y x q]
      cases t with
      | true => simp only [Option.some.injEq] at h; rw [Bool.true_or]; exact h
      | false => simp only at h; rw [Bool.false_or]; exact any_py x ys h

noncomputable def chkCmp (op : COp) (o : CmpOp) : Bool := match op with
  | .eq => (match o with | .Eq => true | _ => false)
  | .ne => (match o with | .NotEq => true | _ => false)
  | .lt => (match o with | .Lt => true | _ => false)
  | .le => (match o with | .LtE => true | _ => false)
  | .gt => (match o with | .Gt => true | _ => false)
  | .ge => (match o with | .GtE => true | _ => false)
  | .is => (match o with | .Is => true | _ => false)
  | .isnot => (match o with | .IsNot => true | _ => false)
  | .isin => (match o with | .In => true | _ => false)
  | .notin => (match o with | .NotIn => true | _ => false)

section
variable {prog : Program} {w : World} {A : Around} {E : Value → Shared → Prop} {s : Shared} {B : Heap} {L : Addr} {π β : List Addr} {σ : Sto}

theorem notNone_of_seen {h : Heap} {γ : List Addr} {d : Dat} {v : Value} (r : Seen h γ d v) : (v == Value.none) = (match d with | .none => true | _ => false) := by
  cases d with
  | none => have r : v = Value.none := r; subst r; rfl
  | bool b => have r : v = .bool b := r; subst r; rfl
  | int i => obtain ⟨t, rfl⟩ := r; rfl
  | str x => obtain ⟨t, rfl⟩ := r; rfl
  | tup l => obtain ⟨a, vs, rfl, _⟩ := r; rfl
  | lst l => obtain ⟨a, vs, rfl, _⟩ := r; rfl

theorem in_sound {a b : Dat} {va vb : Value} {r : Bool} (ha : Seen s.heap (grow π σ β) a va) (hb : Seen s.heap (grow π σ β) b vb) (hu : A.units + 200 < cLine) (e : inD a b = some r) {Q : Value → Shared → Prop} (q : Q (.bool r) s) :
    wpAny (model prog w) A (compareOp .In va vb) Q E s := by
  cases b with
  | lst l =>
    simp only [inD] at e
    split at e
    · rename_i hok
      simp only [Bool.and_eq_true] at hok
      obtain ⟨as, ra⟩ := ha.reads
      obtain ⟨bs, rb⟩ := hb.reads
      have h1 := hok.1; have h2 := hok.2
      simp only [okD, fineD, depthD, Bool.and_eq_true, decide_eq_true_eq] at h1 h2
      refine SeqAt.in_list_reads rb ra (by rw [fine_pys]; exact h2.1) (by rw [fine_py]; exact h1.1) ?_ (by rw [any_py a l e]; exact q)
      rw [depth_pys, depth_py]; omega
    · cases e
  | tup l =>
    simp only [inD] at e
    split at e
    · rename_i hok
      simp only [Bool.and_eq_true] at hok
      obtain ⟨as, ra⟩ := ha.reads
      obtain ⟨bs, rb⟩ := hb.reads
      have h1 := hok.1; have h2 := hok.2
      simp only [okD, fineD, depthD, Bool.and_eq_true, decide_eq_true_eq] at h1 h2
      refine SeqAt.in_tuple_reads rb ra (by rw [fine_pys]; exact h2.1) (by rw [fine_py]; exact h1.1) ?_ (by rw [any_py a l e]; exact q)
      rw [depth_pys, depth_py]; omega
    · cases e
  | str x =>
    obtain ⟨u, rfl⟩ := hb
    simp only [inD] at e
    split at e
    · rename_i c
      obtain ⟨t, rfl⟩ := ha
      cases e
      refine in_str ?_
      have := StrLaws.found_one ⟨x.toArray⟩ c
      rw [this]
      simpa [List.contains_eq_mem] using q
    · cases e
  | none => simp [inD] at e
  | bool _ => simp [inD] at e
  | int _ => simp [inD] at e
theorem notin_sound {a b : Dat} {va vb : Value} {r : Bool} (ha : Seen s.heap (grow π σ β) a va) (hb : Seen s.heap (grow π σ β) b vb) (hu : A.units + 200 < cLine) (e : inD a b = some r) {Q : Value → Shared → Prop} (q : Q (.bool (!r)) s) :
    wpAny (model prog w) A (compareOp .NotIn va vb) Q E s := by
  cases b with
  | lst l =>
    simp only [inD] at e
    split at e
    · rename_i hok
      simp only [Bool.and_eq_true] at hok
      obtain ⟨as, ra⟩ := ha.reads
      obtain ⟨bs, rb⟩ := hb.reads
      have h1 := hok.1; have h2 := hok.2
      simp only [okD, fineD, depthD, Bool.and_eq_true, decide_eq_true_eq] at h1 h2
      refine SeqAt.notIn_list_reads rb ra (by rw [fine_pys]; exact h2.1) (by rw [fine_py]; exact h1.1) ?_ (by rw [any_py a l e]; exact q)
      rw [depth_pys, depth_py]; omega
    · cases e
  | tup l =>
    simp only [inD] at e
    split at e
    · rename_i hok
      simp only [Bool.and_eq_true] at hok
      obtain ⟨as, ra⟩ := ha.reads
      obtain ⟨bs, rb⟩ := hb.reads
      have h1 := hok.1; have h2 := hok.2
      simp only [okD, fineD, depthD, Bool.and_eq_true, decide_eq_true_eq] at h1 h2
      refine SeqAt.notIn_tuple_reads rb ra (by rw [fine_pys]; exact h2.1) (by rw [fine_py]; exact h1.1) ?_ (by rw [any_py a l e]; exact q)
      rw [depth_pys, depth_py]; omega
    · cases e
  | str x =>
    obtain ⟨u, rfl⟩ := hb
    simp only [inD] at e
    split at e
    · rename_i c
      obtain ⟨t, rfl⟩ := ha
      cases e
      refine notIn_str ?_
      have := StrLaws.found_one ⟨x.toArray⟩ c
      rw [this]
      simpa [List.contains_eq_mem] using q
    · cases e
  | none => simp [inD] at e
  | bool _ => simp [inD] at e
  | int _ => simp [inD] at e

theorem cmp2_sound {op : COp} {op' : CmpOp} {a b : Dat} {va vb : Value} {r : Bool} (hop : chkCmp op op' = true) (ha : Seen s.heap (grow π σ β) a va) (hb : Seen s.heap (grow π σ β) b vb) (hu : A.units + 200 < cLine) (e : cmp2 op a b = some r)
    {Q : Value → Shared → Prop} (q : Q (.bool r) s) : wpAny (model prog w) A (compareOp op' va vb) Q E s := by
  cases op <;> cases op' <;> first | exact nof hop | skip
  · have e : eq2 a b = some r := e
    · obtain ⟨hok, e⟩ := iff_some e
      have hok := Bool.and_eq_true_iff.mp hok
      obtain ⟨as, ra⟩ := ha.reads
      obtain ⟨bs, rb⟩ := hb.reads
      exact eq_dataH ra rb (shaped_py hok.1) (shaped_py hok.2) (by omega) (by rw [eqv_py a b e]; exact q)
  · have e : (eq2 a b).map (!·) = some r := e
    · obtain ⟨t, h, e⟩ := Option.map_eq_some_iff.mp e
      obtain ⟨hok, h⟩ := iff_some h
      have hok := Bool.and_eq_true_iff.mp hok
      obtain ⟨as, ra⟩ := ha.reads
      obtain ⟨bs, rb⟩ := hb.reads
      cases e
      exact ne_dataH ra rb (shaped_py hok.1) (shaped_py hok.2) (by omega) (by rw [eqv_py a b h]; exact q)
  · cases a <;> cases b <;> first | exact nos e | skip
    cases Option.some.inj e
    obtain ⟨t, rfl⟩ := ha
    obtain ⟨u, rfl⟩ := hb
    exact lt_int q
  · cases a <;> cases b <;> first | exact nos e | skip
    cases Option.some.inj e
    obtain ⟨t, rfl⟩ := ha
    obtain ⟨u, rfl⟩ := hb
    exact le_int q
  · cases a <;> cases b <;> first | exact nos e | skip
    cases Option.some.inj e
    obtain ⟨t, rfl⟩ := ha
    obtain ⟨u, rfl⟩ := hb
    exact gt_int q
  · cases a <;> cases b <;> first | exact nos e | skip
    cases Option.some.inj e
    obtain ⟨t, rfl⟩ := ha
    obtain ⟨u, rfl⟩ := hb
    exact ge_int q
  · cases b <;> first | exact nos e | skip
    have hb : vb = Value.none := hb
    subst hb
    cases Option.some.inj e
    exact is_none_gen (by rw [notNone_of_seen ha]; cases a <;> exact q)
  · cases b <;> first | exact nos e | skip
    have hb : vb = Value.none := hb
    subst hb
    cases Option.some.inj e
    exact isnot_none_gen (by rw [notNone_of_seen ha]; cases a <;> exact q)
  · exact in_sound ha hb hu e q
  · have e : (inD a b).map (!·) = some r := e
    obtain ⟨t, h, e⟩ := Option.map_eq_some_iff.mp e
    cases e
    exact notin_sound ha hb hu h q
end
end Mine

/-! ## MPrim -/
namespace Mine
open PySem PyProof.Rows

section
variable {prog : Program} {w : World} {A : Around} {E : Value → Shared → Prop} {s : Shared} {B : Heap} {L : Addr} {π β : List Addr} {σ : Sto}

theorem Reps.size {h : Heap} {γ : List Addr} {ds : List Dat} {vs : Array Value} (r : Reps h γ ds vs.toList) : ds.length = vs.size := by
  have := r.length
  simpa using this
theorem sub_ty {a b : String} {r : Bool} (h : isSubtype (.type a) (.type b) = pure r) : isSubtype (.type a) (.type b) = pure r := h
/-! ### items and cuts -/
theorem place_index {n : Nat} {k : Int} {j : Nat} (h : place n k = some j) : seqIndex? k n = some j ∧ j < n ∧ (0 ≤ k → k.toNat = j) := by
  unfold place at h
  unfold seqIndex?
  split at h
  · split at h
    · cases h
      refine ⟨?_, by omega, fun _ => rfl⟩
      have h3 : ¬ k < 0 := by omega
      simp [*]
    · cases h
  · split at h
    · cases h
      rename_i h1 h2
      refine ⟨?_, by omega, fun h => absurd h (by omega)⟩
      have h3 : k < 0 := by omega
      have h4 : 0 ≤ k + (n : Int) := by omega
      have h5 : k + (n : Int) < n := by omega
      simp [*]
    · cases h

theorem item_sound {a b d : Dat} {va vb : Value} (S : Sim B π s.heap σ β) (ha : Seen s.heap (grow π σ β) a va) (hb : Seen s.heap (grow π σ β) b vb) (e : idx2 a b = some d) :
    wpAny (model prog w) A (getItem va vb) (VPost B π L β σ s d) E s := by
  cases a with
  | lst l =>
    cases b <;> first | exact nos e | skip
    rename_i k
    obtain ⟨t, rfl⟩ := hb
    obtain ⟨p, vs, rfl, hl, hr⟩ := ha
    obtain ⟨hsz, e⟩ := iff_some e
    · cases hp : place l.length k with
      | none => rw [hp] at e; cases e
      | some j =>
        rw [hp] at e
        obtain ⟨h1, h2, h3⟩ := place_index hp
        obtain ⟨v, hv, rv⟩ := hr.get e
        have hlen := hr.size
        rw [Array.getElem?_toList] at hv
        by_cases h0 : 0 ≤ k
        · refine wpAny_getItem_list hl h0 (by have := h3 h0; omega) (by rw [h3 h0]; exact hv) ⟨rv, Ok.refl S⟩
        · unfold place at hp
          rw [if_neg h0] at hp
          split at hp
          · cases hp
            refine wpAny_getItem_list_neg hl (by omega) (by rw [← hlen]; omega) (by omega) (by rw [← hlen]; exact hv) ⟨rv, Ok.refl S⟩
          · cases hp
  | tup l =>
    cases b <;> first | exact nos e | skip
    rename_i k
    obtain ⟨t, rfl⟩ := hb
    obtain ⟨p, vs, rfl, hl, hr⟩ := ha
    obtain ⟨hsz, e⟩ := iff_some e
    · cases hp : place l.length k with
      | none => rw [hp] at e; cases e
      | some j =>
        rw [hp] at e
        obtain ⟨h1, h2, h3⟩ := place_index hp
        obtain ⟨v, hv, rv⟩ := hr.get e
        have hlen := hr.size
        rw [Array.getElem?_toList] at hv
        have hb : -1000000 ≤ k ∧ k < 1000000 := by
          unfold place at hp
          split at hp
          · split at hp
            · omega
            · cases hp
          · split at hp
            · omega
            · cases hp
        exact PyProof.Rows.getItem_tuple hl (by omega) (by omega) (by rw [← hlen]; exact h1) hv ⟨rv, Ok.refl S⟩
  | str x =>
    cases b <;> first | exact nos e | skip
    rename_i k
    obtain ⟨t, rfl⟩ := hb
    obtain ⟨u, rfl⟩ := ha
    obtain ⟨hsz, e⟩ := iff_some e
    · cases hp : place x.length k with
      | none => rw [hp] at e; cases e
      | some j =>
        rw [hp] at e
        obtain ⟨h1, h2, h3⟩ := place_index hp
        have hb : -1000000 ≤ k ∧ k < 1000000 := by
          unfold place at hp
          split at hp
          · split at hp
            · omega
            · cases hp
          · split at hp
            · omega
            · cases hp
        simp only [Option.bind_some] at e
        cases hc : x[j]? with
        | none => rw [hc] at e; cases e
        | some c =>
          rw [hc] at e; cases e
          refine PyProof.Rows.getItem_str (c := c) ?_ ?_ (vStr S [c] _ _)
          · have : ¬ k < -(2 ^ 63 : Int) := by omega
            have : ¬ k ≥ 2 ^ 63 := by omega
            simp; omega
          · rw [str_len, h1]; simpa using hc
  | none => exact nos e
  | bool _ => exact nos e
  | int _ => exact nos e

/-! ### built-in functions of one argument -/
theorem len_sound {a d : Dat} {va : Value} (S : Sim B π s.heap σ β) (ha : Seen s.heap (grow π σ β) a va) (e : prim1 .len a = some d) :
    wpAny (model prog w) A (call (.builtin "len") [va]) (VPost B π L β σ s d) E s := by
  cases a <;> first | exact nos e | skip
  · obtain ⟨t, rfl⟩ := ha
    obtain ⟨hsz, e⟩ := iff_some e
    · cases e
      refine PyProof.Rows.len_str (by rw [str_len]; omega) ?_
      rw [str_len]; exact vInt S _ _ _
  · obtain ⟨p, vs, rfl, hl, hr⟩ := ha
    have hlen := hr.size
    obtain ⟨hsz, e⟩ := iff_some e
    · cases e
      refine PyProof.Rows.len_tuple hl (by omega) ?_
      rw [← hlen]; exact vInt S _ _ _
  · obtain ⟨p, vs, rfl, hl, hr⟩ := ha
    have hlen := hr.size
    obtain ⟨hsz, e⟩ := iff_some e
    · cases e
      refine Calls.call_len_list hl (by omega) ?_
      rw [← hlen]; exact vInt S _ _ _

theorem abs_sound {i : Int} {va : Value} (S : Sim B π s.heap σ β) (ha : Seen s.heap (grow π σ β) (.int i) va) :
    wpAny (model prog w) A (call (.builtin "abs") [va]) (VPost B π L β σ s (.int i.natAbs)) E s := by
  obtain ⟨t, rfl⟩ := ha
  refine call_abs_int fun u tk => ?_
  have : (if i < 0 then -i else i) = (i.natAbs : Int) := by split <;> omega
  rw [this]; exact vInt S _ _ _

theorem bool_items {l : List Bool} {vs : List Value} {h : Heap} {γ : List Addr} (hr : Reps h γ (l.map .bool) vs) {i : Nat} {v : Value} (hv : vs[i]? = some v) : v = .bool (l.getD i false) ∧ i < l.length := by
  have hlen := hr.length
  have hi : i < vs.length := (List.getElem?_eq_some_iff.mp hv).1
  have hi' : i < l.length := by simpa [← hlen] using hi
  obtain ⟨v', hv', r⟩ := hr.get (i := i) (d := .bool l[i]) (by simp [hi'])
  rw [hv] at hv'; cases hv'
  have r : v = .bool l[i] := r
  exact ⟨by rw [r]; simp [List.getD, hi'], hi'⟩
theorem range_any (l : List Bool) : (List.range l.length).any (fun i => l.getD i false) = l.any id := by
  rw [Bool.eq_iff_iff]
  simp only [List.any_eq_true, List.mem_range, id]
  constructor
  · rintro ⟨i, hi, h⟩
    exact ⟨l[i], List.getElem_mem hi, by simpa [List.getD, hi] using h⟩
  · rintro ⟨b, hb, rfl⟩
    obtain ⟨i, hi, e⟩ := List.mem_iff_getElem.mp hb
    exact ⟨i, hi, by simp [List.getD, hi, e]⟩
theorem range_all (l : List Bool) : (List.range l.length).all (fun i => l.getD i false) = l.all id := by
  rw [Bool.eq_iff_iff]
  simp only [List.all_eq_true, List.mem_range, id]
  constructor
  · intro h b hb
    obtain ⟨i, hi, e⟩ := List.mem_iff_getElem.mp hb
    have := h i hi
    rw [← e]; simpa [List.getD, hi] using this
  · intro h i hi
    simpa [List.getD, hi] using h l[i] (List.getElem_mem hi)

theorem any_sound {l : List Bool} {va : Value} (hh : A.handled = none) (S : Sim B π s.heap σ β) (ha : Seen s.heap (grow π σ β) (.lst (l.map .bool)) va) :
    wpAny (model prog w) A (call (.builtin "any") [va]) (VPost B π L β σ s (.bool (l.any id))) E s := by
  obtain ⟨p, vs, rfl, hl, hr⟩ := ha
  have hlen := hr.size
  rw [List.length_map] at hlen
  have hp : p ≠ s.heap.objs.size := fun q => by obtain ⟨o, ho, _⟩ := hl; exact Nat.lt_irrefl _ (q ▸ Heap.lt_size ho)
  refine call_any_walk (wpAny_pyIter_list hl ?_)
  refine ⟨_, _, _, _, _, _, fun i => l.getD i false, rfl, Walks.list (A := A.in1) hh s.heap.objs.size p hp vs, ⟨⟨_, Heap.get?_push_size _ rfl, rfl, rfl⟩, hl.push _⟩, ?_, ?_⟩
  · intro i v s' Q E' hP hQ
    obtain ⟨rfl, _⟩ := bool_items hr (by rw [Array.getElem?_toList]; exact hP)
    exact wpAny_truthy_bool hQ
  · intro h' tk hk
    rw [← hlen, range_any]
    exact ⟨rfl, Ok.keeps S ⟨_, _, rfl⟩ fun b o e => hk b o (fun q => by simp at q; exact Nat.lt_irrefl _ (q ▸ Heap.lt_size e)) (Heap.get?_push_of_some _ e)⟩
theorem all_sound {l : List Bool} {va : Value} (hh : A.handled = none) (S : Sim B π s.heap σ β) (ha : Seen s.heap (grow π σ β) (.lst (l.map .bool)) va) :
    wpAny (model prog w) A (call (.builtin "all") [va]) (VPost B π L β σ s (.bool (l.all id))) E s := by
  obtain ⟨p, vs, rfl, hl, hr⟩ := ha
  have hlen := hr.size
  rw [List.length_map] at hlen
  have hp : p ≠ s.heap.objs.size := fun q => by obtain ⟨o, ho, _⟩ := hl; exact Nat.lt_irrefl _ (q ▸ Heap.lt_size ho)
  refine call_all_walk (wpAny_pyIter_list hl ?_)
  refine ⟨_, _, _, _, _, _, fun i => l.getD i false, rfl, Walks.list (A := A.in1) hh s.heap.objs.size p hp vs, ⟨⟨_, Heap.get?_push_size _ rfl, rfl, rfl⟩, hl.push _⟩, ?_, ?_⟩
  · intro i v s' Q E' hP hQ
    obtain ⟨rfl, _⟩ := bool_items hr (by rw [Array.getElem?_toList]; exact hP)
    exact wpAny_truthy_bool hQ
  · intro h' tk hk
    rw [← hlen, range_all]
    exact ⟨rfl, Ok.keeps S ⟨_, _, rfl⟩ fun b o e => hk b o (fun q => by simp at q; exact Nat.lt_irrefl _ (q ▸ Heap.lt_size e)) (Heap.get?_push_of_some _ e)⟩

/-! ### isinstance -/
noncomputable def tyName : Ty → Option String
  | .bool => some "bool"
  | .int => some "int"
  | .str => some "str"
  | .tuple => some "tuple"
  | .list => some "list"
  | .own _ => none

end
end Mine

/-! ## MSort -/
namespace Mine
open PySem PyProof.Rows

section
variable {prog : Program} {w : World} {A : Around} {E : Value → Shared → Prop} {s : Shared} {B : Heap} {L : Addr} {π β : List Addr} {σ : Sto} {m : Str → Option Value}
end
end Mine

/-! ## MChk -/
namespace Mine
open PySem PyProof.Rows

structure Cx where
  scope : Scope
  name : Nat → Option Str
  fn : Nat → Option Str
  con : Str → Option Dat
  top : Bool

/-- the module's constants, and the frame of the function that is being run -/
structure Con where
  tab : Str → Option Dat
  env0 : Env
  lone : Bool
/-- functions that catch an exception -/
noncomputable def isSp (f : Nat) : Bool := decide (1000 ≤ f)

noncomputable def Cx.isVar (cx : Cx) (x : Str) : Bool := cx.scope.names.lookup x == some .local || cx.scope.names.lookup x == some .cell
noncomputable def Cx.isGlob (cx : Cx) (x : Str) : Bool := cx.scope.names.lookup x == some .globalImplicit && !(x == ("__debug__" : Str))

/-- the built-ins that are used -/
noncomputable def bis : List (Str × Value) := [("len", .builtin "len"), ("abs", .builtin "abs"), ("any", .builtin "any"), ("all", .builtin "all"), ("max", .builtin "max"), ("min", .builtin "min"), ("sorted", .builtin "sorted"),
  ("isinstance", .builtin "isinstance"), ("list", .type "list"), ("range", .type "range"), ("int", .type "int"), ("str", .type "str"), ("bool", .type "bool"), ("tuple", .type "tuple"), ("reversed", .type "reversed"),
  ("enumerate", .type "enumerate"), ("zip", .type "zip"), ("ValueError", .type "ValueError")]

theorem bi_ValueError : (("ValueError" : Str), Value.type "ValueError") ∈ bis := .tail _ (.tail _ (.tail _ (.tail _ (.tail _ (.tail _ (.tail _ (.tail _ (.tail _ (.tail _ (.tail _ (.tail _ (.tail _ (.tail _ (.tail _ (.tail _ (.tail _ (.head _)))))))))))))))))
theorem bi_len : (("len" : Str), Value.builtin "len") ∈ bis := .head _
theorem bi_abs : (("abs" : Str), Value.builtin "abs") ∈ bis := .tail _ (.head _)
theorem bi_any : (("any" : Str), Value.builtin "any") ∈ bis := .tail _ (.tail _ (.head _))
theorem bi_all : (("all" : Str), Value.builtin "all") ∈ bis := .tail _ (.tail _ (.tail _ (.head _)))
theorem bi_max : (("max" : Str), Value.builtin "max") ∈ bis := .tail _ (.tail _ (.tail _ (.tail _ (.head _))))
theorem bi_min : (("min" : Str), Value.builtin "min") ∈ bis := .tail _ (.tail _ (.tail _ (.tail _ (.tail _ (.head _)))))
theorem bi_sorted : (("sorted" : Str), Value.builtin "sorted") ∈ bis := .tail _ (.tail _ (.tail _ (.tail _ (.tail _ (.tail _ (.head _))))))
theorem bi_isinstance : (("isinstance" : Str), Value.builtin "isinstance") ∈ bis := .tail _ (.tail _ (.tail _ (.tail _ (.tail _ (.tail _ (.tail _ (.head _)))))))
theorem bi_list : (("list" : Str), Value.type "list") ∈ bis := .tail _ (.tail _ (.tail _ (.tail _ (.tail _ (.tail _ (.tail _ (.tail _ (.head _))))))))
theorem bi_range : (("range" : Str), Value.type "range") ∈ bis := .tail _ (.tail _ (.tail _ (.tail _ (.tail _ (.tail _ (.tail _ (.tail _ (.tail _ (.head _)))))))))
theorem bi_int : (("int" : Str), Value.type "int") ∈ bis := .tail _ (.tail _ (.tail _ (.tail _ (.tail _ (.tail _ (.tail _ (.tail _ (.tail _ (.tail _ (.head _))))))))))
theorem bi_str : (("str" : Str), Value.type "str") ∈ bis := .tail _ (.tail _ (.tail _ (.tail _ (.tail _ (.tail _ (.tail _ (.tail _ (.tail _ (.tail _ (.tail _ (.head _)))))))))))
theorem bi_bool : (("bool" : Str), Value.type "bool") ∈ bis := .tail _ (.tail _ (.tail _ (.tail _ (.tail _ (.tail _ (.tail _ (.tail _ (.tail _ (.tail _ (.tail _ (.tail _ (.head _))))))))))))
theorem bi_tuple : (("tuple" : Str), Value.type "tuple") ∈ bis := .tail _ (.tail _ (.tail _ (.tail _ (.tail _ (.tail _ (.tail _ (.tail _ (.tail _ (.tail _ (.tail _ (.tail _ (.tail _ (.head _)))))))))))))
theorem bi_reversed : (("reversed" : Str), Value.type "reversed") ∈ bis := .tail _ (.tail _ (.tail _ (.tail _ (.tail _ (.tail _ (.tail _ (.tail _ (.tail _ (.tail _ (.tail _ (.tail _ (.tail _ (.tail _ (.head _))))))))))))))
theorem bi_enumerate : (("enumerate" : Str), Value.type "enumerate") ∈ bis := .tail _ (.tail _ (.tail _ (.tail _ (.tail _ (.tail _ (.tail _ (.tail _ (.tail _ (.tail _ (.tail _ (.tail _ (.tail _ (.tail _ (.tail _ (.head _)))))))))))))))
theorem bi_zip : (("zip" : Str), Value.type "zip") ∈ bis := .tail _ (.tail _ (.tail _ (.tail _ (.tail _ (.tail _ (.tail _ (.tail _ (.tail _ (.tail _ (.tail _ (.tail _ (.tail _ (.tail _ (.tail _ (.tail _ (.head _))))))))))))))))
noncomputable def primName : Prim → Option (Str × Value)
  | .len => some ("len", .builtin "len")
  | .abs => some ("abs", .builtin "abs")
  | .any => some ("any", .builtin "any")
  | .all => some ("all", .builtin "all")
  | .int => some ("int", .type "int")
  | .str => none
noncomputable def prim2Name : Prim2 → Str × String
  | .max => ("max", "max")
  | .min => ("min", "min")
  | .join => ("join", "join")
  | .split => ("split", "split")
noncomputable def isMeth : Prim2 → Bool
  | .join => true
  | .split => true
  | _ => false
noncomputable def plainO : Expr → Bool
  | .Constant .. => true
  | .Name .. => true
  | _ => false

noncomputable def chkC : Const → Dat → Bool
  | .none, .none => true
  | .bool a, .bool b => a == b
  | .int a, .int b => a == b
  | .str a, .str b => a.cps.toList == b
  | _, _ => false

noncomputable def notSlice : Expr → Bool
  | .Slice .. => false
  | _ => true

noncomputable def relabelS (scope outer : Scope) : Scope :=
  { scope with names := scope.names.map fun (n, k) => if (k == .free && outer.kind == .function && outer.names.lookup n == some .cell) then (n, .cell) else (n, k) }

noncomputable def noneNames (p : Str × NameKind → Bool) (sc : Scope) : Bool := sc.names.all fun x => !p x

/-- a comprehension's scope is as it must be -/
noncomputable def chkScope (x : Str) (sc outer : Scope) : Bool :=
  sc.kind == .function && (sc.names.all fun y => !(y.2 == .cell)) && (sc.names.all fun y => !(y.2 == .local) || sc.names.lookup y.1 == some .local) && sc.names.lookup x == some .local &&
  (sc.names.all fun y => !(y.2 == .free) || outer.names.lookup y.1 == some .cell) && decide ((sc.names.map (·.1)).Nodup)

noncomputable def Cx.inner (cx : Cx) (x : Str) (k : Nat) (sc : Scope) : Cx :=
  { cx with scope := relabelS sc cx.scope, name := fun i => if i = k then some x else match cx.name i with
    | some y => if y ≠ x ∧ sc.names.lookup y = some .free then some y else none
    | none => none, top := false }

/-! ### taking expressions apart -/
noncomputable def asConst : Expr → Option Const
  | .Constant c _ _ => some c
  | _ => none
noncomputable def asName : Expr → Option Str
  | .Name x _ => some x
  | _ => none
noncomputable def asTuple : Expr → Option (List Expr)
  | .Tuple xs _ _ => some xs
  | _ => none
noncomputable def asList : Expr → Option (List Expr)
  | .List xs _ => some xs
  | _ => none
noncomputable def asBin : Expr → Option (Expr × Operator × Expr)
  | .BinOp l o r _ => some (l, o, r)
  | _ => none
noncomputable def rawUn : Expr → Option (UnaryOp × Expr)
  | .UnaryOp o x _ => some (o, x)
  | _ => none
noncomputable def rawBool : Expr → Option (BoolOp × List Expr)
  | .BoolOp o xs _ => some (o, xs)
  | _ => none
noncomputable def asCmp : Expr → Option (Expr × List CmpOp × List Expr)
  | .Compare l os rs _ => some (l, os, rs)
  | _ => none
noncomputable def rawCall : Expr → Option (Expr × List Expr × List Keyword × Pos)
  | .Call f xs ks p => some (f, xs, ks, p)
  | _ => none
noncomputable def rawSub : Expr → Option (Expr × Expr)
  | .Subscript v i _ => some (v, i)
  | _ => none
noncomputable def rawSlice : Expr → Option (Option Expr × Option Expr × Option Expr)
  | .Slice l u s _ => some (l, u, s)
  | _ => none
noncomputable def rawComp : Expr → Option (Expr × List Comprehension × Scope)
  | .ListComp e gs sc _ => some (e, gs, sc)
  | _ => none
noncomputable def rawAttr : Expr → Option (Expr × Str × Pos)
  | .Attribute o n p => some (o, n, p)
  | _ => none
noncomputable def isUSub : UnaryOp → Bool
  | .USub => true
  | _ => false
noncomputable def isNotOp : UnaryOp → Bool
  | .Not => true
  | _ => false
noncomputable def isAndOp : BoolOp → Bool
  | .And => true
  | _ => false
noncomputable def one {α : Type} : List α → Option α
  | [] => none
  | y :: l => if l.isEmpty then some y else none
noncomputable def two {α : Type} : List α → Option (α × α)
  | [] => none
  | y :: l => (one l).map fun z => (y, z)
noncomputable def asNeg (e : Expr) : Option Expr := (rawUn e).bind fun u => if isUSub u.1 then some u.2 else none
noncomputable def asNot (e : Expr) : Option Expr := (rawUn e).bind fun u => if isNotOp u.1 then some u.2 else none
noncomputable def asAnd (e : Expr) : Option (List Expr) := (rawBool e).bind fun u => if isAndOp u.1 then some u.2 else none
noncomputable def asOr (e : Expr) : Option (List Expr) := (rawBool e).bind fun u => if isAndOp u.1 then none else some u.2
noncomputable def asCall (e : Expr) : Option (Str × List Expr) := (rawCall e).bind fun c => if c.2.2.1.isEmpty then (asName c.1).map fun n => (n, c.2.1) else none
noncomputable def asCall1 (e : Expr) : Option (Str × Expr) := (asCall e).bind fun c => (one c.2).map fun y => (c.1, y)
noncomputable def asCall2 (e : Expr) : Option (Str × Expr × Expr) := (asCall e).bind fun c => (two c.2).map fun y => (c.1, y)
noncomputable def asSub (e : Expr) : Option (Expr × Expr) := (rawSub e).bind fun v => if notSlice v.2 then some v else none
noncomputable def asFrom (e : Expr) : Option (Expr × Expr) := (rawSub e).bind fun v => (rawSlice v.2).bind fun s => if s.2.1.isNone && s.2.2.isNone then s.1.map fun l => (v.1, l) else none
noncomputable def asTo (e : Expr) : Option (Expr × Expr) := (rawSub e).bind fun v => (rawSlice v.2).bind fun s => if s.1.isNone && s.2.2.isNone then s.2.1.map fun l => (v.1, l) else none
noncomputable def asComp (e : Expr) : Option (Expr × Str × Expr × List Expr × Scope) := (rawComp e).bind fun c => (one c.2.1).bind fun g => if g.is_async == 0 then (asName g.target).map fun x => (c.1, x, g.iter, g.ifs, c.2.2) else none
noncomputable def oneKw : List Keyword → Option Expr
  | [⟨some k, v, _⟩] => if k == ("key" : Str) then some v else none
  | _ => none
noncomputable def asSorted (e : Expr) : Option (Str × Expr × Str) := (rawCall e).bind fun c => (asName c.1).bind fun n => (one c.2.1).bind fun y => (oneKw c.2.2.1).bind fun k => (asName k).map fun v => (n, y, v)
noncomputable def asMeth (e : Expr) : Option (Expr × Str × Expr) := (rawCall e).bind fun c => if c.2.2.1.isEmpty then (rawAttr c.1).bind fun o => if o.2.2.endLine == c.2.2.2.line then (one c.2.1).map fun y => (o.1, o.2.1, y) else none else none

theorem asConst_eq {e : Expr} {c : Const} (h : asConst e = some c) : ∃ k p, e = .Constant c k p := by
  cases e <;> first | exact nos h | (cases h; exact ⟨_, _, rfl⟩)
theorem asName_eq {e : Expr} {x : Str} (h : asName e = some x) : ∃ p, e = .Name x p := by
  cases e <;> first | exact nos h | (cases h; exact ⟨_, rfl⟩)
theorem asTuple_eq {e : Expr} {xs : List Expr} (h : asTuple e = some xs) : ∃ k p, e = .Tuple xs k p := by
  cases e <;> first | exact nos h | (cases h; exact ⟨_, _, rfl⟩)
theorem asList_eq {e : Expr} {xs : List Expr} (h : asList e = some xs) : ∃ p, e = .List xs p := by
  cases e <;> first | exact nos h | (cases h; exact ⟨_, rfl⟩)
theorem asBin_eq {e l r : Expr} {o : Operator} (h : asBin e = some (l, o, r)) : ∃ p, e = .BinOp l o r p := by
  cases e <;> first | exact nos h | (cases h; exact ⟨_, rfl⟩)
theorem rawUn_eq {e : Expr} {u : UnaryOp × Expr} (h : rawUn e = some u) : ∃ p, e = .UnaryOp u.1 u.2 p := by
  cases e <;> first | exact nos h | (cases h; exact ⟨_, rfl⟩)
theorem rawBool_eq {e : Expr} {u : BoolOp × List Expr} (h : rawBool e = some u) : ∃ p, e = .BoolOp u.1 u.2 p := by
  cases e <;> first | exact nos h | (cases h; exact ⟨_, rfl⟩)
theorem asCmp_eq {e l : Expr} {os : List CmpOp} {rs : List Expr} (h : asCmp e = some (l, os, rs)) : ∃ p, e = .Compare l os rs p := by
  cases e <;> first | exact nos h | (cases h; exact ⟨_, rfl⟩)
theorem rawCall_eq {e : Expr} {c : Expr × List Expr × List Keyword × Pos} (h : rawCall e = some c) : e = .Call c.1 c.2.1 c.2.2.1 c.2.2.2 := by
  cases e <;> first | exact nos h | (cases h; rfl)
theorem rawSub_eq {e : Expr} {v : Expr × Expr} (h : rawSub e = some v) : ∃ p, e = .Subscript v.1 v.2 p := by
  cases e <;> first | exact nos h | (cases h; exact ⟨_, rfl⟩)
theorem rawSlice_eq {e : Expr} {s : Option Expr × Option Expr × Option Expr} (h : rawSlice e = some s) : ∃ p, e = .Slice s.1 s.2.1 s.2.2 p := by
  cases e <;> first | exact nos h | (cases h; exact ⟨_, rfl⟩)
theorem rawComp_eq {e : Expr} {c : Expr × List Comprehension × Scope} (h : rawComp e = some c) : ∃ p, e = .ListComp c.1 c.2.1 c.2.2 p := by
  cases e <;> first | exact nos h | (cases h; exact ⟨_, rfl⟩)
theorem rawAttr_eq {e : Expr} {o : Expr × Str × Pos} (h : rawAttr e = some o) : e = .Attribute o.1 o.2.1 o.2.2 := by
  cases e <;> first | exact nos h | (cases h; rfl)
theorem one_eq {α : Type} {l : List α} {y : α} (h : one l = some y) : l = [y] := by
  cases l with
  | nil => exact nos h
  | cons z r => cases r with
    | nil => cases h; rfl
    | cons _ _ => exact nos h
theorem two_eq {α : Type} {l : List α} {y : α × α} (h : two l = some y) : l = [y.1, y.2] := by
  cases l with
  | nil => exact nos h
  | cons z r =>
    obtain ⟨u, h1, rfl⟩ := Option.map_eq_some_iff.mp h
    rw [one_eq h1]
theorem bnd {α β : Type} {o : Option α} {f : α → Option β} {b : β} (h : o.bind f = some b) : ∃ a, o = some a ∧ f a = some b := Option.bind_eq_some_iff.mp h
theorem ift {α : Type} {c : Bool} {a : Option α} {b : α} (h : (if c = true then a else none) = some b) : c = true ∧ a = some b := by
  cases c with
  | true => exact ⟨rfl, h⟩
  | false => exact nos h
theorem asNeg_eq {e x : Expr} (h : asNeg e = some x) : ∃ p, e = .UnaryOp .USub x p := by
  obtain ⟨⟨o, y⟩, h1, h2⟩ := bnd h
  obtain ⟨p, rfl⟩ := rawUn_eq h1
  obtain ⟨h3, h4⟩ := ift h2
  cases h4
  cases o <;> first | exact ⟨p, rfl⟩ | exact Bool.noConfusion (show false = true from h3)
theorem asNot_eq {e x : Expr} (h : asNot e = some x) : ∃ p, e = .UnaryOp .Not x p := by
  obtain ⟨⟨o, y⟩, h1, h2⟩ := bnd h
  obtain ⟨p, rfl⟩ := rawUn_eq h1
  obtain ⟨h3, h4⟩ := ift h2
  cases h4
  cases o <;> first | exact ⟨p, rfl⟩ | exact Bool.noConfusion (show false = true from h3)
theorem asAnd_eq {e : Expr} {xs : List Expr} (h : asAnd e = some xs) : ∃ p, e = .BoolOp .And xs p := by
  obtain ⟨⟨o, y⟩, h1, h2⟩ := bnd h
  obtain ⟨p, rfl⟩ := rawBool_eq h1
  obtain ⟨h3, h4⟩ := ift h2
  cases h4
  cases o <;> first | exact ⟨p, rfl⟩ | exact Bool.noConfusion (show false = true from h3)
theorem asOr_eq {e : Expr} {xs : List Expr} (h : asOr e = some xs) : ∃ p, e = .BoolOp .Or xs p := by
  obtain ⟨⟨o, y⟩, h1, h2⟩ := bnd h
  obtain ⟨p, rfl⟩ := rawBool_eq h1
  cases o with
  | And => exact nos h2
  | Or => cases h2; exact ⟨p, rfl⟩
theorem asCall_eq {e : Expr} {x : Str} {xs : List Expr} (h : asCall e = some (x, xs)) : ∃ p q, e = .Call (.Name x p) xs [] q := by
  obtain ⟨⟨f, ys, ks, q⟩, h1, h2⟩ := bnd h
  have := rawCall_eq h1
  subst this
  obtain ⟨h3, h4⟩ := ift h2
  obtain ⟨n, h5, h6⟩ := Option.map_eq_some_iff.mp h4
  obtain ⟨p, h7⟩ := asName_eq h5
  cases h6
  have hk : ks = [] := List.isEmpty_iff.mp h3
  exact ⟨p, q, by show Expr.Call f ys ks q = _; rw [show f = _ from h7, hk]⟩
theorem asCall1_eq {e y : Expr} {x : Str} (h : asCall1 e = some (x, y)) : ∃ p q, e = .Call (.Name x p) [y] [] q := by
  obtain ⟨⟨z, ys⟩, h1, h2⟩ := bnd h
  obtain ⟨u, h3, h4⟩ := Option.map_eq_some_iff.mp h2
  obtain ⟨p, q, rfl⟩ := asCall_eq h1
  cases h4
  exact ⟨p, q, by rw [show ys = _ from one_eq h3]⟩
theorem asCall2_eq {e y z : Expr} {x : Str} (h : asCall2 e = some (x, y, z)) : ∃ p q, e = .Call (.Name x p) [y, z] [] q := by
  obtain ⟨⟨w, ys⟩, h1, h2⟩ := bnd h
  obtain ⟨u, h3, h4⟩ := Option.map_eq_some_iff.mp h2
  obtain ⟨p, q, rfl⟩ := asCall_eq h1
  cases h4
  exact ⟨p, q, by rw [show ys = _ from two_eq h3]⟩
theorem asSub_eq {e v i : Expr} (h : asSub e = some (v, i)) : ∃ p, e = .Subscript v i p ∧ notSlice i = true := by
  obtain ⟨⟨a, b⟩, h1, h2⟩ := bnd h
  obtain ⟨p, rfl⟩ := rawSub_eq h1
  obtain ⟨h3, h4⟩ := ift h2
  cases h4
  exact ⟨p, rfl, h3⟩
theorem none_of {α : Type} {o : Option α} (h : o.isNone = true) : o = none := Option.isNone_iff_eq_none.mp h
theorem asFrom_eq {e v i : Expr} (h : asFrom e = some (v, i)) : ∃ p q, e = .Subscript v (.Slice (some i) none none q) p := by
  obtain ⟨⟨a, b⟩, h1, h2⟩ := bnd h
  obtain ⟨p, rfl⟩ := rawSub_eq h1
  obtain ⟨⟨l, u, s⟩, h3, h4⟩ := bnd h2
  obtain ⟨q, hb⟩ := rawSlice_eq h3
  obtain ⟨h5, h6⟩ := ift h4
  rw [Bool.and_eq_true] at h5
  obtain ⟨z, h7, h8⟩ := Option.map_eq_some_iff.mp h6
  cases h8
  refine ⟨p, q, ?_⟩
  rw [show b = _ from hb, show u = none from none_of h5.1, show s = none from none_of h5.2, show l = _ from h7]
theorem asTo_eq {e v i : Expr} (h : asTo e = some (v, i)) : ∃ p q, e = .Subscript v (.Slice none (some i) none q) p := by
  obtain ⟨⟨a, b⟩, h1, h2⟩ := bnd h
  obtain ⟨p, rfl⟩ := rawSub_eq h1
  obtain ⟨⟨l, u, s⟩, h3, h4⟩ := bnd h2
  obtain ⟨q, hb⟩ := rawSlice_eq h3
  obtain ⟨h5, h6⟩ := ift h4
  rw [Bool.and_eq_true] at h5
  obtain ⟨z, h7, h8⟩ := Option.map_eq_some_iff.mp h6
  cases h8
  refine ⟨p, q, ?_⟩
  rw [show b = _ from hb, show l = none from none_of h5.1, show s = none from none_of h5.2, show u = _ from h7]
theorem asComp_eq {e el iter : Expr} {x : Str} {conds : List Expr} {sc : Scope} (h : asComp e = some (el, x, iter, conds, sc)) : ∃ p q, e = .ListComp el [⟨.Name x p, iter, conds, 0⟩] sc q := by
  obtain ⟨⟨a, gs, s⟩, h1, h2⟩ := bnd h
  obtain ⟨q, rfl⟩ := rawComp_eq h1
  obtain ⟨⟨tg, it, fs, as⟩, h3, h4⟩ := bnd h2
  obtain ⟨h5, h6⟩ := ift h4
  obtain ⟨n, h7, h8⟩ := Option.map_eq_some_iff.mp h6
  obtain ⟨p, h9⟩ := asName_eq h7
  cases h8
  refine ⟨p, q, ?_⟩
  rw [show gs = _ from one_eq h3, show tg = _ from h9, show as = 0 from beq_iff_eq.mp h5]
theorem oneKw_eq {l : List Keyword} {y : Expr} (h : oneKw l = some y) : ∃ kp, l = [⟨some ("key" : Str), y, kp⟩] := by
  unfold oneKw at h
  split at h
  · split at h
    · rename_i k v kp hk
      cases h
      rw [show k = _ from beq_iff_eq.mp hk]
      exact ⟨kp, rfl⟩
    · cases h
  · cases h
theorem asSorted_eq {e y : Expr} {x z : Str} (h : asSorted e = some (x, y, z)) : ∃ p q r kp, e = .Call (.Name x p) [y] [⟨some ("key" : Str), .Name z r, kp⟩] q := by
  obtain ⟨⟨f, ys, ks, q⟩, h1, h2⟩ := bnd h
  obtain ⟨n, h3, h4⟩ := bnd h2
  obtain ⟨u, h5, h6⟩ := bnd h4
  obtain ⟨k, h7, h8⟩ := bnd h6
  obtain ⟨v, h9, h10⟩ := Option.map_eq_some_iff.mp h8
  cases h10
  obtain ⟨p, h11⟩ := asName_eq h3
  obtain ⟨r, h12⟩ := asName_eq h9
  obtain ⟨kp, h13⟩ := oneKw_eq h7
  refine ⟨p, q, r, kp, ?_⟩
  rw [rawCall_eq h1]
  show Expr.Call f ys ks q = _
  rw [show f = _ from h11, show ys = _ from one_eq h5, show ks = _ from h13, show k = _ from h12]
theorem asMeth_eq {e o y : Expr} {n : Str} (h : asMeth e = some (o, n, y)) : ∃ apos pos, e = .Call (.Attribute o n apos) [y] [] pos ∧ (apos.endLine == pos.line) = true := by
  obtain ⟨⟨f, ys, ks, q⟩, h1, h2⟩ := bnd h
  have := rawCall_eq h1
  subst this
  obtain ⟨h3, h4⟩ := ift h2
  obtain ⟨⟨b, m, ap⟩, h5, h6⟩ := bnd h4
  obtain ⟨h7, h8⟩ := ift h6
  obtain ⟨u, h9, h10⟩ := Option.map_eq_some_iff.mp h8
  cases h10
  refine ⟨ap, q, ?_, h7⟩
  show Expr.Call f ys ks q = _
  rw [show f = _ from rawAttr_eq h5, show ys = _ from one_eq h9, show ks = [] from List.isEmpty_iff.mp h3]

noncomputable def plainI : II → Bool
  | .of _ => true
  | .range1 _ => true
  | .range2 _ _ => true
  | _ => false

noncomputable def isRev : II → Bool
  | .rev _ => true
  | _ => false

noncomputable def chkFrees (cx : Cx) (sc : Scope) : Bool := sc.names.all fun y => !(y.2 == .free) || (List.range 64).any fun i => cx.name i == some y.1

noncomputable def conIs (o : Option Dat) (d : Dat) : Bool := match o with
  | some c => (match c with | .int a => (match d with | .int b => decide (a = b) | _ => false) | .str a => (match d with | .str b => decide (a = b) | _ => false) | _ => false)
  | none => false
theorem conIs_eq {o : Option Dat} {d : Dat} (h : conIs o d = true) : o = some d := by
  cases o with
  | none => exact nof h
  | some c =>
    cases c <;> first | exact nof h | skip
    all_goals cases d <;> first | exact nof h | skip
    all_goals rw [of_decide_eq_true h]
theorem any_ex {α : Type} {o : Option α} {p : α → Bool} (h : o.any p = true) : ∃ c, o = some c ∧ p c = true := by
  cases o with
  | none => exact nof h
  | some c => exact ⟨c, rfl, h⟩
mutual
noncomputable def chkE (cx : Cx) : IE → Expr → Bool
  | .lit d, e => (asConst e).any fun c => chkC c d
  | .con x d, e => (asName e).any fun y => y == Str.ofString x && cx.isGlob y && conIs (cx.con y) d
  | .var i, e => (asName e).any fun x => cx.name i == some x && cx.isVar x && !(x == ("__debug__" : Str))
  | .tup es, e => (asTuple e).any fun xs => chkEs cx es xs && decide (xs.length ≤ 100)
  | .lst es, e => (asList e).any fun xs => chkEs cx es xs && decide (xs.length ≤ 100)
  | .bin op a b, e => (asBin e).any fun (l, o, r) => chkB op o && chkE cx a l && chkE cx b r
  | .neg a, e => (asNeg e).any fun x => chkE cx a x
  | .not a, e => (asNot e).any fun x => chkE cx a x
  | .and es, e => (asAnd e).any fun xs => chkEs cx es xs
  | .or es, e => (asOr e).any fun xs => chkEs cx es xs
  | .cmp a cs, e => (asCmp e).any fun (l, os, rs) => chkE cx a l && chkCs cx cs os rs && !os.isEmpty
  | .call f as, e => (asCall e).any fun (x, xs) => cx.fn f == some x && cx.isGlob x && chkEs cx as xs && (!isSp f || cx.top) && !(x == ("law" : Str))
  | .prim p a, e => (asCall1 e).any fun (x, y) => (primName p).any fun q => q.1 == x && cx.isGlob x && chkE cx a y
  | .prim2 .., _ => false
  | .listOf a, e => (asCall1 e).any fun (x, y) => x == ("list" : Str) && cx.isGlob x && chkE cx a y
  | .listRange .., _ => false
  | .isinst .., _ => false
  | .idx a i, e => (asSub e).any fun (v, sl) => chkE cx a v && chkE cx i sl
  | .slFrom a i, e => (asFrom e).any fun (v, l) => chkE cx a v && chkE cx i l
  | .slTo a i, e => (asTo e).any fun (v, l) => chkE cx a v && chkE cx i l
  | .sorted .., _ => false
  | .comp k it ifs elt, e => (asComp e).any fun (el, x, iter, conds, sc) => plainI it && chkI cx it iter && chkScope x sc cx.scope && chkFrees cx sc && chkEs (cx.inner x k sc) ifs conds && chkE (cx.inner x k sc) elt el
noncomputable def chkEs (cx : Cx) : IEs → List Expr → Bool
  | .nil, [] => true
  | .cons e es, x :: xs => chkE cx e x && chkEs cx es xs
  | .nil, _ :: _ => false
  | .cons _ _, [] => false
noncomputable def chkCs (cx : Cx) : ICs → List CmpOp → List Expr → Bool
  | .nil, [], [] => true
  | .nil, _ :: _, _ => false
  | .nil, [], _ :: _ => false
  | .cons op e cs, o :: os, x :: xs => chkCmp op o && chkE cx e x && chkCs cx cs os xs
  | .cons _ _ _, [], _ => false
  | .cons _ _ _, _ :: _, [] => false
noncomputable def chkI (cx : Cx) : II → Expr → Bool
  | .of e, x => chkE cx e x
  | .range1 a, e => (asCall1 e).any fun (x, y) => x == ("range" : Str) && cx.isGlob x && chkE cx a y
  | .range2 .., _ => false
  | .rev .., _ => false
  | .enum .., _ => false
  | .zip .., _ => false
end

/-! ### statements -/
noncomputable def rawAssign : Stmt → Option (List Expr × Expr)
  | .Assign ts v _ => some (ts, v)
  | _ => none
noncomputable def asExpr : Stmt → Option Expr
  | .Expr v _ => some v
  | _ => none
noncomputable def rawRet : Stmt → Option (Option Expr)
  | .Return v _ => some v
  | _ => none
noncomputable def asIf : Stmt → Option (Expr × List Stmt × List Stmt)
  | .If t a b _ => some (t, a, b)
  | _ => none
noncomputable def rawFor : Stmt → Option (Expr × Expr × List Stmt × List Stmt)
  | .For x it b o _ => some (x, it, b, o)
  | _ => none
noncomputable def rawRaise : Stmt → Option (Option Expr × Option Expr)
  | .Raise e c _ => some (e, c)
  | _ => none
noncomputable def asAssign (st : Stmt) : Option (Str × Expr) := (rawAssign st).bind fun a => (one a.1).bind fun t => (asName t).map fun x => (x, a.2)
/-- the names of the classes -/
noncomputable def cnm : Nat → Option Str
  | 0 => some "WishError"
  | 1 => some "BadGame"
  | 2 => some "BadRow"
  | 3 => some "BadText"
  | _ => none
noncomputable def asRaise (st : Stmt) : Option (Str × Expr) := (rawRaise st).bind fun f => if f.2.isNone then f.1.bind asCall1 else none
noncomputable def asRet (st : Stmt) : Option Expr := (rawRet st).bind id
noncomputable def asFor1 (st : Stmt) : Option (Str × Expr × List Stmt) := (rawFor st).bind fun f => if f.2.2.2.isEmpty then (asName f.1).map fun x => (x, f.2.1, f.2.2.1) else none
noncomputable def asFor2 (st : Stmt) : Option (Str × Str × Expr × List Stmt) := (rawFor st).bind fun f => if f.2.2.2.isEmpty then (asTuple f.1).bind fun l => (two l).bind fun q => (asName q.1).bind fun x => (asName q.2).map fun y => (x, y, f.2.1, f.2.2.1) else none
theorem rawAssign_eq {st : Stmt} {a : List Expr × Expr} (h : rawAssign st = some a) : ∃ q, st = .Assign a.1 a.2 q := by
  cases st <;> first | exact nos h | (cases h; exact ⟨_, rfl⟩)
theorem asExpr_eq {st : Stmt} {v : Expr} (h : asExpr st = some v) : ∃ q, st = .Expr v q := by
  cases st <;> first | exact nos h | (cases h; exact ⟨_, rfl⟩)
theorem rawRet_eq {st : Stmt} {v : Option Expr} (h : rawRet st = some v) : ∃ q, st = .Return v q := by
  cases st <;> first | exact nos h | (cases h; exact ⟨_, rfl⟩)
theorem asIf_eq {st : Stmt} {t : Expr} {a b : List Stmt} (h : asIf st = some (t, a, b)) : ∃ q, st = .If t a b q := by
  cases st <;> first | exact nos h | (cases h; exact ⟨_, rfl⟩)
theorem rawFor_eq {st : Stmt} {f : Expr × Expr × List Stmt × List Stmt} (h : rawFor st = some f) : ∃ q, st = .For f.1 f.2.1 f.2.2.1 f.2.2.2 q := by
  cases st <;> first | exact nos h | (cases h; exact ⟨_, rfl⟩)
theorem asAssign_eq {st : Stmt} {x : Str} {v : Expr} (h : asAssign st = some (x, v)) : ∃ p q, st = .Assign [.Name x p] v q := by
  obtain ⟨⟨ts, w⟩, h1, h2⟩ := bnd h
  obtain ⟨q, rfl⟩ := rawAssign_eq h1
  obtain ⟨t, h3, h4⟩ := bnd h2
  obtain ⟨n, h5, h6⟩ := Option.map_eq_some_iff.mp h4
  obtain ⟨p, h7⟩ := asName_eq h5
  cases h6
  exact ⟨p, q, by rw [show ts = _ from one_eq h3, h7]⟩
theorem rawRaise_eq {st : Stmt} {f : Option Expr × Option Expr} (h : rawRaise st = some f) : ∃ q, st = .Raise f.1 f.2 q := by
  cases st <;> first | exact nos h | (cases h; exact ⟨_, rfl⟩)
theorem asRaise_eq {st : Stmt} {x : Str} {y : Expr} (h : asRaise st = some (x, y)) : ∃ p q r, st = .Raise (some (.Call (.Name x p) [y] [] q)) none r := by
  obtain ⟨⟨e, c⟩, h1, h2⟩ := bnd h
  obtain ⟨r, rfl⟩ := rawRaise_eq h1
  obtain ⟨h3, h4⟩ := ift h2
  obtain ⟨z, h5, h6⟩ := bnd h4
  obtain ⟨p, q, rfl⟩ := asCall1_eq h6
  refine ⟨p, q, r, ?_⟩
  show Stmt.Raise e c r = _
  rw [show e = _ from h5, show c = none from Option.isNone_iff_eq_none.mp h3]
theorem asRet_eq {st : Stmt} {v : Expr} (h : asRet st = some v) : ∃ q, st = .Return (some v) q := by
  obtain ⟨o, h1, h2⟩ := bnd h
  obtain ⟨q, rfl⟩ := rawRet_eq h1
  exact ⟨q, by rw [show o = some v from h2]⟩
theorem asFor1_eq {st : Stmt} {x : Str} {it : Expr} {b : List Stmt} (h : asFor1 st = some (x, it, b)) : ∃ p q, st = .For (.Name x p) it b [] q := by
  obtain ⟨⟨tg, i, bd, el⟩, h1, h2⟩ := bnd h
  obtain ⟨q, rfl⟩ := rawFor_eq h1
  obtain ⟨h3, h4⟩ := ift h2
  obtain ⟨n, h5, h6⟩ := Option.map_eq_some_iff.mp h4
  obtain ⟨p, h7⟩ := asName_eq h5
  cases h6
  exact ⟨p, q, by rw [show tg = _ from h7, show el = [] from List.isEmpty_iff.mp h3]⟩
noncomputable def isEnum : II → Bool
  | .enum _ => true
  | .zip _ _ => true
  | _ => false
mutual
noncomputable def chkS (cx : Cx) : IS → Stmt → Bool
  | .assign i e, st => (asAssign st).any fun (x, v) => cx.name i == some x && cx.isVar x && chkE cx e v
  | .newlst i es, st => (asAssign st).any fun (x, v) => cx.name i == some x && cx.isVar x && ((asList v).any fun xs => chkEs cx es xs && decide (xs.length ≤ 100))
  | .newcopy .., _ => false
  | .append i e, st => (asExpr st).any fun v => (asMeth v).any fun (o, n, y) => n == ("append" : Str) && ((asName o).any fun x => cx.name i == some x && cx.isVar x && !(x == ("__debug__" : Str))) && chkE cx e y
  | .drop e, st => (asExpr st).any fun v => (asCall v).any fun _ => chkE cx e v
  | .ret e, st => (asRet st).any fun v => chkE cx e v
  | .ite c a b, st => (asIf st).any fun (t, x, y) => chkE cx c t && chkSs cx a x && chkSs cx b y
  | .for1 i it body, st => (asFor1 st).any fun (x, iter, b) => cx.name i == some x && cx.isVar x && (plainI it || isRev it) && chkI cx it iter && chkSs cx body b
  | .for2 .., _ => false
  | .while .., _ => false
  | .raise c m, st => (asRaise st).any fun (x, y) => cnm c == some x && cx.isGlob x && chkE cx (.lit (.str m)) y
  | .tryc .., _ => false
  | .any, _ => true
noncomputable def chkSs (cx : Cx) : ISs → List Stmt → Bool
  | .nil, [] => true
  | .cons s ss, x :: xs => chkS cx s x && chkSs cx ss xs
  | .nil, _ :: _ => false
  | .cons _ _, [] => false
end

/-! functions that catch an exception -/
noncomputable def chkA (cx : Cx) (n : Str) : Atom → Expr → Bool
  | .isi c, x => (asCall2 x).any fun (f, y, z) => f == ("isinstance" : Str) && cx.isGlob f && ((asName y).any fun v => v == n) && ((asName z).any fun X => cx.isGlob X && (if c == 9 then X == ("ValueError" : Str) else cnm c == some X))
  | .var i, x => (asName x).any fun y => cx.name i == some y && cx.scope.names.lookup y == some .local && !(y == n) && !(y == ("__debug__" : Str))
noncomputable def chkNA (cx : Cx) (n : Str) (a : Bool × Atom) (x : Expr) : Bool := if a.1 then (asNot x).any fun y => chkA cx n a.2 y else chkA cx n a.2 x
noncomputable def chkAL (cx : Cx) (n : Str) : List (Bool × Atom) → List Expr → Bool
  | [], [] => true
  | a :: l, x :: xs => chkNA cx n a x && chkAL cx n l xs
  | _, _ => false
noncomputable def chkAs (cx : Cx) (n : Str) : List (Bool × Atom) → Expr → Bool
  | [a], x => chkNA cx n a x
  | a :: b :: l, x => (asAnd x).any fun xs => chkAL cx n (a :: b :: l) xs
  | [], _ => false
noncomputable def rawHnd : ExceptHandler → Option (Option Expr × Option Str × List Stmt)
  | .ExceptHandler t n b _ => some (t, n, b)
noncomputable def asHnd (x : ExceptHandler) : Option (Str × Str × Expr) := (rawHnd x).bind fun f => f.1.bind fun t => f.2.1.bind fun n => (one f.2.2).bind fun st => (asName t).bind fun X => (asRet st).map fun v => (X, n, v)
noncomputable def chkH (cx : Cx) (h : Hnd) (x : ExceptHandler) : Bool := (asHnd x).any fun (X, n, v) => cnm h.cls == some X && cx.isGlob X && cx.scope.names.lookup n == some .local && !(n == ("__debug__" : Str)) && chkAs cx n h.atoms v
noncomputable def chkHs (cx : Cx) : List Hnd → List ExceptHandler → Bool
  | [], [] => true
  | h :: hs, x :: xs => chkH cx h x && chkHs cx hs xs
  | _, _ => false
noncomputable def rawTry : Stmt → Option (List Stmt × List ExceptHandler × List Stmt × List Stmt)
  | .Try b h o f _ => some (b, h, o, f)
  | _ => none
noncomputable def chkT (cx : Cx) (f : Nat) (as : IEs) (hs : List Hnd) (x : Stmt) : Bool := (rawTry x).any fun (b, hh, o, fi) => o.isEmpty && fi.isEmpty && ((one b).any fun st => (asExpr st).any fun v => (asCall v).any fun (nm, xs) => cx.fn f == some nm && cx.isGlob nm && chkEs cx as xs && !isSp f && !(nm == ("law" : Str))) && chkHs cx hs hh && !hs.isEmpty
noncomputable def headS : ISs → Option (IS × ISs)
  | .cons s ss => some (s, ss)
  | .nil => none
noncomputable def tryOf : IS → Option (Nat × IEs × List Hnd)
  | .tryc f as hs => some (f, as, hs)
  | _ => none
noncomputable def iteOf : IS → Option (IE × ISs × ISs)
  | .ite c a b => some (c, a, b)
  | _ => none
noncomputable def varOf : IE → Option Nat
  | .var i => some i
  | _ => none
noncomputable def chkT1 (cx : Cx) (ss : ISs) (xs : List Stmt) : Bool := (headS ss).any fun (s, _) => xs.head?.any fun x => (tryOf s).any fun (f, as, hs) => chkT cx f as hs x
noncomputable def chkTB (cx : Cx) (ss : ISs) (xs : List Stmt) : Bool := chkT1 cx ss xs || (headS ss).any fun (s, r) => xs.head?.any fun y => (iteOf s).any fun (c, u, v) => (headS v).isNone && ((varOf c).any fun i => (asIf y).any fun (t, zs, ys) => chkE cx (.var i) t && ys.isEmpty && chkT1 cx u zs) && chkT1 cx r xs.tail

/-- a def stands for an IR function; vars: the names of its places -/
noncomputable def chkFn (f : Nat) (fnm : Nat → Option Str) (con : Str → Option Dat) (vars : List Str) (d : DefRec) (fn : Fn) : Bool :=
  let a := d.params
  a.posonlyargs.isEmpty && a.vararg.isNone && a.kwonlyargs.isEmpty && a.kwarg.isNone && a.defaults.isEmpty && a.kw_defaults.isEmpty &&
  decide (a.args.length = fn.arity) && decide (fn.arity ≤ vars.length) && decide (vars.length ≤ fn.slots) && decide (a.args.map (·.arg) = vars.take fn.arity) && decide vars.Nodup &&
  !d.scope.isCoroutine && !d.scope.isGenerator && d.scope.kind == .function && decide ((d.scope.names.map (·.1)).Nodup) &&
  (vars.all fun x => d.scope.names.lookup x == some .local || d.scope.names.lookup x == some .cell) && (d.scope.names.all fun y => !(y.2 == .cell) || vars.contains y.1) &&
  (if isSp f then chkTB ⟨d.scope, fun i => vars[i]?, fnm, con, false⟩ fn.body d.body else chkSs ⟨d.scope, fun i => vars[i]?, fnm, con, d.name == ("law" : Str)⟩ fn.body d.body)
end Mine

/-! ## MFrame -/
namespace Mine
open PySem PyProof.Rows

structure EnvOk (cx : Cx) (env : Env) : Prop where
  scope : env.scope = cx.scope
  kind : cx.scope.kind = .function
  globals : env.globals = mainGlobals
  builtins : env.builtins = builtinsNs
  apart : env.cells.Pairwise fun x y => x.2 ≠ y.2
  off : ∀ p ∈ env.cells, p.2 ≠ env.locals
  inj : ∀ i j x, cx.name i = some x → cx.name j = some x → i = j

/-- the frame's table and cells hold what the places hold -/
structure FrameOk (cx : Cx) (env : Env) (B : Heap) (π : List Addr) (h : Heap) (ρ : Loc) (σ : Sto) (β : List Addr) : Prop where
  loc : ∃ m, h.Ns env.locals m ∧ ∀ (i : Nat) (x : Str) (v : Val), cx.name i = some x → cx.scope.names.lookup x = some .local → ρ[i]? = some (some v) → ∃ v', m x = some v' ∧ RelV h π β σ v v'
  cell : ∀ (i : Nat) (x : Str), cx.name i = some x → cx.scope.names.lookup x = some .cell → ∃ c o, env.cells.lookup x = some c ∧ h.IsCell c o ∧ ∀ v, ρ[i]? = some (some v) → ∃ v', o = some v' ∧ RelV h π β σ v v'
  off : env.locals ∉ β ∧ B.objs.size ≤ env.locals
  offc : ∀ p ∈ env.cells, B.objs.size ≤ p.2

section
variable {cx : Cx} {env : Env} {B : Heap} {ρ : Loc} {σ σ' : Sto} {π β : List Addr} {s s' : Shared}

theorem cell_not_grow {h : Heap} (S : Sim B π h σ β) {c : Addr} {o : Option Value} (hc : h.IsCell c o) : c ∉ β := by
  intro q
  obtain ⟨k, hk, e⟩ := List.mem_iff_getElem.mp q
  have hk' : k < σ.length := by rw [← S.len]; exact hk
  obtain ⟨vs, ⟨n, hp⟩, _⟩ := S.ent k σ[k] c (List.getElem?_eq_getElem hk') (by rw [List.getElem?_eq_getElem hk, e])
  obtain ⟨ob, ho, hd⟩ := hc
  rw [hp] at ho; cases ho
  cases hd
theorem ns_not_grow {h : Heap} (S : Sim B π h σ β) {c : Addr} {m : Str → Option Value} (hc : h.Ns c m) : c ∉ β := by
  intro q
  obtain ⟨k, hk, e⟩ := List.mem_iff_getElem.mp q
  have hk' : k < σ.length := by rw [← S.len]; exact hk
  obtain ⟨vs, ⟨n, hp⟩, _⟩ := S.ent k σ[k] c (List.getElem?_eq_getElem hk') (by rw [List.getElem?_eq_getElem hk, e])
  obtain ⟨ob, es, ep, ho, hd, _⟩ := hc
  rw [hp] at ho; cases ho
  cases hd

theorem FrameOk.ok (F : FrameOk cx env B π s.heap ρ σ β) (V : EnvOk cx env) (S : Sim B π s.heap σ β) (x : Ok B π env.locals β s s' σ σ') : FrameOk cx env B π s'.heap ρ σ' β where
  loc := by
    obtain ⟨m, hn, hv⟩ := F.loc
    exact ⟨m, x.ns m hn, fun i y v h1 h2 h3 => by obtain ⟨v', e, r⟩ := hv i y v h1 h2 h3; exact ⟨v', e, r.ok x hn⟩⟩
  cell := fun i y h1 h2 => by
    obtain ⟨m, hn, _⟩ := F.loc
    obtain ⟨c, o, hc, hi, hv⟩ := F.cell i y h1 h2
    refine ⟨c, o, hc, ?_, fun v h3 => by obtain ⟨v', e, r⟩ := hv v h3; exact ⟨v', e, r.ok x hn⟩⟩
    obtain ⟨ob, ho, hd⟩ := id hi
    exact ⟨ob, (x.keep c ob ho (fun q => cell_not_grow S hi (growS_sub q)) (V.off _ (mem_of_lookup hc))).cell hd, hd⟩
  off := F.off
  offc := F.offc

/-- loading a name of the frame's -/
theorem load_sound {M : Model} {A : Around} {E : Value → Shared → Prop} {x : Str} {i : Nat} {v : Val} {pos : Pos} {Q : Value → Shared → Prop} (V : EnvOk cx env) (F : FrameOk cx env B π s.heap ρ σ β)
    (hn : cx.name i = some x) (hv : cx.isVar x = true) (hd : (x == ("__debug__" : Str)) = false) (hi : ρ[i]? = some (some v)) (hQ : ∀ v', RelV s.heap π β σ v v' → Q v' s) : wpAny M A (eval (.Name x pos) env) Q E s := by
  have hk : env.scope.kind = .function := V.scope ▸ V.kind
  simp only [Cx.isVar, Bool.or_eq_true, beq_iff_eq] at hv
  refine wpAny_Name ?_ hd
  rcases hv with hv | hv
  · obtain ⟨m, hm, hl⟩ := F.loc
    obtain ⟨v', e, r⟩ := hl i x v hn hv hi
    exact wpAny_loadName_local hk (by show env.scope.names.lookup x = _; rw [V.scope]; exact hv) hm e (hQ v' r)
  · obtain ⟨c, o, hc, hi', hl⟩ := F.cell i x hn hv
    obtain ⟨v', e, r⟩ := hl v hi
    exact wpAny_loadName_cell hk (by show env.scope.names.lookup x = _; rw [V.scope]; exact hv) hc (e ▸ hi') (hQ v' r)

/-- the frame's own objects -/
noncomputable def own (env : Env) : List Addr := env.locals :: env.cells.map (·.2)

theorem Ok.alive {L : Addr} {m : Str → Option Value} (x : Ok B π L β s s' σ σ') (S : Sim B π s.heap σ β) (hL : s.heap.Ns L m) (a : Addr) (h : (s.heap.get? a).isSome = true) : (s'.heap.get? a).isSome = true := by
  obtain ⟨o, ho⟩ := Option.isSome_iff_exists.mp h
  by_cases hg : a ∈ β
  · obtain ⟨k, hk, e'⟩ := List.mem_iff_getElem.mp hg
    have hk' : k < σ'.length := by rw [← x.sim.len]; exact hk
    obtain ⟨vs, ⟨n, hp⟩, _⟩ := x.sim.ent k σ'[k] a (List.getElem?_eq_getElem hk') (by rw [List.getElem?_eq_getElem hk, e'])
    rw [hp]; rfl
  · by_cases hl : a = L
    · subst hl
      obtain ⟨o', _, _, ho', _⟩ := x.ns m hL
      rw [ho']; rfl
    · exact (x.keep a o ho (fun q => hg (growS_sub q)) hl).is

/-- from s to s' statements of a frame were run -/
structure SOk (B : Heap) (π : List Addr) (env : Env) (s s' : Shared) (σ σ' : Sto) (β β' : List Addr) : Prop where
  sh : ∃ h' tk, s' = { s with heap := h', toks := tk }
  sim : Sim B π s'.heap σ' β'
  keep : ∀ b o, s.heap.get? b = some o → b ∉ growS σ β → b ∉ own env → Kept s'.heap b o
  mon : ∀ a, a ∈ growS σ' β' → a ∈ growS σ β ∨ s.heap.get? a = none
  ext : ∃ β₂, β' = β ++ β₂ ∧ ∀ a ∈ β₂, s.heap.get? a = none
  alive : ∀ a, (s.heap.get? a).isSome = true → (s'.heap.get? a).isSome = true

theorem SOk.refl (S : Sim B π s.heap σ β) : SOk B π env s s σ σ β β := ⟨⟨s.heap, s.toks, rfl⟩, S, fun _ _ e _ _ => .of e, fun _ q => .inl q, ⟨[], by simp, fun _ h => nomatch h⟩, fun _ h => h⟩
theorem dead_of {h h' : Heap} (al : ∀ a, (h.get? a).isSome = true → (h'.get? a).isSome = true) {a : Addr} (e : h'.get? a = none) : h.get? a = none := by
  cases q : h.get? a with
  | none => rfl
  | some o => have := al a (by rw [q]; rfl); rw [e] at this; cases this
theorem SOk.trans {s₁ s₂ : Shared} {σ₁ σ₂ : Sto} {β₁ β₂ : List Addr} (x : SOk B π env s s₁ σ σ₁ β β₁) (y : SOk B π env s₁ s₂ σ₁ σ₂ β₁ β₂) : SOk B π env s s₂ σ σ₂ β β₂ where
  sh := by obtain ⟨h1, t1, rfl⟩ := x.sh; obtain ⟨h2, t2, rfl⟩ := y.sh; exact ⟨h2, t2, rfl⟩
  sim := y.sim
  keep := fun b o e hb hL => (x.keep b o e hb hL).step fun o' e' => y.keep b o' e' (fun q => by rcases x.mon b q with h | h; exact hb h; rw [e] at h; cases h) hL
  mon := fun a q => by
    rcases y.mon a q with h | h
    · exact x.mon a h
    · exact .inr (dead_of x.alive h)
  ext := by
    obtain ⟨b1, rfl, f1⟩ := x.ext
    obtain ⟨b2, rfl, f2⟩ := y.ext
    refine ⟨b1 ++ b2, by simp, fun a ha => ?_⟩
    rcases List.mem_append.mp ha with h | h
    · exact f1 a h
    · exact dead_of x.alive (f2 a h)
  alive := fun a h => y.alive a (x.alive a h)

theorem Ok.toS {m : Str → Option Value} (x : Ok B π env.locals β s s' σ σ') (S : Sim B π s.heap σ β) (hL : s.heap.Ns env.locals m) : SOk B π env s s' σ σ' β β where
  sh := x.sh
  sim := x.sim
  keep := fun b o e hb ho => x.keep b o e hb fun q => ho (by rw [q]; exact List.mem_cons_self)
  mon := fun a q => .inl (x.mon a q)
  ext := ⟨[], by simp, fun _ h => nomatch h⟩
  alive := x.alive S hL

theorem own_not_seq {c : Addr} {h : Heap} (F : FrameOk cx env B π h ρ σ β) (V : EnvOk cx env) (hc : h.IsCell c none ∨ ∃ v, h.IsCell c (some v) ∨ ∃ m, h.Ns c m) {o : Obj} {xs : Array Value} {n : Nat} (ho : h.get? c = some o) (hd : o.data = .seq xs n) : False := by
  rcases hc with ⟨o', h1, h2⟩ | ⟨v, ⟨o', h1, h2⟩ | ⟨m, o', es, ep, h1, h2, _⟩⟩
  all_goals (rw [ho] at h1; cases h1; rw [hd] at h2; cases h2)

/-- storing a name of the frame's -/
theorem store_sound {M : Model} {A : Around} {E : Value → Shared → Prop} {x : Str} {i : Nat} {v : Val} {v' : Value} {Q : Unit → Shared → Prop} (V : EnvOk cx env) (F : FrameOk cx env B π s.heap ρ σ β) (S : Sim B π s.heap σ β)
    (hn : cx.name i = some x) (hv : cx.isVar x = true) (r : RelV s.heap π β σ v v')
    (hQ : ∀ s', FrameOk cx env B π s'.heap (ρ.set i (some v)) σ β → SOk B π env s s' σ σ β β → (∀ w w', RelV s.heap π β σ w w' → RelV s'.heap π β σ w w') → Q () s') : wpAny M A (storeName env x v') Q E s := by
  have hk : env.scope.kind = .function := V.scope ▸ V.kind
  simp only [Cx.isVar, Bool.or_eq_true, beq_iff_eq] at hv
  obtain ⟨m, hm, hl⟩ := F.loc
  rcases hv with hv | hv
  · refine wpAny_storeName_local (by show env.scope.names.lookup x = _; rw [V.scope]; exact hv) hm (fun h' hn' hs' => ?_) (by rw [hk]; rfl)
    have sk : SeqKeep (grow π σ β) (grow π σ β) s.heap h' := fun a o xs n ho hd ha => ⟨ha, by
      rw [hs'.2 a (by rintro rfl; obtain ⟨o', es, ep, ho', hd', _⟩ := hm; rw [ho] at ho'; cases ho'; rw [hd] at hd'; cases hd')]; exact ho⟩
    have hrel : ∀ w w', RelV s.heap π β σ w w' → RelV h' π β σ w w' := fun w w' q => by
      cases w with
      | dat d => exact Rep.mono sk q
      | ref k => exact q
      | exc c => exact q
    have S' : Sim B π h' σ β := by
      refine ⟨S.len, S.nodup, fun b o e => ?_, S.new, fun k e a h1 h2 => ?_, fun a ha => ⟨?_, (S.priv a ha).2⟩⟩
      · rw [hs'.2 b (fun q => Nat.lt_irrefl _ (Nat.lt_of_lt_of_le (Heap.lt_size (q ▸ e)) F.off.2))]; exact S.base b o e
      · obtain ⟨vs, hp, hr⟩ := S.ent k e a h1 h2
        exact ⟨vs, hp.at fun o e => by rw [hs'.2 a (fun q => F.off.1 (q ▸ List.mem_of_getElem? h2))]; exact e, Reps.mono sk hr⟩
      · by_cases hl' : a = env.locals
        · subst hl'; obtain ⟨o', _, _, ho', _⟩ := hn'; rw [ho']; rfl
        · rw [hs'.2 a hl']; exact (S.priv a ha).1
    refine hQ _ ⟨⟨_, hn', fun j y w h1 h2 h3 => ?_⟩, fun j y h1 h2 => ?_, F.off, F.offc⟩ ⟨⟨_, _, rfl⟩, S', fun b o e hb ho => ?_, fun a q => .inl q, ⟨[], by simp, fun _ h => nomatch h⟩, fun a h => ?_⟩ hrel
    · by_cases hj : i = j
      · subst hj
        rw [hn] at h1; cases h1
        rw [List.getElem?_set_self'] at h3
        cases hq : ρ[i]? with
        | none => rw [hq] at h3; cases h3
        | some z => rw [hq] at h3; simp at h3; subst h3; exact ⟨v', by simp, hrel _ _ r⟩
      · rw [List.getElem?_set_ne hj] at h3
        have hxy : y ≠ x := fun q => hj (V.inj i j x hn (q ▸ h1))
        obtain ⟨w', e, rw'⟩ := hl j y w h1 h2 h3
        exact ⟨w', by simp [hxy, e], hrel _ _ rw'⟩
    · obtain ⟨c, o, hc, hi, hw⟩ := F.cell j y h1 h2
      have hcl := V.off _ (mem_of_lookup hc)
      refine ⟨c, o, hc, hi.sameBut hs' hcl, fun w h3 => ?_⟩
      have hj : i ≠ j := by rintro rfl; rw [hn] at h1; cases h1; rw [hv] at h2; cases h2
      rw [List.getElem?_set_ne hj] at h3
      obtain ⟨w', e, rw'⟩ := hw w h3
      exact ⟨w', e, hrel _ _ rw'⟩
    · refine .of ?_
      show h'.get? b = some o
      rw [hs'.2 b (fun q => ho (by rw [q]; exact List.mem_cons_self))]; exact e
    · show (h'.get? a).isSome = true
      by_cases hl' : a = env.locals
      · subst hl'; obtain ⟨o', _, _, ho', _⟩ := hn'; rw [ho']; rfl
      · rw [hs'.2 a hl']; exact h
  · obtain ⟨c, o, hc, hi, hw⟩ := F.cell i x hn hv
    have hcl := V.off _ (mem_of_lookup hc)
    refine wpAny_storeName_cell hk (by show env.scope.names.lookup x = _; rw [V.scope]; exact hv) hc hi fun h' hc' hs' => ?_
    have hcβ := cell_not_grow S hi
    have sk : SeqKeep (grow π σ β) (grow π σ β) s.heap h' := fun a o xs n ho hd ha => ⟨ha, by
      rw [hs'.2 a (by rintro rfl; obtain ⟨o', ho', hd'⟩ := hi; rw [ho] at ho'; cases ho'; rw [hd] at hd'; cases hd')]; exact ho⟩
    have hrel : ∀ w w', RelV s.heap π β σ w w' → RelV h' π β σ w w' := fun w w' q => by
      cases w with
      | dat d => exact Rep.mono sk q
      | ref k => exact q
      | exc c => exact q
    have S' : Sim B π h' σ β := by
      refine ⟨S.len, S.nodup, fun b o e => ?_, S.new, fun k e a h1 h2 => ?_, fun a ha => ⟨?_, (S.priv a ha).2⟩⟩
      · rw [hs'.2 b (fun q => Nat.lt_irrefl _ (Nat.lt_of_lt_of_le (Heap.lt_size (q ▸ e)) (F.offc _ (mem_of_lookup hc))))]; exact S.base b o e
      · obtain ⟨vs, hp, hr⟩ := S.ent k e a h1 h2
        exact ⟨vs, hp.at fun o e => by rw [hs'.2 a (fun q => hcβ (q ▸ List.mem_of_getElem? h2))]; exact e, Reps.mono sk hr⟩
      · by_cases hl' : a = c
        · subst hl'; obtain ⟨o', ho', _⟩ := hc'; rw [ho']; rfl
        · rw [hs'.2 a hl']; exact (S.priv a ha).1
    refine hQ _ ⟨⟨m, hm.sameBut hs' (Ne.symm hcl), fun j y w h1 h2 h3 => ?_⟩, fun j y h1 h2 => ?_, F.off, F.offc⟩ ⟨⟨_, _, rfl⟩, S', fun b o e hb ho => ?_, fun a q => .inl q, ⟨[], by simp, fun _ h => nomatch h⟩, fun a h => ?_⟩ hrel
    · have hj : i ≠ j := by rintro rfl; rw [hn] at h1; cases h1; rw [hv] at h2; cases h2
      rw [List.getElem?_set_ne hj] at h3
      obtain ⟨w', e, rw'⟩ := hl j y w h1 h2 h3
      exact ⟨w', e, hrel _ _ rw'⟩
    · by_cases hj : i = j
      · subst hj
        rw [hn] at h1; cases h1
        refine ⟨c, some v', hc, hc', fun w h3 => ?_⟩
        rw [List.getElem?_set_self'] at h3
        cases hq : ρ[i]? with
        | none => rw [hq] at h3; cases h3
        | some z => rw [hq] at h3; simp at h3; subst h3; exact ⟨v', rfl, hrel _ _ r⟩
      · obtain ⟨c2, o2, hc2, hi2, hw2⟩ := F.cell j y h1 h2
        have hne : c2 ≠ c := fun q => hj (V.inj i j x hn (by rw [name_of_addr V.apart (mem_of_lookup hc) (q ▸ mem_of_lookup hc2)]; exact h1))
        refine ⟨c2, o2, hc2, hi2.sameBut hs' hne, fun w h3 => ?_⟩
        rw [List.getElem?_set_ne hj] at h3
        obtain ⟨w', e, rw'⟩ := hw2 w h3
        exact ⟨w', e, hrel _ _ rw'⟩
    · refine .of ?_
      show h'.get? b = some o
      rw [hs'.2 b (fun q => ho (by rw [q]; exact List.mem_cons_of_mem _ (List.mem_map.mpr ⟨_, mem_of_lookup hc, rfl⟩)))]; exact e
    · show (h'.get? a).isSome = true
      by_cases hl' : a = c
      · subst hl'; obtain ⟨o', ho', _⟩ := hc'; rw [ho']; rfl
      · rw [hs'.2 a hl']; exact h
end

/-! ## what stands at the top -/
structure Wd (prog : Program) (w : World) (B : Heap) (Δ : Nat → Option Fn) (fnm : Nat → Option Str) (con : Str → Option Dat) (mg mb : Str → Option Value) : Prop where
  g : B.Ns mainGlobals mg
  b : B.Ns builtinsNs mb
  nolimit : B.NoLimit
  bi : ∀ x v, (x, v) ∈ bis → mg x = none ∧ mb x = some v
  fn : ∀ f x, fnm f = some x → ∃ fn vars d a o pm code doc, Δ f = some fn ∧ mg x = some (.ref a) ∧ B.get? a = some o ∧ o.data = .func (Calls.docDef d.name d.params d.body d.scope pm code doc) ∧ B.CodeRec code d.name ∧ chkFn f fnm con vars d fn = true ∧ d.name = x
  con : ∀ x d, con x = some d → ∃ v, mg x = some v ∧ ∀ h γ, Rep h γ d v

section
variable {cx : Cx} {env : Env} {B : Heap} {ρ : Loc} {σ σ' : Sto} {π β : List Addr} {s s' : Shared} {prog : Program} {w : World} {Δ : Nat → Option Fn} {mg mb : Str → Option Value}
  {M : Model} {A : Around} {E : Value → Shared → Prop}

theorem glob_sound {x : Str} {pos : Pos} {v : Value} {Q : Value → Shared → Prop} (W : Wd prog w B Δ cx.fn cx.con mg mb) (V : EnvOk cx env) (S : Sim B π s.heap σ β) (hx : cx.isGlob x = true) (hv : mg x = some v) (h : Q v s) :
    wpAny M A (eval (.Name x pos) env) Q E s := by
  simp only [Cx.isGlob, Bool.and_eq_true, beq_iff_eq, Bool.not_eq_true'] at hx
  refine Calls.Name_function_global (V.scope ▸ V.kind) (by show env.scope.names.lookup x = _; rw [V.scope]; exact hx.1) ?_ hx.2
  exact Calls.loadGlobal_global (by rw [V.globals]; exact W.g.keeps S.base) hv h
theorem bi_sound {x : Str} {pos : Pos} {v : Value} {Q : Value → Shared → Prop} (W : Wd prog w B Δ cx.fn cx.con mg mb) (V : EnvOk cx env) (S : Sim B π s.heap σ β) (hx : cx.isGlob x = true) (hv : (x, v) ∈ bis) (h : Q v s) :
    wpAny M A (eval (.Name x pos) env) Q E s := by
  simp only [Cx.isGlob, Bool.and_eq_true, beq_iff_eq, Bool.not_eq_true'] at hx
  refine Calls.Name_function_global (V.scope ▸ V.kind) (by show env.scope.names.lookup x = _; rw [V.scope]; exact hx.1) ?_ hx.2
  have hb := W.bi x v hv
  exact Calls.loadGlobal_builtin (by rw [V.globals]; exact W.g.keeps S.base) hb.1 (by rw [V.builtins]; exact W.b.keeps S.base) hb.2 h
end
end Mine

/-! ## MRev -/
namespace Mine
open PySem PyProof.Rows

theorem slot_rev_init : Slot "reversed" "__init__" "object.__init__" :=
  .of (owner := "object") (n := "__init__") (by rw [typeLookup_type, builtinLookup_eq_fast]; kernel_rfl) (by decide +kernel) (by decide +kernel) (by decide +kernel)
    (by first | exact .inl (by decide +kernel) | exact .inr (by decide +kernel)) (by rw [isSubtype_type]; kernel_rfl)
theorem called_rev : TypeCalled "reversed" "reversed.__new__" "object.__init__" :=
  ⟨by decide +kernel, F.create_reversed, ⟨_, _, F.mro_reversed⟩, F.made_reversed, F.plain_reversed_new, F.sub_reversed_self, slot_rev_init⟩
theorem owner_rev : Manifest.owners.lookup (String.ofList ['d', 'e', 's', 'r', 'e', 'v', 'e', 'r'].reverse) = some Manifest.sig_reversed := by kernel_rfl
theorem slot_rev_next : Slot "reversed" "__next__" "reversed.__next__" :=
  .of (owner := "reversed") (n := "__next__") (by rw [typeLookup_type, builtinLookup_eq_fast]; kernel_rfl) (by decide +kernel) (by decide +kernel) (by decide +kernel)
    (by first | exact .inl (by decide +kernel) | exact .inr (by decide +kernel)) (by rw [isSubtype_type]; kernel_rfl)
theorem entry_rev_next : entryFor table "reversed.__next__" = some Builtin.«reversed.__next__» := entryFor_of_tree (by kernel_rfl)
theorem args_rev_next (a : Value) : argsOk "reversed.__next__" ⟨[a], []⟩ := by
  unfold argsOk; rw [signature?_of (id := "reversed.__next__") (n := ['_', '_', 't', 'x', 'e', 'n', '_', '_']) (o := ['d', 'e', 's', 'r', 'e', 'v', 'e', 'r']) (by kernel_rfl) owner_rev]; kernel_rfl
theorem slot_rev_iter : Slot "reversed" "__iter__" "reversed.__iter__" :=
  .of (owner := "reversed") (n := "__iter__") (by rw [typeLookup_type, builtinLookup_eq_fast]; kernel_rfl) (by decide +kernel) (by decide +kernel) (by decide +kernel)
    (by first | exact .inl (by decide +kernel) | exact .inr (by decide +kernel)) (by rw [isSubtype_type]; kernel_rfl)
theorem args_rev_iter (a : Value) : argsOk "reversed.__iter__" ⟨[a], []⟩ := by
  unfold argsOk; rw [signature?_of (id := "reversed.__iter__") (n := ['_', '_', 'r', 'e', 't', 'i', '_', '_']) (o := ['d', 'e', 's', 'r', 'e', 'v', 'e', 'r']) (by kernel_rfl) owner_rev]; kernel_rfl
theorem entry_rev_iter : entryFor table "reversed.__iter__" = some Builtin.«dict_keyiterator.__iter__» :=
  entryFor_alias (id' := "dict_keyiterator.__iter__") (by kernel_rfl) (by first | rfl | decide +kernel | (unfold String.splitOn; simp +decide [String.splitOnAux])) (by decide +kernel) (by kernel_rfl)
theorem str_no_rev : typeLookup (.type "str") "__reversed__" = pure none := by rw [typeLookup_type, builtinLookup_eq_fast]; kernel_rfl
theorem str_no_dict : isSubtype (.type "str") (.type "dict") = pure false := by rw [isSubtype_type]; kernel_rfl

noncomputable def IsRevS (h : Heap) (a : Addr) (x : Str) (t : Tok) (i : Int) : Prop := ∃ o, h.get? a = some o ∧ o.cls = .type "reversed" ∧ o.data = .fields #[.str x t, rawInt i]
theorem IsRevS.typeIs {s : Shared} {a : Addr} {x : Str} {t : Tok} {i : Int} (q : IsRevS s.heap a x t i) : s.TypeIs (.ref a) "reversed" := let ⟨o, ho, hc, _⟩ := q; ⟨o, ho, hc⟩

section
variable {prog : Program} {w : World} {A : Around} {E : Value → Shared → Prop} {s : Shared}

theorem meets_rev_new (x : Str) (t : Tok) (hx : x.length ≤ 1000000) : Meets (Builtin.«reversed.__new__» ⟨[.type "reversed", .str x t], []⟩) (fun _ R s => ∀ tk, R (.ok (.ret (Value.ref s.heap.objs.size))) { s with heap := s.heap.push { cls := Value.type "reversed", data := Data.fields #[.str x t, rawInt ((x.length : Int) - 1)] }, toks := tk }) :=
  .of_wp fun prog w A R s h => by
    unfold Builtin.«reversed.__new__»
    refine wpAny_bind (wpAny_of_eq (newClass_reversed _) ?_)
    try dsimp only
    refine wpAny_bind (wpAny_of_eq (a := ()) (by first | rfl | kernel_rfl) ?_)
    refine wpAny_bind (wpAny_of_eq (a := ()) (by first | rfl | kernel_rfl) ?_)
    try dsimp only
    refine wpAny_bind (wpAny_specialOf (typeIs_str s x t) str_no_rev ?_)
    try dsimp only
    refine wpAny_bind (wpAny_bind (wpAny_isInstance (T := "str") (b := false) (typeIs_str s x t) str_no_dict ?_))
    try dsimp only
    refine wpAny_bind (wpAny_specialOf (typeIs_str s x t) F.slot_str_getitem.lookup ?_)
    try dsimp only
    rw [if_pos (by decide)]
    refine wpAny_pure ?_
    try dsimp only
    rw [if_neg (by decide)]
    refine wpAny_bind (PyProof.Rows.len_str (by omega) ?_)
    refine wpAny_bind (wpAny_pure ?_)
    try dsimp only
    unfold Builtin.SmallTypes.newRecord
    refine wpAny_bind (wpAny_newObj_type ?_ (by size_fits))
    exact wpAny_pure ⟨_, rfl, h _⟩

theorem call_reversed_str {x : Str} {t : Tok} {Q : Value → Shared → Prop} (hx : x.length ≤ 1000000)
    (h : ∀ tk, Q (.ref s.heap.objs.size) { s with heap := s.heap.push { cls := Value.type "reversed", data := Data.fields #[.str x t, rawInt ((x.length : Int) - 1)] }, toks := tk }) :
    wpAny (model prog w) A (call (.type "reversed") [.str x t]) Q E s :=
  callType_new called_rev (by decide) (F.typeCall_reversed_1 _) (F.newCall_reversed_1 _) (fun obj => F.args_object_init_2 obj _) F.entry_reversed_new (meets_rev_new x t hx)
    fun tk => ⟨⟨_, Heap.get?_push_size _ rfl, rfl⟩, h tk⟩

theorem pyIter_revS {it : Addr} {x : Str} {t : Tok} {i : Int} {Q : Value → Shared → Prop} (hit : IsRevS s.heap it x t i) (h : Q (.ref it) s) : wpAny (model prog w) A (pyIter (.ref it)) Q E s := by
  refine wpAny_pyIter_slot hit.typeIs slot_rev_iter (wpAny_call_entry slot_rev_iter hit.typeIs entry_rev_iter ?_ (args_rev_iter _))
  show wpAny _ _ (ret (.ref it)) _ _ s
  exact wpAny_pure ⟨_, rfl, "reversed", _, hit.typeIs, slot_rev_next.lookup, h⟩

theorem pyNext_revS_item {it : Addr} {x : Str} {t : Tok} {i : Nat} {c : Nat} {Q : Option Value → Shared → Prop} (hit : IsRevS s.heap it x t i) (hx : x.length ≤ 1000000) (hc : x.cps[i]? = some c)
    (hQ : ∀ h' t' tk, IsRevS h' it x t ((i : Int) - 1) → Heap.SameBut it s.heap h' → Q (some (.str ⟨#[c]⟩ t')) { s with heap := h', toks := tk }) : wpAny (model prog w) A (pyNext (.ref it)) Q E s := by
  obtain ⟨o, ho, hcl, hd⟩ := id hit
  unfold pyNext
  refine wpAny_bind (wpAny_attempt (wpAny_callSpecial?_slot (name := Str.ofString "__next__") hit.typeIs slot_rev_next
    (wpAny_call_entry slot_rev_next hit.typeIs entry_rev_next ?_ (args_rev_next _))))
  unfold Builtin.«reversed.__next__»
  refine wpAny_bind (wpAny_of_eq (a := (Value.ref it, [])) rfl ?_)
  try dsimp only
  refine wpAny_bind (wpAny_field ho hd (x := .str x t) rfl ?_)
  refine wpAny_bind (wpAny_field ho hd (x := rawInt (i : Int)) rfl ?_)
  show wpAny _ _ (if (i : Int) < 0 then _ else _) _ _ s
  rw [if_neg (by omega)]
  refine wpAny_bind (wpAny_specialOf (typeIs_str s x t) F.slot_str_getitem.lookup ?_)
  try dsimp only
  rw [if_neg (by decide)]
  refine wpAny_bind (wpAny_mkInt ?_)
  refine wpAny_bind (wpAny_attempt ?_)
  have hlt : i < x.length := by
    have := (Array.getElem?_eq_some_iff.mp hc).1
    exact this
  refine PyProof.Rows.getItem_str (c := c) (by simp; omega) ?_ ?_
  · have h1 : ¬ ((i : Int) < 0) := by omega
    have h2 : (i : Int) < (x.length : Int) := by omega
    simp [seqIndex?, h1, hlt, hc]
  · try dsimp only
    refine wpAny_bind (wpAny_field ho hd (x := rawInt (i : Int)) rfl ?_)
    try dsimp only
    refine wpAny_bind (wpAny_setField ho hd (by simp) ?_)
    first
    | refine wpAny_pure ⟨_, rfl, wpAny_pure (hQ _ _ _ ?_ (Heap.SameBut.update ..))⟩
    | refine wpAny_bind (wpAny_pure (wpAny_pure ⟨_, rfl, wpAny_pure (hQ _ _ _ ?_ (Heap.SameBut.update ..))⟩))
    exact ⟨_, Heap.get?_update_self _ ho (Obj.isFreed_of_fields (Obj.data_mapFields hd _)), (Obj.cls_mapFields ..).trans hcl, by
      rw [Obj.data_mapFields hd]; simp⟩

theorem pyNext_revS_end {it : Addr} {x : Str} {t : Tok} {Q : Option Value → Shared → Prop} (hh : A.handled = none) (hit : IsRevS s.heap it x t (-1))
    (hQ : ∀ h', Heap.ExtBut it s.heap h' → Q none { s with heap := h' }) : wpAny (model prog w) A (pyNext (.ref it)) Q E s := by
  obtain ⟨o, ho, hcl, hd⟩ := id hit
  unfold pyNext
  refine wpAny_bind (wpAny_attempt (wpAny_callSpecial?_slot (name := Str.ofString "__next__") hit.typeIs slot_rev_next
    (wpAny_call_entry slot_rev_next hit.typeIs entry_rev_next ?_ (args_rev_next _))))
  unfold Builtin.«reversed.__next__»
  refine wpAny_bind (wpAny_of_eq (a := (Value.ref it, [])) rfl ?_)
  try dsimp only
  refine wpAny_bind (wpAny_field ho hd (x := .str x t) rfl ?_)
  refine wpAny_bind (wpAny_field ho hd (x := rawInt (-1)) rfl ?_)
  show wpAny _ _ (if (-1 : Int) < 0 then _ else _) _ _ s
  rw [if_pos (by decide)]
  refine wpAny_bind (wpAny_rule ?_)
  refine wpAny_bind (wpAny_bind (wpAny_setField ho hd (by simp) ?_))
  have hfr := Heap.get?_update_self (h := s.heap) (a := it) (fun o => o.mapFields fun vs => vs.setIfInBounds 1 (rawInt (-1))) ho (Obj.isFreed_of_fields (Obj.data_mapFields hd _))
  refine wpAny_setField hfr (Obj.data_mapFields hd _) (by simp) ?_
  refine wpAny_bind ?_
  first
  | show wpAny _ _ (newExc (.type "StopIteration") [] >>= _) _ _ _
  | (refine wpAny_bind ?_; show wpAny _ _ (newExc (.type "StopIteration") [] >>= _) _ _ _)
  refine wpAny_bind ?_
  simp only [newExc, newTuple]
  refine wpAny_bind (wpAny_newObj_type ?_ (by size_fits))
  refine wpAny_bind (m := firstArgMember _ _) (wpAny_of_eq (a := Value.none) (by first | rfl | (simp only [firstArgMember]; rfl)) ?_)
  refine wpAny_newObj_type ?_ (by size_fits)
  simp only [raiseNew]
  refine wpAny_bind (wpAny_handled ?_)
  first | rw [show A.in1.handled = none from hh] | rw [hh]
  refine wpAny_bind (wpAny_pure (wpAny_throw ?_))
  refine wpAny_bind (wpAny_isInstance (T := "StopIteration") (b := true) ⟨_, Heap.get?_push_size _ rfl, rfl⟩ isSubtype_stop ?_)
  refine wpAny_pure (hQ _ (((Heap.SameBut.extBut ?_).push _).push _))
  exact (Heap.SameBut.update ..).trans (Heap.SameBut.update ..)
end
end Mine

/-! ## MIter -/
namespace Mine
open PySem PyProof.Rows

/-- the kinds of iterators over one object -/
inductive Kd where
  | list (a : Addr)
  | tuple (a : Addr)
  | ascii (x : List Nat) (t : Tok)
  | wide (x : List Nat) (t : Tok)
  | range (a : Int) (n : Nat)
  | rev (x : List Nat) (t : Tok)

noncomputable def Kd.St (h : Heap) (I : Addr) : Kd → Nat → Prop
  | .list a, i => h.IsListIter I a i
  | .tuple a, i => h.IsTupleIter I a i
  | .ascii x t, i => h.IsStrIter I "str_ascii_iterator" ⟨x.toArray⟩ t i
  | .wide x t, i => h.IsStrIter I "str_iterator" ⟨x.toArray⟩ t i
  | .range a n, i => IsRangeIter h I (a + i) ((n : Int) - i) 1
  | .rev x t, i => IsRevS h I ⟨x.toArray⟩ t ((x.length : Int) - 1 - i)

noncomputable def Kd.Is (h : Heap) (π β : List Addr) (σ : Sto) (src : Src) : Kd → Prop
  | .list a => (src.held = none ∧ Rep h (grow π σ β) (.lst src.items) (.ref a)) ∨ ∃ k, src.held = some k ∧ β[k]? = some a
  | .tuple a => src.held = none ∧ Rep h (grow π σ β) (.tup src.items) (.ref a)
  | .ascii x _ => src = ⟨x.map fun c => .str [c], none⟩
  | .wide x _ => src = ⟨x.map fun c => .str [c], none⟩
  | .range a n => src = ⟨rangeD a (a + n), none⟩
  | .rev x _ => src = ⟨(x.map fun c => .str [c]).reverse, none⟩ ∧ x.length ≤ 1000000

theorem Kd.St.fields {h : Heap} {I : Addr} {K : Kd} {i : Nat} (x : K.St h I i) : ∃ o vs, h.get? I = some o ∧ o.data = .fields vs := by
  cases K with
  | list a => obtain ⟨o, ho, _, hd⟩ := x; exact ⟨o, _, ho, hd⟩
  | tuple a => obtain ⟨o, ho, _, hd⟩ := x; exact ⟨o, _, ho, hd⟩
  | ascii x t => obtain ⟨o, ho, _, hd⟩ := x; exact ⟨o, _, ho, hd⟩
  | wide x t => obtain ⟨o, ho, _, hd⟩ := x; exact ⟨o, _, ho, hd⟩
  | range a n => exact ⟨_, _, x, rfl⟩
  | rev x t => obtain ⟨o, ho, _, hd⟩ := x; exact ⟨o, _, ho, hd⟩
theorem Kd.St.at {h h' : Heap} {I : Addr} {K : Kd} {i : Nat} (x : K.St h I i) (hk : ∀ o, h.get? I = some o → h'.get? I = some o) : K.St h' I i := by
  cases K with
  | list a => obtain ⟨o, ho, r⟩ := x; exact ⟨o, hk o ho, r⟩
  | tuple a => obtain ⟨o, ho, r⟩ := x; exact ⟨o, hk o ho, r⟩
  | ascii x t => obtain ⟨o, ho, r⟩ := x; exact ⟨o, hk o ho, r⟩
  | wide x t => obtain ⟨o, ho, r⟩ := x; exact ⟨o, hk o ho, r⟩
  | range a n => exact hk _ x
  | rev x t => obtain ⟨o, ho, r⟩ := x; exact ⟨o, hk o ho, r⟩
theorem Kd.Is.mono {h h' : Heap} {π β : List Addr} {β₂ : List Addr} {σ σ' : Sto} {src : Src} {K : Kd} (x : K.Is h π β σ src) (hk : SeqKeep (grow π σ β) (grow π σ' (β ++ β₂)) h h') : K.Is h' π (β ++ β₂) σ' src := by
  cases K with
  | list a =>
    rcases x with ⟨h1, h2⟩ | ⟨k, h1, h2⟩
    · exact .inl ⟨h1, Rep.mono hk h2⟩
    · exact .inr ⟨k, h1, by rw [List.getElem?_append_left (List.getElem?_eq_some_iff.mp h2).1]; exact h2⟩
  | tuple a => exact ⟨x.1, Rep.mono hk x.2⟩
  | ascii => exact x
  | wide => exact x
  | range => exact x
  | rev => exact x
theorem Kd.Is.mono' {h h' : Heap} {π β : List Addr} {σ σ' : Sto} {src : Src} {K : Kd} (x : K.Is h π β σ src) (hk : SeqKeep (grow π σ β) (grow π σ' β) h h') : K.Is h' π β σ' src := by
  have := Kd.Is.mono (β₂ := []) (σ' := σ') (h' := h') x (by simpa using hk)
  simpa using this

/-- what a step of an iterator leaves -/
theorem iterKeep {h h' : Heap} {I : Addr} {γ : List Addr} {o₀ : Obj} {vs₀ : Array Value} (hI : h.get? I = some o₀) (hd₀ : o₀.data = .fields vs₀) (hk : ∀ b o, b ≠ I → h.get? b = some o → h'.get? b = some o) : SeqKeep γ γ h h' :=
  fun a o xs n ho hd ha => ⟨ha, hk a o (by rintro rfl; rw [hI] at ho; cases ho; rw [hd₀] at hd; cases hd) ho⟩

section
variable {prog : Program} {w : World} {A : Around} {E : Value → Shared → Prop} {s : Shared} {B : Heap} {π β : List Addr} {σ : Sto} {src : Src} {K : Kd} {I : Addr}

theorem rangeD_get {a : Int} {n i : Nat} : (rangeD a (a + n))[i]? = if i < n then some (.int (a + i)) else none := by
  unfold rangeD
  have : (a + n - a).toNat = n := by omega
  rw [this, List.getElem?_map]
  by_cases h : i < n
  · simp [h]
  · simp [h]
theorem rangeD_len {a : Int} {n : Nat} : (rangeD a (a + n)).length = n := by
  unfold rangeD
  simp; omega

theorem next_item {i : Nat} {d : Dat} {Q : Option Value → Shared → Prop} (S : Sim B π s.heap σ β) (hs : src.still σ = true) (hK : K.Is s.heap π β σ src) (hst : K.St s.heap I i) (hi : src.items[i]? = some d)
    (hQ : ∀ v' h' tk, Rep h' (grow π σ β) d v' → K.St h' I (i + 1) → (∀ b o, b ≠ I → s.heap.get? b = some o → h'.get? b = some o) → Q (some v') { s with heap := h', toks := tk }) :
    wpAny (model prog w) A (pyNext (.ref I)) Q E s := by
  obtain ⟨o₀, vs₀, hI, hd₀⟩ := hst.fields
  cases K with
  | list a =>
    have key : ∃ vs, s.heap.IsList a vs ∧ Reps s.heap (grow π σ β) src.items vs.toList := by
      rcases hK with ⟨h1, h2⟩ | ⟨k, h1, h2⟩
      · simp only [Rep] at h2
        obtain ⟨a', vs, e, _, hl, hr⟩ := h2
        cases e
        exact ⟨vs, hl, hr⟩
      · simp only [Src.still, h1, decide_eq_true_eq] at hs
        cases hq : σ[k]? with
        | none => rw [hq] at hs; cases hs
        | some e =>
          rw [hq] at hs
          obtain ⟨vs, hp, hr⟩ := S.ent k e a hq h2
          simp at hs
          exact ⟨vs, hp.isList, hs ▸ hr⟩
    obtain ⟨vs, hl, hr⟩ := key
    obtain ⟨v, hv, rv⟩ := hr.get hi
    refine wpAny_pyNext_list_item hst hl (by rw [← Array.getElem?_toList]; exact hv) fun h' hit' hs' => ?_
    have hk : ∀ b o, b ≠ I → s.heap.get? b = some o → h'.get? b = some o := fun b o hb e => hs'.extBut b o hb e
    exact hQ v h' s.toks (Rep.mono (iterKeep hI hd₀ hk) rv) hit' hk
  | tuple a =>
    obtain ⟨h1, h2⟩ := hK
    simp only [Rep] at h2
    obtain ⟨a', vs, e, _, hl, hr⟩ := h2
    cases e
    obtain ⟨v, hv, rv⟩ := hr.get hi
    refine wpAny_pyNext_tuple_item hst hl (by rw [← Array.getElem?_toList]; exact hv) fun h' hit' hs' => ?_
    have hk : ∀ b o, b ≠ I → s.heap.get? b = some o → h'.get? b = some o := fun b o hb e => hs'.extBut b o hb e
    exact hQ v h' s.toks (Rep.mono (iterKeep hI hd₀ hk) rv) hit' hk
  | ascii x t =>
    have hK : src = _ := hK
    subst hK
    simp only [List.getElem?_map] at hi
    cases hc : x[i]? with
    | none => rw [hc] at hi; cases hi
    | some c =>
      rw [hc] at hi; cases hi
      refine wpAny_pyNext_ascii_item hst (c := c) (by simpa using hc) fun h' hit' hs' => ?_
      exact hQ _ h' _ ⟨_, rfl⟩ hit' fun b o hb e => hs'.extBut b o hb e
  | wide x t =>
    have hK : src = _ := hK
    subst hK
    simp only [List.getElem?_map] at hi
    cases hc : x[i]? with
    | none => rw [hc] at hi; cases hi
    | some c =>
      rw [hc] at hi; cases hi
      refine wpAny_pyNext_wide_item hst (c := c) (by simpa using hc) fun h' hit' hs' => ?_
      exact hQ _ h' _ ⟨_, rfl⟩ hit' fun b o hb e => hs'.extBut b o hb e
  | range a n =>
    have hK : src = _ := hK
    subst hK
    rw [rangeD_get] at hi
    split at hi
    · rename_i hlt
      cases hi
      refine wpAny_pyNext_range_item hst (by omega) fun h' hit' hs' => ?_
      refine hQ _ h' _ ⟨_, rfl⟩ ?_ fun b o hb e => hs'.extBut b o hb e
      show IsRangeIter h' I (a + ((i + 1 : Nat) : Int)) ((n : Int) - ((i + 1 : Nat) : Int)) 1
      have e1 : a + ((i + 1 : Nat) : Int) = a + (i : Int) + 1 := by omega
      have e2 : (n : Int) - ((i + 1 : Nat) : Int) = (n : Int) - (i : Int) - 1 := by omega
      rw [e1, e2]; exact hit'
    · cases hi
  | rev x t =>
    obtain ⟨hK, hx⟩ := hK
    subst hK
    have hlt : i < x.length := by have := (List.getElem?_eq_some_iff.mp hi).1; simpa using this
    have hj : ((x.length : Int) - 1 - i) = ((x.length - 1 - i : Nat) : Int) := by omega
    have hst' : IsRevS s.heap I ⟨x.toArray⟩ t ((x.length - 1 - i : Nat) : Int) := by rw [← hj]; exact hst
    have hc : x[x.length - 1 - i]? = some x[x.length - 1 - i] := List.getElem?_eq_getElem (by omega)
    have hd : d = .str [x[x.length - 1 - i]] := by
      rw [List.getElem?_reverse (by simpa using hlt)] at hi
      simp only [List.length_map, List.getElem?_map, hc, Option.map_some, Option.some.injEq] at hi
      exact hi.symm
    subst hd
    refine pyNext_revS_item hst' (by simpa [Str.length] using hx) (c := x[x.length - 1 - i]) (by simpa using hc) fun h' t' tk hit' hs' => ?_
    refine hQ _ h' _ ⟨_, rfl⟩ ?_ fun b o hb e => hs'.extBut b o hb e
    show IsRevS h' I ⟨x.toArray⟩ t ((x.length : Int) - 1 - ((i + 1 : Nat) : Int))
    have e1 : (x.length : Int) - 1 - ((i + 1 : Nat) : Int) = ((x.length - 1 - i : Nat) : Int) - 1 := by omega
    rw [e1]; exact hit'

theorem next_done {i : Nat} {Q : Option Value → Shared → Prop} (hh : A.handled = none) (S : Sim B π s.heap σ β) (hs : src.still σ = true) (hK : K.Is s.heap π β σ src) (hst : K.St s.heap I i) (hi : src.items.length ≤ i) (hi' : i ≤ src.items.length)
    (hQ : ∀ h' tk, (∀ b o, b ≠ I → s.heap.get? b = some o → h'.get? b = some o) → Q none { s with heap := h', toks := tk }) :
    wpAny (model prog w) A (pyNext (.ref I)) Q E s := by
  cases K with
  | list a =>
    have key : ∃ vs, s.heap.IsList a vs ∧ Reps s.heap (grow π σ β) src.items vs.toList := by
      rcases hK with ⟨h1, h2⟩ | ⟨k, h1, h2⟩
      · simp only [Rep] at h2
        obtain ⟨a', vs, e, _, hl, hr⟩ := h2
        cases e
        exact ⟨vs, hl, hr⟩
      · simp only [Src.still, h1, decide_eq_true_eq] at hs
        cases hq : σ[k]? with
        | none => rw [hq] at hs; cases hs
        | some e =>
          rw [hq] at hs
          obtain ⟨vs, hp, hr⟩ := S.ent k e a hq h2
          simp at hs
          exact ⟨vs, hp.isList, hs ▸ hr⟩
    obtain ⟨vs, hl, hr⟩ := key
    have := hr.size
    exact wpAny_pyNext_list_end hh hst hl (by simp; omega) fun h' he' => hQ h' s.toks fun b o hb e => he' b o hb e
  | tuple a =>
    obtain ⟨h1, h2⟩ := hK
    simp only [Rep] at h2
    obtain ⟨a', vs, e, _, hl, hr⟩ := h2
    cases e
    have := hr.size
    exact wpAny_pyNext_tuple_end hh hst hl (by simp; omega) fun h' he' => hQ h' s.toks fun b o hb e => he' b o hb e
  | ascii x t =>
    have hK : src = _ := hK
    subst hK
    simp only [List.length_map] at hi hi'
    exact wpAny_pyNext_ascii_end hh hst (by simp; omega) fun h' he' => hQ h' s.toks fun b o hb e => he' b o hb e
  | wide x t =>
    have hK : src = _ := hK
    subst hK
    simp only [List.length_map] at hi hi'
    exact wpAny_pyNext_wide_end hh hst (by simp; omega) fun h' he' => hQ h' s.toks fun b o hb e => he' b o hb e
  | range a n =>
    have hK : src = _ := hK
    subst hK
    rw [rangeD_len] at hi hi'
    exact wpAny_pyNext_range_end hh hst (by omega) fun h' he' => hQ h' s.toks fun b o hb e => he' b o hb e
  | rev x t =>
    obtain ⟨hK, hx⟩ := hK
    subst hK
    simp only [List.length_reverse, List.length_map] at hi hi'
    have e1 : (x.length : Int) - 1 - (i : Int) = -1 := by omega
    have hst' : IsRevS s.heap I ⟨x.toArray⟩ t (-1) := by rw [← e1]; exact hst
    exact pyNext_revS_end hh hst' fun h' he' => hQ h' s.toks fun b o hb e => he' b o hb e

theorem iter_self {i : Nat} {Q : Value → Shared → Prop} (hst : K.St s.heap I i) (hQ : Q (.ref I) s) : wpAny (model prog w) A (pyIter (.ref I)) Q E s := by
  cases K with
  | list a => exact wpAny_pyIter_listiter hst hQ
  | tuple a => exact wpAny_pyIter_tupleiter hst hQ
  | ascii x t => exact wpAny_pyIter_striter_ascii hst hQ
  | wide x t => exact wpAny_pyIter_striter_wide hst hQ
  | range a n => exact wpAny_pyIter_rangeiter hst hQ
  | rev x t => exact pyIter_revS hst hQ

/-- a value that a loop goes over -/
inductive IterVal (h : Heap) (π β : List Addr) (σ : Sto) : Src → Value → Prop where
  | dat {d : Dat} {l : List Dat} {v : Value} : Rep h (grow π σ β) d v → itemsOf d = some l → IterVal h π β σ ⟨l, none⟩ v
  | held {k : Nat} {e : Bool × List Dat} {a : Addr} : σ[k]? = some e → β[k]? = some a → IterVal h π β σ ⟨e.2, some k⟩ (.ref a)
  | range {r : Addr} {a b : Int} {t u v : Tok} : IsRange h r a b 1 t u v → -1000000 ≤ a → a ≤ 1000000 → -1000000 ≤ b → b ≤ 1000000 → IterVal h π β σ ⟨rangeD a b, none⟩ (.ref r)

theorem rangeD_pos {a b : Int} (h : a ≤ b) : rangeD a b = rangeD a (a + ((b - a).toNat : Nat)) := by
  unfold rangeD
  have : (a + ((b - a).toNat : Nat) - a).toNat = (b - a).toNat := by omega
  rw [this]
theorem rangeD_neg {a b : Int} (h : ¬ a ≤ b) : rangeD a b = rangeD a (a + (0 : Nat)) := by
  unfold rangeD
  have : (b - a).toNat = 0 := by omega
  rw [this]
  simp

theorem iter_start {xv : Value} {Q : Value → Shared → Prop} (S : Sim B π s.heap σ β) (hv : IterVal s.heap π β σ src xv)
    (hQ : ∀ K o, (K : Kd).Is s.heap π β σ src → K.St (s.heap.push o) s.heap.objs.size 0 → o.isFreed = false → Q (.ref s.heap.objs.size) { s with heap := s.heap.push o }) :
    wpAny (model prog w) A (pyIter xv) Q E s := by
  cases hv with
  | @dat d l v r hl =>
    cases d with
    | lst ds =>
      simp only [itemsOf, Option.some.injEq] at hl
      subst hl
      have r0 := r
      simp only [Rep] at r
      obtain ⟨a, vs, rfl, _, h1, _⟩ := r
      refine wpAny_pyIter_list h1 (hQ (.list a) _ (.inl ⟨rfl, r0⟩) ⟨_, Heap.get?_push_size _ rfl, rfl, rfl⟩ rfl)
    | tup ds =>
      simp only [itemsOf, Option.some.injEq] at hl
      subst hl
      have r0 := r
      simp only [Rep] at r
      obtain ⟨a, vs, rfl, _, h1, _⟩ := r
      refine wpAny_pyIter_tuple h1 (hQ (.tuple a) _ ⟨rfl, r0⟩ ⟨_, Heap.get?_push_size _ rfl, rfl, rfl⟩ rfl)
    | str x =>
      simp only [itemsOf, Option.some.injEq] at hl
      subst hl
      obtain ⟨t, rfl⟩ := r
      by_cases ha : (Str.mk x.toArray).cps.all (· < 128) = true
      · exact wpAny_pyIter_ascii ha (hQ (.ascii x t) _ rfl ⟨_, Heap.get?_push_size _ rfl, rfl, rfl⟩ rfl)
      · exact wpAny_pyIter_wide (by simpa using ha) (hQ (.wide x t) _ rfl ⟨_, Heap.get?_push_size _ rfl, rfl, rfl⟩ rfl)
    | none => cases hl
    | bool _ => cases hl
    | int _ => cases hl
  | @held k e a h1 h2 =>
    obtain ⟨vs, hp, _⟩ := S.ent k e a h1 h2
    exact wpAny_pyIter_list hp.isList (hQ (.list a) _ (.inr ⟨k, rfl, h2⟩) ⟨_, Heap.get?_push_size _ rfl, rfl, rfl⟩ rfl)
  | @range r a b t u v hr h1 h2 h3 h4 =>
    have hsz : Builtin.Range.rangeSize a b 1 = if a ≤ b then b - a else 0 := by
      unfold Builtin.Range.rangeSize
      split <;> simp <;> omega
    have hsm : Builtin.Range.small a b 1 = true := by
      unfold Builtin.Range.small
      rw [hsz]
      simp only [Builtin.Range.rangeFitsLong]
      split <;> simp <;> omega
    refine wpAny_pyIter_range hr hsm ?_
    rw [hsz]
    by_cases hab : a ≤ b
    · rw [if_pos hab]
      refine hQ (.range a (b - a).toNat) _ (by show _ = _; rw [rangeD_pos hab]) ?_ rfl
      show IsRangeIter _ _ _ _ _
      have e1 : a + ((0 : Nat) : Int) = a := by omega
      have e2 : (((b - a).toNat : Nat) : Int) - ((0 : Nat) : Int) = b - a := by omega
      rw [e1, e2]
      exact Heap.get?_push_size _ rfl
    · rw [if_neg hab]
      refine hQ (.range a 0) _ (by show _ = _; rw [rangeD_neg hab]) ?_ rfl
      show IsRangeIter _ _ _ _ _
      have e1 : a + ((0 : Nat) : Int) = a := by omega
      have e2 : ((0 : Nat) : Int) - ((0 : Nat) : Int) = 0 := by omega
      rw [e1, e2]
      exact Heap.get?_push_size _ rfl
end
end Mine

/-! ## MEv -/
namespace Mine
open PySem PyProof.Rows

theorem Out.bind_eq {α β : Type} {o : Out α} {f : α → Sto → Out β} {b : β} {σ : Sto} (h : o.bind f = .val b σ) : ∃ a σ₁, o = .val a σ₁ ∧ f a σ₁ = .val b σ := by
  cases o with
  | val a σ₁ => exact ⟨a, σ₁, rfl, h⟩
  | exn c σ₁ => cases h
  | bad => cases h
theorem Out.bindX_eq {α β : Type} {o : Out α} {f : α → Sto → Out β} {b : β} {σ : Sto} (h : o.bindX f = .val b σ) : ∃ a σ₁, o = .val a σ₁ ∧ f a σ₁ = .val b σ := by
  cases o with
  | val a σ₁ => exact ⟨a, σ₁, rfl, h⟩
  | exn c σ₁ => cases h
  | bad => cases h
theorem Out.noX_eq {α : Type} {o : Out α} {a : α} {σ : Sto} (h : o.noX = .val a σ) : o = .val a σ := by
  cases o with
  | val => exact h
  | exn => cases h
  | bad => cases h
theorem d1_eq {f : Dat → Option Dat} {v x : Val} {σ σ' : Sto} (h : d1 f v σ = .val x σ') : ∃ a d, look σ v = some a ∧ f a = some d ∧ x = .dat d ∧ σ' = σ := by
  unfold d1 at h
  cases ha : look σ v with
  | none => rw [ha] at h; cases h
  | some a =>
    rw [ha] at h
    simp only [Option.bind_some] at h
    cases hf : f a with
    | none => rw [hf] at h; cases h
    | some d => rw [hf] at h; cases h; exact ⟨a, d, rfl, hf, rfl, rfl⟩
theorem d2_eq {f : Dat → Dat → Option Dat} {v w x : Val} {σ σ' : Sto} (h : d2 f v w σ = .val x σ') : ∃ a b d, look σ v = some a ∧ look σ w = some b ∧ f a b = some d ∧ x = .dat d ∧ σ' = σ := by
  unfold d2 at h
  cases ha : look σ v with
  | none => rw [ha] at h; cases h
  | some a =>
    rw [ha] at h
    cases hb : look σ w with
    | none => rw [hb] at h; cases h
    | some b =>
      rw [hb] at h
      simp only [Option.bind_some] at h
      cases hf : f a b with
      | none => rw [hf] at h; cases h
      | some d => rw [hf] at h; cases h; exact ⟨a, b, d, rfl, rfl, hf, rfl, rfl⟩
theorem c2_eq {op : COp} {v w : Val} {σ : Sto} {r : Bool} (h : c2 op v w σ = some r) : ∃ a b, look σ v = some a ∧ look σ w = some b ∧ cmp2 op a b = some r := by
  unfold c2 at h
  cases ha : look σ v with
  | none => rw [ha] at h; cases h
  | some a =>
    rw [ha] at h
    cases hb : look σ w with
    | none => rw [hb] at h; cases h
    | some b => rw [hb] at h; exact ⟨a, b, rfl, rfl, h⟩
theorem ofOpt_eq {α : Type} {o : Option α} {a : α} {σ σ' : Sto} (h : ofOpt o σ = .val a σ') : o = some a ∧ σ' = σ := by
  cases o with
  | none => cases h
  | some x => cases h; exact ⟨rfl, rfl⟩
theorem truthOf_eq {v : Val} {σ σ' : Sto} {b : Bool} (h : truthOf v σ = .val b σ') : look σ v = some (.bool b) ∧ σ' = σ := by
  obtain ⟨h1, h2⟩ := ofOpt_eq h
  cases ha : look σ v with
  | none => rw [ha] at h1; cases h1
  | some a =>
    rw [ha] at h1
    cases a <;> simp only [Option.bind_some, truthD, reduceCtorEq, Option.some.injEq] at h1
    subst h1
    exact ⟨rfl, h2⟩

noncomputable def RelVs (h : Heap) (π β : List Addr) (σ : Sto) : List Val → List Value → Prop
  | [], [] => True
  | v :: vs, v' :: vs' => RelV h π β σ v v' ∧ RelVs h π β σ vs vs'
  | _, _ => False

structure At (fnm : Nat → Option Str) (con : Con) (B : Heap) (π : List Addr) (cx : Cx) (env : Env) (s : Shared) (ρ : Loc) (σ : Sto) (β : List Addr) : Prop where
  fn : cx.fn = fnm
  con : cx.con = con.tab ∧ (cx.top = true → env = con.env0 ∧ con.lone = true)
  V : EnvOk cx env
  F : FrameOk cx env B π s.heap ρ σ β
  S : Sim B π s.heap σ β

structure Hyp (prog : Program) (w : World) (A : Around) (B : Heap) (Δ : Nat → Option Fn) (fnm : Nat → Option Str) (con : Con) (mg mb : Str → Option Value) (C : Oracle) : Prop where
  W : Wd prog w B Δ fnm con.tab mg mb
  hh : A.handled = none
  hu : A.units + 1000 < cLine
  hC : ∀ (f : Nat) (x : Str) (args : List Val) (vals : List Value) (σ σ' : Sto) (d : Dat) (π β : List Addr) (s : Shared) (E : Value → Shared → Prop) (a : Addr), fnm f = some x → mg x = some (.ref a) → x ≠ ("law" : Str) → (isSp f = true → con.lone = true ∧ ∃ m, s.heap.Ns con.env0.locals m) → C f args σ = .val d σ' →
    RelVs s.heap π β σ args vals → Sim B π s.heap σ β → B.objs.size ≤ s.heap.objs.size → wpAny (model prog w) A (call (.ref a) vals) (fun v' s' => Rep s'.heap (grow π σ' β) d v' ∧ ∀ L, Ok B π L β s s' σ σ') E s

section
variable {prog : Program} {w : World} {A : Around} {B : Heap} {Δ : Nat → Option Fn} {fnm : Nat → Option Str} {con : Con} {mg mb : Str → Option Value} {sub : Nat → Nat → Bool} {C : Oracle}
  {cx : Cx} {env : Env} {s s' : Shared} {ρ : Loc} {σ σ' : Sto} {π β : List Addr} {E : Value → Shared → Prop}

theorem At.ok (a : At fnm con B π cx env s ρ σ β) (x : Ok B π env.locals β s s' σ σ') : At fnm con B π cx env s' ρ σ' β := ⟨a.fn, a.con, a.V, a.F.ok a.V a.S x, x.sim⟩
theorem At.baseLe (a : At fnm con B π cx env s ρ σ β) : B.objs.size ≤ s.heap.objs.size := by
  obtain ⟨m, h, _⟩ := a.F.loc
  have h1 : @LT.lt Nat instLTNat env.locals s.heap.objs.size := h.lt
  have h2 : @LE.le Nat instLENat B.objs.size env.locals := a.F.off.2
  omega
theorem At.ns (a : At fnm con B π cx env s ρ σ β) : ∃ m, s.heap.Ns env.locals m := let ⟨m, h, _⟩ := a.F.loc; ⟨m, h⟩
theorem At.rel (a : At fnm con B π cx env s ρ σ β) (x : Ok B π env.locals β s s' σ σ') {v : Val} {v' : Value} (r : RelV s.heap π β σ v v') : RelV s'.heap π β σ' v v' := by
  obtain ⟨m, hm⟩ := a.ns
  exact r.ok x hm
theorem At.rep (a : At fnm con B π cx env s ρ σ β) (x : Ok B π env.locals β s s' σ σ') {d : Dat} {v' : Value} (r : Rep s.heap (grow π σ β) d v') : Rep s'.heap (grow π σ' β) d v' := a.rel (v := .dat d) x r
theorem At.reps (a : At fnm con B π cx env s ρ σ β) (x : Ok B π env.locals β s s' σ σ') {ds : List Dat} {vs : List Value} (r : Reps s.heap (grow π σ β) ds vs) : Reps s'.heap (grow π σ' β) ds vs := by
  obtain ⟨m, hm⟩ := a.ns
  exact Reps.mono (x.seq hm) r
theorem At.rels (a : At fnm con B π cx env s ρ σ β) (x : Ok B π env.locals β s s' σ σ') : ∀ {vs : List Val} {vs' : List Value}, RelVs s.heap π β σ vs vs' → RelVs s'.heap π β σ' vs vs'
  | [], [], _ => trivial
  | v :: vs, v' :: vs', r => ⟨a.rel x r.1, At.rels a x r.2⟩
  | [], _ :: _, r => r.elim
  | _ :: _, [], r => r.elim

abbrev EP (B : Heap) (π : List Addr) (env : Env) (β : List Addr) (s : Shared) (σ : Sto) (v : Val) (σ' : Sto) (v' : Value) (s' : Shared) : Prop := RelV s'.heap π β σ' v v' ∧ Ok B π env.locals β s s' σ σ'

theorem ep_of_vpost {s₁ s₂ : Shared} {σ₁ : Sto} {d : Dat} {v' : Value} (o : Ok B π env.locals β s s₁ σ σ₁) (p : VPost B π env.locals β σ₁ s₁ d v' s₂) : EP B π env β s σ (.dat d) σ₁ v' s₂ := ⟨p.1, o.trans p.2⟩

theorem const_sound {c : Const} {d : Dat} {k : Nat} {pos : Pos} {M : Model} (S : Sim B π s.heap σ β) (h : chkC c d = true) : wpAny M A (eval (.Constant c k pos) env) (EP B π env β s σ (.dat d) σ) E s := by
  rw [eval_Constant]
  cases c <;> cases d <;> simp only [chkC, Bool.false_eq_true] at h
  · exact wpAny_pure ⟨rfl, Ok.refl S⟩
  · simp only [beq_iff_eq] at h; subst h
    exact wpAny_pure ⟨rfl, Ok.refl S⟩
  · simp only [beq_iff_eq] at h; subst h
    exact wpAny_mkInt ⟨⟨_, rfl⟩, Ok.toks S _⟩
  · simp only [beq_iff_eq] at h; subst h
    rename_i x
    show wpAny M A (mkText x) _ _ _
    exact fun _ _ _ => ⟨⟨s.toks, by cases x; simp⟩, Ok.toks S _⟩

/-- trees of plain arguments -/
theorem trees_cons {x : Expr} {xs : List Expr} {pos : Pos} (h : ∀ y p, x ≠ .Starred y p) : backTo pos (starEach (x :: xs) env) = (false, eval x env) :: backTo pos (starEach xs env) := by
  have : starEach (x :: xs) env = (false, eval x env) :: starEach xs env := by
    cases x <;> first | rfl | exact absurd rfl (h _ _)
  rw [this]; rfl
theorem chk_starred (cx : Cx) (ie : IE) (y : Expr) (p : Pos) : chkE cx ie (.Starred y p) = false := by cases ie <;> rfl
theorem chk_set (cx : Cx) (ie : IE) (l : List Expr) (k : Nat) (p : Pos) : chkE cx ie (.Set l k p) = false := by cases ie <;> rfl
theorem not_starred {ie : IE} {x : Expr} (h : chkE cx ie x = true) : ∀ y p, x ≠ .Starred y p := by
  rintro y p rfl
  rw [chk_starred] at h; cases h
theorem not_starredI {it : II} {x : Expr} (h : chkI cx it x = true) : ∀ y p, x ≠ .Starred y p := by
  rintro y p rfl
  cases it with
  | of e => exact absurd rfl (not_starred (show chkE cx e _ = true from h) _ _)
  | _ => exact Bool.noConfusion (show false = true from h)
theorem trees_plain {pos : Pos} : ∀ {es : IEs} {xs : List Expr}, chkEs cx es xs = true → (backTo pos (starEach xs env)).any (·.1) = false
  | .nil, [], _ => rfl
  | .cons e es, x :: xs, h => by
    have h := Bool.and_eq_true_iff.mp (show (_ && _) = true from h)
    rw [trees_cons (not_starred h.1), List.any_cons, trees_plain h.2]; rfl
  | .nil, _ :: _, h => by simp [chkEs] at h
  | .cons _ _, [], h => by simp [chkEs] at h
theorem notSet {ie : IE} {x : Expr} (h : chkE cx ie x = true) : ∀ l k p, x ≠ .Set l k p := by
  rintro l k p rfl
  rw [chk_set] at h; cases h
theorem notSetI {it : II} {x : Expr} (h : chkI cx it x = true) : ∀ l k p, x ≠ .Set l k p := by
  rintro l k p rfl
  cases it with
  | of e => exact absurd rfl (notSet (show chkE cx e _ = true from h) _ _ _)
  | _ => exact Bool.noConfusion (show false = true from h)
theorem folded_none {x : Expr} {v : Value} (h : ∀ l k p, x ≠ .Set l k p) : foldedSetIterable x env v = pure v := by
  cases x <;> first | rfl | exact absurd rfl (h _ _ _)
theorem markedEach_none : ∀ {cs : ICs} {ops : List CmpOp} {xs : List Expr}, chkCs cx cs ops xs = true → markedEach ops xs (evalEach xs env) = evalEach xs env
  | .nil, [], [], _ => rfl
  | .cons op e .nil, [o], [x], h => by
    simp only [chkCs, Bool.and_eq_true] at h
    have : behindInMarks o x = false := by
      have := notSet h.1.2
      cases x <;> first | rfl | exact absurd rfl (this _ _ _)
    show [markedBehindIn o x (eval x env)] = [eval x env]
    rw [markedBehindIn_of_false this]
  | .cons op e (.cons op' e' cs), o :: o' :: os, x :: x' :: xs, h => by
    have h' := h
    simp only [chkCs, Bool.and_eq_true] at h
    have ih := markedEach_none (cs := .cons op' e' cs) (ops := o' :: os) (xs := x' :: xs) (by simp only [chkCs, Bool.and_eq_true]; exact h.2)
    show eval x env :: markedEach (o' :: os) (x' :: xs) (evalEach (x' :: xs) env) = _
    rw [ih]; rfl
  | .nil, _ :: _, _, h => by simp [chkCs] at h
  | .nil, [], _ :: _, h => by simp [chkCs] at h
  | .cons _ _ _, [], _, h => by simp [chkCs] at h
  | .cons _ _ _, _ :: _, [], h => by simp [chkCs] at h
  | .cons _ _ .nil, _ :: _ :: _, _ :: _, h => by simp [chkCs] at h
  | .cons _ _ .nil, [_], _ :: _ :: _, h => by simp [chkCs] at h
  | .cons _ _ (.cons _ _ _), [_], _ :: _, h => by simp [chkCs] at h
  | .cons _ _ (.cons _ _ _), _ :: _ :: _, [_], h => by simp [chkCs] at h
end
end Mine

/-! ## MPoke -/
namespace Mine
open PySem PyProof.Rows

section
variable {fnm : Nat → Option Str} {con : Con} {B : Heap} {π : List Addr} {cx : Cx} {env : Env} {s s' : Shared} {ρ : Loc} {σ σ' : Sto} {β : List Addr} {p : Addr}

/-- one object that is none of the frame's, the store's or the data's has changed -/
structure Foreign (B : Heap) (π : List Addr) (β : List Addr) (env : Env) (h : Heap) (p : Addr) : Prop where
  seq : p ∈ π ∨ ∀ o xs n, h.get? p = some o → o.data ≠ .seq xs n
  cell : ∀ o v, h.get? p = some o → o.data ≠ .cell v
  loc : p ≠ env.locals
  sto : p ∉ β
  base : B.get? p = none

theorem Foreign.seqKeep {h h' : Heap} (f : Foreign B π β env h p) (hk : ∀ b o, b ≠ p → h.get? b = some o → h'.get? b = some o) : SeqKeep (grow π σ β) (grow π σ β) h h' := by
  intro a o xs n ho hd ha
  refine ⟨ha, hk a o ?_ ho⟩
  rintro rfl
  rcases f.seq with q | q
  · exact ha (mem_grow.mpr (.inl q))
  · exact q o xs n ho hd

theorem Sim.poke (S : Sim B π s.heap σ β) (f : Foreign B π β env s.heap p) (hk : ∀ b o, b ≠ p → s.heap.get? b = some o → s'.heap.get? b = some o) (hal : (s'.heap.get? p).isSome = true) : Sim B π s'.heap σ β where
  len := S.len
  nodup := S.nodup
  base := fun b o e => hk b o (by rintro rfl; rw [f.base] at e; cases e) (S.base b o e)
  new := S.new
  ent := fun k e a h1 h2 => by
    obtain ⟨vs, hp, hr⟩ := S.ent k e a h1 h2
    exact ⟨vs, hp.at fun o e => hk _ o (by rintro rfl; exact f.sto (List.mem_of_getElem? h2)) e, Reps.mono (f.seqKeep hk) hr⟩
  priv := fun a ha => ⟨by
    by_cases hq : a = p
    · subst hq; exact hal
    · obtain ⟨o, ho⟩ := Option.isSome_iff_exists.mp (S.priv a ha).1; rw [hk a o hq ho]; rfl, (S.priv a ha).2⟩

theorem RelV.seq {h h' : Heap} {v : Val} {v' : Value} (k : SeqKeep (grow π σ β) (grow π σ' β) h h') (r : RelV h π β σ v v') : RelV h' π β σ' v v' := by
  cases v with
  | dat d => exact Rep.mono k r
  | ref k => exact r
  | exc c => exact r

theorem FrameOk.poke (F : FrameOk cx env B π s.heap ρ σ β) (f : Foreign B π β env s.heap p) (hk : ∀ b o, b ≠ p → s.heap.get? b = some o → s'.heap.get? b = some o) : FrameOk cx env B π s'.heap ρ σ β where
  loc := by
    obtain ⟨m, hn, hv⟩ := F.loc
    exact ⟨m, hn.at' fun o e => hk _ o (Ne.symm f.loc) e, fun i y v h1 h2 h3 => by obtain ⟨v', e, r⟩ := hv i y v h1 h2 h3; exact ⟨v', e, r.seq (f.seqKeep hk)⟩⟩
  cell := fun i y h1 h2 => by
    obtain ⟨c, o, hc, hi, hv⟩ := F.cell i y h1 h2
    refine ⟨c, o, hc, ?_, fun v h3 => by obtain ⟨v', e, r⟩ := hv v h3; exact ⟨v', e, r.seq (f.seqKeep hk)⟩⟩
    obtain ⟨ob, ho, hd⟩ := hi
    exact ⟨ob, hk c ob (by rintro rfl; exact f.cell ob o ho hd) ho, hd⟩
  off := F.off
  offc := F.offc

theorem At.poke (a : At fnm con B π cx env s ρ σ β) (f : Foreign B π β env s.heap p) (hk : ∀ b o, b ≠ p → s.heap.get? b = some o → s'.heap.get? b = some o) (hal : (s'.heap.get? p).isSome = true) : At fnm con B π cx env s' ρ σ β :=
  ⟨a.fn, a.con, a.V, a.F.poke f hk, a.S.poke f hk hal⟩

theorem At.keeps (a : At fnm con B π cx env s ρ σ β) (hk : ∀ b o, s.heap.get? b = some o → s'.heap.get? b = some o) : At fnm con B π cx env s' ρ σ β := by
  have sk : SeqKeep (grow π σ β) (grow π σ β) s.heap s'.heap := fun a o xs n ho hd ha => ⟨ha, hk a o ho⟩
  refine ⟨a.fn, a.con, a.V, ⟨?_, fun i y h1 h2 => ?_, a.F.off, a.F.offc⟩, a.S.keeps hk⟩
  · obtain ⟨m, hn, hv⟩ := a.F.loc
    exact ⟨m, hn.keeps hk, fun i y v h1 h2 h3 => by obtain ⟨v', e, r⟩ := hv i y v h1 h2 h3; exact ⟨v', e, r.seq sk⟩⟩
  · obtain ⟨c, o, hc, hi, hv⟩ := a.F.cell i y h1 h2
    exact ⟨c, o, hc, hi.keeps hk, fun v h3 => by obtain ⟨v', e, r⟩ := hv v h3; exact ⟨v', e, r.seq sk⟩⟩

/-- a list that is being made comes to be, one that is made goes -/
theorem At.private (a : At fnm con B π cx env s ρ σ β) (hk : ∀ b o, s.heap.get? b = some o → s'.heap.get? b = some o) (hp : s.heap.get? p = none) (hp' : (s'.heap.get? p).isSome = true) : At fnm con B (p :: π) cx env s' ρ σ β := by
  have sk : SeqKeep (grow π σ β) (grow (p :: π) σ β) s.heap s'.heap := fun b o xs n ho hd ha => ⟨fun q => by
    rcases mem_grow.mp q with q | q
    · rcases List.mem_cons.mp q with rfl | q
      · rw [hp] at ho; cases ho
      · exact ha (mem_grow.mpr (.inl q))
    · exact ha (mem_grow.mpr (.inr q)), hk b o ho⟩
  have rv : ∀ {v : Val} {v' : Value}, RelV s.heap π β σ v v' → RelV s'.heap (p :: π) β σ v v' := fun {v} {v'} r => by
    cases v with
    | dat d => exact Rep.mono sk r
    | ref k => exact r
    | exc c => exact r
  refine ⟨a.fn, a.con, a.V, ⟨?_, fun i y h1 h2 => ?_, a.F.off, a.F.offc⟩, ⟨a.S.len, a.S.nodup, fun b o e => hk b o (a.S.base b o e), a.S.new, fun k e b h1 h2 => ?_, fun b hb => ?_⟩⟩
  · obtain ⟨m, hn, hv⟩ := a.F.loc
    exact ⟨m, hn.keeps hk, fun i y v h1 h2 h3 => by obtain ⟨v', e, r⟩ := hv i y v h1 h2 h3; exact ⟨v', e, rv r⟩⟩
  · obtain ⟨c, o, hc, hi, hv⟩ := a.F.cell i y h1 h2
    exact ⟨c, o, hc, hi.keeps hk, fun v h3 => by obtain ⟨v', e, r⟩ := hv v h3; exact ⟨v', e, rv r⟩⟩
  · obtain ⟨vs, hq, hr⟩ := a.S.ent k e b h1 h2
    exact ⟨vs, hq.at fun o e => hk _ o e, Reps.mono sk hr⟩
  · rcases List.mem_cons.mp hb with rfl | hb
    · refine ⟨hp', fun q => ?_⟩
      have := a.S.lt q
      obtain ⟨k, hk2, e⟩ := List.mem_iff_getElem.mp q
      have hk3 : k < σ.length := by rw [← a.S.len]; exact hk2
      obtain ⟨vs, ⟨n, hq⟩, _⟩ := a.S.ent k σ[k] b (List.getElem?_eq_getElem hk3) (by rw [List.getElem?_eq_getElem hk2, e])
      rw [hp] at hq; cases hq
    · obtain ⟨o, ho⟩ := Option.isSome_iff_exists.mp (a.S.priv b hb).1
      exact ⟨by rw [hk b o ho]; rfl, (a.S.priv b hb).2⟩
theorem unpriv {h : Heap} : SeqKeep (grow (p :: π) σ β) (grow π σ β) h h := fun b o xs n ho hd ha => ⟨fun q => ha (by
  rcases mem_grow.mp q with q | q
  · exact mem_grow.mpr (.inl (List.mem_cons_of_mem _ q))
  · exact mem_grow.mpr (.inr q)), ho⟩
theorem Sim.public {h : Heap} (S : Sim B (p :: π) h σ β) : Sim B π h σ β where
  len := S.len
  nodup := S.nodup
  base := S.base
  new := S.new
  ent := fun k e a h1 h2 => by obtain ⟨vs, hp, hr⟩ := S.ent k e a h1 h2; exact ⟨vs, hp, Reps.mono unpriv hr⟩
  priv := fun a ha => S.priv a (List.mem_cons_of_mem _ ha)

/-- what an inner frame (a comprehension's) has reckoned, seen from the outer one -/
theorem At.inner {C : Addr} {m : Str → Option Value} (a : At fnm con B π cx env s ρ σ β) (x : Ok B π C β s s' σ σ') (hC : s.heap.Ns C m) (hne : C ≠ env.locals) : At fnm con B π cx env s' ρ σ' β := by
  have sk := x.seq hC
  refine ⟨a.fn, a.con, a.V, ⟨?_, fun i y h1 h2 => ?_, a.F.off, a.F.offc⟩, x.sim⟩
  · obtain ⟨m', hn, hv⟩ := a.F.loc
    exact ⟨m', Kept.ns hn fun o e => x.keep _ o e (fun q => a.F.off.1 (growS_sub q)) (Ne.symm hne), fun i y v h1 h2 h3 => by obtain ⟨v', e, r⟩ := hv i y v h1 h2 h3; exact ⟨v', e, r.seq sk⟩⟩
  · obtain ⟨c, o, hc, hi, hv⟩ := a.F.cell i y h1 h2
    refine ⟨c, o, hc, ?_, fun v h3 => by obtain ⟨v', e, r⟩ := hv v h3; exact ⟨v', e, r.seq sk⟩⟩
    obtain ⟨ob, ho, hd⟩ := id hi
    refine ⟨ob, (x.keep c ob ho (fun q => cell_not_grow a.S hi (growS_sub q)) ?_).cell hd, hd⟩
    rintro rfl
    obtain ⟨o', es, ep, ho', hd', _⟩ := hC
    rw [ho] at ho'; cases ho'
    rw [hd] at hd'; cases hd'
end
end Mine

/-! ## MComp -/
namespace Mine
open PySem PyProof.Rows

/-! ## a comprehension's closure -/
noncomputable def frees (names : List (Str × NameKind)) : List Str := (names.filter (·.2 == .free)).map (·.1)
noncomputable def cellAddr (env : Env) (n : Str) : Addr := (env.cells.lookup n).getD 0
noncomputable def closOf (env : Env) (names : List (Str × NameKind)) : List (Str × Addr) := ((frees names).map fun n => (n, cellAddr env n)).reverse

theorem closureFor_is {env : Env} {sc : Scope} (h : ∀ n ∈ frees sc.names, ∃ c, env.cells.lookup n = some c) : closureFor sc env = pure (closOf env sc.names) := by
  unfold closureFor closOf
  suffices key : ∀ (names : List (Str × NameKind)) (acc : List (Str × Addr)), (∀ n ∈ frees names, ∃ c, env.cells.lookup n = some c) →
      (forIn names acc fun (x : Str × NameKind) (cs : List (Str × Addr)) => (if (x.2 == NameKind.free) = true then do
        let a ← cellOf env x.1
        pure (ForInStep.yield ((x.1, a) :: cs)) else pure (ForInStep.yield cs) : Sem (ForInStep (List (Str × Addr))))) = pure (((frees names).map fun n => (n, cellAddr env n)).reverse ++ acc) by
    have := key sc.names [] h
    simp only [List.append_nil] at this
    rw [← this]
    simp only [bind_pure]
  intro names
  induction names with
  | nil => intro acc _; simp [frees]
  | cons x r ih =>
    intro acc hx
    obtain ⟨n, k⟩ := x
    rw [List.forIn_cons]
    by_cases hk : (k == NameKind.free) = true
    · have hf : frees ((n, k) :: r) = n :: frees r := by simp [frees, List.filter_cons, hk]
      rw [hf] at hx ⊢
      obtain ⟨c, hc⟩ := hx n (List.mem_cons_self)
      have hco : cellOf env n = pure c := by unfold cellOf; rw [hc]
      simp only [hk, if_true, hco, pure_bind]
      rw [ih _ fun m hm => hx m (List.mem_cons_of_mem _ hm)]
      simp [cellAddr, hc]
    · have hf : frees ((n, k) :: r) = frees r := by simp [frees, List.filter_cons, hk]
      rw [hf] at hx ⊢
      simp only [hk, Bool.false_eq_true, if_false, pure_bind]
      exact ih acc hx

theorem lookup_mem_nodup {α : Type} : ∀ {l : List (Str × α)} {n : Str} {c : α}, (l.map (·.1)).Nodup → (n, c) ∈ l → l.lookup n = some c
  | (k, v) :: r, n, c, hn, hm => by
    rw [List.map_cons, List.nodup_cons] at hn
    rw [List.lookup_cons]
    rcases List.mem_cons.mp hm with e | hm'
    · cases e; simp
    · have : n ≠ k := by rintro rfl; exact hn.1 (List.mem_map.mpr ⟨_, hm', rfl⟩)
      rw [beq_eq_false_iff_ne.mpr this]
      exact lookup_mem_nodup hn.2 hm'
theorem lookup_some_mem {α : Type} {l : List (Str × α)} {n : Str} {c : α} (h : l.lookup n = some c) : (n, c) ∈ l := mem_of_lookup h

theorem frees_nodup {names : List (Str × NameKind)} (h : (names.map (·.1)).Nodup) : (frees names).Nodup := by
  unfold frees
  exact List.Nodup.sublist ((List.filter_sublist).map _) h
theorem mem_frees {names : List (Str × NameKind)} {n : Str} : n ∈ frees names ↔ (n, NameKind.free) ∈ names := by
  unfold frees
  simp only [List.mem_map, List.mem_filter]
  constructor
  · rintro ⟨⟨m, k⟩, ⟨h1, h2⟩, rfl⟩
    simp at h2; subst h2; exact h1
  · intro h; exact ⟨_, ⟨h, by simp⟩, rfl⟩

theorem closOf_keys (env : Env) (names : List (Str × NameKind)) : (closOf env names).map (·.1) = (frees names).reverse := by
  unfold closOf
  rw [List.map_reverse, List.map_map]
  congr 1
  exact List.map_id _
theorem closOf_lookup {env : Env} {names : List (Str × NameKind)} (hn : (names.map (·.1)).Nodup) {n : Str} (h : n ∈ frees names) {c : Addr} (hc : env.cells.lookup n = some c) : (closOf env names).lookup n = some c := by
  refine lookup_mem_nodup ?_ ?_
  · rw [closOf_keys]; exact List.pairwise_reverse.mpr ((frees_nodup hn).imp fun h => Ne.symm h)
  · unfold closOf
    rw [List.mem_reverse, List.mem_map]
    exact ⟨n, h, by simp [cellAddr, hc]⟩
theorem closOf_mem {env : Env} {names : List (Str × NameKind)} (hf : ∀ n ∈ frees names, ∃ c, env.cells.lookup n = some c) {p : Str × Addr} (h : p ∈ closOf env names) : p ∈ env.cells := by
  unfold closOf at h
  rw [List.mem_reverse, List.mem_map] at h
  obtain ⟨n, hn, rfl⟩ := h
  obtain ⟨c, hc⟩ := hf n hn
  simp only [cellAddr, hc, Option.getD_some]
  exact mem_of_lookup hc
theorem closOf_apart {env : Env} {names : List (Str × NameKind)} (hn : (names.map (·.1)).Nodup) (hf : ∀ n ∈ frees names, ∃ c, env.cells.lookup n = some c) (ha : env.cells.Pairwise fun x y => x.2 ≠ y.2) :
    (closOf env names).Pairwise fun x y => x.2 ≠ y.2 := by
  have hk : (closOf env names).Pairwise fun x y => x.1 ≠ y.1 := by
    have : ((closOf env names).map (·.1)).Nodup := by rw [closOf_keys]; exact List.pairwise_reverse.mpr ((frees_nodup hn).imp fun h => Ne.symm h)
    exact List.pairwise_map.mp this
  refine List.Pairwise.imp_of_mem (fun {x y} hx hy hne e => ?_) hk
  obtain ⟨n, c⟩ := x
  obtain ⟨n', c'⟩ := y
  simp only at e hne
  subst e
  exact hne (name_of_addr ha (closOf_mem hf hx) (closOf_mem hf hy))

theorem relabel_is {env : Env} {cx : Cx} (V : EnvOk cx env) (sc : Scope) : relabel sc env = relabelS sc cx.scope := by
  unfold relabel relabelS Env.kindOf
  rw [V.scope]
theorem relabelS_local {sc outer : Scope} {x : Str} (h : sc.names.lookup x = some .local) : (relabelS sc outer).names.lookup x = some .local := by
  unfold relabelS
  simp only
  generalize sc.names = names at h ⊢
  induction names with
  | nil => simp at h
  | cons y r ih =>
    obtain ⟨n, k⟩ := y
    rw [List.lookup_cons] at h
    rw [List.map_cons]
    cases hx : x == n with
    | true =>
      rw [hx] at h; simp only at h
      cases h
      simp [List.lookup_cons, hx]
    | false =>
      rw [hx] at h; simp only at h
      have := ih h
      split <;> (rw [List.lookup_cons, hx]; exact this)
theorem relabelS_free {sc outer : Scope} {x : Str} (hk : outer.kind = .function) (h : sc.names.lookup x = some .free) (ho : outer.names.lookup x = some .cell) : (relabelS sc outer).names.lookup x = some .cell := by
  unfold relabelS
  simp only
  generalize sc.names = names at h ⊢
  induction names with
  | nil => simp at h
  | cons y r ih =>
    obtain ⟨n, k⟩ := y
    rw [List.lookup_cons] at h
    rw [List.map_cons]
    cases hx : x == n with
    | true =>
      rw [hx] at h; simp only at h
      cases h
      have : x = n := by simpa using hx
      subst this
      simp [hk, ho]
    | false =>
      rw [hx] at h; simp only at h
      have := ih h
      split <;> (rw [List.lookup_cons, hx]; exact this)

structure ScopeOk (x : Str) (sc outer : Scope) : Prop where
  kind : sc.kind = .function
  nocell : ∀ y ∈ sc.names, y.2 ≠ .cell
  locs : ∀ y ∈ sc.names, y.2 = .local → sc.names.lookup y.1 = some .local
  var : sc.names.lookup x = some .local
  outs : ∀ y ∈ sc.names, y.2 = .free → outer.names.lookup y.1 = some .cell
  nodup : (sc.names.map (·.1)).Nodup
theorem scopeOk {x : Str} {sc outer : Scope} (h : chkScope x sc outer = true) : ScopeOk x sc outer := by
  simp only [chkScope, Bool.and_eq_true, beq_iff_eq, List.all_eq_true, decide_eq_true_eq, Bool.not_eq_true', Bool.or_eq_true, beq_eq_false_iff_ne] at h
  obtain ⟨⟨⟨⟨⟨h1, h2⟩, h3⟩, h4⟩, h5⟩, h6⟩ := h
  exact ⟨h1, h2, fun y hy e => (h3 y hy).resolve_left (fun q => q e), h4, fun y hy e => (h5 y hy).resolve_left (fun q => q e), h6⟩

section
variable {fnm : Nat → Option Str} {con : Con} {B : Heap} {π : List Addr} {cx : Cx} {env : Env} {s s' : Shared} {ρ : Loc} {σ σ' : Sto} {β : List Addr} {x : Str} {k : Nat} {sc : Scope}

theorem frees_cells (V : EnvOk cx env) (F : FrameOk cx env B π s.heap ρ σ β) (hs : ScopeOk x sc cx.scope) (hv : ∀ n ∈ frees sc.names, ∃ i, cx.name i = some n) : ∀ n ∈ frees sc.names, ∃ c, env.cells.lookup n = some c := by
  intro n hn
  obtain ⟨i, hi⟩ := hv n hn
  obtain ⟨c, o, hc, _⟩ := F.cell i n hi (hs.outs _ (mem_frees.mp hn) rfl)
  exact ⟨c, hc⟩

/-- the frame of a comprehension's turn -/
theorem inner_at {C : Addr} {m : Str → Option Value} {d : Dat} {v' : Value} (a : At fnm con B π cx env s ρ σ β) (hs : ScopeOk x sc cx.scope) (hv : ∀ n ∈ frees sc.names, ∃ i, cx.name i = some n)
    (hC : s.heap.Ns C m) (hm : m x = some v') (r : Rep s.heap (grow π σ β) d v') (hB : B.objs.size ≤ C) :
    At fnm con B π (cx.inner x k sc) (compEnvC sc (closOf env sc.names) C env) s (ρ.set k (some (.dat d))) σ β := by
  have hfc := frees_cells a.V a.F hs hv
  have hnm : ∀ i y, (cx.inner x k sc).name i = some y → (i = k ∧ y = x) ∨ (i ≠ k ∧ y ≠ x ∧ cx.name i = some y ∧ sc.names.lookup y = some .free) := by
    intro i y h
    simp only [Cx.inner] at h
    split at h
    · rename_i e; cases h; exact .inl ⟨e, rfl⟩
    · rename_i e
      split at h
      · rename_i z hz
        split at h
        · rename_i hh; cases h; exact .inr ⟨e, hh.1, hz, hh.2⟩
        · cases h
      · cases h
  refine ⟨a.fn, ⟨a.con.1, fun q => nomatch q⟩, ⟨?_, hs.kind, a.V.globals, a.V.builtins, closOf_apart hs.nodup hfc a.V.apart, fun p hp => ?_, fun i j y h1 h2 => ?_⟩, ⟨⟨m, hC, fun i y v h1 h2 h3 => ?_⟩, fun i y h1 h2 => ?_, ⟨ns_not_grow a.S hC, hB⟩, fun p hp => a.F.offc p (closOf_mem hfc hp)⟩, a.S⟩
  · show relabel sc env = relabelS sc cx.scope
    exact relabel_is a.V sc
  · show p.2 ≠ C
    replace hp : p ∈ closOf env sc.names := hp
    unfold closOf at hp
    rw [List.mem_reverse, List.mem_map] at hp
    obtain ⟨n, hn, rfl⟩ := hp
    obtain ⟨i, hi⟩ := hv n hn
    obtain ⟨c, o, hc, hcell, _⟩ := a.F.cell i n hi (hs.outs _ (mem_frees.mp hn) rfl)
    simp only [cellAddr, hc, Option.getD_some]
    rintro rfl
    obtain ⟨o1, ho1, hd1⟩ := hcell
    obtain ⟨o2, es, ep, ho2, hd2, _⟩ := hC
    rw [ho1] at ho2; cases ho2
    rw [hd1] at hd2; cases hd2
  · rcases hnm i y h1 with ⟨e1, e2⟩ | ⟨e1, e2, e3, e4⟩ <;> rcases hnm j y h2 with ⟨f1, f2⟩ | ⟨f1, f2, f3, f4⟩
    · exact e1.trans f1.symm
    · exact absurd e2 f2
    · exact absurd f2 e2
    · exact a.V.inj i j y e3 f3
  · rcases hnm i y h1 with ⟨rfl, rfl⟩ | ⟨e1, e2, e3, e4⟩
    · rw [List.getElem?_set_self'] at h3
      cases hq : ρ[i]? with
      | none => rw [hq] at h3; cases h3
      | some z => rw [hq] at h3; simp at h3; subst h3; exact ⟨v', hm, r⟩
    · have := relabelS_free a.V.kind e4 (hs.outs (y, .free) (mem_of_lookup e4) rfl)
      rw [show (cx.inner x k sc).scope = relabelS sc cx.scope from rfl, this] at h2
      cases h2
  · rcases hnm i y h1 with ⟨rfl, rfl⟩ | ⟨e1, e2, e3, e4⟩
    · have := relabelS_local (outer := cx.scope) hs.var
      rw [show (cx.inner y i sc).scope = relabelS sc cx.scope from rfl, this] at h2
      cases h2
    · obtain ⟨c, o, hc, hi, hvv⟩ := a.F.cell i y e3 (hs.outs (y, .free) (mem_of_lookup e4) rfl)
      refine ⟨c, o, closOf_lookup hs.nodup (mem_frees.mpr (mem_of_lookup e4)) hc, hi, fun v h3 => ?_⟩
      rw [List.getElem?_set_ne (Ne.symm e1)] at h3
      exact hvv v h3
end
end Mine

/-! ## MLoop -/
namespace Mine
open PySem PyProof.Rows

theorem Kd.St.kept {h h' : Heap} {I : Addr} {K : Kd} {i : Nat} (x : K.St h I i) (hk : ∀ o, h.get? I = some o → Kept h' I o) : K.St h' I i :=
  x.at fun o e => by obtain ⟨o₀, vs, h0, hd⟩ := x.fields; rw [e] at h0; cases h0; exact (hk o e).fields hd
theorem plain_kept {h h' : Heap} {D : Addr} {vs : Array Value} (x : h.PlainList D vs) (hk : ∀ o, h.get? D = some o → Kept h' D o) : h'.PlainList D vs := by
  obtain ⟨n, e⟩ := x
  exact ⟨n, (hk _ e).seq rfl⟩
theorem nx1 {a b : Nat} (h : b = a + 1) : a ≤ b ∧ a ≠ b := by omega
theorem nx2 {a b : Nat} (h : b = a + 2) : a ≤ b ∧ a ≠ b := by omega
theorem nx3 {a b c : Nat} (h : b = a + 1) (h' : c = a + 2) : b ≠ c := by omega
theorem neA {a b : Nat} (h : @Ne Nat a b) : @Ne Addr a b := h
theorem ltSz {h : Heap} {a : Nat} {o : Obj} (e : h.get? a = some o) : @LT.lt Nat instLTNat a h.objs.size := Heap.lt_size e
theorem ltNs {h : Heap} {a : Nat} {m : Str → Option Value} (e : h.Ns a m) : @LT.lt Nat instLTNat a h.objs.size := e.lt
theorem ltSim {B h : Heap} {π β : List Addr} {σ : Sto} (S : Sim B π h σ β) {a : Nat} (ha : a ∈ β) : @LT.lt Nat instLTNat a h.objs.size := S.lt ha
theorem offN {cx : Cx} {env : Env} {B h : Heap} {π β : List Addr} {ρ : Loc} {σ : Sto} (F : FrameOk cx env B π h ρ σ β) : @LE.le Nat instLENat B.objs.size env.locals := F.off.2

theorem compL_cons {s : Src} {f : Dat → Sto → Out (Option Dat)} {d : Dat} {ds r : List Dat} {σ σ' : Sto} (h : compL s f (d :: ds) σ = .val r σ') :
    s.still σ = true ∧ ∃ o σ₁ r', f d σ = .val o σ₁ ∧ compL s f ds σ₁ = .val r' σ' ∧ r = o.toList ++ r' := by
  simp only [compL] at h
  split at h
  · rename_i hs
    obtain ⟨o, σ₁, h1, h2⟩ := Out.bind_eq h
    obtain ⟨r', σ₂, h3, h4⟩ := Out.bind_eq h2
    cases h4
    exact ⟨hs, o, σ₁, r', h1, h3, rfl⟩
  · cases h
theorem compL_nil {s : Src} {f : Dat → Sto → Out (Option Dat)} {r : List Dat} {σ σ' : Sto} (h : compL s f [] σ = .val r σ') : s.still σ = true ∧ r = [] ∧ σ' = σ := by
  simp only [compL] at h
  split at h
  · rename_i hs; cases h; exact ⟨hs, rfl, rfl⟩
  · cases h

section
variable {prog : Program} {w : World} {A : Around} {fnm : Nat → Option Str} {con : Con} {B : Heap} {π : List Addr} {cx : Cx} {env : Env} {s s' : Shared} {ρ : Loc} {σ σ' : Sto} {β : List Addr} {x : Str} {k : Nat} {sc : Scope}
  {E : Value → Shared → Prop}

theorem comp_run {elt iter : Expr} {px cpos : Pos} {conds : List Expr} {src : Src} {f : Dat → Sto → Out (Option Dat)} {xv : Value} {ds : List Dat} {RR : Value → Addr → Result → Shared → Prop}
    (hh : A.handled = none) (a : At fnm con B π cx env s ρ σ β) (hs : ScopeOk x sc cx.scope) (hv : ∀ n ∈ frees sc.names, ∃ i, cx.name i = some n)
    (hiv : IterVal s.heap π β σ src xv) (hlen : src.items.length ≤ 1000000)
    (turn : ∀ (cenv : Env) (π' : List Addr) (s₂ : Shared) (σ₂ σ₃ : Sto) (d : Dat) (o : Option Dat) (E' : Value → Shared → Prop), At fnm con B π' (cx.inner x k sc) cenv s₂ (ρ.set k (some (.dat d))) σ₂ β → f d σ₂ = .val o σ₃ →
      wpAny (model prog w) A (forIn conds true fun c r => if r = true then do let ok ← isTrue c cenv (eval c cenv); pure (ForInStep.yield ok) else pure (ForInStep.yield r))
        (fun ok s₃ => if ok = true then ∃ e, o = some e ∧ wpAny (model prog w) A (eval elt cenv) (fun y s₄ => Rep s₄.heap (grow π' σ₃ β) e y ∧ Ok B π' cenv.locals β s₂ s₄ σ₂ σ₃) E' s₃
          else o = none ∧ Ok B π' cenv.locals β s₂ s₃ σ₂ σ₃) E' s₂)
    (e : compL src f src.items σ = .val ds σ')
    (hRR : ∀ (D C : Addr) (s' : Shared) (m' : Str → Option Value) (vs : Array Value), (∃ h' tk, s' = { s with heap := h', toks := tk }) → s.heap.get? D = none → s.heap.get? C = none → D ≠ C → s'.heap.Ns C m' → s'.heap.PlainList D vs →
      Reps s'.heap (grow π σ' β) ds vs.toList → D ∉ grow π σ' β → Sim B π s'.heap σ' β → (∀ b o, s.heap.get? b = some o → b ∉ growS σ β → Kept s'.heap b o) → (∀ a, a ∈ growS σ' β → a ∈ growS σ β) → RR (.ref D) C (.ok .next) s') :
    wpAny (model prog w) A (pyIter xv) (fun it s₂ => wpAny (model prog w) A (newList []) (fun acc s₃ =>
      wpAny (model prog w) A (newFunctionEnv sc env.globals (closOf env sc.names) [] env.qual none .none (some env)) (fun cenv s₄ =>
        codeAny (model prog w) A (.compStart (.ListComp elt [⟨.Name x px, iter, conds, 0⟩] sc cpos) 0 it acc { cenv with scope := relabel sc env }) (RR acc cenv.locals) s₄) E s₃) E s₂) E s := by
  refine iter_start a.S hiv fun K ob hK hst hfree => ?_
  refine wpAny_newObj_type (wpAny_newFunctionEnv hs.nocell (by intro y hy; simp at hy) (fun h₁ hns₁ hsb₁ => ?_) hs.kind)
  dsimp only at hns₁ hsb₁ ⊢
  generalize hH1 : s.heap.push ob = H1 at hst hns₁ hsb₁ ⊢
  have hDsz : H1.objs.size = s.heap.objs.size + 1 := by rw [← hH1, Heap.size_push]
  generalize hH2 : H1.push { cls := .type "list", dict := none, data := .seq ([] : List Value).toArray } = H2 at hns₁ hsb₁ ⊢
  have hCsz : H2.objs.size = s.heap.objs.size + 2 := by rw [← hH2, Heap.size_push, hDsz]
  generalize hDD : H1.objs.size = D at *
  generalize hCC : H2.objs.size = C at *
  generalize hII : s.heap.objs.size = I at *
  have dead : ∀ p : Nat, I ≤ p → s.heap.get? p = none := fun p hp => by
    cases q : s.heap.get? p with
    | none => rfl
    | some o => have := ltSz q; omega
  have leD : @LE.le Nat instLENat I D := (nx1 hDsz).1
  have leC : @LE.le Nat instLENat I C := (nx2 hCsz).1
  have nID : @Ne Addr I D := neA (nx1 hDsz).2
  have nIC : @Ne Addr I C := neA (nx2 hCsz).2
  have nDC : @Ne Addr D C := neA (nx3 hDsz hCsz)
  have nof : ∀ {b p : Addr} {o : Obj}, @LE.le Nat instLENat I p → s.heap.get? b = some o → b ≠ p := fun {b p o} hp q e => by rw [e, dead p hp] at q; cases q
  have nb : ∀ {b : Addr} {o : Obj}, s.heap.get? b = some o → b ≠ I ∧ b ≠ D ∧ b ≠ C := fun q => ⟨nof (Nat.le_refl _) q, nof leD q, nof leC q⟩
  have fr : ∀ p : Addr, @LE.le Nat instLENat I p → p ≠ env.locals ∧ p ∉ β ∧ B.get? p = none := fun p hp => by
    refine ⟨fun e => ?_, fun q => ?_, ?_⟩
    · obtain ⟨m, o, _, _, ho, _⟩ := a.ns
      exact nof hp ho e.symm
    · obtain ⟨j, hj, ej⟩ := List.mem_iff_getElem.mp q
      obtain ⟨vs', ⟨n', hq'⟩, _⟩ := a.S.ent j (σ[j]'(by rw [← a.S.len]; exact hj)) p (List.getElem?_eq_getElem _) (by rw [List.getElem?_eq_getElem hj, ej])
      exact nof hp hq' rfl
    · cases q : B.get? p with
      | none => rfl
      | some o => exact absurd rfl (nof hp (a.S.base p o q))
  have old : ∀ b o, s.heap.get? b = some o → h₁.get? b = some o := fun b o q => by
    refine hsb₁.extBut b o (nb q).2.2 (Heap.get?_push_of_some _ ?_)
    rw [← hH2]; refine Heap.get?_push_of_some _ ?_
    rw [← hH1]; exact Heap.get?_push_of_some _ q
  have hD₁ : h₁.PlainList D #[] := ⟨_, hsb₁.extBut _ _ nDC (Heap.get?_push_of_some _ (by rw [← hH2, ← hDD]; exact Heap.get?_push_size _ rfl))⟩
  have hst₁ : K.St h₁ I 0 := hst.at fun o q => hsb₁.extBut I o nIC (Heap.get?_push_of_some _ (by rw [← hH2]; exact Heap.get?_push_of_some _ q))
  have hBle : B.objs.size ≤ I := by
    rw [← hII]
    rcases Nat.lt_or_ge s.heap.objs.size B.objs.size with h | h
    · exfalso
      obtain ⟨m, hm⟩ := a.ns
      have h1 := offN a.F
      have h2 := ltNs hm
      omega
    · exact h
  have loop : ∀ s₃ : Shared, s₃ = { s with heap := h₁, toks := s.toks + ([] : List (Str × Value)).length } →
      codeAny (model prog w) A (.compLoop (.ListComp elt [⟨.Name x px, iter, conds, 0⟩] sc cpos) 0 (.ref I) (.ref D) (compEnvC sc (closOf env sc.names) C env)) (RR (.ref D) C) s₃ := by
    rintro s₃ rfl
    refine codeAny_compLoop_tests (fun n s₂ => ∃ i σ₂ done rest vs m, (∃ h' tk, s₂ = { s with heap := h', toks := tk }) ∧ At fnm con B (D :: π) cx env s₂ ρ σ₂ β ∧ K.Is s₂.heap (D :: π) β σ₂ src ∧ K.St s₂.heap I i ∧
      s₂.heap.PlainList D vs ∧ Reps s₂.heap (grow (D :: π) σ₂ β) done vs.toList ∧ done.length ≤ i ∧ s₂.heap.Ns C m ∧ compL src f (src.items.drop i) σ₂ = .val rest σ' ∧ ds = done ++ rest ∧ i ≤ src.items.length ∧ n = src.items.length + 1 - i ∧
      (∀ b o, s.heap.get? b = some o → b ∉ growS σ β → Kept s₂.heap b o) ∧ (∀ a, a ∈ growS σ₂ β → a ∈ growS σ β)) ?_ (src.items.length + 1) ?_
    · rintro n s₂ ⟨i, σ₂, done, rest, vs, m, ⟨h₂, tk₂, rfl⟩, a₂, hK₂, hst₂, hD₂, hr₂, hdl, hC₂, he, hds, hi, rfl, hk₂, hm₂⟩
      -- foreign objects
      have fI : ∀ {h : Heap} {j : Nat}, K.St h I j → Foreign B (D :: π) β env h I := fun {h} {j} st => by
        obtain ⟨o₀, vs₀, hI, hd₀⟩ := st.fields
        refine ⟨.inr (fun o xs n' ho hd => by rw [hI] at ho; cases ho; rw [hd₀] at hd; cases hd), (fun o v ho hd => by rw [hI] at ho; cases ho; rw [hd₀] at hd; cases hd), ?_, fun q => ?_, ?_⟩
        · exact (fr I (Nat.le_refl _)).1
        · exact (fr I (Nat.le_refl _)).2.1 q
        · exact (fr I (Nat.le_refl _)).2.2
      have fC : ∀ {h : Heap} {m : Str → Option Value}, h.Ns C m → Foreign B (D :: π) β env h C := fun {h} {m} hn => by
        obtain ⟨o₀, es, ep, hI, hd₀, _⟩ := hn
        refine ⟨.inr (fun o xs n' ho hd => by rw [hI] at ho; cases ho; rw [hd₀] at hd; cases hd), (fun o v ho hd => by rw [hI] at ho; cases ho; rw [hd₀] at hd; cases hd), ?_, fun q => ?_, ?_⟩
        · exact (fr C leC).1
        · exact (fr C leC).2.1 q
        · exact (fr C leC).2.2
      have fD : ∀ {h : Heap} {vs : Array Value}, h.PlainList D vs → Foreign B (D :: π) β env h D := fun {h} {vs} hp => by
        obtain ⟨n', hp⟩ := hp
        refine ⟨.inl List.mem_cons_self, (fun o v ho hd => by rw [hp] at ho; cases ho; cases hd), ?_, fun q => ?_, ?_⟩
        · exact (fr D leD).1
        · exact (fr D leD).2.1 q
        · exact (fr D leD).2.2
      by_cases hlt : i < src.items.length
      · have hd : src.items.drop i = src.items[i] :: src.items.drop (i + 1) := List.drop_eq_getElem_cons hlt
        rw [hd] at he
        obtain ⟨hstill, o, σ₃, r', hf, he', hr'⟩ := compL_cons he
        refine next_item a₂.S hstill hK₂ hst₂ (List.getElem?_eq_getElem hlt) fun v' h₃ tk₃ rv hst₃ hk₃ => ?_
        have hk₃' : ∀ b o, b ≠ I → h₂.get? b = some o → h₃.get? b = some o := hk₃
        have al₃ : (h₃.get? I).isSome = true := by obtain ⟨o₀, _, hI, _⟩ := hst₃.fields; rw [hI]; rfl
        have a₃ : At fnm con B (D :: π) cx env { s with heap := h₃, toks := tk₃ } ρ σ₂ β := a₂.poke (fI hst₂) hk₃' al₃
        have sk₃ : SeqKeep (grow (D :: π) σ₂ β) (grow (D :: π) σ₂ β) h₂ h₃ := (fI hst₂).seqKeep hk₃'
        have hC₃ : h₃.Ns C m := hC₂.at' fun o q => hk₃' C o nIC.symm q
        have hD₃ : h₃.PlainList D vs := hD₂.at fun o q => hk₃' D o nID.symm q
        refine wpAny_assign_Name (wpAny_storeName_local (env := compEnvC sc (closOf env sc.names) C env) (by show (relabel sc env).names.lookup x = _; rw [relabel_is a.V]; exact relabelS_local hs.var) hC₃ (fun h₄ hn₄ hs₄ => ?_) (by simp [compEnvC, relabel, hs.kind]))
        have hk₄ : ∀ b o, b ≠ C → h₃.get? b = some o → h₄.get? b = some o := fun b o hb q => hs₄.extBut b o hb q
        have al₄ : (h₄.get? C).isSome = true := by obtain ⟨o₀, _, _, hI, _⟩ := hn₄; have hI : h₄.get? C = some o₀ := hI; rw [hI]; rfl
        have a₄ : At fnm con B (D :: π) cx env { s with heap := h₄, toks := tk₃ + 1 } ρ σ₂ β := a₃.poke (fC hC₃) hk₄ al₄
        have sk₄ : SeqKeep (grow (D :: π) σ₂ β) (grow (D :: π) σ₂ β) h₃ h₄ := (fC hC₃).seqKeep hk₄
        have ai := inner_at (k := k) a₄ hs hv hn₄ (by simp) (Rep.mono sk₄ rv) (show B.objs.size ≤ C from Nat.le_trans hBle leC)
        refine wpAny_mono (turn _ _ _ σ₂ σ₃ src.items[i] o _ ai hf) (fun ok s₅ h₅ => ?_) fun _ _ q => q
        have hne : C ≠ env.locals := (fr C leC).1
        -- what stands after a step of the inner frame
        have inn : ∀ {s₆ : Shared}, Ok B (D :: π) C β { s with heap := h₄, toks := tk₃ + 1 } s₆ σ₂ σ₃ →
            (∃ h' tk, s₆ = { s with heap := h', toks := tk }) ∧ At fnm con B (D :: π) cx env s₆ ρ σ₃ β ∧ K.Is s₆.heap (D :: π) β σ₃ src ∧ K.St s₆.heap I (i + 1) ∧ s₆.heap.PlainList D vs ∧ Reps s₆.heap (grow (D :: π) σ₃ β) done vs.toList ∧ (∃ m, s₆.heap.Ns C m) ∧
            (∀ b o, s.heap.get? b = some o → b ∉ growS σ β → Kept s₆.heap b o) ∧ (∀ a, a ∈ growS σ₃ β → a ∈ growS σ β) := fun {s₆} ok => by
          have sk₆ := ok.seq hn₄
          refine ⟨by obtain ⟨h', tk, rfl⟩ := ok.sh; exact ⟨h', tk, rfl⟩, a₄.inner ok hn₄ hne, ((hK₂.mono' sk₃).mono' sk₄).mono' sk₆, (hst₃.at fun o q => hk₄ I o nIC q).kept fun o q => ok.keep I o q (fun q => (fI hst₂).sto (growS_sub q)) nIC,
            plain_kept (hD₃.at fun o q => hk₄ D o nDC q) fun o q => ok.keep D o q (fun q => (fD hD₂).sto (growS_sub q)) nDC, Reps.mono sk₆ (Reps.mono sk₄ (Reps.mono sk₃ hr₂)), ⟨_, ok.ns _ hn₄⟩, fun b o q hb => ?_, fun b q => hm₂ b (ok.mon b q)⟩
          exact (hk₂ b o q hb).step fun o' q' => ok.keep b o' (hk₄ b o' (nb q).2.2 (hk₃' b o' (nb q).1 q')) (fun z => hb (hm₂ b z)) (nb q).2.2
        cases ok with
        | false =>
          simp only [Bool.false_eq_true, if_false] at h₅ ⊢
          obtain ⟨rfl, ok⟩ := h₅
          obtain ⟨q1, q2, q3, q4, q5, q6, ⟨m6, q7⟩, q8, q9⟩ := inn ok
          exact ⟨src.items.length + 1 - (i + 1), by omega, i + 1, σ₃, done, r', vs, m6, q1, q2, q3, q4, q5, q6, by omega, q7, he', by rw [hds, hr']; rfl, by omega, rfl, q8, q9⟩
        | true =>
          simp only [if_true] at h₅ ⊢
          obtain ⟨e1, rfl, h₅⟩ := h₅
          refine wpAny_mono h₅ (fun y s₆ h₆ => ?_) fun _ _ q => q
          obtain ⟨ry, ok⟩ := h₆
          obtain ⟨q1, q2, q3, q4, q5, q6, ⟨m6, q7⟩, q8, q9⟩ := inn ok
          obtain ⟨h', tk', rfl⟩ := q1
          have hsz := q6.size
          refine wpAny_list_append_plain q5 (fun h₇ hl₇ hs₇ => ?_) (by show _ ≤ 2 ^ 24; omega)
          have hk₇ : ∀ b o, b ≠ D → h'.get? b = some o → h₇.get? b = some o := fun b o hb q => hs₇.extBut b o hb q
          have al₇ : (h₇.get? D).isSome = true := by obtain ⟨n', hl₇⟩ := hl₇; rw [hl₇]; rfl
          have sk₇ : SeqKeep (grow (D :: π) σ₃ β) (grow (D :: π) σ₃ β) h' h₇ := (fD q5).seqKeep hk₇
          refine ⟨src.items.length + 1 - (i + 1), by omega, i + 1, σ₃, done ++ [e1], r', vs.push y, m6, ⟨_, _, rfl⟩, q2.poke (fD q5) hk₇ al₇, q3.mono' sk₇, q4.at fun o q => hk₇ I o nID q, hl₇, ?_, by simp; omega, q7.at' fun o q => hk₇ C o nDC.symm q, he', by rw [hds, hr']; simp, by omega, rfl,
            fun b o q hb => (q8 b o q hb).step fun o' q' => .of (hk₇ b o' (nb q).2.1 q'), q9⟩
          rw [Array.toList_push]
          exact (Reps.mono sk₇ q6).snoc (Rep.mono sk₇ ry)
      · have hin : i = src.items.length := by omega
        rw [List.drop_of_length_le (by omega)] at he
        obtain ⟨hstill, hr', hσ⟩ := compL_nil he
        subst hσ
        refine next_done hh a₂.S hstill hK₂ hst₂ (by omega) (by omega) fun h₃ tk₃ hk₃ => ?_
        have hk₃' : ∀ b o, b ≠ I → h₂.get? b = some o → h₃.get? b = some o := hk₃
        have hC₃ : h₃.Ns C m := hC₂.at' fun o q => hk₃' C o nIC.symm q
        have hD₃ : h₃.PlainList D vs := hD₂.at fun o q => hk₃' D o nID.symm q
        have sk₃ : SeqKeep (grow (D :: π) σ' β) (grow (D :: π) σ' β) h₂ h₃ := (fI hst₂).seqKeep hk₃'
        have S₃ : Sim B (D :: π) h₃ σ' β := by
          refine ⟨a₂.S.len, a₂.S.nodup, fun b o q => hk₃' b o (nb (a.S.base b o q)).1 (a₂.S.base b o q), a₂.S.new, fun j en p h1 h2 => ?_, fun p hp => ⟨?_, (a₂.S.priv p hp).2⟩⟩
          · obtain ⟨vs', hp, hr⟩ := a₂.S.ent j en p h1 h2
            exact ⟨vs', hp.at fun o q => hk₃' p o (by rintro rfl; exact (fI hst₂).sto (List.mem_of_getElem? h2)) q, Reps.mono sk₃ hr⟩
          · obtain ⟨o, ho⟩ := Option.isSome_iff_exists.mp (a₂.S.priv p hp).1
            rw [hk₃' p o ?_ ho]; rfl
            rintro rfl
            rcases List.mem_cons.mp hp with h | h
            · exact absurd h nID
            · have := (a.S.priv p h).1; rw [dead p (Nat.le_refl _)] at this; cases this
        rw [hr', List.append_nil] at hds
        refine hRR D C _ m vs ⟨_, _, rfl⟩ (dead D leD) (dead C leC) nDC hC₃ hD₃ (by rw [hds]; exact Reps.mono unpriv (Reps.mono sk₃ hr₂)) (fun q => ?_) S₃.public (fun b o q hb => (hk₂ b o q hb).step fun o' q' => .of (hk₃' b o' (nb q).1 q')) hm₂
        rcases mem_grow.mp q with q | q
        · have := (a.S.priv D q).1; rw [dead D leD] at this; cases this
        · exact (fD hD₂).sto (growS_sub q)
    · refine ⟨0, σ, [], ds, #[], _, ⟨_, _, rfl⟩, a.private old (dead D leD) (by obtain ⟨n', hp⟩ := hD₁; rw [hp]; rfl), ?_, hst₁, hD₁, by simp [Reps], by simp, hns₁, by simpa using e, by simp, by omega, by omega, fun b o q _ => .of (old b o q), fun _ q => q⟩
      have sk : SeqKeep (grow π σ β) (grow (D :: π) σ β) s.heap h₁ := fun b o xs n ho hd hb => ⟨fun q => by
        rcases mem_grow.mp q with q | q
        · rcases List.mem_cons.mp q with rfl | q
          · rw [dead b leD] at ho; cases ho
          · exact hb (mem_grow.mpr (.inl q))
        · exact hb (mem_grow.mpr (.inr q)), old b o ho⟩
      cases K with
      | list p =>
        rcases hK with ⟨h1, h2⟩ | ⟨j, h1, h2⟩
        · exact .inl ⟨h1, Rep.mono sk h2⟩
        · exact .inr ⟨j, h1, h2⟩
      | tuple p => exact ⟨hK.1, Rep.mono sk hK.2⟩
      | ascii => exact hK
      | wide => exact hK
      | range => exact hK
      | rev => exact hK
  exact codeAny_compStart_list (loop _ rfl) (iter_self hst₁ (loop _ rfl))
end
end Mine

/-! ## MSound -/
namespace Mine
open PySem PyProof.Rows

section
variable {prog : Program} {w : World} {A : Around} {B : Heap} {Δ : Nat → Option Fn} {fnm : Nat → Option Str} {con : Con} {mg mb : Str → Option Value} {sub : Nat → Nat → Bool} {C : Oracle}

theorem newTuple_sound {M : Model} {E : Value → Shared → Prop} {env : Env} {s s₁ : Shared} {σ σ₁ : Sto} {π β : List Addr} {ds : List Dat} {vs : List Value} (o : Ok B π env.locals β s s₁ σ σ₁) (r : Reps s₁.heap (grow π σ₁ β) ds vs) (hl : vs.length ≤ 1000000) :
    wpAny M A (newTuple vs) (EP B π env β s σ (.dat (.tup ds)) σ₁) E s₁ :=
  wpAny_newObj_type ⟨Rep.newTuple r o.sim.fresh, o.trans (Ok.push o.sim _)⟩ (by show vs.toArray.size ≤ 2 ^ 24; simp; omega)
theorem newList_sound {M : Model} {E : Value → Shared → Prop} {env : Env} {s s₁ : Shared} {σ σ₁ : Sto} {π β : List Addr} {ds : List Dat} {vs : List Value} (o : Ok B π env.locals β s s₁ σ σ₁) (r : Reps s₁.heap (grow π σ₁ β) ds vs) (hl : vs.length ≤ 1000000) :
    wpAny M A (newList vs) (EP B π env β s σ (.dat (.lst ds)) σ₁) E s₁ :=
  wpAny_newObj_type ⟨Rep.newList r o.sim.fresh, o.trans (Ok.push o.sim _)⟩ (by show vs.toArray.size ≤ 2 ^ 24; simp; omega)

theorem truthy_sound {M : Model} {E : Value → Shared → Prop} {s : Shared} {σ : Sto} {π β : List Addr} {v : Val} {v' : Value} {b : Bool} {Q : Bool → Shared → Prop} (S : Sim B π s.heap σ β) (r : RelV s.heap π β σ v v') (h : look σ v = some (.bool b)) (q : Q b s) : wpAny M A (truthy v') Q E s := by
  have := look_seen S r h
  have e : v' = .bool b := this
  subst e
  exact wpAny_truthy_bool q

/-- list(x) of a list or tuple -/
theorem listOf_sound {E : Value → Shared → Prop} {s : Shared} {σ : Sto} {π β : List Addr} {L : Addr} {a d : Dat} {va : Value} (S : Sim B π s.heap σ β) (ha : Seen s.heap (grow π σ β) a va) (e : seqD a = some d)
    {Q : Value → Shared → Prop} (hQ : ∀ s' l vs, d = .lst l → Ok B π L β s s' σ σ → s'.heap.PlainList s.heap.objs.size vs → Reps s.heap (grow π σ β) l vs.toList → (∀ b o, s.heap.get? b = some o → s'.heap.get? b = some o) → Q (.ref s.heap.objs.size) s') :
    wpAny (model prog w) A (call (.type "list") [va]) Q E s := by
  have key : ∀ {l : List Dat} {p : Addr} {vs : Array Value} {T : String} {o : Obj} {n : Nat}, (T = "list" ∨ T = "tuple") → s.heap.get? p = some o → o.cls = .type T → o.data = .seq vs n → Reps s.heap (grow π σ β) l vs.toList → l.length ≤ 1000000 → d = .lst l →
      wpAny (model prog w) A (call (.type "list") [.ref p]) Q E s := by
    intro l p vs T o n hT ho hc hd hr hlen he
    have hsz := hr.size
    refine call_list_seq p hT ho hc hd (fun h' c' hk hn => ?_) (by show _ ≤ 2 ^ 24; omega)
    exact hQ _ l vs he (Ok.keeps S ⟨_, _, rfl⟩ hk) ⟨c', hn⟩ hr hk
  cases a <;> simp only [seqD, reduceCtorEq] at e
  · split at e
    · rename_i l hlen
      cases e
      obtain ⟨p, vs, rfl, ⟨o, ho, hc, n, hd⟩, hr⟩ := ha
      exact key (.inr rfl) ho hc hd hr hlen rfl
    · cases e
  · split at e
    · rename_i l hlen
      cases e
      obtain ⟨p, vs, rfl, ⟨o, ho, hc, n, hd⟩, hr⟩ := ha
      exact key (.inl rfl) ho hc hd hr hlen rfl
    · cases e

theorem idx_from (k n : Nat) : Builtin.Str.strSliceIndices (some (k : Int)) none 1 n = Builtin.Str.strSliceIndices (some ((min k n : Nat) : Int)) (some (n : Int)) 1 n := by
  have h0 : ¬ ((k : Int) < 0) := Int.not_lt.mpr (Int.natCast_nonneg k)
  have h1 : ¬ (((min k n : Nat) : Int) < 0) := Int.not_lt.mpr (Int.natCast_nonneg _)
  have h2 : ¬ ((n : Int) < 0) := Int.not_lt.mpr (Int.natCast_nonneg n)
  simp only [Builtin.Str.strSliceIndices, h0, h1, h2, if_false, show ((1 : Int) > 0) = True from by simp, if_true]
  congr 1 <;> omega
theorem idx_to (k n : Nat) : Builtin.Str.strSliceIndices none (some (k : Int)) 1 n = Builtin.Str.strSliceIndices (some ((0 : Nat) : Int)) (some ((min k n : Nat) : Int)) 1 n := by
  have h0 : ¬ ((k : Int) < 0) := Int.not_lt.mpr (Int.natCast_nonneg k)
  have h1 : ¬ (((min k n : Nat) : Int) < 0) := Int.not_lt.mpr (Int.natCast_nonneg _)
  have h2 : ¬ (((0 : Nat) : Int) < 0) := Int.not_lt.mpr (Int.natCast_nonneg 0)
  simp only [Builtin.Str.strSliceIndices, h0, h1, h2, if_false, show ((1 : Int) > 0) = True from by simp, if_true]
  congr 1 <;> omega
theorem idx_len {a b n : Nat} (hab : a ≤ b) (hb : b ≤ n) : (Builtin.Str.strSliceIndices (some (a : Int)) (some (b : Int)) 1 n).length = b - a := by
  rw [StrLaws.strSliceIndices_plain hab hb]; simp
theorem txt_from (l : List Nat) (k : Nat) : Txt.slice ⟨l.toArray⟩ (some (k : Int)) none = ⟨(l.drop k).toArray⟩ := by
  have hl : (Str.mk l.toArray).length = l.length := by simp [Str.length]
  unfold Txt.slice
  rw [hl, idx_from, idx_len (by omega) (by omega)]
  have hp := StrLaws.sliced_plain ⟨l.toArray⟩ (a := min k l.length) (b := l.length) (by omega) (by rw [hl]; omega)
  rw [hl] at hp
  split
  · rename_i h
    simp at h
    have : k = 0 ∨ l = [] := by
      cases l with
      | nil => exact .inr rfl
      | cons x l => left; simp at h; omega
    rcases this with rfl | rfl
    · rfl
    · simp
  · rw [hp]
    congr 2
    simp only
    rcases Nat.le_total k l.length with h | h
    · rw [Nat.min_eq_left h, List.take_of_length_le (by simp)]
    · rw [Nat.min_eq_right h, List.drop_of_length_le (by simp), List.drop_of_length_le h]; simp
theorem txt_to (l : List Nat) (k : Nat) : Txt.slice ⟨l.toArray⟩ none (some (k : Int)) = ⟨(l.take k).toArray⟩ := by
  have hl : (Str.mk l.toArray).length = l.length := by simp [Str.length]
  unfold Txt.slice
  rw [hl, idx_to, idx_len (by omega) (by omega)]
  have hp := StrLaws.sliced_plain ⟨l.toArray⟩ (a := 0) (b := min k l.length) (by omega) (by rw [hl]; omega)
  rw [hl] at hp
  split
  · rename_i h
    simp at h
    rw [List.take_of_length_le (by omega)]
  · rw [hp]
    congr 2
    simp only [List.drop_zero, Nat.sub_zero]
    rcases Nat.le_total k l.length with h | h
    · rw [Nat.min_eq_left h]
    · rw [Nat.min_eq_right h, List.take_of_length_le (by simp), List.take_of_length_le h]
theorem slFrom_sound {E : Value → Shared → Prop} {s : Shared} {σ : Sto} {π β : List Addr} {L : Addr} {a d : Dat} {va : Value} {k : Int} {u : Tok} {value : Expr} {p : Pos} {lo : Option Expr} (S : Sim B π s.heap σ β) (ha : Seen s.heap (grow π σ β) a va) (e : slFrom2 a (.int k) = some d) :
    wpAny (model prog w) A (subscriptTail value (.Slice lo none none p) va (.ref s.heap.objs.size)) (VPost B π L β σ s d) E { s with heap := s.heap.push { cls := .type "slice", data := .fields #[.int k u, .none, .none] } } := by
  have ok1 : Ok B π L β s { s with heap := s.heap.push { cls := .type "slice", data := .fields #[.int k u, .none, .none] } } σ σ := Ok.push S _
  cases a with
  | lst l =>
    simp only [slFrom2] at e
    split at e
    · rename_i hb
      cases e
      obtain ⟨q, vs, rfl, hl, hr⟩ := ha
      have hl' : (s.heap.push { cls := .type "slice", data := .fields #[.int k u, .none, .none] }).IsList q vs := hl.push _
      have hk : k = (k.toNat : Int) := by omega
      have hsz := hr.size
      refine tail_any (s := { s with heap := s.heap.push { cls := .type "slice", data := .fields #[.int k u, .none, .none] } }) (ops := [.ref s.heap.objs.size, .ref q]) hl'.typeIs list_getitem_lookup ?_ (by with_unfolding_all rfl)
      refine wpAny_getItem_list_slice (lo := some (k.toNat : Int)) (hi := none) (st := none) hl' ⟨_, Heap.get?_push_size _ rfl, rfl, rfl⟩ (by first | exact .none | (rw [← hk]; exact .int _ _)) (by first | exact .none | (rw [← hk]; exact .int _ _)) (by first | exact .none | (rw [← hk]; exact .int _ _)) (by simp) ?_ (by show _ ≤ 2 ^ 24; omega)
      rw [slicePick_from']
      refine ⟨?_, ok1.trans (Ok.push ok1.sim _)⟩
      refine Rep.newList (vs := (vs.toList.drop k.toNat)) ?_ ok1.sim.fresh
      exact Reps.mono (fun a o xs n ho hd ha => ⟨ha, Heap.get?_push_of_some _ ho⟩) (hr.drop _)
    · cases e
  | str l =>
    simp only [slFrom2] at e
    split at e
    · rename_i hb
      cases e
      obtain ⟨t, rfl⟩ := ha
      have hk : k = (k.toNat : Int) := by omega
      obtain ⟨T, id, h1, h2, h3⟩ := SBH.sliceItem_sn (prog := prog) (w := w) (A := A) (E := E) (P := fun h' => ∀ b o, s.heap.get? b = some o → h'.get? b = some o) (s := s) (x := ⟨l.toArray⟩) (t := t) (i := k) (ui := u) (Q := VPost B π L β σ s (.str (l.drop k.toNat)))
        (fun h ob hp b o q => Heap.get?_push_of_some ob (hp b o q)) (fun b o q => q) (fun h' t' k' hp => by
          refine ⟨?_, Ok.keeps S ⟨_, _, rfl⟩ hp⟩
          rw [hk, txt_from]
          rw [← hk]
          exact ⟨t', rfl⟩) (by show _ ≤ 2 ^ 24; simp [Str.length]; omega)
      exact tail_any h2 h1 h3 (ops := [.ref s.heap.objs.size, .str ⟨l.toArray⟩ t]) (by with_unfolding_all rfl)
    · cases e
  | none => simp [slFrom2] at e
  | bool _ => simp [slFrom2] at e
  | int _ => simp [slFrom2] at e
  | tup _ => simp [slFrom2] at e
theorem slTo_sound {E : Value → Shared → Prop} {s : Shared} {σ : Sto} {π β : List Addr} {L : Addr} {a d : Dat} {va : Value} {k : Int} {u : Tok} {value : Expr} {p : Pos} {lo : Option Expr} (S : Sim B π s.heap σ β) (ha : Seen s.heap (grow π σ β) a va) (e : slTo2 a (.int k) = some d) :
    wpAny (model prog w) A (subscriptTail value (.Slice none lo none p) va (.ref s.heap.objs.size)) (VPost B π L β σ s d) E { s with heap := s.heap.push { cls := .type "slice", data := .fields #[.none, .int k u, .none] } } := by
  have ok1 : Ok B π L β s { s with heap := s.heap.push { cls := .type "slice", data := .fields #[.none, .int k u, .none] } } σ σ := Ok.push S _
  cases a with
  | lst l =>
    simp only [slTo2] at e
    split at e
    · rename_i hb
      cases e
      obtain ⟨q, vs, rfl, hl, hr⟩ := ha
      have hl' : (s.heap.push { cls := .type "slice", data := .fields #[.none, .int k u, .none] }).IsList q vs := hl.push _
      have hk : k = (k.toNat : Int) := by omega
      have hsz := hr.size
      refine tail_any (s := { s with heap := s.heap.push { cls := .type "slice", data := .fields #[.none, .int k u, .none] } }) (ops := [.ref s.heap.objs.size, .ref q]) hl'.typeIs list_getitem_lookup ?_ (by with_unfolding_all rfl)
      refine wpAny_getItem_list_slice (lo := none) (hi := some (k.toNat : Int)) (st := none) hl' ⟨_, Heap.get?_push_size _ rfl, rfl, rfl⟩ (by first | exact .none | (rw [← hk]; exact .int _ _)) (by first | exact .none | (rw [← hk]; exact .int _ _)) (by first | exact .none | (rw [← hk]; exact .int _ _)) (by simp) ?_ (by show _ ≤ 2 ^ 24; omega)
      rw [slicePick_upto']
      refine ⟨?_, ok1.trans (Ok.push ok1.sim _)⟩
      refine Rep.newList (vs := (vs.toList.take k.toNat)) ?_ ok1.sim.fresh
      exact Reps.mono (fun a o xs n ho hd ha => ⟨ha, Heap.get?_push_of_some _ ho⟩) (hr.take _)
    · cases e
  | str l =>
    simp only [slTo2] at e
    split at e
    · rename_i hb
      cases e
      obtain ⟨t, rfl⟩ := ha
      have hk : k = (k.toNat : Int) := by omega
      obtain ⟨T, id, h1, h2, h3⟩ := SBH.sliceItem_ns (prog := prog) (w := w) (A := A) (E := E) (P := fun h' => ∀ b o, s.heap.get? b = some o → h'.get? b = some o) (s := s) (x := ⟨l.toArray⟩) (t := t) (j := k) (uj := u) (Q := VPost B π L β σ s (.str (l.take k.toNat)))
        (fun h ob hp b o q => Heap.get?_push_of_some ob (hp b o q)) (fun b o q => q) (fun h' t' k' hp => by
          refine ⟨?_, Ok.keeps S ⟨_, _, rfl⟩ hp⟩
          rw [hk, txt_to]
          rw [← hk]
          exact ⟨t', rfl⟩) (by show _ ≤ 2 ^ 24; simp [Str.length]; omega)
      exact tail_any h2 h1 h3 (ops := [.ref s.heap.objs.size, .str ⟨l.toArray⟩ t]) (by with_unfolding_all rfl)
    · cases e
  | none => simp [slTo2] at e
  | bool _ => simp [slTo2] at e
  | int _ => simp [slTo2] at e
  | tup _ => simp [slTo2] at e
/-- the head of a call by name -/
theorem call1_bi {E : Value → Shared → Prop} {cx : Cx} {env : Env} {s : Shared} {ρ : Loc} {σ : Sto} {π β : List Addr} {x : Str} {id : String} {y : Expr} {p q : Pos} {Q : Value → Shared → Prop} (H : Hyp prog w A B Δ fnm con mg mb C) (a : At fnm con B π cx env s ρ σ β)
    (hx : cx.isGlob x = true) (hb : (x, Value.builtin id) ∈ bis) (hy : ∀ z r, y ≠ .Starred z r) (h : wpAny (model prog w) A (eval y env) (fun v s₁ => wpAny (model prog w) A (call (.builtin id) [v]) Q E s₁) E s) :
    wpAny (model prog w) A (eval (.Call (.Name x p) [y] [] q) env) Q E s := by
  refine Call_Name rfl (bi_sound (a.fn ▸ a.con.1 ▸ H.W) a.V a.S hx hb ?_)
  rw [trees_cons hy]
  refine Calls.callWith_builtin rfl (Calls.evalArgs_plain (Calls.spliced_cons (wpAny_mono h (fun v s₁ h₁ => Calls.spliced_nil h₁) fun _ _ z => z)))
theorem call1_ty {E : Value → Shared → Prop} {cx : Cx} {env : Env} {s : Shared} {ρ : Loc} {σ : Sto} {π β : List Addr} {x : Str} {T : String} {y : Expr} {p q : Pos} {Q : Value → Shared → Prop} (H : Hyp prog w A B Δ fnm con mg mb C) (a : At fnm con B π cx env s ρ σ β)
    (hx : cx.isGlob x = true) (hb : (x, Value.type T) ∈ bis) (hy : ∀ z r, y ≠ .Starred z r) (h : wpAny (model prog w) A (eval y env) (fun v s₁ => wpAny (model prog w) A (call (.type T) [v]) Q E s₁) E s) :
    wpAny (model prog w) A (eval (.Call (.Name x p) [y] [] q) env) Q E s := by
  refine Call_Name rfl (bi_sound (a.fn ▸ a.con.1 ▸ H.W) a.V a.S hx hb ?_)
  rw [trees_cons hy]
  refine PySem.callWith_type rfl (Calls.evalArgs_plain (Calls.spliced_cons (wpAny_mono h (fun v s₁ h₁ => Calls.spliced_nil h₁) fun _ _ z => z)))
theorem call2_bi {E : Value → Shared → Prop} {cx : Cx} {env : Env} {s : Shared} {ρ : Loc} {σ : Sto} {π β : List Addr} {x : Str} {id : String} {y z : Expr} {p q : Pos} {Q : Value → Shared → Prop} (H : Hyp prog w A B Δ fnm con mg mb C) (a : At fnm con B π cx env s ρ σ β)
    (hx : cx.isGlob x = true) (hb : (x, Value.builtin id) ∈ bis) (hy : ∀ t r, y ≠ .Starred t r) (hz : ∀ t r, z ≠ .Starred t r)
    (h : wpAny (model prog w) A (eval y env) (fun v s₁ => wpAny (model prog w) A (eval z env) (fun u s₂ => wpAny (model prog w) A (call (.builtin id) [v, u]) Q E s₂) E s₁) E s) :
    wpAny (model prog w) A (eval (.Call (.Name x p) [y, z] [] q) env) Q E s := by
  refine Call_Name rfl (bi_sound (a.fn ▸ a.con.1 ▸ H.W) a.V a.S hx hb ?_)
  rw [trees_cons hy, trees_cons hz]
  refine Calls.callWith_builtin rfl (Calls.evalArgs_plain (Calls.spliced_cons (wpAny_mono h (fun v s₁ h₁ => Calls.spliced_cons (wpAny_mono h₁ (fun u s₂ h₂ => Calls.spliced_nil h₂) fun _ _ z => z)) fun _ _ z => z)))
theorem evalArgs_any {M : Model} {E : Value → Shared → Prop} {s : Shared} {f : Value} {trees : List (Bool × Sem Value)} {Q : Args → Shared → Prop} (hp : trees.any (·.1) = false) (h : wpAny M A (spliced trees) (fun vs s' => Q ⟨vs, []⟩ s') E s) : wpAny M A (evalArgs f true trees []) Q E s := by
  cases trees with
  | nil =>
    unfold evalArgs
    show wpAny M A (spliced [] >>= _) Q E s
    refine wpAny_bind (wpAny_mono h (fun vs s' h' => ?_) fun _ _ z => z)
    refine wpAny_bind (wpAny_pure ?_)
    refine wpAny_holding ?_
    exact wpAny_bind (wpAny_pure (wpAny_bind (wpAny_pure (wpAny_pure h'))))
  | cons t r =>
    obtain ⟨b, t⟩ := t
    rw [List.any_cons] at hp
    cases b with
    | true => simp at hp
    | false => exact Calls.evalArgs_plain h
end
end Mine

/-! ## MCase -/
namespace Mine
open PySem PyProof.Rows

section
variable {prog : Program} {w : World} {A : Around} {B : Heap} {Δ : Nat → Option Fn} {fnm : Nat → Option Str} {con : Con} {mg mb : Str → Option Value} {sub : Nat → Nat → Bool} {C : Oracle}

theorem glob_is {cx : Cx} {x : Str} {v : Value} (h : (x, v) ∈ bis) : (x, v) ∈ bis := h

theorem chkFrees_ok {cx : Cx} {sc : Scope} (h : chkFrees cx sc = true) : ∀ n ∈ frees sc.names, ∃ i, cx.name i = some n := by
  intro n hn
  simp only [chkFrees, List.all_eq_true, Bool.or_eq_true, Bool.not_eq_true', beq_eq_false_iff_ne, List.any_eq_true, beq_iff_eq] at h
  rcases h _ (mem_frees.mp hn) with q | ⟨i, _, q⟩
  · exact absurd rfl q
  · exact ⟨i, q⟩

theorem forIn_ifs {conds : List Expr} {cenv : Env} {E : Value → Shared → Prop} {s : Shared} {Q : Bool → Shared → Prop} {c : Expr} (h : wpAny (model prog w) A (isTrue c cenv (eval c cenv)) (fun b s₁ => if b = true then
      wpAny (model prog w) A (forIn conds true fun c r => if r = true then do let ok ← isTrue c cenv (eval c cenv); pure (ForInStep.yield ok) else pure (ForInStep.yield r)) Q E s₁ else Q false s₁) E s) :
    wpAny (model prog w) A (forIn (c :: conds) true fun c r => if r = true then do let ok ← isTrue c cenv (eval c cenv); pure (ForInStep.yield ok) else pure (ForInStep.yield r)) Q E s := by
  rw [List.forIn_cons]
  simp only [if_true]
  refine wpAny_bind (wpAny_bind (wpAny_mono h (fun b s₁ h₁ => ?_) fun _ _ z => z))
  refine wpAny_pure ?_
  cases b with
  | true => simpa using h₁
  | false =>
    simp only [Bool.false_eq_true, if_false] at h₁
    suffices k : ∀ l : List Expr, wpAny (model prog w) A (forIn l false fun c r => if r = true then do let ok ← isTrue c cenv (eval c cenv); pure (ForInStep.yield ok) else pure (ForInStep.yield r)) Q E s₁ from k conds
    intro l
    induction l with
    | nil => rw [List.forIn_nil]; exact wpAny_pure h₁
    | cons y l ih =>
      rw [List.forIn_cons]
      simp only [Bool.false_eq_true, if_false]
      exact wpAny_bind (wpAny_pure ih)

abbrev SndE (prog : Program) (w : World) (A : Around) (B : Heap) (fnm : Nat → Option Str) (con : Con) (sub : Nat → Nat → Bool) (C : Oracle) (ie : IE) : Prop :=
  ∀ {cx : Cx} {e : Expr} {env : Env} {s : Shared} {ρ : Loc} {σ σ' : Sto} {π β : List Addr} {v : Val} {E : Value → Shared → Prop}, At fnm con B π cx env s ρ σ β → chkE cx ie e = true → ev sub C ie ρ σ = .val v σ' →
    wpAny (model prog w) A (eval e env) (EP B π env β s σ v σ') E s
abbrev SndEs (prog : Program) (w : World) (A : Around) (B : Heap) (fnm : Nat → Option Str) (con : Con) (sub : Nat → Nat → Bool) (C : Oracle) (es : IEs) : Prop :=
  ∀ {cx : Cx} {xs : List Expr} {env : Env} {pos : Pos} {s : Shared} {ρ : Loc} {σ σ' : Sto} {π β : List Addr} {ds : List Dat} {E : Value → Shared → Prop}, At fnm con B π cx env s ρ σ β → chkEs cx es xs = true → evs sub C es ρ σ = .val ds σ' →
    wpAny (model prog w) A (spliced (backTo pos (starEach xs env))) (fun vs s' => Reps s'.heap (grow π σ' β) ds vs ∧ Ok B π env.locals β s s' σ σ' ∧ vs.length = xs.length) E s
abbrev SndAs (prog : Program) (w : World) (A : Around) (B : Heap) (fnm : Nat → Option Str) (con : Con) (sub : Nat → Nat → Bool) (C : Oracle) (es : IEs) : Prop :=
  ∀ {cx : Cx} {xs : List Expr} {env : Env} {pos : Pos} {s : Shared} {ρ : Loc} {σ σ' : Sto} {π β : List Addr} {vs : List Val} {E : Value → Shared → Prop}, At fnm con B π cx env s ρ σ β → chkEs cx es xs = true → evArgs sub C es ρ σ = .val vs σ' →
    wpAny (model prog w) A (spliced (backTo pos (starEach xs env))) (fun us s' => RelVs s'.heap π β σ' vs us ∧ Ok B π env.locals β s s' σ σ') E s
abbrev SndAnd (prog : Program) (w : World) (A : Around) (B : Heap) (fnm : Nat → Option Str) (con : Con) (sub : Nat → Nat → Bool) (C : Oracle) (es : IEs) : Prop :=
  ∀ {cx : Cx} {xs : List Expr} {env : Env} {pos : Pos} {s : Shared} {ρ : Loc} {σ σ' : Sto} {π β : List Addr} {v : Val} {E : Value → Shared → Prop}, At fnm con B π cx env s ρ σ β → chkEs cx es xs = true → evAnd sub C es ρ σ = .val v σ' →
    wpAny (model prog w) A (boolOp pos .And (evalEach xs env)) (EP B π env β s σ v σ') E s
abbrev SndOr (prog : Program) (w : World) (A : Around) (B : Heap) (fnm : Nat → Option Str) (con : Con) (sub : Nat → Nat → Bool) (C : Oracle) (es : IEs) : Prop :=
  ∀ {cx : Cx} {xs : List Expr} {env : Env} {pos : Pos} {s : Shared} {ρ : Loc} {σ σ' : Sto} {π β : List Addr} {v : Val} {E : Value → Shared → Prop}, At fnm con B π cx env s ρ σ β → chkEs cx es xs = true → evOr sub C es ρ σ = .val v σ' →
    wpAny (model prog w) A (boolOp pos .Or (evalEach xs env)) (EP B π env β s σ v σ') E s
/-- the value of a comparison's chain -/
abbrev SndC (prog : Program) (w : World) (A : Around) (B : Heap) (fnm : Nat → Option Str) (con : Con) (sub : Nat → Nat → Bool) (C : Oracle) (cs : ICs) : Prop :=
  ∀ {cx : Cx} {os : List CmpOp} {xs : List Expr} {env : Env} {pos : Pos} {s : Shared} {ρ : Loc} {σ σ' : Sto} {π β : List Addr} {v : Val} {v' : Value} {b : Bool} {E : Value → Shared → Prop}, At fnm con B π cx env s ρ σ β → RelV s.heap π β σ v v' → chkCs cx cs os xs = true → os ≠ [] → evCmp sub C v cs ρ σ = .val b σ' →
    wpAny (model prog w) A (compareChain pos v' os (evalEach xs env)) (EP B π env β s σ (.dat (.bool b)) σ') E s ∧
    wpAny (model prog w) A (testChain pos v' os (evalEach xs env)) (fun b' s' => b' = b ∧ Ok B π env.locals β s s' σ σ') E s
abbrev SndI (prog : Program) (w : World) (A : Around) (B : Heap) (fnm : Nat → Option Str) (con : Con) (sub : Nat → Nat → Bool) (C : Oracle) (it : II) : Prop :=
  ∀ {cx : Cx} {e : Expr} {env : Env} {s : Shared} {ρ : Loc} {σ σ' : Sto} {π β : List Addr} {src : Src} {E : Value → Shared → Prop}, At fnm con B π cx env s ρ σ β → plainI it = true → chkI cx it e = true → evI sub C it ρ σ = .val src σ' →
    wpAny (model prog w) A (eval e env) (fun xv s' => IterVal s'.heap π β σ' src xv ∧ Ok B π env.locals β s s' σ σ') E s
abbrev SndB (prog : Program) (w : World) (A : Around) (B : Heap) (fnm : Nat → Option Str) (con : Con) (sub : Nat → Nat → Bool) (C : Oracle) (ie : IE) : Prop :=
  ∀ {cx : Cx} {e : Expr} {env : Env} {s : Shared} {ρ : Loc} {σ σ' : Sto} {π β : List Addr} {b : Bool} {E : Value → Shared → Prop}, At fnm con B π cx env s ρ σ β → chkE cx ie e = true → evB sub C ie ρ σ = .val b σ' →
    wpAny (model prog w) A (isTrue e env (eval e env)) (fun b' s' => b' = b ∧ Ok B π env.locals β s s' σ σ') E s
abbrev SndAll (prog : Program) (w : World) (A : Around) (B : Heap) (fnm : Nat → Option Str) (con : Con) (sub : Nat → Nat → Bool) (C : Oracle) (es : IEs) : Prop :=
  ∀ {cx : Cx} {xs : List Expr} {env : Env} {s : Shared} {ρ : Loc} {σ σ' : Sto} {π β : List Addr} {b : Bool} {E : Value → Shared → Prop}, At fnm con B π cx env s ρ σ β → chkEs cx es xs = true → evAll sub C es ρ σ = .val b σ' →
    wpAny (model prog w) A (allTrue .And xs env) (fun b' s' => b' = b ∧ Ok B π env.locals β s s' σ σ') E s
abbrev SndAny (prog : Program) (w : World) (A : Around) (B : Heap) (fnm : Nat → Option Str) (con : Con) (sub : Nat → Nat → Bool) (C : Oracle) (es : IEs) : Prop :=
  ∀ {cx : Cx} {xs : List Expr} {env : Env} {s : Shared} {ρ : Loc} {σ σ' : Sto} {π β : List Addr} {b : Bool} {E : Value → Shared → Prop}, At fnm con B π cx env s ρ σ β → chkEs cx es xs = true → evAny sub C es ρ σ = .val b σ' →
    wpAny (model prog w) A (allTrue .Or xs env) (fun b' s' => b' = b ∧ Ok B π env.locals β s s' σ σ') E s
abbrev SndIfs (prog : Program) (w : World) (A : Around) (B : Heap) (fnm : Nat → Option Str) (con : Con) (sub : Nat → Nat → Bool) (C : Oracle) (es : IEs) : Prop :=
  ∀ {cx : Cx} {xs : List Expr} {env : Env} {s : Shared} {ρ : Loc} {σ σ' : Sto} {π β : List Addr} {b : Bool} {E : Value → Shared → Prop}, At fnm con B π cx env s ρ σ β → chkEs cx es xs = true → evIfs sub C es ρ σ = .val b σ' →
    wpAny (model prog w) A (forIn xs true fun c r => if r = true then do let ok ← isTrue c env (eval c env); pure (ForInStep.yield ok) else pure (ForInStep.yield r)) (fun b' s' => b' = b ∧ Ok B π env.locals β s s' σ σ') E s

variable (H : Hyp prog w A B Δ fnm con mg mb C)
include H

theorem case_lit (d : Dat)  : SndE prog w A B fnm con sub C (.lit d) := by
  intro cx e env s ρ σ σ' π β v E a hc he
  replace hc := any_ex hc
  obtain ⟨c, hq, hc⟩ := hc
  · have hq := hq
    obtain ⟨k, p, rfl⟩ := asConst_eq hq
    have he : Out.val _ _ = Out.val v σ' := he
    cases he
    exact const_sound a.S hc

theorem case_con (x : String) (d : Dat)  : SndE prog w A B fnm con sub C (.con x d) := by
  intro cx e env s ρ σ σ' π β v E a hc he
  replace hc := any_ex hc
  obtain ⟨y, hq, hc⟩ := hc
  · have hq := hq
    obtain ⟨p, rfl⟩ := asName_eq hq
    simp only [Bool.and_eq_true] at hc
    have he : Out.val _ _ = Out.val v σ' := he
    cases he
    have W : Wd prog w B Δ cx.fn cx.con mg mb := a.fn ▸ a.con.1 ▸ H.W
    obtain ⟨v', h1, h2⟩ := W.con y d (conIs_eq hc.2)
    exact glob_sound W a.V a.S hc.1.2 h1 ⟨h2 _ _, Ok.refl a.S⟩

theorem case_var (i : Nat)  : SndE prog w A B fnm con sub C (.var i) := by
  intro cx e env s ρ σ σ' π β v E a hc he
  replace hc := any_ex hc
  obtain ⟨y, hq, hc⟩ := hc
  · have hq := hq
    obtain ⟨p, rfl⟩ := asName_eq hq
    simp only [Bool.and_eq_true, beq_iff_eq, Bool.not_eq_true'] at hc
    have he : (match ρ[i]? with | some (some v) => Out.val v σ | _ => Out.bad) = Out.val v σ' := he
    split at he
    · rename_i v₀ hi
      cases he
      exact load_sound a.V a.F hc.1.1 hc.1.2 hc.2 hi fun v' r => ⟨r, Ok.refl a.S⟩
    · cases he

theorem case_tup (es : IEs) (ihs : SndEs prog w A B fnm con sub C es) : SndE prog w A B fnm con sub C (.tup es) := by
  intro cx e env s ρ σ σ' π β v E a hc he
  replace hc := any_ex hc
  obtain ⟨xs, hq, hc⟩ := hc
  · have hq := hq
    obtain ⟨k, p, rfl⟩ := asTuple_eq hq
    simp only [Bool.and_eq_true, decide_eq_true_eq] at hc
    obtain ⟨ds, σ₁, h1, h2⟩ := Out.bind_eq he
    cases h2
    refine Tuple_ (wpAny_mono (ihs a hc.1 h1) (fun vs s₁ h => ?_) fun _ _ z => z)
    exact newTuple_sound h.2.1 h.1 (by rw [h.2.2]; omega)

theorem case_lst (es : IEs) (ihs : SndEs prog w A B fnm con sub C es) : SndE prog w A B fnm con sub C (.lst es) := by
  intro cx e env s ρ σ σ' π β v E a hc he
  replace hc := any_ex hc
  obtain ⟨xs, hq, hc⟩ := hc
  · have hq := hq
    obtain ⟨p, rfl⟩ := asList_eq hq
    simp only [Bool.and_eq_true, decide_eq_true_eq] at hc
    obtain ⟨ds, σ₁, h1, h2⟩ := Out.bind_eq he
    cases h2
    refine List_ (wpAny_mono (ihs a hc.1 h1) (fun vs s₁ h => ?_) fun _ _ z => z)
    exact newList_sound h.2.1 h.1 (by rw [h.2.2]; omega)

theorem case_bin (op : BOp) (x y : IE) (ihx : SndE prog w A B fnm con sub C x) (ihy : SndE prog w A B fnm con sub C y) : SndE prog w A B fnm con sub C (.bin op x y) := by
  intro cx e env s ρ σ σ' π β v E a hc he
  replace hc := any_ex hc
  obtain ⟨⟨l, o, r⟩, hq, hc⟩ := hc
  · have hq := hq
    obtain ⟨p, rfl⟩ := asBin_eq hq
    simp only [Bool.and_eq_true] at hc
    obtain ⟨v1, σ₁, h1, h2⟩ := Out.bind_eq he
    obtain ⟨v2, σ₂, h3, h4⟩ := Out.bind_eq h2
    obtain ⟨d1, d2, d, l1, l2, hb, rfl, rfl⟩ := d2_eq h4
    refine wpAny_BinOp (wpAny_mono (ihx a hc.1.2 h1) (fun u1 s₁ q1 => ?_) fun _ _ z => z)
    have a1 := a.ok q1.2
    refine wpAny_mono (ihy a1 hc.2 h3) (fun u2 s₂ q2 => ?_) fun _ _ z => z
    have a2 := a1.ok q2.2
    exact wpAny_mono (bin2_sound (L := env.locals) a2.S hc.1.1 (look_seen a2.S (a1.rel q2.2 q1.1) l1) (look_seen a2.S q2.1 l2) hb) (fun v' s' q => ep_of_vpost (q1.2.trans q2.2) q) fun _ _ z => z

theorem case_neg (x : IE) (ihx : SndE prog w A B fnm con sub C x) : SndE prog w A B fnm con sub C (.neg x) := by
  intro cx e env s ρ σ σ' π β v E a hc he
  replace hc := any_ex hc
  obtain ⟨y, hq, hc⟩ := hc
  · have hq := hq
    obtain ⟨p, rfl⟩ := asNeg_eq hq
    obtain ⟨v1, σ₁, h1, h2⟩ := Out.bind_eq he
    obtain ⟨d1, d, l1, hb, rfl, rfl⟩ := d1_eq h2
    show wpAny _ _ (do let v ← eval y env; standAt p; holding [v] (unaryOp .USub v)) _ _ _
    refine wpAny_bind (wpAny_mono (ihx a hc h1) (fun u1 s₁ q1 => wpAny_bind (wpAny_standAt (wpAny_holding ?_))) fun _ _ z => z)
    have a1 := a.ok q1.2
    have sn := look_seen a1.S q1.1 l1
    cases d1 <;> simp only [reduceCtorEq, Option.some.injEq] at hb
    subst hb
    exact wpAny_mono (neg_sound (L := env.locals) a1.S sn) (fun v' s' q => ep_of_vpost q1.2 q) fun _ _ z => z

theorem case_not (x : IE) (ihx : SndE prog w A B fnm con sub C x) : SndE prog w A B fnm con sub C (.not x) := by
  intro cx e env s ρ σ σ' π β v E a hc he
  replace hc := any_ex hc
  obtain ⟨y, hq, hc⟩ := hc
  · have hq := hq
    obtain ⟨p, rfl⟩ := asNot_eq hq
    obtain ⟨v1, σ₁, h1, h2⟩ := Out.bind_eq he
    obtain ⟨b, σ₂, h3, h4⟩ := Out.bind_eq h2
    cases h4
    obtain ⟨l1, rfl⟩ := truthOf_eq h3
    show wpAny _ _ (do let v ← eval y env; standAt p; holding [v] (unaryOp .Not v)) _ _ _
    refine wpAny_bind (wpAny_mono (ihx a hc h1) (fun u1 s₁ q1 => wpAny_bind (wpAny_standAt (wpAny_holding ?_))) fun _ _ z => z)
    have a1 := a.ok q1.2
    show wpAny _ _ (holding [u1] _) _ _ _
    refine wpAny_holding ?_
    show wpAny _ _ (do return Value.bool (!(← truthy u1))) _ _ _
    exact wpAny_bind (truthy_sound a1.S q1.1 l1 (wpAny_pure ⟨rfl, q1.2⟩))

theorem case_and (es : IEs) (iha : SndAnd prog w A B fnm con sub C es) : SndE prog w A B fnm con sub C (.and es) := by
  intro cx e env s ρ σ σ' π β v E a hc he
  replace hc := any_ex hc
  obtain ⟨xs, hq, hc⟩ := hc
  · have hq := hq
    obtain ⟨p, rfl⟩ := asAnd_eq hq
    exact iha a hc he

theorem case_or (es : IEs) (iho : SndOr prog w A B fnm con sub C es) : SndE prog w A B fnm con sub C (.or es) := by
  intro cx e env s ρ σ σ' π β v E a hc he
  replace hc := any_ex hc
  obtain ⟨xs, hq, hc⟩ := hc
  · have hq := hq
    obtain ⟨p, rfl⟩ := asOr_eq hq
    exact iho a hc he

theorem case_cmp (x : IE) (cs : ICs) (ihx : SndE prog w A B fnm con sub C x) (ihc : SndC prog w A B fnm con sub C cs) : SndE prog w A B fnm con sub C (.cmp x cs) := by
  intro cx e env s ρ σ σ' π β v E a hc he
  replace hc := any_ex hc
  obtain ⟨⟨l, os, rs⟩, hq, hc⟩ := hc
  · have hq := hq
    obtain ⟨p, rfl⟩ := asCmp_eq hq
    simp only [Bool.and_eq_true] at hc
    obtain ⟨v1, σ₁, h1, h2⟩ := Out.bind_eq he
    obtain ⟨b, σ₂, h3, h4⟩ := Out.bind_eq h2
    cases h4
    show wpAny _ _ (do compareChain p (← eval l env) os (markedEach os rs (evalEach rs env))) _ _ _
    rw [markedEach_none hc.1.2]
    refine wpAny_bind (wpAny_mono (ihx a hc.1.1 h1) (fun u1 s₁ q1 => ?_) fun _ _ z => z)
    exact wpAny_mono ((ihc (pos := p) (a.ok q1.2) q1.1 hc.1.2 (by intro z; subst z; simp at hc) h3).1) (fun v' s' q => ⟨q.1, q1.2.trans q.2⟩) fun _ _ z => z

theorem case_call (f : Nat) (as : IEs) (ihs : SndAs prog w A B fnm con sub C as) : SndE prog w A B fnm con sub C (.call f as) := by
  intro cx e env s ρ σ σ' π β v E a hc he
  replace hc := any_ex hc
  obtain ⟨⟨x, xs⟩, hq, hc⟩ := hc
  · have hq := hq
    obtain ⟨p, q, rfl⟩ := asCall_eq hq
    simp only [Bool.and_eq_true, beq_iff_eq, Bool.or_eq_true, Bool.not_eq_true', beq_eq_false_iff_ne] at hc
    obtain ⟨⟨hc, hsp⟩, hlaw⟩ := hc
    obtain ⟨vs, σ₁, h1, h2⟩ := Out.bind_eq he
    obtain ⟨d, σ₂, h3, h4⟩ := Out.bindX_eq h2
    cases h4
    have W : Wd prog w B Δ cx.fn cx.con mg mb := a.fn ▸ a.con.1 ▸ H.W
    obtain ⟨fn, vars, dr, ad, o, pm, code, doc, e1, e2, e3, e4, e5, e6⟩ := W.fn f x hc.1.1
    refine Call_Name rfl (glob_sound W a.V a.S hc.1.2 e2 ?_)
    refine Calls.callWith_function (o := o) (fd := Calls.docDef dr.name dr.params dr.body dr.scope pm code doc) (evalArgs_any (trees_plain hc.2) (wpAny_mono (ihs a hc.2 h1) (fun us s₁ q1 => ⟨⟨q1.2.sim.base _ _ e3, e4⟩, ?_⟩) fun _ _ z => z))
    have hS : isSp f = true → con.lone = true ∧ ∃ m, s₁.heap.Ns con.env0.locals m := by
      intro hs
      rcases hsp with h | h
      · rw [h] at hs; cases hs
      · have := a.con.2 h
        rw [← this.1]; exact ⟨this.2, (a.ok q1.2).ns⟩
    exact wpAny_mono (H.hC f x vs us σ₁ σ' d π β s₁ E ad (a.fn ▸ hc.1.1) e2 hlaw hS h3 q1.1 q1.2.sim (a.ok q1.2).baseLe) (fun v' s' q => ⟨q.1, q1.2.trans (q.2 _)⟩) fun _ _ z => z

theorem case_prim (p : Prim) (x : IE) (ihx : SndE prog w A B fnm con sub C x) : SndE prog w A B fnm con sub C (.prim p x) := by
  intro cx e env s ρ σ σ' π β v E a hc he
  replace hc := any_ex hc
  obtain ⟨⟨nm, y⟩, hq, hc⟩ := hc
  replace hc := any_ex hc
  obtain ⟨q, hn, hc⟩ := hc
  · have hq := hq
    obtain ⟨p1, q1, rfl⟩ := asCall1_eq hq
    simp only [Bool.and_eq_true, beq_iff_eq] at hc
    obtain ⟨v1, σ₁, h1, h2⟩ := Out.bind_eq he
    obtain ⟨d1, d, l1, hb, rfl, rfl⟩ := d1_eq h2
    have key : ∀ {id : String}, (nm, Value.builtin id) ∈ bis → (∀ s₂ u1, Sim B π s₂.heap σ' β → Seen s₂.heap (grow π σ' β) d1 u1 → wpAny (model prog w) A (call (.builtin id) [u1]) (VPost B π env.locals β σ' s₂ d) E s₂) →
        wpAny (model prog w) A (eval (.Call (.Name nm p1) [y] [] q1) env) (EP B π env β s σ (.dat d) σ') E s := fun {id} hm hop => by
      refine call1_bi H a hc.1.2 hm (not_starred hc.2) (wpAny_mono (ihx a hc.2 h1) (fun u1 s₁ r1 => ?_) fun _ _ z => z)
      have a1 := a.ok r1.2
      exact wpAny_mono (hop s₁ u1 a1.S (look_seen a1.S r1.1 l1)) (fun v' s' q => ep_of_vpost r1.2 q) fun _ _ z => z
    obtain ⟨⟨rfl, hg⟩, hy⟩ := hc
    cases p <;> simp only [primName, reduceCtorEq, Option.some.injEq] at hn
    · subst hn
      exact key (id := "len") bi_len fun s₂ u1 S r1 => len_sound S r1 hb
    · subst hn
      cases d1 <;> first | exact nos hb | skip
      cases Option.some.inj hb
      exact key (id := "abs") bi_abs fun s₂ u1 S r1 => abs_sound S r1
    · subst hn
      cases d1 <;> first | exact nos hb | skip
      rename_i l
      obtain ⟨bs, hl, hb⟩ := Option.map_eq_some_iff.mp (show (boolsOf l).map _ = _ from hb)
      · cases hb
        have := boolsOf_some hl
        subst this
        exact key (id := "any") bi_any fun s₂ u1 S r1 => any_sound H.hh S r1
    · subst hn
      cases d1 <;> first | exact nos hb | skip
      rename_i l
      obtain ⟨bs, hl, hb⟩ := Option.map_eq_some_iff.mp (show (boolsOf l).map _ = _ from hb)
      · cases hb
        have := boolsOf_some hl
        subst this
        exact key (id := "all") bi_all fun s₂ u1 S r1 => all_sound H.hh S r1
    · subst hn
      refine call1_ty H a hg (T := "int") bi_int (not_starred hy) (wpAny_mono (ihx a hy h1) (fun u1 s₁ r1 => ?_) fun _ _ z => z)
      have a1 := a.ok r1.2
      have hu := look_seen a1.S r1.1 l1
      cases d1 <;> first | exact nos hb | skip
      · cases Option.some.inj hb
        have hu : u1 = .bool _ := hu
        subst hu
        exact call_int_bool (ep_of_vpost r1.2 (vInt a1.S _ _ _))

theorem case_none (ie : IE) (h : ∀ cx e, chkE cx ie e = false) : SndE prog w A B fnm con sub C ie := by
  intro cx e env s ρ σ σ' π β v E a hc he
  rw [h] at hc; cases hc
theorem case_listOf (x : IE) (ihx : SndE prog w A B fnm con sub C x) : SndE prog w A B fnm con sub C (.listOf x) := by
  intro cx e env s ρ σ σ' π β v E a hc he
  replace hc := any_ex hc
  obtain ⟨⟨nm, y⟩, hq, hc⟩ := hc
  · have hq := hq
    obtain ⟨p1, q1, rfl⟩ := asCall1_eq hq
    simp only [Bool.and_eq_true, beq_iff_eq] at hc
    obtain ⟨⟨rfl, hg⟩, hy⟩ := hc
    obtain ⟨v1, σ₁, h1, h2⟩ := Out.bind_eq he
    obtain ⟨d1, d, l1, hb, rfl, rfl⟩ := d1_eq h2
    refine call1_ty H a hg (T := "list") bi_list (not_starred hy) (wpAny_mono (ihx a hy h1) (fun u1 s₁ r1 => ?_) fun _ _ z => z)
    have a1 := a.ok r1.2
    refine listOf_sound (L := env.locals) a1.S (look_seen a1.S r1.1 l1) hb fun s₂ l vs hd ok hp hr hkk => ?_
    subst hd
    refine ⟨?_, r1.2.trans ok⟩
    show Rep _ _ _ _
    simp only [Rep]
    exact ⟨_, vs, rfl, a1.S.fresh, hp.isList, Reps.mono (fun a o xs n ho hd ha => ⟨ha, hkk _ _ ho⟩) hr⟩

omit H in
theorem sub_plain {i : Expr} (h : notSlice i = true) (o k : Value) : subscripted i false o k = operate [o, k] (getItem o k) := by
  cases i <;> first | (with_unfolding_all rfl) | (simp [notSlice] at h)

theorem case_idx (x i : IE) (ihx : SndE prog w A B fnm con sub C x) (ihi : SndE prog w A B fnm con sub C i) : SndE prog w A B fnm con sub C (.idx x i) := by
  intro cx e env s ρ σ σ' π β v E a hc he
  replace hc := any_ex hc
  obtain ⟨⟨y, z⟩, hq, hc⟩ := hc
  · have hq := hq
    obtain ⟨p1, rfl, hsl⟩ := asSub_eq hq
    simp only [Bool.and_eq_true] at hc
    obtain ⟨v1, σ₁, h1, h2⟩ := Out.bindX_eq he
    obtain ⟨v2, σ₂, h3, h4⟩ := Out.bind_eq h2
    obtain ⟨d1, d2, d, l1, l2, hb, rfl, rfl⟩ := d2_eq h4
    refine Subscript_ (wpAny_mono (ihx a hc.1 h1) (fun u1 s₁ q1 => ?_) fun _ _ z => z)
    have a1 := a.ok q1.2
    refine wpAny_mono (ihi a1 hc.2 h3) (fun u2 s₂ q2 => ?_) fun _ _ z => z
    have a2 := a1.ok q2.2
    have r1 := look_seen a2.S (a1.rel q2.2 q1.1) l1
    have r2 := look_seen a2.S q2.1 l2
    have g := wpAny_mono (item_sound (prog := prog) (w := w) (A := A) (E := E) (L := env.locals) a2.S r1 r2 hb) (fun v' s' q => (ep_of_vpost (env := env) (q1.2.trans q2.2) q : EP B π env β s σ (.dat d) σ' v' s')) fun _ _ z => z
    cases d1 with
    | lst l =>
      obtain ⟨q, vs, rfl, hl, hr⟩ := r1
      exact tail_any hl.typeIs list_getitem_lookup g (sub_plain hsl _ _)
    | tup l =>
      obtain ⟨q, vs, rfl, hl, hr⟩ := r1
      exact tail_any hl.typeIs slot_tuple_getitem.lookup g (sub_plain hsl _ _)
    | str l =>
      obtain ⟨q, rfl⟩ := r1
      exact tail_any (typeIs_str _ _ _) F.slot_str_getitem.lookup g (sub_plain hsl _ _)
    | none => simp [idx2] at hb
    | bool _ => simp [idx2] at hb
    | int _ => simp [idx2] at hb

theorem case_slFrom (x i : IE) (ihx : SndE prog w A B fnm con sub C x) (ihi : SndE prog w A B fnm con sub C i) : SndE prog w A B fnm con sub C (.slFrom x i) := by
  intro cx e env s ρ σ σ' π β v E a hc he
  replace hc := any_ex hc
  obtain ⟨⟨y, z⟩, hq, hc⟩ := hc
  · have hq := hq
    obtain ⟨p1, p2, rfl⟩ := asFrom_eq hq
    simp only [Bool.and_eq_true] at hc
    obtain ⟨v1, σ₁, h1, h2⟩ := Out.bind_eq he
    obtain ⟨v2, σ₂, h3, h4⟩ := Out.bind_eq h2
    obtain ⟨d1, d2, d, l1, l2, hb, rfl, rfl⟩ := d2_eq h4
    refine Subscript_ (wpAny_mono (ihx a hc.1 h1) (fun u1 s₁ q1 => ?_) fun _ _ z => z)
    have a1 := a.ok q1.2
    refine wpAny_Slice (wpAny_mono (ihi a1 hc.2 h3) (fun u2 s₂ q2 => wpAny_pure (wpAny_pure ?_)) fun _ _ z => z)
    have a2 := a1.ok q2.2
    have r1 := look_seen a2.S (a1.rel q2.2 q1.1) l1
    have r2 := look_seen a2.S q2.1 l2
    have hi : ∃ k, d2 = .int k := by cases d1 <;> cases d2 <;> simp [slFrom2] at hb <;> exact ⟨_, rfl⟩
    obtain ⟨k, rfl⟩ := hi
    obtain ⟨u, rfl⟩ := r2
    exact wpAny_mono (slFrom_sound (L := env.locals) a2.S r1 hb) (fun v' s' q => ep_of_vpost (q1.2.trans q2.2) q) fun _ _ z => z

theorem case_slTo (x i : IE) (ihx : SndE prog w A B fnm con sub C x) (ihi : SndE prog w A B fnm con sub C i) : SndE prog w A B fnm con sub C (.slTo x i) := by
  intro cx e env s ρ σ σ' π β v E a hc he
  replace hc := any_ex hc
  obtain ⟨⟨y, z⟩, hq, hc⟩ := hc
  · have hq := hq
    obtain ⟨p1, p2, rfl⟩ := asTo_eq hq
    simp only [Bool.and_eq_true] at hc
    obtain ⟨v1, σ₁, h1, h2⟩ := Out.bind_eq he
    obtain ⟨v2, σ₂, h3, h4⟩ := Out.bind_eq h2
    obtain ⟨d1, d2, d, l1, l2, hb, rfl, rfl⟩ := d2_eq h4
    refine Subscript_ (wpAny_mono (ihx a hc.1 h1) (fun u1 s₁ q1 => ?_) fun _ _ z => z)
    have a1 := a.ok q1.2
    refine wpAny_Slice (wpAny_pure (wpAny_mono (ihi a1 hc.2 h3) (fun u2 s₂ q2 => wpAny_pure ?_) fun _ _ z => z))
    have a2 := a1.ok q2.2
    have r1 := look_seen a2.S (a1.rel q2.2 q1.1) l1
    have r2 := look_seen a2.S q2.1 l2
    have hi : ∃ k, d2 = .int k := by cases d1 <;> cases d2 <;> simp [slTo2] at hb <;> exact ⟨_, rfl⟩
    obtain ⟨k, rfl⟩ := hi
    obtain ⟨u, rfl⟩ := r2
    exact wpAny_mono (slTo_sound (L := env.locals) a2.S r1 hb) (fun v' s' q => ep_of_vpost (q1.2.trans q2.2) q) fun _ _ z => z

/-- a comprehension, with what is done with its list -/
theorem comp_at {cx : Cx} {el iter : Expr} {x : Str} {conds : List Expr} {sc : Scope} {p q pos : Pos} {env : Env} {s : Shared} {ρ : Loc} {σ σ' : Sto} {π β : List Addr} {v : Val} {E : Value → Shared → Prop} {k : Nat} {it : II} {ifs : IEs} {elt : IE} {use : Option (Value → Sem Unit)} {Q : Value → Shared → Prop}
    (iht : SndI prog w A B fnm con sub C it) (ihf : SndIfs prog w A B fnm con sub C ifs) (ihe : SndE prog w A B fnm con sub C elt) (a : At fnm con B π cx env s ρ σ β)
    (h1 : plainI it = true) (h2 : chkI cx it iter = true) (h3 : chkScope x sc cx.scope = true) (h4 : chkFrees cx sc = true) (h5 : chkEs (cx.inner x k sc) ifs conds = true) (h6 : chkE (cx.inner x k sc) elt el = true)
    (he : ev sub C (.comp k it ifs elt) ρ σ = .val v σ')
    (hQ : ∀ (D K : Addr) (s' : Shared) (m' : Str → Option Value), RelV s'.heap π β σ' v (.ref D) → Ok B π env.locals β s s' σ σ' → s'.heap.Ns K m' → s.heap.get? K = none → Foreign B π β env s'.heap K → compPost (model prog w) A E use Q (.ref D) K (.ok .next) s') :
    wpAny (model prog w) A (comprehension (.ListComp el [⟨.Name x p, iter, conds, 0⟩] sc q) sc env pos (newList []) false (eval iter env) use) Q E s := by
  obtain ⟨src, σ₁, e1, e2⟩ := Out.bind_eq he
  split at e2
  · rename_i hlen
    obtain ⟨ds, σ₂, e3, e4⟩ := Out.bind_eq e2
    cases e4
    have hs := scopeOk h3
    have hv := chkFrees_ok h4
    refine wpAny_comprehension_free (g := ⟨.Name x p, iter, conds, 0⟩) (gs := []) (cl := closOf env sc.names) rfl (fun z => folded_none (notSetI h2)) (closureFor_is (frees_cells a.V a.F hs hv)) hs.kind hs.locs ?_
    refine wpAny_mono (iht a h1 h2 e1) (fun xv s₁ r1 => ?_) fun _ _ z => z
    have a1 := a.ok r1.2
    refine comp_run (k := k) (RR := fun acc K => compPost (model prog w) A E use Q acc K) H.hh a1 hs hv r1.1 hlen (fun cenv π' s₂ σ₂ σ₃ d o E' ai ef => ?_) e3 fun D K s' m' vs hsh hD hK hDK hns hp hr hDg hS hkp hmon => ?_
    · obtain ⟨b, σ₄, f1, f2⟩ := Out.bind_eq ef
      refine wpAny_mono (ihf ai h5 f1) (fun b' s₃ r => ?_) fun _ _ z => z
      obtain ⟨rfl, r⟩ := r
      cases b' with
      | false =>
        simp only [Bool.false_eq_true, if_false] at f2 ⊢
        cases f2
        exact ⟨rfl, r⟩
      | true =>
        simp only [if_true] at f2 ⊢
        obtain ⟨v2, σ₅, f3, f4⟩ := Out.bind_eq f2
        obtain ⟨e', σ₆, f5, f6⟩ := Out.bind_eq f4
        cases f6
        refine ⟨e', rfl, wpAny_mono (ihe (ai.ok r) h6 f3) (fun y s₄ r2 => ?_) fun _ _ z => z⟩
        have a4 := (ai.ok r).ok r2.2
        obtain ⟨f7, f8⟩ := toDat_sound (L := cenv.locals) a4.S r2.1 f5
        exact ⟨f7, (r.trans r2.2).trans f8⟩
    · have hok : Ok B π env.locals β s₁ s' σ₁ σ' := ⟨hsh, hS, fun b o q hb _ => hkp b o q hb, fun m hm => Kept.ns hm fun o q => hkp _ o q fun z => a1.F.off.1 (growS_sub z), hmon⟩
      have hK' : s.heap.get? K = none := by
        cases hq : s.heap.get? K with
        | none => rfl
        | some o =>
          exfalso
          by_cases hg : K ∈ growS σ β
          · have := ltSim a1.S (growS_sub hg)
            obtain ⟨j, hj, ej⟩ := List.mem_iff_getElem.mp (growS_sub hg)
            obtain ⟨vs', ⟨n', hq'⟩, _⟩ := a1.S.ent j (σ₁[j]'(by rw [← a1.S.len]; exact hj)) K (List.getElem?_eq_getElem _) (by rw [List.getElem?_eq_getElem hj, ej])
            rw [hK] at hq'; cases hq'
          · by_cases hl : K = env.locals
            · subst hl
              obtain ⟨m₁, hm₁⟩ := a1.ns
              obtain ⟨_, _, _, hz, _⟩ := hm₁
              rw [hK] at hz; cases hz
            · have := (r1.2.keep K o hq hg hl).is
              rw [hK] at this; cases this
      refine hQ D K s' m' ?_ (r1.2.trans hok) hns hK' ?_
      · show Rep _ _ _ _
        simp only [Rep]
        exact ⟨_, vs, rfl, hDg, hp.isList, hr⟩
      · obtain ⟨o₀, es, ep, hI, hd₀, _⟩ := hns
        refine ⟨.inr (fun o xs n' ho hd => by rw [hI] at ho; cases ho; rw [hd₀] at hd; cases hd), (fun o v ho hd => by rw [hI] at ho; cases ho; rw [hd₀] at hd; cases hd), ?_, fun q => ?_, ?_⟩
        · rintro rfl
          obtain ⟨m₁, hm₁⟩ := a1.ns
          obtain ⟨_, _, _, hz, _⟩ := hm₁
          rw [hK] at hz; cases hz
        · obtain ⟨j, hj, ej⟩ := List.mem_iff_getElem.mp q
          obtain ⟨vs', ⟨n', hq'⟩, _⟩ := a1.S.ent j (σ₁[j]'(by rw [← a1.S.len]; exact hj)) K (List.getElem?_eq_getElem _) (by rw [List.getElem?_eq_getElem hj, ej])
          rw [hK] at hq'; cases hq'
        · cases hq : B.get? K with
          | none => rfl
          | some o => have := a1.S.base K o hq; rw [hK] at this; cases this
  · cases e2

omit H in
theorem poke_ok {cx : Cx} {env : Env} {s s' : Shared} {ρ : Loc} {σ σ' : Sto} {π β : List Addr} {K : Addr} {h' : Heap} {m' : Str → Option Value} (a : At fnm con B π cx env s ρ σ β) (ok : Ok B π env.locals β s s' σ σ') (hn : s'.heap.Ns K m') (hK : s.heap.get? K = none) (f : Foreign B π β env s'.heap K) (hs : Heap.SameBut K s'.heap h') :
    Ok B π env.locals β s { s' with heap := h' } σ σ' := by
  have hk : ∀ b o, b ≠ K → s'.heap.get? b = some o → h'.get? b = some o := fun b o hb q => hs.extBut b o hb q
  refine ⟨?_, ?_, fun b o q hb hl => ?_, fun m hm => ?_, ok.mon⟩
  · obtain ⟨h1, t1, rfl⟩ := ok.sh; exact ⟨h', t1, rfl⟩
  · have S := ok.sim
    refine ⟨S.len, S.nodup, fun b o q => hk b o (by rintro rfl; rw [f.base] at q; cases q) (S.base b o q), S.new, fun j en p h1 h2 => ?_, fun p hp => ⟨?_, (S.priv p hp).2⟩⟩
    · obtain ⟨vs', hp, hr⟩ := S.ent j en p h1 h2
      exact ⟨vs', hp.at fun o q => hk p o (by rintro rfl; exact f.sto (List.mem_of_getElem? h2)) q, Reps.mono (f.seqKeep hk) hr⟩
    · obtain ⟨o, ho⟩ := Option.isSome_iff_exists.mp (S.priv p hp).1
      have : p ≠ K := by
        rintro rfl
        have := (a.S.priv p hp).1; rw [hK] at this; cases this
      rw [hk p o this ho]; rfl
  · exact (ok.keep b o q hb hl).step fun o' q' => .of (hk b o' (by rintro rfl; rw [hK] at q; cases q) q')
  · exact (ok.ns m hm).at' fun o q => hk _ o (Ne.symm f.loc) q

theorem case_comp (k : Nat) (it : II) (ifs : IEs) (elt : IE) (iht : SndI prog w A B fnm con sub C it) (ihf : SndIfs prog w A B fnm con sub C ifs) (ihe : SndE prog w A B fnm con sub C elt) : SndE prog w A B fnm con sub C (.comp k it ifs elt) := by
  intro cx e env s ρ σ σ' π β v E a hc he
  replace hc := any_ex hc
  obtain ⟨⟨el, x, iter, conds, sc⟩, hq, hc⟩ := hc
  · have hq := hq
    obtain ⟨p1, p2, rfl⟩ := asComp_eq hq
    simp only [Bool.and_eq_true] at hc
    rw [eval_ListComp]
    refine comp_at H iht ihf ihe a hc.1.1.1.1.1 hc.1.1.1.1.2 hc.1.1.1.2 hc.1.1.2 hc.1.2 hc.2 he fun D K s' m' r ok hn hK f => ?_
    refine ⟨m', hn, fun h' hs => ⟨?_, poke_ok a ok hn hK f hs⟩⟩
    exact r.seq (f.seqKeep fun b o hb q => hs.extBut b o hb q)

end
end Mine

/-! ## MList -/
namespace Mine
open PySem PyProof.Rows

section
variable {prog : Program} {w : World} {A : Around} {B : Heap} {Δ : Nat → Option Fn} {fnm : Nat → Option Str} {con : Con} {mg mb : Str → Option Value} {sub : Nat → Nat → Bool} {C : Oracle}
variable (H : Hyp prog w A B Δ fnm con mg mb C)
include H

theorem list_nil : SndEs prog w A B fnm con sub C .nil := by
  intro cx xs env pos s ρ σ σ' π β ds E a hc he
  cases xs with
  | nil => cases (show Out.val _ _ = Out.val _ _ from he); exact Calls.spliced_nil ⟨by simp [Reps], Ok.refl a.S, rfl⟩
  | cons x xs => simp [chkEs] at hc
theorem list_cons (e : IE) (es : IEs) (ih : SndE prog w A B fnm con sub C e) (ihs : SndEs prog w A B fnm con sub C es) : SndEs prog w A B fnm con sub C (.cons e es) := by
  intro cx xs env pos s ρ σ σ' π β ds E a hc he
  cases xs with
  | nil => simp [chkEs] at hc
  | cons x xs =>
    have hc := Bool.and_eq_true_iff.mp (show (_ && _) = true from hc)
    obtain ⟨v1, σ₁, h1, h2⟩ := Out.bind_eq he
    obtain ⟨d, σ₂, h3, h4⟩ := Out.bind_eq h2
    obtain ⟨r, σ₃, h5, h6⟩ := Out.bind_eq h4
    cases h6
    rw [trees_cons (not_starred hc.1)]
    refine Calls.spliced_cons (wpAny_mono (ih a hc.1 h1) (fun u1 s₁ q1 => ?_) fun _ _ z => z)
    have a1 := a.ok q1.2
    obtain ⟨rd, ok2⟩ := toDat_sound (L := env.locals) a1.S q1.1 h3
    have a2 := a1.ok ok2
    refine wpAny_mono (ihs a2 hc.2 h5) (fun us s₂ q2 => ?_) fun _ _ z => z
    refine ⟨?_, (q1.2.trans ok2).trans q2.2.1, by simp [q2.2.2]⟩
    simp only [Reps]
    exact ⟨a2.rep q2.2.1 rd, q2.1⟩
theorem args_nil : SndAs prog w A B fnm con sub C .nil := by
  intro cx xs env pos s ρ σ σ' π β vs E a hc he
  cases xs with
  | nil => cases (show Out.val _ _ = Out.val _ _ from he); exact Calls.spliced_nil ⟨trivial, Ok.refl a.S⟩
  | cons x xs => simp [chkEs] at hc
theorem args_cons (e : IE) (es : IEs) (ih : SndE prog w A B fnm con sub C e) (ihs : SndAs prog w A B fnm con sub C es) : SndAs prog w A B fnm con sub C (.cons e es) := by
  intro cx xs env pos s ρ σ σ' π β vs E a hc he
  cases xs with
  | nil => simp [chkEs] at hc
  | cons x xs =>
    have hc := Bool.and_eq_true_iff.mp (show (_ && _) = true from hc)
    obtain ⟨v1, σ₁, h1, h2⟩ := Out.bind_eq he
    obtain ⟨r, σ₂, h3, h4⟩ := Out.bind_eq h2
    cases h4
    rw [trees_cons (not_starred hc.1)]
    refine Calls.spliced_cons (wpAny_mono (ih a hc.1 h1) (fun u1 s₁ q1 => ?_) fun _ _ z => z)
    have a1 := a.ok q1.2
    refine wpAny_mono (ihs a1 hc.2 h3) (fun us s₂ q2 => ?_) fun _ _ z => z
    exact ⟨⟨a1.rel q2.2 q1.1, q2.1⟩, q1.2.trans q2.2⟩

theorem and_nil : SndAnd prog w A B fnm con sub C .nil := by
  intro cx xs env pos s ρ σ σ' π β v E a hc he
  cases (show Out.bad = Out.val _ _ from he)
theorem and_one (e : IE) (ih : SndE prog w A B fnm con sub C e) : SndAnd prog w A B fnm con sub C (.cons e .nil) := by
  intro cx xs env pos s ρ σ σ' π β v E a hc he
  cases xs with
  | nil => simp [chkEs] at hc
  | cons x xs =>
    cases xs with
    | nil =>
      have hc := Bool.and_eq_true_iff.mp (show (_ && _) = true from hc)
      exact ih a hc.1 (Out.noX_eq he)
    | cons y ys => simp [chkEs] at hc
theorem and_cons (e e' : IE) (es : IEs) (ih : SndE prog w A B fnm con sub C e) (ihs : SndAnd prog w A B fnm con sub C (.cons e' es)) : SndAnd prog w A B fnm con sub C (.cons e (.cons e' es)) := by
  intro cx xs env pos s ρ σ σ' π β v E a hc he
  cases xs with
  | nil => simp [chkEs] at hc
  | cons x xs =>
    cases xs with
    | nil => simp [chkEs] at hc
    | cons y ys =>
      rw [chkEs, Bool.and_eq_true] at hc
      obtain ⟨v1, σ₁, h1, h2⟩ := Out.bind_eq he
      obtain ⟨b, σ₂, h3, h4⟩ := Out.bind_eq h2
      obtain ⟨l1, rfl⟩ := truthOf_eq h3
      show wpAny _ _ (do
        let v ← eval x env
        standAt pos
        let t ← holding [v] (truthy v)
        match BoolOp.And, t with
        | .And, false | .Or, true => pure v
        | _, _ => boolOp pos .And (evalEach (y :: ys) env)) _ _ _
      refine wpAny_bind (wpAny_mono (ih a hc.1 h1) (fun u1 s₁ q1 => wpAny_bind (wpAny_standAt (wpAny_bind (wpAny_holding (truthy_sound (a.ok q1.2).S q1.1 l1 ?_))))) fun _ _ z => z)
      cases b with
      | true =>
        simp only [if_true] at h4
        exact wpAny_mono (ihs (a.ok q1.2) hc.2 h4) (fun v' s' q => ⟨q.1, q1.2.trans q.2⟩) fun _ _ z => z
      | false =>
        simp only [Bool.false_eq_true, if_false] at h4
        cases h4
        exact wpAny_pure q1
theorem or_nil : SndOr prog w A B fnm con sub C .nil := by
  intro cx xs env pos s ρ σ σ' π β v E a hc he
  cases (show Out.bad = Out.val _ _ from he)
theorem or_one (e : IE) (ih : SndE prog w A B fnm con sub C e) : SndOr prog w A B fnm con sub C (.cons e .nil) := by
  intro cx xs env pos s ρ σ σ' π β v E a hc he
  cases xs with
  | nil => simp [chkEs] at hc
  | cons x xs =>
    cases xs with
    | nil =>
      have hc := Bool.and_eq_true_iff.mp (show (_ && _) = true from hc)
      exact ih a hc.1 (Out.noX_eq he)
    | cons y ys => simp [chkEs] at hc
theorem or_cons (e e' : IE) (es : IEs) (ih : SndE prog w A B fnm con sub C e) (ihs : SndOr prog w A B fnm con sub C (.cons e' es)) : SndOr prog w A B fnm con sub C (.cons e (.cons e' es)) := by
  intro cx xs env pos s ρ σ σ' π β v E a hc he
  cases xs with
  | nil => simp [chkEs] at hc
  | cons x xs =>
    cases xs with
    | nil => simp [chkEs] at hc
    | cons y ys =>
      rw [chkEs, Bool.and_eq_true] at hc
      obtain ⟨v1, σ₁, h1, h2⟩ := Out.bind_eq he
      obtain ⟨b, σ₂, h3, h4⟩ := Out.bind_eq h2
      obtain ⟨l1, rfl⟩ := truthOf_eq h3
      show wpAny _ _ (do
        let v ← eval x env
        standAt pos
        let t ← holding [v] (truthy v)
        match BoolOp.Or, t with
        | .And, false | .Or, true => pure v
        | _, _ => boolOp pos .Or (evalEach (y :: ys) env)) _ _ _
      refine wpAny_bind (wpAny_mono (ih a hc.1 h1) (fun u1 s₁ q1 => wpAny_bind (wpAny_standAt (wpAny_bind (wpAny_holding (truthy_sound (a.ok q1.2).S q1.1 l1 ?_))))) fun _ _ z => z)
      cases b with
      | false =>
        simp only [Bool.false_eq_true, if_false] at h4
        exact wpAny_mono (ihs (a.ok q1.2) hc.2 h4) (fun v' s' q => ⟨q.1, q1.2.trans q.2⟩) fun _ _ z => z
      | true =>
        simp only [if_true] at h4
        cases h4
        exact wpAny_pure q1

theorem cmp_nil : SndC prog w A B fnm con sub C .nil := by
  intro cx os xs env pos s ρ σ σ' π β v v' b E a r hc hne he
  cases os with
  | nil => exact absurd rfl hne
  | cons o os => simp [chkCs] at hc
theorem cmp_cons (op : COp) (e : IE) (cs : ICs) (ih : SndE prog w A B fnm con sub C e) (ihs : SndC prog w A B fnm con sub C cs) : SndC prog w A B fnm con sub C (.cons op e cs) := by
  intro cx os xs env pos s ρ σ σ' π β v v' b E a r hc hne he
  cases os with
  | nil => exact absurd rfl hne
  | cons o os =>
    cases xs with
    | nil => simp [chkCs] at hc
    | cons x xs =>
      simp only [chkCs, Bool.and_eq_true] at hc
      obtain ⟨v1, σ₁, h1, h2⟩ := Out.bind_eq he
      have go : ∀ {α : Type} {k : Value → Sem α} {QQ : α → Shared → Prop} , (∀ u1 s₁, EP B π env β s σ v1 σ₁ u1 s₁ → wpAny (model prog w) A (k u1) QQ E s₁) → wpAny (model prog w) A (holding [v'] (eval x env) >>= k) QQ E s := fun {α k QQ} hk =>
        wpAny_bind (wpAny_holding (wpAny_mono (ih a hc.1.2 h1) (fun u1 s₁ q1 => hk u1 s₁ q1) fun _ _ z => z))
      have cmpd : ∀ {u1 : Value} {s₁ : Shared} {rb : Bool} {QQ : Value → Shared → Prop}, EP B π env β s σ v1 σ₁ u1 s₁ → c2 op v v1 σ₁ = some rb → QQ (.bool rb) s₁ → wpAny (model prog w) A (compareOp o v' u1) QQ E s₁ := fun {u1 s₁ rb QQ} q1 hcc hq => by
        have a1 := a.ok q1.2
        obtain ⟨d1, d2, l1, l2, hcm⟩ := c2_eq hcc
        exact cmp2_sound hc.1.1 (look_seen a1.S (a.rel q1.2 r) l1) (look_seen a1.S q1.1 l2) (by have := H.hu; omega) hcm hq
      cases hcc : c2 op v v1 σ₁ with
      | none => rw [hcc] at h2; cases h2
      | some rb =>
        rw [hcc] at h2
        cases os with
        | nil =>
          cases xs with
          | cons _ _ => cases cs <;> simp [chkCs] at hc
          | nil =>
            have hcs : cs = .nil := by cases cs with | nil => rfl | cons _ _ _ => simp [chkCs] at hc
            subst hcs
            have hb : b = rb ∧ σ' = σ₁ := by cases rb <;> simp [evCmp] at h2 <;> exact ⟨by simp [← h2.1], h2.2.symm⟩
            obtain ⟨rfl, rfl⟩ := hb
            constructor
            · show wpAny _ _ (holding [v'] (eval x env) >>= fun rv => do standAt pos; operate [v', rv] (compareOp o v' rv)) _ _ _
              exact go fun u1 s₁ q1 => wpAny_bind (wpAny_standAt (wpAny_operating (cmpd q1 hcc ⟨rfl, q1.2⟩)))
            · show wpAny _ _ (holding [v'] (eval x env) >>= fun rv => do standAt pos; let c ← operate [v', rv] (compareOp o v' rv); holding [c] (truthy c)) _ _ _
              exact go fun u1 s₁ q1 => wpAny_bind (wpAny_standAt (wpAny_bind (wpAny_operating (cmpd q1 hcc (wpAny_holding (wpAny_truthy_bool ⟨rfl, q1.2⟩))))))
        | cons o' os =>
          constructor
          · show wpAny _ _ (holding [v'] (eval x env) >>= fun rv => do
              standAt pos
              let c ← holding [v', rv] (compareOp o v' rv)
              release [v', rv] [c]
              if ← holding [c, rv] (truthy c) then compareChain pos rv (o' :: os) (evalEach xs env) else pure c) _ _ _
            refine go fun u1 s₁ q1 => wpAny_bind (wpAny_standAt (wpAny_bind (wpAny_holding (cmpd q1 hcc (wpAny_bind (wpAny_release (wpAny_bind (wpAny_holding (wpAny_truthy_bool ?_)))))))))
            cases rb with
            | false => simp at h2; obtain ⟨rfl, rfl⟩ := h2; simp only [Bool.false_eq_true, if_false]; exact wpAny_pure ⟨rfl, q1.2⟩
            | true => simp only [if_true]; exact wpAny_mono (ihs (pos := pos) (a.ok q1.2) q1.1 hc.2 (by simp) h2).1 (fun v' s' q => ⟨q.1, q1.2.trans q.2⟩) fun _ _ z => z
          · show wpAny _ _ (holding [v'] (eval x env) >>= fun rv => do
              standAt pos
              let c ← holding [v', rv] (compareOp o v' rv)
              release [v', rv] [c]
              if ← holding [c, rv] (truthy c) then testChain pos rv (o' :: os) (evalEach xs env) else pure false) _ _ _
            refine go fun u1 s₁ q1 => wpAny_bind (wpAny_standAt (wpAny_bind (wpAny_holding (cmpd q1 hcc (wpAny_bind (wpAny_release (wpAny_bind (wpAny_holding (wpAny_truthy_bool ?_)))))))))
            cases rb with
            | false => simp at h2; obtain ⟨rfl, rfl⟩ := h2; simp only [Bool.false_eq_true, if_false]; exact wpAny_pure ⟨rfl, q1.2⟩
            | true => simp only [if_true]; exact wpAny_mono (ihs (pos := pos) (a.ok q1.2) q1.1 hc.2 (by simp) h2).2 (fun v' s' q => ⟨q.1, q1.2.trans q.2⟩) fun _ _ z => z

theorem it_of (e : IE) (ih : SndE prog w A B fnm con sub C e) : SndI prog w A B fnm con sub C (.of e) := by
  intro cx x env s ρ σ σ' π β src E a hp hc he
  obtain ⟨v1, σ₁, h1, h2⟩ := Out.bind_eq he
  refine wpAny_mono (ih a hc h1) (fun u1 s₁ q1 => ?_) fun _ _ z => z
  cases v1 with
  | dat d =>
    obtain ⟨h3, rfl⟩ := ofOpt_eq h2
    cases hi : itemsOf d with
    | none => rw [hi] at h3; cases h3
    | some l => rw [hi] at h3; cases h3; exact ⟨.dat q1.1 hi, q1.2⟩
  | ref k =>
    obtain ⟨h3, rfl⟩ := ofOpt_eq h2
    cases hi : σ'[k]? with
    | none => rw [hi] at h3; cases h3
    | some l =>
      rw [hi] at h3; cases h3
      obtain ⟨p, hp1, rfl⟩ := q1.1
      exact ⟨.held hi hp1, q1.2⟩
  | exc c => cases h2
theorem it_no (it : II) (h : ∀ cx e, chkI cx it e = false) : SndI prog w A B fnm con sub C it := by
  intro cx e env s ρ σ σ' π β src E a hp hc he
  rw [h] at hc; cases hc
theorem it_range1 (e : IE) (ih : SndE prog w A B fnm con sub C e) : SndI prog w A B fnm con sub C (.range1 e) := by
  intro cx x env s ρ σ σ' π β src E a hp hc he
  replace hc := any_ex hc
  obtain ⟨⟨nm, y⟩, hq, hc⟩ := hc
  · have hq := hq
    obtain ⟨p1, q1, rfl⟩ := asCall1_eq hq
    simp only [Bool.and_eq_true, beq_iff_eq] at hc
    obtain ⟨⟨rfl, hg⟩, hy⟩ := hc
    obtain ⟨v1, σ₁, h1, h2⟩ := Out.bind_eq he
    split at h2
    · split at h2
      · rename_i n hn
        cases h2
        refine call1_ty H a hg (T := "range") bi_range (not_starred hy) (wpAny_mono (ih a hy h1) (fun u1 s₁ r1 => ?_) fun _ _ z => z)
        have a1 := a.ok r1.2
        obtain ⟨t, rfl⟩ := r1.1
        refine call_range_1 ?_
        have ok : Ok B π env.locals β s₁ { s₁ with heap := s₁.heap.push { cls := .type "range", data := .fields #[.int 0 s₁.toks, .int n t, .int 1 (s₁.toks + 1)] }, toks := s₁.toks + 1 + 1 } σ' σ' := Ok.keeps a1.S ⟨_, _, rfl⟩ fun b o e => Heap.get?_push_of_some _ e
        exact ⟨.range (Heap.get?_push_size _ rfl) (by omega) (by omega) hn.2 hn.1, r1.2.trans ok⟩
      · cases h2
    · cases h2
theorem it_none (it : II) (h : plainI it = false) : SndI prog w A B fnm con sub C it := by
  intro cx x env s ρ σ σ' π β src E a hp hc he
  rw [h] at hp; cases hp

theorem ifs_nil : SndIfs prog w A B fnm con sub C .nil := by
  intro cx xs env s ρ σ σ' π β b E a hc he
  cases xs with
  | nil => cases (show Out.val _ _ = Out.val _ _ from he); rw [List.forIn_nil]; exact wpAny_pure ⟨rfl, Ok.refl a.S⟩
  | cons x xs => simp [chkEs] at hc
theorem ifs_cons (e : IE) (es : IEs) (ih : SndB prog w A B fnm con sub C e) (ihs : SndIfs prog w A B fnm con sub C es) : SndIfs prog w A B fnm con sub C (.cons e es) := by
  intro cx xs env s ρ σ σ' π β b E a hc he
  cases xs with
  | nil => simp [chkEs] at hc
  | cons x xs =>
    have hc := Bool.and_eq_true_iff.mp (show (_ && _) = true from hc)
    obtain ⟨b1, σ₁, h1, h2⟩ := Out.bind_eq he
    refine forIn_ifs (wpAny_mono (ih a hc.1 h1) (fun b' s₁ q => ?_) fun _ _ z => z)
    obtain ⟨rfl, ok⟩ := q
    cases b' with
    | true =>
      simp only [if_true] at h2 ⊢
      exact wpAny_mono (ihs (a.ok ok) hc.2 h2) (fun b' s' q => ⟨q.1, ok.trans q.2⟩) fun _ _ z => z
    | false =>
      simp only [Bool.false_eq_true, if_false] at h2 ⊢
      cases h2
      exact ⟨rfl, ok⟩
theorem all_nil : SndAll prog w A B fnm con sub C .nil := by
  intro cx xs env s ρ σ σ' π β b E a hc he
  cases xs with
  | nil => cases (show Out.val _ _ = Out.val _ _ from he); exact wpAny_pure ⟨rfl, Ok.refl a.S⟩
  | cons x xs => simp [chkEs] at hc
theorem all_cons (e : IE) (es : IEs) (ih : SndB prog w A B fnm con sub C e) (ihs : SndAll prog w A B fnm con sub C es) : SndAll prog w A B fnm con sub C (.cons e es) := by
  intro cx xs env s ρ σ σ' π β b E a hc he
  cases xs with
  | nil => simp [chkEs] at hc
  | cons x xs =>
    have hc := Bool.and_eq_true_iff.mp (show (_ && _) = true from hc)
    obtain ⟨b1, σ₁, h1, h2⟩ := Out.bind_eq he
    show wpAny _ _ (do
      match BoolOp.And, ← isTrue x env (eval x env) with
      | .And, false => pure false
      | .Or, true => pure true
      | _, _ => allTrue .And xs env) _ _ _
    refine wpAny_bind (wpAny_mono (ih a hc.1 h1) (fun b' s₁ q => ?_) fun _ _ z => z)
    obtain ⟨rfl, ok⟩ := q
    cases b' with
    | true =>
      simp only [if_true] at h2
      exact wpAny_mono (ihs (a.ok ok) hc.2 h2) (fun b' s' q => ⟨q.1, ok.trans q.2⟩) fun _ _ z => z
    | false =>
      simp only [Bool.false_eq_true, if_false] at h2
      cases h2
      exact wpAny_pure ⟨rfl, ok⟩
theorem any_nil : SndAny prog w A B fnm con sub C .nil := by
  intro cx xs env s ρ σ σ' π β b E a hc he
  cases xs with
  | nil => cases (show Out.val _ _ = Out.val _ _ from he); exact wpAny_pure ⟨rfl, Ok.refl a.S⟩
  | cons x xs => simp [chkEs] at hc
theorem any_cons (e : IE) (es : IEs) (ih : SndB prog w A B fnm con sub C e) (ihs : SndAny prog w A B fnm con sub C es) : SndAny prog w A B fnm con sub C (.cons e es) := by
  intro cx xs env s ρ σ σ' π β b E a hc he
  cases xs with
  | nil => simp [chkEs] at hc
  | cons x xs =>
    have hc := Bool.and_eq_true_iff.mp (show (_ && _) = true from hc)
    obtain ⟨b1, σ₁, h1, h2⟩ := Out.bind_eq he
    show wpAny _ _ (do
      match BoolOp.Or, ← isTrue x env (eval x env) with
      | .And, false => pure false
      | .Or, true => pure true
      | _, _ => allTrue .Or xs env) _ _ _
    refine wpAny_bind (wpAny_mono (ih a hc.1 h1) (fun b' s₁ q => ?_) fun _ _ z => z)
    obtain ⟨rfl, ok⟩ := q
    cases b' with
    | false =>
      simp only [Bool.false_eq_true, if_false] at h2
      exact wpAny_mono (ihs (a.ok ok) hc.2 h2) (fun b' s' q => ⟨q.1, ok.trans q.2⟩) fun _ _ z => z
    | true =>
      simp only [if_true] at h2
      cases h2
      exact wpAny_pure ⟨rfl, ok⟩

/-- a test by its value -/
theorem b_plain (ie : IE) (ih : SndE prog w A B fnm con sub C ie) {cx : Cx} {e : Expr} {env : Env} {s : Shared} {ρ : Loc} {σ σ₁ σ' : Sto} {π β : List Addr} {v : Val} {b : Bool} {E : Value → Shared → Prop} (a : At fnm con B π cx env s ρ σ β) (hc : chkE cx ie e = true)
    (h1 : ev sub C ie ρ σ = .val v σ₁) (h2 : truthOf v σ₁ = .val b σ') (hp : isTrue e env (eval e env) = (do let v ← eval e env; standAt e.pos; holding [v] (truthy v))) :
    wpAny (model prog w) A (isTrue e env (eval e env)) (fun b' s' => b' = b ∧ Ok B π env.locals β s s' σ σ') E s := by
  rw [hp]
  obtain ⟨l1, rfl⟩ := truthOf_eq h2
  exact wpAny_bind (wpAny_mono (ih a hc h1) (fun u1 s₁ q1 => wpAny_bind (wpAny_standAt (wpAny_holding (truthy_sound (a.ok q1.2).S q1.1 l1 ⟨rfl, q1.2⟩)))) fun _ _ z => z)

theorem b_not (x : IE) (ih : SndB prog w A B fnm con sub C x) : SndB prog w A B fnm con sub C (.not x) := by
  intro cx e env s ρ σ σ' π β b E a hc he
  replace hc := any_ex hc
  obtain ⟨y, hq, hc⟩ := hc
  · have hq := hq
    obtain ⟨p, rfl⟩ := asNot_eq hq
    obtain ⟨b1, σ₁, h1, h2⟩ := Out.bindX_eq he
    cases h2
    show wpAny _ _ (do return !(← isTrue y env (eval y env))) _ _ _
    exact wpAny_bind (wpAny_mono (ih a hc h1) (fun b' s₁ q => wpAny_pure ⟨by rw [q.1], q.2⟩) fun _ _ z => z)
theorem b_and (es : IEs) (ih : SndAll prog w A B fnm con sub C es) : SndB prog w A B fnm con sub C (.and es) := by
  intro cx e env s ρ σ σ' π β b E a hc he
  replace hc := any_ex hc
  obtain ⟨xs, hq, hc⟩ := hc
  · have hq := hq
    obtain ⟨p, rfl⟩ := asAnd_eq hq
    exact ih a hc he
theorem b_or (es : IEs) (ih : SndAny prog w A B fnm con sub C es) : SndB prog w A B fnm con sub C (.or es) := by
  intro cx e env s ρ σ σ' π β b E a hc he
  replace hc := any_ex hc
  obtain ⟨xs, hq, hc⟩ := hc
  · have hq := hq
    obtain ⟨p, rfl⟩ := asOr_eq hq
    exact ih a hc he
theorem b_cmp (x : IE) (cs : ICs) (ihx : SndE prog w A B fnm con sub C x) (ihc : SndC prog w A B fnm con sub C cs) : SndB prog w A B fnm con sub C (.cmp x cs) := by
  intro cx e env s ρ σ σ' π β b E a hc he
  replace hc := any_ex hc
  obtain ⟨⟨l, os, rs⟩, hq, hc⟩ := hc
  · have hq := hq
    obtain ⟨p, rfl⟩ := asCmp_eq hq
    simp only [Bool.and_eq_true] at hc
    obtain ⟨v1, σ₁, h1, h3⟩ := Out.bind_eq he
    show wpAny _ _ (do testChain p (← eval l env) os (markedEach os rs (evalEach rs env))) _ _ _
    rw [markedEach_none hc.1.2]
    refine wpAny_bind (wpAny_mono (ihx a hc.1.1 h1) (fun u1 s₁ q1 => ?_) fun _ _ z => z)
    exact wpAny_mono ((ihc (pos := p) (a.ok q1.2) q1.1 hc.1.2 (by intro z; subst z; simp at hc) h3).2) (fun v' s' q => ⟨q.1, q1.2.trans q.2⟩) fun _ _ z => z
theorem b_lit (d : Dat) : SndB prog w A B fnm con sub C (.lit d) := by
  intro cx e env s ρ σ σ' π β b E a hc he
  refine b_plain (sub := sub) H (.lit d) (case_lit H d) a hc rfl he ?_
  replace hc := any_ex hc
  obtain ⟨c, hq, hc⟩ := hc
  · obtain ⟨k, p, rfl⟩ := asConst_eq hq; rfl
theorem b_con (x : String) (d : Dat) : SndB prog w A B fnm con sub C (.con x d) := by
  intro cx e env s ρ σ σ' π β b E a hc he
  refine b_plain (sub := sub) H (.con x d) (case_con H x d) a hc rfl he ?_
  replace hc := any_ex hc
  obtain ⟨c, hq, hc⟩ := hc
  · obtain ⟨p, rfl⟩ := asName_eq hq; rfl
theorem b_var (i : Nat) : SndB prog w A B fnm con sub C (.var i) := by
  intro cx e env s ρ σ σ' π β b E a hc he
  have he : (match ρ[i]? with | some (some v) => truthOf v σ | _ => Out.bad) = Out.val b σ' := he
  split at he
  · rename_i v hv
    refine b_plain (sub := sub) H (.var i) (case_var H i) a hc (by show (match ρ[i]? with | some (some v) => Out.val v σ | _ => Out.bad) = _; rw [hv]) he ?_
    replace hc := any_ex hc
    obtain ⟨c, hq, hc⟩ := hc
    · obtain ⟨p, rfl⟩ := asName_eq hq; rfl
  · cases he
theorem b_call (f : Nat) (as : IEs) (ih : SndE prog w A B fnm con sub C (.call f as)) : SndB prog w A B fnm con sub C (.call f as) := by
  intro cx e env s ρ σ σ' π β b E a hc he
  obtain ⟨vs, σ₁, h1, h2⟩ := Out.bind_eq he
  obtain ⟨d, σ₂, h3, h4⟩ := Out.bind_eq h2
  refine b_plain H _ ih a hc (v := .dat d) (σ₁ := σ₂) (by show Out.bind _ _ = _; simp only [h1, h3, Out.bind_val, Out.bindX_val]) h4 ?_
  replace hc := any_ex hc
  obtain ⟨⟨c, xs⟩, hq, hc⟩ := hc
  · obtain ⟨p, q, rfl⟩ := asCall_eq hq; rfl
theorem b_prim (p : Prim) (x : IE) (ih : SndE prog w A B fnm con sub C (.prim p x)) : SndB prog w A B fnm con sub C (.prim p x) := by
  intro cx e env s ρ σ σ' π β b E a hc he
  obtain ⟨vs, σ₁, h1, h2⟩ := Out.bind_eq he
  obtain ⟨d, σ₂, h3, h4⟩ := Out.bind_eq h2
  refine b_plain H _ ih a hc (v := d) (σ₁ := σ₂) (by show Out.bind _ _ = _; simp only [h1, h3, Out.bind_val]) h4 ?_
  replace hc := any_ex hc
  obtain ⟨⟨nm, y⟩, hq, hc⟩ := hc
  · obtain ⟨p, q, rfl⟩ := asCall1_eq hq; rfl
theorem b_idx (x i : IE) (ih : SndE prog w A B fnm con sub C (.idx x i)) : SndB prog w A B fnm con sub C (.idx x i) := by
  intro cx e env s ρ σ σ' π β b E a hc he
  obtain ⟨vs, σ₁, h1, h2⟩ := Out.bindX_eq he
  obtain ⟨us, σ₂, h3, h4⟩ := Out.bind_eq h2
  obtain ⟨d, σ₃, h5, h6⟩ := Out.bind_eq h4
  refine b_plain H _ ih a hc (v := d) (σ₁ := σ₃) (by show Out.bindX _ _ = _; simp only [h1, h3, h5, Out.bind_val, Out.bindX_val]) h6 ?_
  replace hc := any_ex hc
  obtain ⟨⟨y, z⟩, hq, hc⟩ := hc
  · obtain ⟨p, rfl, _⟩ := asSub_eq hq; rfl
theorem b_no (ie : IE) (h : ∀ cx e, chkE cx ie e = false) : SndB prog w A B fnm con sub C ie := by
  intro cx e env s ρ σ σ' π β b E a hc he
  rw [h] at hc; cases hc
theorem b_none (ie : IE) (h : ∀ ρ σ, evB sub C ie ρ σ = .bad) : SndB prog w A B fnm con sub C ie := by
  intro cx e env s ρ σ σ' π β b E a hc he
  rw [h] at he; cases he
end

section
variable {prog : Program} {w : World} {A : Around} {B : Heap} {Δ : Nat → Option Fn} {fnm : Nat → Option Str} {con : Con} {mg mb : Str → Option Value} {sub : Nat → Nat → Bool} {C : Oracle}
variable (H : Hyp prog w A B Δ fnm con mg mb C)
include H
mutual
theorem ev_sound : ∀ ie : IE, SndE prog w A B fnm con sub C ie
  | .lit d => case_lit H d
  | .con x d => case_con H x d
  | .var i => case_var H i
  | .tup es => case_tup H es (evs_sound es)
  | .lst es => case_lst H es (evs_sound es)
  | .bin op x y => case_bin H op x y (ev_sound x) (ev_sound y)
  | .neg x => case_neg H x (ev_sound x)
  | .not x => case_not H x (ev_sound x)
  | .and es => case_and H es (evAnd_sound es)
  | .or es => case_or H es (evOr_sound es)
  | .cmp x cs => case_cmp H x cs (ev_sound x) (evCmp_sound cs)
  | .call f as => case_call H f as (evArgs_sound as)
  | .prim p x => case_prim H p x (ev_sound x)
  | .prim2 p x y => case_none H _ fun _ _ => rfl
  | .listOf x => case_listOf H x (ev_sound x)
  | .listRange x => case_none H _ fun _ _ => rfl
  | .isinst x t => case_none H _ fun _ _ => rfl
  | .idx x i => case_idx H x i (ev_sound x) (ev_sound i)
  | .slFrom x i => case_slFrom H x i (ev_sound x) (ev_sound i)
  | .slTo x i => case_slTo H x i (ev_sound x) (ev_sound i)
  | .sorted x => case_none H _ fun _ _ => rfl
  | .comp k it ifs elt => case_comp H k it ifs elt (evI_sound it) (evIfs_sound ifs) (ev_sound elt)
theorem evs_sound : ∀ es : IEs, SndEs prog w A B fnm con sub C es
  | .nil => list_nil H
  | .cons e es => list_cons H e es (ev_sound e) (evs_sound es)
theorem evArgs_sound : ∀ es : IEs, SndAs prog w A B fnm con sub C es
  | .nil => args_nil H
  | .cons e es => args_cons H e es (ev_sound e) (evArgs_sound es)
theorem evAnd_sound : ∀ es : IEs, SndAnd prog w A B fnm con sub C es
  | .nil => and_nil H
  | .cons e .nil => and_one H e (ev_sound e)
  | .cons e (.cons e' es) => and_cons H e e' es (ev_sound e) (evAnd_sound (.cons e' es))
theorem evOr_sound : ∀ es : IEs, SndOr prog w A B fnm con sub C es
  | .nil => or_nil H
  | .cons e .nil => or_one H e (ev_sound e)
  | .cons e (.cons e' es) => or_cons H e e' es (ev_sound e) (evOr_sound (.cons e' es))
theorem evCmp_sound : ∀ cs : ICs, SndC prog w A B fnm con sub C cs
  | .nil => cmp_nil H
  | .cons op e cs => cmp_cons H op e cs (ev_sound e) (evCmp_sound cs)
theorem evI_sound : ∀ it : II, SndI prog w A B fnm con sub C it
  | .of e => it_of H e (ev_sound e)
  | .range1 e => it_range1 H e (ev_sound e)
  | .range2 e e' => it_no H _ fun _ _ => rfl
  | .rev e => it_none H (.rev e) rfl
  | .enum e => it_none H (.enum e) rfl
  | .zip e e' => it_none H (.zip e e') rfl
theorem evIfs_sound : ∀ es : IEs, SndIfs prog w A B fnm con sub C es
  | .nil => ifs_nil H
  | .cons e es => ifs_cons H e es (evB_sound e) (evIfs_sound es)
theorem evAll_sound : ∀ es : IEs, SndAll prog w A B fnm con sub C es
  | .nil => all_nil H
  | .cons e es => all_cons H e es (evB_sound e) (evAll_sound es)
theorem evAny_sound : ∀ es : IEs, SndAny prog w A B fnm con sub C es
  | .nil => any_nil H
  | .cons e es => any_cons H e es (evB_sound e) (evAny_sound es)
theorem evB_sound : ∀ ie : IE, SndB prog w A B fnm con sub C ie
  | .lit d => b_lit H d
  | .con x d => b_con H x d
  | .var i => b_var H i
  | .not x => b_not H x (evB_sound x)
  | .and es => b_and H es (evAll_sound es)
  | .or es => b_or H es (evAny_sound es)
  | .cmp x cs => b_cmp H x cs (ev_sound x) (evCmp_sound cs)
  | .call f as => b_call H f as (case_call H f as (evArgs_sound as))
  | .prim p x => b_prim H p x (case_prim H p x (ev_sound x))
  | .isinst x t => b_no H _ fun _ _ => rfl
  | .idx x i => b_idx H x i (case_idx H x i (ev_sound x) (ev_sound i))
  | .tup es => b_none H _ fun _ _ => rfl
  | .lst es => b_none H _ fun _ _ => rfl
  | .bin op x y => b_none H _ fun _ _ => rfl
  | .neg x => b_none H _ fun _ _ => rfl
  | .prim2 p x y => b_none H _ fun _ _ => rfl
  | .listOf x => b_none H _ fun _ _ => rfl
  | .listRange x => b_none H _ fun _ _ => rfl
  | .slFrom x i => b_none H _ fun _ _ => rfl
  | .slTo x i => b_none H _ fun _ _ => rfl
  | .sorted x => b_none H _ fun _ _ => rfl
  | .comp k it ifs elt => b_none H _ fun _ _ => rfl
end
end
end Mine

/-! ## MStmt -/
namespace Mine
open PySem PyProof.Rows

noncomputable def fineS : SOut → Prop
  | .next _ _ => True
  | .ret _ _ => True
  | _ => False

/-- every cell of a frame has a name -/
noncomputable def Named (cx : Cx) (env : Env) : Prop := ∀ p ∈ env.cells, ∃ i, cx.name i = some p.1 ∧ cx.scope.names.lookup p.1 = some .cell ∧ env.cells.lookup p.1 = some p.2

noncomputable def SPost (fnm : Nat → Option Str) (con : Con) (B : Heap) (π : List Addr) (cx : Cx) (env : Env) (s : Shared) (σ : Sto) (β : List Addr) (o : SOut) (f : Flow) (s' : Shared) : Prop := match o with
  | .next ρ' σ' => f = .next ∧ ∃ β', At fnm con B π cx env s' ρ' σ' β' ∧ SOk B π env s s' σ σ' β β'
  | .ret d σ' => ∃ v β', f = .ret v ∧ Rep s'.heap (grow π σ' β') d v ∧ SOk B π env s s' σ σ' β β'
  | _ => False

theorem stm_fine {α : Type} {o : Out α} {ρ : Loc} {f : α → Sto → SOut} (h : fineS (o.stm ρ f)) : ∃ a σ, o = .val a σ ∧ o.stm ρ f = f a σ := by
  cases o with
  | val a σ => exact ⟨a, σ, rfl, rfl⟩
  | exn c σ => exact h.elim
  | bad => exact h.elim
theorem stmK_fine {α : Type} {o : Out α} {f : α → Sto → SOut} (h : fineS (o.stmK f)) : ∃ a σ, o = .val a σ ∧ o.stmK f = f a σ := by
  cases o with
  | val a σ => exact ⟨a, σ, rfl, rfl⟩
  | exn c σ => exact h.elim
  | bad => exact h.elim
theorem noX_fine {o : SOut} (h : fineS o.noX) : o.noX = o ∧ fineS o := by cases o <;> first | exact ⟨rfl, trivial⟩ | exact h.elim
theorem bind_fine {o : SOut} {f : Loc → Sto → SOut} (h : fineS (o.bind f)) : (∃ ρ σ, o = .next ρ σ ∧ o.bind f = f ρ σ) ∨ (∃ d σ, o = .ret d σ ∧ o.bind f = .ret d σ) := by
  cases o with
  | next ρ σ => exact .inl ⟨ρ, σ, rfl, rfl⟩
  | ret d σ => exact .inr ⟨d, σ, rfl, rfl⟩
  | exn c ρ σ => exact h.elim
  | bad => exact h.elim

section
variable {prog : Program} {w : World} {A : Around} {B : Heap} {Δ : Nat → Option Fn} {fnm : Nat → Option Str} {con : Con} {mg mb : Str → Option Value} {sub : Nat → Nat → Bool} {C : Oracle}
variable {cx : Cx} {env : Env} {s s' s₁ : Shared} {ρ ρ₁ : Loc} {σ σ' σ₁ : Sto} {π β β₁ : List Addr} {E : Value → Shared → Prop}

theorem SPost.after {o : SOut} {f : Flow} (x : SOk B π env s s₁ σ σ₁ β β₁) (h : SPost fnm con B π cx env s₁ σ₁ β₁ o f s') : SPost fnm con B π cx env s σ β o f s' := by
  cases o with
  | next ρ' σ' => obtain ⟨h1, β', h2, h3⟩ := h; exact ⟨h1, β', h2, x.trans h3⟩
  | ret d σ' => obtain ⟨v, β', h1, h2, h3⟩ := h; exact ⟨v, β', h1, h2, x.trans h3⟩
  | exn => exact h.elim
  | bad => exact h.elim

theorem At.soK (a : At fnm con B π cx env s ρ σ β) (x : Ok B π env.locals β s s' σ σ') : SOk B π env s s' σ σ' β β := by
  obtain ⟨m, hm⟩ := a.ns
  exact x.toS a.S hm

theorem At.own_alive (a : At fnm con B π cx env s ρ σ β) (hN : Named cx env) {b : Addr} (hb : b ∈ own env) : (s.heap.get? b).isSome = true := by
  unfold own at hb
  rcases List.mem_cons.mp hb with rfl | hb
  · obtain ⟨m, hm⟩ := a.ns
    obtain ⟨_, _, _, ho, _⟩ := hm
    rw [ho]; rfl
  · obtain ⟨p, hp, rfl⟩ := List.mem_map.mp hb
    obtain ⟨i, h1, h2, h3⟩ := hN p hp
    obtain ⟨c, o, hc, ⟨ob, ho, _⟩, _⟩ := a.F.cell i p.1 h1 h2
    rw [h3] at hc; cases hc
    rw [ho]; rfl
theorem At.sto_alive (S : Sim B π s.heap σ β) {b : Addr} (hb : b ∈ β) : (s.heap.get? b).isSome = true := by
  obtain ⟨k, hk, e⟩ := List.mem_iff_getElem.mp hb
  obtain ⟨vs, ⟨n, hp⟩, _⟩ := S.ent k (σ[k]'(by rw [← S.len]; exact hk)) b (List.getElem?_eq_getElem _) (by rw [List.getElem?_eq_getElem hk, e])
  rw [hp]; rfl

theorem At.poke' {p : Addr} (a : At fnm con B π cx env s ρ σ β) (f : Foreign B π β env s.heap p) (hk : ∀ b o, b ≠ p → s.heap.get? b = some o → s'.heap.get? b = some o) (hp : p ∉ π) : At fnm con B π cx env s' ρ σ β := by
  refine ⟨a.fn, a.con, a.V, a.F.poke f hk, ⟨a.S.len, a.S.nodup, fun b o e => hk b o (by rintro rfl; rw [f.base] at e; cases e) (a.S.base b o e), a.S.new, fun k e b h1 h2 => ?_, fun b hb => ⟨?_, (a.S.priv b hb).2⟩⟩⟩
  · obtain ⟨vs, hp, hr⟩ := a.S.ent k e b h1 h2
    exact ⟨vs, hp.at fun o e => hk _ o (by rintro rfl; exact f.sto (List.mem_of_getElem? h2)) e, Reps.mono (f.seqKeep hk) hr⟩
  · obtain ⟨o, ho⟩ := Option.isSome_iff_exists.mp (a.S.priv b hb).1; rw [hk b o (by rintro rfl; exact hp hb) ho]; rfl

/-- what stands, seen after an object that is younger has changed -/
theorem SOk.poke {p : Addr} {s₂ : Shared} {β₂ : List Addr} {σ₂ : Sto} (x : SOk B π env s s₁ σ σ₂ β β₂) (hp : s.heap.get? p = none) (hsh : ∃ h' tk, s₂ = { s₁ with heap := h', toks := tk }) (S : Sim B π s₂.heap σ₂ β₂) (hk : ∀ b o, b ≠ p → s₁.heap.get? b = some o → s₂.heap.get? b = some o) : SOk B π env s s₂ σ σ₂ β β₂ := by
  refine ⟨?_, S, fun b o q hb ho => (x.keep b o q hb ho).step fun o' e' => .of (hk b o' (by rintro rfl; rw [hp] at q; cases q) e'), x.mon, x.ext, fun b hb => ?_⟩
  · obtain ⟨h1, t1, rfl⟩ := x.sh; obtain ⟨h2, t2, rfl⟩ := hsh; exact ⟨h2, t2, rfl⟩
  · obtain ⟨o, ho⟩ := Option.isSome_iff_exists.mp (x.alive b hb)
    have : b ≠ p := by rintro rfl; rw [hp] at hb; cases hb
    rw [hk b o this ho]; rfl

theorem SOk.seqK (x : SOk B π env s s' σ σ' β β₁) (a : At fnm con B π cx env s ρ σ β) (hN : Named cx env) : SeqKeep (grow π σ β) (grow π σ' β₁) s.heap s'.heap := by
  intro b o xs n ho hd hb
  refine ⟨fun q => ?_, (x.keep b o ho (growS_grow hb) fun q => ?_).seq hd⟩
  · rcases mem_grow.mp q with q | q
    · exact hb (mem_grow.mpr (.inl q))
    · rcases x.mon b q with q | q
      · exact hb (mem_grow.mpr (.inr q))
      · rw [q] at ho; cases ho
  · unfold own at q
    rcases List.mem_cons.mp q with rfl | q
    · obtain ⟨m, hm⟩ := a.ns
      obtain ⟨o', _, _, ho', hd', _⟩ := hm
      rw [ho] at ho'; cases ho'; rw [hd] at hd'; cases hd'
    · obtain ⟨p, hp, rfl⟩ := List.mem_map.mp q
      obtain ⟨i, h1, h2, h3⟩ := hN p hp
      obtain ⟨c, o', hc, ⟨ob, ho', hd'⟩, _⟩ := a.F.cell i p.1 h1 h2
      rw [h3] at hc; cases hc
      rw [ho] at ho'; cases ho'; rw [hd] at hd'; cases hd'
/-- a list that may grow comes to be -/
theorem At.grows {p : Addr} {ds : List Dat} {vs : Array Value} (a : At fnm con B π cx env s ρ σ β) (hsh : ∃ h' tk, s' = { s with heap := h', toks := tk }) (hk : ∀ b o, s.heap.get? b = some o → s'.heap.get? b = some o) (hp : s.heap.get? p = none) (hB : B.objs.size ≤ p)
    (hl : s'.heap.PlainList p vs) (hr : Reps s.heap (grow π σ β) ds vs.toList) : At fnm con B π cx env s' ρ (σ ++ [(true, ds)]) (β ++ [p]) ∧ SOk B π env s s' σ (σ ++ [(true, ds)]) β (β ++ [p]) := by
  have hgr : ∀ b, b ∈ growS (σ ++ [(true, ds)]) (β ++ [p]) → b ∈ growS σ β ∨ b = p := fun b hb => by
    obtain ⟨k, l, h1, h2⟩ := mem_growS.mp hb
    by_cases hlt : k < σ.length
    · rw [List.getElem?_append_left hlt] at h1
      rw [List.getElem?_append_left (by rw [a.S.len]; exact hlt)] at h2
      exact .inl (mem_growS.mpr ⟨k, l, h1, h2⟩)
    · rw [List.getElem?_append_right (by rw [a.S.len]; omega)] at h2
      cases hq : k - β.length with
      | zero => rw [hq] at h2; simp at h2; exact .inr h2.symm
      | succ n => rw [hq] at h2; simp at h2
  have hpβ : p ∉ β := fun q => by have := At.sto_alive a.S q; rw [hp] at this; cases this
  have sk : SeqKeep (grow π σ β) (grow π (σ ++ [(true, ds)]) (β ++ [p])) s.heap s'.heap := fun b o xs n ho hd hb => ⟨fun q => by
    rcases mem_grow.mp q with q | q
    · exact hb (mem_grow.mpr (.inl q))
    · rcases hgr b q with q | rfl
      · exact hb (mem_grow.mpr (.inr q))
      · exact absurd (hp.symm.trans ho) (by simp), hk b o ho⟩
  have rv : ∀ {v : Val} {v' : Value}, RelV s.heap π β σ v v' → RelV s'.heap π (β ++ [p]) (σ ++ [(true, ds)]) v v' := fun {v} {v'} r => by
    cases v with
    | dat d => exact Rep.mono sk r
    | ref k => obtain ⟨b, h1, h2⟩ := r; exact ⟨b, by rw [List.getElem?_append_left (List.getElem?_eq_some_iff.mp h1).1]; exact h1, h2⟩
    | exc c => exact r
  -- the new list's items, seen at the greater store
  have hr' : Reps s'.heap (grow π (σ ++ [(true, ds)]) (β ++ [p])) ds vs.toList := Reps.mono sk hr
  have S' : Sim B π s'.heap (σ ++ [(true, ds)]) (β ++ [p]) := by
    refine ⟨by simp [a.S.len], ?_, fun b o e => hk b o (a.S.base b o e), fun b hb => ?_, fun k e b h1 h2 => ?_, fun b hb => ⟨?_, fun q => ?_⟩⟩
    · rw [List.nodup_append]
      exact ⟨a.S.nodup, by simp, fun x hx y hy => by simp at hy; subst hy; rintro rfl; exact hpβ hx⟩
    · rcases List.mem_append.mp hb with hb | hb
      · exact a.S.new b hb
      · simp at hb; subst hb; exact hB
    · by_cases hlt : k < σ.length
      · rw [List.getElem?_append_left hlt] at h1
        rw [List.getElem?_append_left (by rw [a.S.len]; exact hlt)] at h2
        obtain ⟨vs', hq, hr2⟩ := a.S.ent k e b h1 h2
        exact ⟨vs', hq.at fun o z => hk _ o z, Reps.mono sk hr2⟩
      · rw [List.getElem?_append_right (by rw [a.S.len]; omega)] at h2
        rw [List.getElem?_append_right (by omega)] at h1
        rw [← a.S.len] at h1
        cases hq : k - β.length with
        | zero => rw [hq] at h2 h1; simp at h2 h1; subst h2; subst h1; exact ⟨vs, hl, hr'⟩
        | succ n => rw [hq] at h2; simp at h2
    · obtain ⟨o, ho⟩ := Option.isSome_iff_exists.mp (a.S.priv b hb).1; rw [hk b o ho]; rfl
    · rcases List.mem_append.mp q with q | q
      · exact (a.S.priv b hb).2 q
      · simp at q; subst q; have := (a.S.priv b hb).1; rw [hp] at this; cases this
  refine ⟨⟨a.fn, a.con, a.V, ⟨?_, fun i y h1 h2 => ?_, ⟨fun q => ?_, a.F.off.2⟩, a.F.offc⟩, S'⟩, ⟨hsh, S', fun b o e _ _ => .of (hk b o e), fun b hb => (hgr b hb).imp id (fun q => by rw [q]; exact hp), ⟨[p], rfl, fun b hb => by simp at hb; subst hb; exact hp⟩, fun b hb => ?_⟩⟩
  · obtain ⟨m, hn, hv⟩ := a.F.loc
    exact ⟨m, hn.keeps hk, fun i y v h1 h2 h3 => by obtain ⟨v', e, r⟩ := hv i y v h1 h2 h3; exact ⟨v', e, rv r⟩⟩
  · obtain ⟨c, o, hc, hi, hv⟩ := a.F.cell i y h1 h2
    exact ⟨c, o, hc, hi.keeps hk, fun v h3 => by obtain ⟨v', e, r⟩ := hv v h3; exact ⟨v', e, rv r⟩⟩
  · rcases List.mem_append.mp q with q | q
    · exact a.F.off.1 q
    · simp at q
      obtain ⟨m, hn⟩ := a.ns
      obtain ⟨_, _, _, ho, _⟩ := hn
      rw [q, hp] at ho; cases ho
  · obtain ⟨o, ho⟩ := Option.isSome_iff_exists.mp hb; rw [hk b o ho]; rfl

/-- a list grows by one -/
theorem At.appends {p : Addr} {k : Nat} {l : List Dat} {d : Dat} {y : Value} {vs : Array Value} (a : At fnm con B π cx env s ρ σ β) (hsh : ∃ h' tk, s' = { s with heap := h', toks := tk }) (hk : ∀ b o, b ≠ p → s.heap.get? b = some o → s'.heap.get? b = some o)
    (h1 : σ[k]? = some (true, l)) (h2 : β[k]? = some p) (hl : s'.heap.PlainList p (vs.push y)) (hr : Reps s.heap (grow π σ β) l vs.toList) (hd : Rep s.heap (grow π σ β) d y) :
    At fnm con B π cx env s' ρ (σ.set k (true, l ++ [d])) β ∧ SOk B π env s s' σ (σ.set k (true, l ++ [d])) β β := by
  have hgr : ∀ b, b ∈ growS (σ.set k (true, l ++ [d])) β ↔ b ∈ growS σ β := fun b => by
    rw [mem_growS, mem_growS]
    constructor
    · rintro ⟨j, l', q1, q2⟩
      by_cases hj : k = j
      · subst hj; exact ⟨k, l, h1, q2⟩
      · rw [List.getElem?_set_ne hj] at q1; exact ⟨j, l', q1, q2⟩
    · rintro ⟨j, l', q1, q2⟩
      by_cases hj : k = j
      · subst hj; exact ⟨k, l ++ [d], by rw [List.getElem?_set_self (List.getElem?_eq_some_iff.mp h1).1], q2⟩
      · exact ⟨j, l', by rw [List.getElem?_set_ne hj]; exact q1, q2⟩
  have hpg : p ∈ growS σ β := mem_growS.mpr ⟨k, l, h1, h2⟩
  have hpβ : p ∈ β := List.mem_of_getElem? h2
  have hsize := ltSim a.S hpβ
  have sk : SeqKeep (grow π σ β) (grow π (σ.set k (true, l ++ [d])) β) s.heap s'.heap := fun b o xs n ho hd hb => ⟨fun q => hb (mem_grow.mpr ((mem_grow.mp q).imp id (hgr b).mp)), hk b o (by rintro rfl; exact hb (mem_grow.mpr (.inr hpg))) ho⟩
  have rv : ∀ {v : Val} {v' : Value}, RelV s.heap π β σ v v' → RelV s'.heap π β (σ.set k (true, l ++ [d])) v v' := fun {v} {v'} r => r.seq sk
  have pb : B.get? p = none := by
    cases q : B.get? p with
    | none => rfl
    | some o => exact absurd (Heap.lt_size q) (Nat.not_lt.mpr (a.S.new p hpβ))
  have pal : (s'.heap.get? p).isSome = true := by obtain ⟨n, ho⟩ := hl; rw [ho]; rfl
  have al : ∀ b, (s.heap.get? b).isSome = true → (s'.heap.get? b).isSome = true := fun b hb => by
    by_cases q : b = p
    · subst q; exact pal
    · obtain ⟨o, ho⟩ := Option.isSome_iff_exists.mp hb; rw [hk b o q ho]; rfl
  have S' : Sim B π s'.heap (σ.set k (true, l ++ [d])) β := by
    refine ⟨by simp [a.S.len], a.S.nodup, fun b o e => hk b o (by rintro rfl; rw [pb] at e; cases e) (a.S.base b o e), a.S.new, fun j e b q1 q2 => ?_, fun b hb => ⟨al b (a.S.priv b hb).1, (a.S.priv b hb).2⟩⟩
    by_cases hj : k = j
    · subst hj
      rw [List.getElem?_set_self (List.getElem?_eq_some_iff.mp h1).1] at q1
      cases q1
      rw [h2] at q2; cases q2
      refine ⟨vs.push y, hl, ?_⟩
      rw [Array.toList_push]
      exact (Reps.mono sk hr).snoc (Rep.mono sk hd)
    · rw [List.getElem?_set_ne hj] at q1
      obtain ⟨vs', hq, hr2⟩ := a.S.ent j e b q1 q2
      have hne : b ≠ p := by
        rintro rfl
        have hj1 := (List.getElem?_eq_some_iff.mp h2).1
        exact hj ((List.getElem?_inj hj1 a.S.nodup).mp (h2.trans q2.symm))
      exact ⟨vs', hq.at fun o z => hk _ o hne z, Reps.mono sk hr2⟩
  refine ⟨⟨a.fn, a.con, a.V, ⟨?_, fun i y h1 h2 => ?_, a.F.off, a.F.offc⟩, S'⟩, ⟨hsh, S', fun b o e hb _ => .of (hk b o (by rintro rfl; exact hb hpg) e), fun b hb => .inl ((hgr b).mp hb), ⟨[], by simp, fun _ h => nomatch h⟩, al⟩⟩
  · obtain ⟨m, hn, hv⟩ := a.F.loc
    exact ⟨m, hn.at' fun o e => hk _ o (by rintro rfl; exact a.F.off.1 hpβ) e, fun i y v h1 h2 h3 => by obtain ⟨v', e, r⟩ := hv i y v h1 h2 h3; exact ⟨v', e, rv r⟩⟩
  · obtain ⟨c, o, hc, hi, hv⟩ := a.F.cell i y h1 h2
    refine ⟨c, o, hc, ?_, fun v h3 => by obtain ⟨v', e, r⟩ := hv v h3; exact ⟨v', e, rv r⟩⟩
    obtain ⟨ob, ho, hd⟩ := id hi
    exact ⟨ob, hk c ob (by rintro rfl; exact cell_not_grow a.S hi hpβ) ho, hd⟩
end
end Mine

/-! ## MPair -/
namespace Mine
open PySem PyProof.Rows

abbrev SndS (prog : Program) (w : World) (A : Around) (B : Heap) (fnm : Nat → Option Str) (con : Con) (sub : Nat → Nat → Bool) (C : Oracle) (st : IS) : Prop :=
  ∀ {cx : Cx} {x : Stmt} {env : Env} {s : Shared} {ρ : Loc} {σ : Sto} {π β : List Addr} {E : Value → Shared → Prop}, Named cx env → At fnm con B π cx env s ρ σ β → chkS cx st x = true → fineS (ex sub C st ρ σ) →
    wpAny (model prog w) A (exec x env) (SPost fnm con B π cx env s σ β (ex sub C st ρ σ)) E s
abbrev SndSs (prog : Program) (w : World) (A : Around) (B : Heap) (fnm : Nat → Option Str) (con : Con) (sub : Nat → Nat → Bool) (C : Oracle) (st : ISs) : Prop :=
  ∀ {cx : Cx} {xs : List Stmt} {env : Env} {s : Shared} {ρ : Loc} {σ : Sto} {π β : List Addr} {E : Value → Shared → Prop}, Named cx env → At fnm con B π cx env s ρ σ β → chkSs cx st xs = true → fineS (exs sub C st ρ σ) →
    wpAny (model prog w) A (execs xs env) (SPost fnm con B π cx env s σ β (exs sub C st ρ σ)) E s


/-- the body of a loop over pairs -/
noncomputable def pairF (sub : Nat → Nat → Bool) (C : Oracle) (x y : Nat) (body : ISs) (d : Dat) (ρ : Loc) (σ : Sto) : SOut := match pairD d with
  | some (a, b) => exs sub C body ((ρ.set x (some (.dat a))).set y (some (.dat b))) σ
  | Option.none => .bad

section
variable {fnm : Nat → Option Str} {con : Con} {B : Heap} {π π' : List Addr} {cx : Cx} {env : Env} {s s' : Shared} {ρ : Loc} {σ σ' : Sto} {β : List Addr} {ps : List Addr}
end

section
variable {prog : Program} {w : World} {A : Around} {B : Heap} {Δ : Nat → Option Fn} {fnm : Nat → Option Str} {con : Con} {mg mb : Str → Option Value} {sub : Nat → Nat → Bool} {C : Oracle}
variable (H : Hyp prog w A B Δ fnm con mg mb C)
include H
end
end Mine

/-! ## MExec -/
namespace Mine
open PySem PyProof.Rows

section
variable (sub : Nat → Nat → Bool) (C : Oracle) (ρ : Loc) (σ : Sto)
theorem exq_assign (i : Nat) (e : IE) : ex sub C (.assign i e) ρ σ = (ev sub C e ρ σ).stm ρ fun v σ => .next (ρ.set i (some v)) σ := rfl
theorem exq_newlst (i : Nat) (es : IEs) : ex sub C (.newlst i es) ρ σ = (evs sub C es ρ σ).stm ρ fun ds σ => .next (ρ.set i (some (.ref σ.length))) (σ ++ [(true, ds)]) := rfl
theorem exq_newcopy (i : Nat) (e : IE) : ex sub C (.newcopy i e) ρ σ = (ev sub C e ρ σ).stmK fun v σ => match (look σ v).bind seqD with
    | some (.lst l) => .next (ρ.set i (some (.ref σ.length))) (σ ++ [(true, l)])
    | _ => .bad := rfl
theorem exq_append (i : Nat) (e : IE) : ex sub C (.append i e) ρ σ = match ρ[i]? with
    | some (some (.ref k)) => (ev sub C e ρ σ).stmK fun v σ => match toDat v σ with
      | .val d σ => (match σ[k]? with
        | some (true, l) => if l.length < 1000000 then .next ρ (σ.set k (true, l ++ [d])) else .bad
        | _ => .bad)
      | _ => .bad
    | _ => .bad := rfl
theorem exq_drop (e : IE) : ex sub C (.drop e) ρ σ = (ev sub C e ρ σ).stm ρ fun v σ => match v with
    | .dat .none => .next ρ σ
    | _ => .bad := rfl
theorem exq_ret (e : IE) : ex sub C (.ret e) ρ σ = (ev sub C e ρ σ).stm ρ fun v σ => (toDat v σ).stm ρ fun d σ => .ret d σ := rfl
theorem exq_ite (c : IE) (a b : ISs) : ex sub C (.ite c a b) ρ σ = (evB sub C c ρ σ).stm ρ fun t σ => if t then exs sub C a ρ σ else exs sub C b ρ σ := rfl
theorem exq_for1 (x : Nat) (it : II) (body : ISs) : ex sub C (.for1 x it body) ρ σ = (evI sub C it ρ σ).stm ρ fun s σ => if s.items.length ≤ 1000000 then forL s (fun d ρ σ => exs sub C body (ρ.set x (some (.dat d))) σ) s.items ρ σ else .bad := rfl
theorem exq_for2 (x y : Nat) (it : II) (body : ISs) : ex sub C (.for2 x y it body) ρ σ = (evI sub C it ρ σ).stm ρ fun s σ => if s.items.length ≤ 1000000 then (forL s (pairF sub C x y body) s.items ρ σ).noX else .bad := rfl
theorem exq_while (c : IE) (body : ISs) : ex sub C (.while c body) ρ σ = whileL (fun ρ σ => evB sub C c ρ σ) (fun ρ σ => exs sub C body ρ σ) 1000 ρ σ := rfl
theorem exq_cons (s : IS) (ss : ISs) : exs sub C (.cons s ss) ρ σ = (ex sub C s ρ σ).bind fun ρ σ => exs sub C ss ρ σ := rfl
end
section
variable {prog : Program} {w : World} {A : Around} {B : Heap} {Δ : Nat → Option Fn} {fnm : Nat → Option Str} {con : Con} {mg mb : Str → Option Value} {sub : Nat → Nat → Bool} {C : Oracle}

theorem chk_sc (cx : Cx) (e : IE) (el : Expr) (gs : List Comprehension) (sc : Scope) (p : Pos) : chkE cx e (.SetComp el gs sc p) = false := by cases e <;> rfl
theorem chk_dc (cx : Cx) (e : IE) (k v : Expr) (gs : List Comprehension) (sc : Scope) (p : Pos) : chkE cx e (.DictComp k v gs sc p) = false := by cases e <;> rfl
theorem chk_lc (cx : Cx) (e : IE) (el : Expr) (gs : List Comprehension) (sc : Scope) (p : Pos) (h : ∀ k it ifs elt, e ≠ .comp k it ifs elt) : chkE cx e (.ListComp el gs sc p) = false := by
  cases e <;> first | rfl | exact absurd rfl (h _ _ _ _)
theorem swaps_of {cx : Cx} {e : IE} {v : Expr} {x : Str} {p : Pos} {line : Nat} {env : Env} (hc : chkE cx e v = true) :
    swapsWith v (some (.Name x p)) line env = pure false ∨ (swapsWith v (some (.Name x p)) line env = pure true ∧ ∃ k it ifs elt el y iter conds sc p1 p2, e = .comp k it ifs elt ∧ v = .ListComp el [⟨.Name y p1, iter, conds, 0⟩] sc p2) := by
  cases v with
  | ListComp el gs sc p2 =>
    have hsw : ∃ b, swapsWith (.ListComp el gs sc p2) (some (.Name x p)) line env = pure b := ⟨_, rfl⟩
    obtain ⟨b, hb⟩ := hsw
    cases b with
    | false => exact .inl hb
    | true =>
      refine .inr ⟨hb, ?_⟩
      by_cases hk : ∃ k it ifs elt, e = .comp k it ifs elt
      · obtain ⟨k, it, ifs, elt, rfl⟩ := hk
        cases hq : asComp (.ListComp el gs sc p2) with
        | none =>
          obtain ⟨c, hq', _⟩ := any_ex hc
          rw [hq] at hq'; cases hq'
        | some r =>
          obtain ⟨el', y, iter, conds, sc'⟩ := r
          obtain ⟨p1, p3, hq⟩ := asComp_eq hq
          exact ⟨k, it, ifs, elt, el', y, iter, conds, sc', p1, p3, rfl, hq⟩
      · rw [chk_lc cx e el gs sc p2 fun k it ifs elt h => hk ⟨k, it, ifs, elt, h⟩] at hc; cases hc
  | SetComp el gs sc p2 => rw [chk_sc] at hc; cases hc
  | DictComp k v gs sc p2 => rw [chk_dc] at hc; cases hc
  | _ => exact .inl rfl

variable (H : Hyp prog w A B Δ fnm con mg mb C)
include H

theorem st_assign (i : Nat) (e : IE) : SndS prog w A B fnm con sub C (.assign i e) := by
  intro cx st env s ρ σ π β E hN a hc hf
  replace hc := any_ex hc
  obtain ⟨⟨x, v⟩, hq, hc⟩ := hc
  · have hq := hq
    obtain ⟨p1, p2, rfl⟩ := asAssign_eq hq
    simp only [Bool.and_eq_true, beq_iff_eq] at hc
    rw [exq_assign] at hf ⊢
    obtain ⟨v₀, σ₁, h1, h2⟩ := stm_fine hf
    rw [h2]
    rcases swaps_of (x := x) (p := p1) (line := p2.line) (env := env) hc.2 with hs | ⟨hs, k, it, ifs, elt, el, y, iter, conds, sc, q1, q2, rfl, rfl⟩
    · rw [exec_Assign_Name _ _ _ _ _ hs]
      refine wpAny_bind (wpAny_standAt (wpAny_bind (wpAny_mono (ev_sound H e a hc.2 h1) (fun u s₁ r => wpAny_bind (wpAny_standAt (wpAny_bind (wpAny_bindName ?_)))) fun _ _ z => z)))
      have a1 := a.ok r.2
      exact store_sound a1.V a1.F a1.S hc.1.1 hc.1.2 r.1 fun s' F' x' _ => wpAny_pure ⟨rfl, β, ⟨a1.fn, a1.con, a1.V, F', x'.sim⟩, (a.soK r.2).trans x'⟩
    · rw [exec_Assign_Name_used _ _ _ _ hs]
      refine wpAny_bind (wpAny_standAt (wpAny_bind ?_))
      show wpAny _ A (do let _ ← comprehension (.ListComp el [⟨.Name y q1, iter, conds, 0⟩] sc q2) sc env _ (newList []) false (eval iter env) (some (assign (.Name x p1) env))) _ _ s
      have hcc : (plainI it && chkI cx it iter && chkScope y sc cx.scope && chkFrees cx sc && chkEs (cx.inner y k sc) ifs conds && chkE (cx.inner y k sc) elt el) = true := hc.2
      simp only [Bool.and_eq_true] at hcc
      refine wpAny_bind (wpAny_mono (comp_at (Q := fun _ s' => SPost fnm con B π cx env s σ β (.next (ρ.set i (some v₀)) σ₁) .next s') H (evI_sound H it) (evIfs_sound H ifs) (ev_sound H elt) a hcc.1.1.1.1.1 hcc.1.1.1.1.2 hcc.1.1.1.2 hcc.1.1.2 hcc.1.2 hcc.2 h1 fun D K s' m' r ok hn hK f => ?_) (fun _ s' hq => wpAny_pure (wpAny_pure hq)) fun _ _ z => z)
      show wpAny _ _ _ _ _ _
      have a1 := a.ok ok
      refine wpAny_assign_Name (store_sound a1.V a1.F a1.S hc.1.1 hc.1.2 r fun s₂ F₂ x₂ _ => ?_)
      have a2 : At fnm con B π cx env s₂ (ρ.set i (some v₀)) σ₁ β := ⟨a1.fn, a1.con, a1.V, F₂, x₂.sim⟩
      obtain ⟨o₀, es, ep, hK1, hK2, hK3⟩ := hn
      have hKown : K ∉ own env := fun q => by have := a.own_alive hN q; rw [hK] at this; cases this
      obtain ⟨⟨sl, hK4⟩, _⟩ := x₂.keep K o₀ hK1 (fun q => f.sto (growS_sub q)) hKown
      refine ⟨m', ⟨_, es, ep, hK4, hK2, hK3⟩, fun h' hs' => ?_⟩
      have f2 : Foreign B π β env s₂.heap K := ⟨.inr (fun o xs n' ho hd => by rw [hK4] at ho; cases ho; rw [hK2] at hd; cases hd), (fun o v ho hd => by rw [hK4] at ho; cases ho; rw [hK2] at hd; cases hd), f.loc, f.sto, f.base⟩
      have hkk : ∀ b o, b ≠ K → s₂.heap.get? b = some o → h'.get? b = some o := fun b o hb q => hs'.extBut b o hb q
      have hKπ : K ∉ π := fun q => by have := (a.S.priv K q).1; rw [hK] at this; cases this
      have a3 : At fnm con B π cx env { s₂ with heap := h' } (ρ.set i (some v₀)) σ₁ β := a2.poke' f2 hkk hKπ
      exact ⟨rfl, β, a3, ((a.soK ok).trans x₂).poke hK ⟨_, _, rfl⟩ a3.S hkk⟩

omit H in
/-- a fresh list is bound to a name -/
theorem bind_fresh {cx : Cx} {env : Env} {s s₁ : Shared} {ρ : Loc} {σ : Sto} {π β : List Addr} {E : Value → Shared → Prop} {i : Nat} {x : Str} {ds : List Dat} {vs : Array Value} {p : Addr} (a : At fnm con B π cx env s ρ σ β) (hx : cx.name i = some x) (hv : cx.isVar x = true)
    (hsh : ∃ h' tk, s₁ = { s with heap := h', toks := tk }) (hk : ∀ b o, s.heap.get? b = some o → s₁.heap.get? b = some o) (hp : s.heap.get? p = none) (hB : B.objs.size ≤ p) (hl : s₁.heap.PlainList p vs) (hr : Reps s.heap (grow π σ β) ds vs.toList) :
    wpAny (model prog w) A (storeName env x (.ref p)) (fun _ s' => SPost fnm con B π cx env s σ β (.next (ρ.set i (some (.ref σ.length))) (σ ++ [(true, ds)])) .next s') E s₁ := by
  obtain ⟨a1, x1⟩ := a.grows hsh hk hp hB hl hr
  refine store_sound (v := .ref σ.length) a1.V a1.F a1.S hx hv ⟨p, ?_, rfl⟩ fun s' F' x' _ => ⟨rfl, _, ⟨a1.fn, a1.con, a1.V, F', x'.sim⟩, x1.trans x'⟩
  rw [List.getElem?_append_right (by rw [a.S.len]; exact Nat.le_refl _), a.S.len]; simp

theorem st_newlst (i : Nat) (es : IEs) : SndS prog w A B fnm con sub C (.newlst i es) := by
  intro cx st env s ρ σ π β E hN a hc hf
  replace hc := any_ex hc
  obtain ⟨⟨x, v⟩, hq, hc⟩ := hc
  · have hq := hq
    obtain ⟨p1, p2, rfl⟩ := asAssign_eq hq
    simp only [Bool.and_eq_true, beq_iff_eq] at hc
    obtain ⟨⟨hx, hv⟩, hc⟩ := hc
    replace hc := any_ex hc
    obtain ⟨xs, hq2, hc⟩ := hc
    · have hq2 := hq2
      obtain ⟨p3, rfl⟩ := asList_eq hq2
      simp only [Bool.and_eq_true, decide_eq_true_eq] at hc
      rw [exq_newlst] at hf ⊢
      obtain ⟨ds, σ₁, h1, h2⟩ := stm_fine hf
      rw [h2]
      rw [exec_Assign_Name _ _ _ _ _ rfl]
      refine wpAny_bind (wpAny_standAt (wpAny_bind (List_ (wpAny_mono (evs_sound H es a hc.1 h1) (fun us s₁ r => ?_) fun _ _ z => z))))
      have a1 := a.ok r.2.1
      refine wpAny_newObj_type (wpAny_bind (wpAny_standAt (wpAny_bind (wpAny_bindName (wpAny_mono (bind_fresh (prog := prog) (w := w) (A := A) (vs := us.toArray) a1 hx hv ⟨_, _, rfl⟩ (fun b o q => Heap.get?_push_of_some _ q) (Heap.get?_none_of_le (Nat.le_refl _)) ?_ ⟨_, Heap.get?_push_size _ rfl⟩ (by simpa using r.1)) (fun _ s' q => wpAny_pure (SPost.after (a.soK r.2.1) q)) fun _ _ z => z))))) (by show us.toArray.size ≤ 2 ^ 24; simp; omega)
      exact a1.baseLe

theorem st_append (i : Nat) (e : IE) : SndS prog w A B fnm con sub C (.append i e) := by
  intro cx st env s ρ σ π β E hN a hc hf
  replace hc := any_ex hc
  obtain ⟨v, hq, hc⟩ := hc
  · have hq := hq
    obtain ⟨p1, rfl⟩ := asExpr_eq hq
    replace hc := any_ex hc
    obtain ⟨⟨o, n, y⟩, hq2, hc⟩ := hc
    · have hq2 := hq2
      obtain ⟨p2, p3, rfl, hline⟩ := asMeth_eq hq2
      simp only [Bool.and_eq_true, beq_iff_eq] at hc
      obtain ⟨⟨rfl, ho⟩, hy⟩ := hc
      replace ho := any_ex ho
      obtain ⟨x, hq3, ho⟩ := ho
      · have hq3 := hq3
        obtain ⟨p4, rfl⟩ := asName_eq hq3
        simp only [Bool.and_eq_true, beq_iff_eq, Bool.not_eq_true'] at ho
        rw [exq_append] at hf ⊢
        cases hρ : ρ[i]? with
        | none => rw [hρ] at hf; exact hf.elim
        | some ov =>
          cases ov with
          | none => rw [hρ] at hf; exact hf.elim
          | some v0 =>
            cases v0 with
            | dat d => rw [hρ] at hf; exact hf.elim
            | exc d => rw [hρ] at hf; exact hf.elim
            | ref k =>
              simp only [hρ] at hf ⊢
              obtain ⟨v1, σ₁, h1, h2⟩ := stmK_fine hf
              rw [h2] at hf ⊢
              cases htd : toDat v1 σ₁ with
              | exn c σ' => simp only [htd] at hf; exact hf.elim
              | bad => simp only [htd] at hf; exact hf.elim
              | val d σ₂ =>
                simp only [htd] at hf ⊢
                split at hf
                · rename_i l hσ
                  split at hf
                  · rename_i hlen
                    simp only [hσ, hlen, if_true]
                    have hk : env.scope.kind = .function := a.V.scope ▸ a.V.kind
                    have hint : interactive env = false := by unfold interactive; rw [hk]; rfl
                    refine wpAny_Expr_any ?_ hint rfl
                    have hst := trees_cons (env := env) (xs := []) (pos := p3) (not_starred hy)
                    refine wpAny_Call_append rfl (by rw [hst]; rfl) hline hst ?_
                    refine load_sound a.V a.F ho.1.1 ho.1.2 ho.2 hρ fun v' r => ?_
                    obtain ⟨D, hD, rfl⟩ := r
                    have hk' : k < σ.length := by rw [← a.S.len]; exact (List.getElem?_eq_some_iff.mp hD).1
                    obtain ⟨vs0, ⟨n0, hp0⟩, _⟩ := a.S.ent k σ[k] D (List.getElem?_eq_getElem hk') hD
                    refine ⟨D, vs0, rfl, ⟨_, n0, hp0, rfl, rfl, rfl⟩, wpAny_mono (ev_sound H e a hy h1) (fun u1 s₁ r1 => ?_) fun _ _ z => z⟩
                    have a1 := a.ok r1.2
                    obtain ⟨rd, ok2⟩ := toDat_sound (L := env.locals) a1.S r1.1 htd
                    have a2 := a1.ok ok2
                    obtain ⟨vs, hp, hr⟩ := a2.S.ent k (true, l) D hσ hD
                    have hsz := hr.size
                    refine wpAny_list_append_plain hp (fun h' hl' hs' => ?_) (by show _ ≤ 2 ^ 24; simp at hsz; omega)
                    obtain ⟨a3, x3⟩ := a2.appends (s' := { s₁ with heap := h' }) ⟨_, _, rfl⟩ (fun b o hb q => hs'.extBut b o hb q) hσ hD hl' hr rd
                    exact ⟨rfl, β, a3, ((a.soK r1.2).trans (a1.soK ok2)).trans x3⟩
                  · exact hf.elim
                · exact hf.elim

theorem st_drop (e : IE) : SndS prog w A B fnm con sub C (.drop e) := by
  intro cx st env s ρ σ π β E hN a hc hf
  replace hc := any_ex hc
  obtain ⟨v, hq, hc⟩ := hc
  · have hq := hq
    obtain ⟨p1, rfl⟩ := asExpr_eq hq
    replace hc := any_ex hc
    obtain ⟨q, hq2, hc⟩ := hc
    · have hq2 := hq2
      obtain ⟨x, xs⟩ := q
      obtain ⟨p2, p3, rfl⟩ := asCall_eq hq2
      rw [exq_drop] at hf ⊢
      obtain ⟨v1, σ₁, h1, h2⟩ := stm_fine hf
      rw [h2] at hf ⊢
      have hk : env.scope.kind = .function := a.V.scope ▸ a.V.kind
      have hint : interactive env = false := by unfold interactive; rw [hk]; rfl
      refine wpAny_Expr_any (wpAny_mono (ev_sound H e a hc h1) (fun u1 s₁ r1 => ?_) fun _ _ z => z) hint rfl
      cases v1 with
      | dat d =>
        cases d with
        | none => exact ⟨rfl, β, a.ok r1.2, a.soK r1.2⟩
        | _ => exact hf.elim
      | _ => exact hf.elim

theorem st_ret (e : IE) : SndS prog w A B fnm con sub C (.ret e) := by
  intro cx st env s ρ σ π β E hN a hc hf
  replace hc := any_ex hc
  obtain ⟨v, hq, hc⟩ := hc
  · have hq := hq
    obtain ⟨p1, rfl⟩ := asRet_eq hq
    rw [exq_ret] at hf ⊢
    obtain ⟨v1, σ₁, h1, h2⟩ := stm_fine hf
    rw [h2] at hf ⊢
    obtain ⟨d, σ₂, h3, h4⟩ := stm_fine hf
    rw [h4]
    refine wpAny_Return_some (wpAny_mono (ev_sound H e a hc h1) (fun u1 s₁ r1 => ?_) fun _ _ z => z)
    have a1 := a.ok r1.2
    obtain ⟨rd, ok2⟩ := toDat_sound (L := env.locals) a1.S r1.1 h3
    exact ⟨u1, β, rfl, rd, (a.soK r1.2).trans (a1.soK ok2)⟩

theorem st_ite (c : IE) (x y : ISs) (ihx : SndSs prog w A B fnm con sub C x) (ihy : SndSs prog w A B fnm con sub C y) : SndS prog w A B fnm con sub C (.ite c x y) := by
  intro cx st env s ρ σ π β E hN a hc hf
  replace hc := any_ex hc
  obtain ⟨⟨t, xs, ys⟩, hq, hc⟩ := hc
  · have hq := hq
    obtain ⟨p1, rfl⟩ := asIf_eq hq
    simp only [Bool.and_eq_true] at hc
    rw [exq_ite] at hf ⊢
    obtain ⟨b, σ₁, h1, h2⟩ := stm_fine hf
    rw [h2] at hf ⊢
    refine wpAny_If (wpAny_mono (evB_sound H c a hc.1.1 h1) (fun b' s₁ r => ?_) fun _ _ z => z)
    obtain ⟨rfl, ok⟩ := r
    cases b' with
    | true =>
      simp only [if_true] at hf ⊢
      exact wpAny_mono (ihx hN (a.ok ok) hc.1.2 hf) (fun f s' q => SPost.after (a.soK ok) q) fun _ _ z => z
    | false =>
      simp only [Bool.false_eq_true, if_false] at hf ⊢
      exact wpAny_mono (ihy hN (a.ok ok) hc.2 hf) (fun f s' q => SPost.after (a.soK ok) q) fun _ _ z => z

/-- a loop over an iterator that has just been made -/
theorem for_loop {cx : Cx} {env : Env} {s s₁ : Shared} {ρ : Loc} {σ σ₁ : Sto} {π β : List Addr} {E : Value → Shared → Prop} {i : Nat} {nm : Str} {p1 : Pos} {xs : List Stmt} {x : ISs} {src : Src} {K : Kd} {ob : Obj} (ihx : SndSs prog w A B fnm con sub C x) (hN : Named cx env) (a : At fnm con B π cx env s ρ σ β)
    (hx : cx.name i = some nm) (hv : cx.isVar nm = true) (hb : chkSs cx x xs = true) (ok1 : Ok B π env.locals β s s₁ σ σ₁) (hK : K.Is s₁.heap π β σ₁ src) (hst : K.St (s₁.heap.push ob) s₁.heap.objs.size 0)
    (hf : fineS (forL src (fun d ρ σ => exs sub C x (ρ.set i (some (.dat d))) σ) src.items ρ σ₁)) :
    codeAny (model prog w) A (.forLoop (.Name nm p1) (.ref s₁.heap.objs.size) xs [] env) (fun r s' => match r with
      | .ok f => SPost fnm con B π cx env s σ β (forL src (fun d ρ σ => exs sub C x (ρ.set i (some (.dat d))) σ) src.items ρ σ₁) f s'
      | .error e => cameBackBy (model prog w) A env E e s') { s₁ with heap := s₁.heap.push ob } := by
  have a1 := a.ok ok1
  have x1 := a.soK ok1
  generalize hf0 : (fun d ρ σ => exs sub C x (List.set ρ i (some (Val.dat d))) σ) = bodyF at hf ⊢
  generalize ho : forL src bodyF src.items ρ σ₁ = o at hf ⊢
  have hIdead : s₁.heap.get? s₁.heap.objs.size = none := Heap.get?_none_of_le (Nat.le_refl _)
  generalize hI : s₁.heap.objs.size = I at *
  have hIs : s.heap.get? I = none := dead_of x1.alive hIdead
  have hIown : I ∉ own env := fun q => by have := a.own_alive hN q; rw [hIs] at this; cases this
  have hIπ : I ∉ π := fun q => by have := (a.S.priv I q).1; rw [hIs] at this; cases this
  have hBI : B.get? I = none := by
    cases q : B.get? I with
    | none => rfl
    | some o => have := a.S.base I o q; rw [hIs] at this; cases this
  -- the iterator is none of the frame's
  have fI : ∀ {h : Heap} {j : Nat} {σ₂ : Sto} {β₂ : List Addr}, Sim B π h σ₂ β₂ → K.St h I j → Foreign B π β₂ env h I := fun {h} {j} {σ₂} {β₂} S hst => by
    obtain ⟨o₀, vs₀, hI0, hd₀⟩ := hst.fields
    refine ⟨.inr (fun o xs n' ho hd => by rw [hI0] at ho; cases ho; rw [hd₀] at hd; cases hd), (fun o v ho hd => by rw [hI0] at ho; cases ho; rw [hd₀] at hd; cases hd), fun q => hIown (by rw [q]; exact List.mem_cons_self), fun q => ?_, hBI⟩
    obtain ⟨k, hk, e⟩ := List.mem_iff_getElem.mp q
    obtain ⟨vs, ⟨n, hp⟩, _⟩ := S.ent k (σ₂[k]'(by rw [← S.len]; exact hk)) I (List.getElem?_eq_getElem _) (by rw [List.getElem?_eq_getElem hk, e])
    rw [hI0] at hp; cases hp; cases hd₀
  refine codeAny_forLoop (fun n s₂ => ∃ j ρ₂ σ₂ β₂, At fnm con B π cx env s₂ ρ₂ σ₂ β₂ ∧ SOk B π env s s₂ σ σ₂ β β₂ ∧ K.Is s₂.heap π β₂ σ₂ src ∧ K.St s₂.heap I j ∧ j ≤ src.items.length ∧ n = src.items.length + 1 - j ∧ forL src bodyF (src.items.drop j) ρ₂ σ₂ = o) (fun n s₂ hinv => ?_) (src.items.length + 1) ?_
  · obtain ⟨j, ρ₂, σ₂, β₂, a₂, x₂, hK₂, hst₂, hj, hn, h₂⟩ := hinv
    have f₂ := fI a₂.S hst₂
    by_cases hlt : j < src.items.length
    · have hd : src.items.drop j = src.items[j] :: src.items.drop (j + 1) := List.drop_eq_getElem_cons hlt
      rw [hd] at h₂
      simp only [forL] at h₂
      split at h₂
      · rename_i hstill
        rw [← h₂] at hf
        refine next_item a₂.S hstill hK₂ hst₂ (List.getElem?_eq_getElem hlt) fun v' h₃ tk₃ rv hst₃ hk₃ => ?_
        have a₃ : At fnm con B π cx env { s₂ with heap := h₃, toks := tk₃ } ρ₂ σ₂ β₂ := a₂.poke' f₂ hk₃ hIπ
        have x₃ := x₂.poke (s₂ := { s₂ with heap := h₃, toks := tk₃ }) hIs ⟨_, _, rfl⟩ a₃.S hk₃
        have sk₃ : SeqKeep (grow π σ₂ β₂) (grow π σ₂ β₂) s₂.heap h₃ := f₂.seqKeep hk₃
        refine wpAny_assign_Name (store_sound (v := .dat src.items[j]) a₃.V a₃.F a₃.S hx hv rv fun s₄ F₄ x₄ rel₄ => ?_)
        have a₄ : At fnm con B π cx env s₄ (ρ₂.set i (some (.dat src.items[j]))) σ₂ β₂ := ⟨a₃.fn, a₃.con, a₃.V, F₄, x₄.sim⟩
        have x₄' := x₃.trans x₄
        have keepI : ∀ {s₅ s₆ : Shared} {σ₅ σ₆ : Sto} {β₅ β₆ : List Addr} {q : Nat}, Sim B π s₅.heap σ₅ β₅ → SOk B π env s₅ s₆ σ₅ σ₆ β₅ β₆ → K.St s₅.heap I q → K.St s₆.heap I q := fun {s₅ s₆ σ₅ σ₆ β₅ β₆ q} S x hst => hst.kept fun o ho => x.keep I o ho (fun z => (fI S hst).sto (growS_sub z)) hIown
        have keepK : ∀ {s₅ s₆ : Shared} {ρ₅ : Loc} {σ₅ σ₆ : Sto} {β₅ β₆ : List Addr}, At fnm con B π cx env s₅ ρ₅ σ₅ β₅ → SOk B π env s₅ s₆ σ₅ σ₆ β₅ β₆ → K.Is s₅.heap π β₅ σ₅ src → K.Is s₆.heap π β₆ σ₆ src := fun {s₅ s₆ ρ₅ σ₅ σ₆ β₅ β₆} aa x hK => by
          have sk := x.seqK aa hN
          obtain ⟨β', rfl, _⟩ := x.ext
          exact hK.mono sk
        have hst₄ := keepI a₃.S x₄ hst₃
        have hK₄ := keepK a₃ x₄ (hK₂.mono' sk₃)
        rcases bind_fine hf with ⟨ρ₅, σ₅, h5, h6⟩ | ⟨d, σ₅, h5, h6⟩
        · rw [← hf0] at h5
          replace h5 : exs sub C x (ρ₂.set i (some (.dat src.items[j]))) σ₂ = _ := h5
          refine wpAny_mono (ihx hN a₄ hb (by rw [h5]; trivial)) (fun f s₅ q => ?_) fun _ _ z => z
          rw [h5] at q
          obtain ⟨rfl, β₅, a₅, x₅⟩ := q
          exact ⟨src.items.length + 1 - (j + 1), by omega, j + 1, ρ₅, σ₅, β₅, a₅, x₄'.trans x₅, keepK a₄ x₅ hK₄, keepI a₄.S x₅ hst₄, by omega, rfl, by rw [← h₂, h6]⟩
        · rw [← hf0] at h5
          replace h5 : exs sub C x (ρ₂.set i (some (.dat src.items[j]))) σ₂ = _ := h5
          refine wpAny_mono (ihx hN a₄ hb (by rw [h5]; trivial)) (fun f s₅ q => ?_) fun _ _ z => z
          rw [h5] at q
          obtain ⟨v, β₅, rfl, r5, x₅⟩ := q
          rw [h6] at h₂
          subst h₂
          exact ⟨v, β₅, rfl, r5, x₄'.trans x₅⟩
      · subst h₂; exact hf.elim
    · have hin : j = src.items.length := by omega
      rw [List.drop_of_length_le (by omega)] at h₂
      simp only [forL] at h₂
      split at h₂
      · rename_i hstill
        subst h₂
        refine next_done H.hh a₂.S hstill hK₂ hst₂ (by omega) (by omega) fun h₃ tk₃ hk₃ => ?_
        have a₃ : At fnm con B π cx env { s₂ with heap := h₃, toks := tk₃ } ρ₂ σ₂ β₂ := a₂.poke' f₂ hk₃ hIπ
        exact wpAny_execs_nil ⟨rfl, β₂, a₃, x₂.poke hIs ⟨_, _, rfl⟩ a₃.S hk₃⟩
      · subst h₂; exact hf.elim
  · have hkk : ∀ b o, s₁.heap.get? b = some o → (s₁.heap.push ob).get? b = some o := fun b o q => Heap.get?_push_of_some _ q
    have a2 : At fnm con B π cx env { s₁ with heap := s₁.heap.push ob } ρ σ₁ β := a1.keeps hkk
    refine ⟨0, ρ, σ₁, β, a2, x1.poke hIs ⟨_, _, rfl⟩ a2.S (fun b o _ q => hkk b o q), hK.mono' (fun b o xs n ho hd ha => ⟨ha, hkk b o ho⟩), hst, by omega, by omega, by simpa using ho⟩

theorem st_for1 (i : Nat) (it : II) (x : ISs) (ihx : SndSs prog w A B fnm con sub C x) : SndS prog w A B fnm con sub C (.for1 i it x) := by
  intro cx st env s ρ σ π β E hN a hc hf
  replace hc := any_ex hc
  obtain ⟨⟨nm, iter, xs⟩, hq, hc⟩ := hc
  · have hq := hq
    obtain ⟨p1, p2, rfl⟩ := asFor1_eq hq
    simp only [Bool.and_eq_true, beq_iff_eq] at hc
    obtain ⟨⟨⟨⟨hx, hv⟩, hpl⟩, hit⟩, hb⟩ := hc
    rw [exq_for1] at hf ⊢
    obtain ⟨src, σ₁, h1, h2⟩ := stm_fine hf
    rw [h2] at hf ⊢
    split at hf
    · rename_i hlen
      simp only [hlen, if_true] at hf ⊢
      refine wpAny_For ?_ (fun z => folded_none (notSetI hit))
      cases hp : plainI it with
      | true =>
        refine wpAny_mono (evI_sound H it a hp hit h1) (fun xv s₁ r1 => ?_) fun _ _ z => z
        exact iter_start (a.ok r1.2).S r1.1 fun K ob hK hst hfree => for_loop H ihx hN a hx hv hb r1.2 hK hst hf
      | false =>
        have hr : ∃ e, it = .rev e := by cases it <;> simp [plainI, isRev] at hpl hp; exact ⟨_, rfl⟩
        obtain ⟨e, rfl⟩ := hr
        exact nof hit
    · exact hf.elim

theorem sts_nil : SndSs prog w A B fnm con sub C .nil := by
  intro cx xs env s ρ σ π β E hN a hc hf
  cases xs with
  | nil => exact wpAny_execs_nil ⟨rfl, β, a, SOk.refl a.S⟩
  | cons x xs => simp [chkSs] at hc
theorem sts_cons (st : IS) (ss : ISs) (ih : SndS prog w A B fnm con sub C st) (ihs : SndSs prog w A B fnm con sub C ss) : SndSs prog w A B fnm con sub C (.cons st ss) := by
  intro cx xs env s ρ σ π β E hN a hc hf
  cases xs with
  | nil => simp [chkSs] at hc
  | cons x xs =>
    have hc := Bool.and_eq_true_iff.mp (show (_ && _) = true from hc)
    rw [exq_cons] at hf ⊢
    rcases bind_fine hf with ⟨ρ₁, σ₁, h1, h2⟩ | ⟨d, σ₁, h1, h2⟩
    · rw [h2] at hf ⊢
      refine wpAny_execs_cons (wpAny_mono (ih hN a hc.1 (by rw [h1]; trivial)) (fun f s₁ q => ?_) fun _ _ z => z)
      rw [h1] at q
      obtain ⟨rfl, β₁, a₁, x₁⟩ := q
      exact wpAny_mono (ihs hN a₁ hc.2 hf) (fun f s' q => SPost.after x₁ q) fun _ _ z => z
    · rw [h2]
      refine wpAny_execs_cons (wpAny_mono (ih hN a hc.1 (by rw [h1]; trivial)) (fun f s₁ q => ?_) fun _ _ z => z)
      rw [h1] at q
      obtain ⟨v, β₁, rfl, r, x₁⟩ := q
      exact ⟨v, β₁, rfl, r, x₁⟩
theorem st_none (st : IS) (h : ∀ cx x, chkS cx st x = false) : SndS prog w A B fnm con sub C st := by
  intro cx x env s ρ σ π β E hN a hc hf
  rw [h] at hc; cases hc
theorem st_any : SndS prog w A B fnm con sub C .any := by
  intro cx x env s ρ σ π β E hN a hc hf
  exact (show False from hf).elim
theorem st_raise (c : Nat) (m : List Nat) : SndS prog w A B fnm con sub C (.raise c m) := by
  intro cx x env s ρ σ π β E hN a hc hf
  exact (show False from hf).elim
end

section
variable {prog : Program} {w : World} {A : Around} {B : Heap} {Δ : Nat → Option Fn} {fnm : Nat → Option Str} {con : Con} {mg mb : Str → Option Value} {sub : Nat → Nat → Bool} {C : Oracle}
variable (H : Hyp prog w A B Δ fnm con mg mb C)
include H
mutual
theorem ex_sound : ∀ st : IS, SndS prog w A B fnm con sub C st
  | .assign i e => st_assign H i e
  | .newlst i es => st_newlst H i es
  | .newcopy i e => st_none H _ fun _ _ => rfl
  | .append i e => st_append H i e
  | .drop e => st_drop H e
  | .ret e => st_ret H e
  | .ite c x y => st_ite H c x y (exs_sound x) (exs_sound y)
  | .for1 i it x => st_for1 H i it x (exs_sound x)
  | .for2 i j it x => st_none H _ fun _ _ => rfl
  | .while c x => st_none H _ fun _ _ => rfl
  | .raise c m => st_raise H c m
  | .tryc f as hs => st_none H _ fun _ _ => rfl
  | .any => st_any H
theorem exs_sound : ∀ ss : ISs, SndSs prog w A B fnm con sub C ss
  | .nil => sts_nil H
  | .cons st ss => sts_cons H st ss (ex_sound st) (exs_sound ss)
end
end
end Mine

/-! ## MBind -/
namespace Mine
open PySem PyProof.Rows

theorem zip_lookup {α : Type} : ∀ {ns : List Str} {vs : List α} {n : Str}, ns.length = vs.length → n ∈ ns → ((ns.zip vs).lookup n).isSome = true
  | x :: ns, v :: vs, n, h, hm => by
    rw [List.zip_cons_cons, List.lookup_cons]
    cases hb : n == x with
    | true => rfl
    | false =>
      rcases List.mem_cons.mp hm with rfl | hm
      · simp at hb
      · exact zip_lookup (by simpa using h) hm
theorem zip_pick {α : Type} : ∀ {ns : List Str} {vs : List α}, ns.length = vs.length → ns.Nodup → (ns.filterMap fun n => ((ns.zip vs).lookup n).map fun v => (n, v)) = ns.zip vs := by
  intro ns vs h hd
  suffices k : ∀ (ms : List Str) (us : List α) (pre : List (Str × α)), ms.length = us.length → ms.Nodup → (∀ p ∈ pre, p.1 ∉ ms) → (ms.filterMap fun n => ((pre ++ ms.zip us).lookup n).map fun v => (n, v)) = ms.zip us by
    simpa using k ns vs [] h hd (by simp)
  intro ms
  induction ms with
  | nil => intro us pre _ _ _; simp
  | cons m ms ih =>
    intro us pre hl hd hp
    cases us with
    | nil => simp at hl
    | cons u us =>
      obtain ⟨hm, hd⟩ := List.nodup_cons.mp hd
      have hpre : pre.lookup m = none := by
        rw [List.lookup_eq_none_iff]
        intro p hp'
        have := hp p hp'
        simp only [List.mem_cons, not_or] at this
        simp only [bne_iff_ne, ne_eq]
        exact fun q => this.1 q.symm
      rw [List.filterMap_cons, List.lookup_append, hpre]
      simp only [List.zip_cons_cons, List.lookup_cons, beq_self_eq_true, Option.none_or, Option.map_some]
      congr 1
      have := ih us (pre ++ [(m, u)]) (by simpa using hl) hd (fun p hp' => by
        rcases List.mem_append.mp hp' with h | h
        · have := hp p h; simp only [List.mem_cons, not_or] at this; exact this.2
        · simp at h; subst h; exact hm)
      simpa using this

theorem bind_plain {name : Str} {params : Arguments} {body : List Stmt} {scope : Scope} {pm cd doc : Value} {vals : List Value}
    (h1 : params.posonlyargs = []) (h2 : params.vararg = none) (h3 : params.kwonlyargs = []) (h4 : params.kwarg = none) (hl : params.args.length = vals.length) (hd : (params.args.map (·.arg)).Nodup) :
    bindArgs (Calls.docDef name params body scope pm cd doc) ⟨vals, []⟩ = pure ((params.args.map (·.arg)).zip vals) := by
  have hmis : (params.args.map (·.arg)).filter (fun n => (((params.args.map (·.arg)).zip vals).lookup n).isNone) = [] := by
    rw [List.filter_eq_nil_iff]
    intro n hn
    have := zip_lookup (vs := vals) (by simpa using hl) hn
    intro q
    rw [Option.isNone_iff_eq_none] at q
    rw [q] at this; cases this
  have hpick := zip_pick (vs := vals) (by simpa using hl) hd
  have hseq : seqItems? Value.none = pure none := rfl
  unfold bindArgs
  simp only [Calls.docDef, h1, h2, h3, h4, List.map_nil, List.nil_append, List.append_nil, List.forIn_nil, hseq, pure_bind, Option.getD_none, List.length_nil, List.drop_nil, Nat.sub_zero, List.zip_nil_right]
  have e0 : (params.args.map (·.arg)).length = vals.length := by simpa using hl
  have e1 : ¬ (vals.length > (params.args.map (·.arg)).length) := by omega
  have e2 : (params.args.map (·.arg)).take (params.args.map (·.arg)).length = params.args.map (·.arg) := List.take_length
  simp only [Option.isNone_none, Bool.and_true, e2, hmis, hpick, List.isEmpty_nil, Bool.not_true, decide_eq_true_eq, if_neg e1, Bool.false_eq_true, if_false, pure_bind]
end Mine

/-! ## MFly -/
namespace Mine
open PySem PyProof.Rows

/-! ## an exception on its way -/

/-- made and not yet noted, noted in frames that it has left, noted in this frame -/
noncomputable def OnWay (G : Heap) (L : Addr) (cls : Value) (a : Addr) (h : Heap) : Prop :=
  (∃ oe vs a0, h.get? a = some oe ∧ oe.cls = cls ∧ oe.data = .fields vs ∧ vs[0]? = some a0 ∧ vs[1]? = some .none) ∨ (∃ a0, h.TracedW G a cls a0) ∨ ∃ a0, h.TracedAtW G a cls a0 (rawInt L)

/-- tables stand, but for slots -/
noncomputable def Tabs (ow : List Addr) (h₀ h : Heap) : Prop := ∀ b o es ep, h₀.get? b = some o → o.data = .dict es ep → b ∉ ow → ∃ sl, h.get? b = some { o with slots := sl }

structure Thr (G : Heap) (l : List Env) (L : Addr) (cls : Value) (ow : List Addr) (h₀ : Heap) (a : Addr) (h : Heap) : Prop where
  stay : G.StaysIn h
  new : G.get? a = none
  frs : h.FunFrames G l
  way : OnWay G L cls a h
  tab : Tabs ow h₀ h
/-- it has left a frame -/
structure Fly (G : Heap) (l : List Env) (cls : Value) (ow : List Addr) (h₀ : Heap) (a : Addr) (h : Heap) : Prop where
  stay : G.StaysIn h
  new : G.get? a = none
  frs : h.FunFrames G l
  way : ∃ a0, h.TracedW G a cls a0
  tab : Tabs ow h₀ h

theorem Fly.thr {G : Heap} {l : List Env} {L : Addr} {cls : Value} {ow : List Addr} {h₀ h : Heap} {a : Addr} (x : Fly G l cls ow h₀ a h) : Thr G l L cls ow h₀ a h := ⟨x.stay, x.new, x.frs, .inr (.inl x.way), x.tab⟩

theorem Tabs.up {ow : List Addr} {h₀ h h' : Heap} (x : Tabs ow h₀ h) (u : ∀ b o, h.get? b = some o → (∀ vs, o.data ≠ .fields vs) → ∃ sl, h'.get? b = some { o with slots := sl }) : Tabs ow h₀ h' := fun b o es ep e hd hb => by
  obtain ⟨sl, e1⟩ := x b o es ep e hd hb
  obtain ⟨sl', e2⟩ := u b _ e1 fun vs q => by rw [show o.data = _ from hd] at q; cases q
  exact ⟨sl', e2⟩
theorem Tabs.comp {ow ow' : List Addr} {h₀ h h' : Heap} (x : Tabs ow h₀ h) (y : Tabs ow' h h') (hs : ∀ b ∈ ow', b ∈ ow) : Tabs ow h₀ h' := fun b o es ep e hd hb => by
  obtain ⟨sl, e1⟩ := x b o es ep e hd hb
  obtain ⟨sl', e2⟩ := y b _ es ep e1 hd fun q => hb (hs b q)
  exact ⟨sl', e2⟩

section
variable {M : Model} {A : Around} {E : Value → Shared → Prop} {s : Shared} {G : Heap} {env : Env} {outer : List Env} {L a : Addr} {cls : Value} {ow : List Addr} {h₀ : Heap}

theorem note_thr {Q : Unit → Shared → Prop} (hfr : A.frames = some (env :: outer)) (hf : env.frame = some L) (t : Thr G (env :: outer) L cls ow h₀ a s.heap)
    (hQ : ∀ h', Thr G (env :: outer) L cls ow h₀ a h' → (∃ a0, h'.TracedAtW G a cls a0 (rawInt L)) → Q () { s with heap := h' }) : wpAny M A (noteFrame (.ref a) env) Q E s := by
  obtain ⟨k1, k2, k3, k4, k5⟩ := t
  rcases k4 with ⟨oe, vs, a0, he, hc, hd, h0, h1⟩ | ⟨a0, ht⟩ | ⟨a0, ht⟩
  · subst hc
    unfold noteFrame
    simp only [hf]
    refine wpAny_bind (wpAny_field he hd h1 ?_)
    rw [if_neg (by decide)]
    refine wpAny_entryW hfr k3 hf he k1 k2 hd (Array.getElem?_eq_some_iff.mp h1).1 h0 fun h' hN => ?_
    obtain ⟨x1, x2, x3, x4⟩ := hN
    exact hQ h' ⟨x1, k2, x2, .inr (.inr ⟨a0, x3⟩), k5.up x4⟩ ⟨a0, x3⟩
  · refine wpAny_noteFrame_onW hfr k3 hf ht k1 k2 fun h' hN => ?_
    obtain ⟨x1, x2, x3, x4⟩ := hN
    exact hQ h' ⟨x1, k2, x2, .inr (.inr ⟨a0, x3⟩), k5.up x4⟩ ⟨a0, x3⟩
  · exact wpAny_noteFrame_againW hf ht (hQ s.heap ⟨k1, k2, k3, .inr (.inr ⟨a0, ht⟩), k5⟩ ⟨a0, ht⟩)

theorem flight_none {l : List Env} {fl : Value} {Q : Unit → Shared → Prop} (t : Thr G l L cls ow h₀ a s.heap) (ht : ∃ a0, s.heap.TracedAtW G a cls a0 fl) (hQ : ∀ h', Fly G l cls ow h₀ a h' → Q () { s with heap := h' }) : wpAny M A (setFlight (.ref a) none) Q E s := by
  obtain ⟨a0, ht⟩ := ht
  exact wpAny_setFlight_noneW t.stay t.frs ht fun h' y1 y2 y3 y4 => hQ h' ⟨y1, t.new, y2, ⟨a0, y3⟩, t.tab.up fun b o hb hn => ⟨o.slots, y4 b o hb hn⟩⟩

theorem leave_thr {Q : Unit → Shared → Prop} (hfr : A.frames = some (env :: outer)) (hf : env.frame = some L) (t : Thr G (env :: outer) L cls ow h₀ a s.heap)
    (hQ : ∀ h', Fly G outer cls ow h₀ a h' → Q () { s with heap := h' }) : wpAny M A (leaving env (.ref a)) Q E s := by
  unfold leaving
  refine wpAny_bind (note_thr hfr hf t fun h' t' ht => ?_)
  exact flight_none (s := { s with heap := h' }) t' ht fun h'' y => hQ h'' ⟨y.stay, y.new, y.frs.2.2, y.way, y.tab⟩

theorem came_thr (hf : env.frame = some L) (t : Thr G (env :: outer) L cls ow h₀ a s.heap) (ht : ∃ a0, s.heap.TracedAtW G a cls a0 (rawInt L)) (hQ : ∀ h', Thr G (env :: outer) L cls ow h₀ a h' → E (.ref a) { s with heap := h' }) :
    cameBackBy M A env E (.ref a) s := by
  obtain ⟨a0, oe, vs, T, oT, ts, he, hcls, hd, h1, hnT, hTe, hT, hdT, h3⟩ := ht
  have hsz3 : 3 < ts.size := (Array.getElem?_eq_some_iff.mp h3).1
  have other : ∀ b, b ≠ T → (s.heap.update T (Obj.mapFields (·.setIfInBounds 3 ((some L : Option Addr).elim Value.none fun f => rawInt f)))).get? b = s.heap.get? b := fun b hb => Heap.get?_update_other _ _ (Ne.symm hb)
  have noRecord : ∀ b o, s.heap.get? b = some o → (∀ vs, o.data ≠ .fields vs) → b ≠ T := fun b o hb hnf q => by
    rw [q, hT] at hb; injection hb with hb; subst hb; exact hnf ts hdT
  unfold cameBackBy
  refine wpAny_bind (wpAny_field he hd h1 ?_)
  rw [if_neg (show ¬ ((Value.ref T == Value.none) = true) from by simp)]
  unfold setFlight
  rw [hf]
  refine wpAny_bind (wpAny_field he hd h1 ?_)
  rw [if_pos (show (Value.ref T != Value.none) = true from by simp)]
  refine wpAny_setField hT hdT hsz3 (hQ _ ⟨fun b o hbo => (other b fun q => by rw [q, hnT] at hbo; cases hbo).trans (t.stay b o hbo), t.new, t.frs.of_keeps fun b o hb hnf => ⟨o, (other b (noRecord b o hb hnf)).trans hb, rfl⟩, .inr (.inr ⟨a0, ?_⟩), t.tab.up fun b o hb hnf => ⟨o.slots, (other b (noRecord b o hb hnf)).trans hb⟩⟩)
  exact ⟨oe, vs, T, _, _, (other a (Ne.symm hTe)).trans he, hcls, hd, h1, hnT, hTe, Heap.get?_update_self _ hT (Obj.isFreed_of_fields (Obj.data_mapFields hdT _)), Obj.data_mapFields hdT _, by simp [hsz3]⟩

/-- out of a loop's body -/
theorem loop_thr (hfr : A.frames = some (env :: outer)) (hf : env.frame = some L) (t : Thr G (env :: outer) L cls ow h₀ a s.heap) (hQ : ∀ h', Thr G (env :: outer) L cls ow h₀ a h' → E (.ref a) { s with heap := h' }) :
    notedBy M A env (fun e s' => cameBackBy M A env E e s') (.ref a) s :=
  note_thr hfr hf t fun h' t' ht => came_thr (s := { s with heap := h' }) hf t' ht hQ
end

/-! ## what is asked of the frames, while an exception may come -/

/-- a frame that is being run -/
noncomputable def Lives (G h : Heap) (env : Env) : Prop := env.scope.kind ≠ .module ∧ ∃ L m, env.frame = some L ∧ G.get? L = none ∧ h.Ns L m

theorem lives_fun {G h : Heap} : ∀ {l : List Env}, (∀ e ∈ l, Lives G h e) → h.FunFrames G l
  | [], _ => trivial
  | e :: l, H => by
    obtain ⟨hk, L, m, hf, hn, hm⟩ := H e (.head _)
    exact Heap.FunFrames.cons hk hf hm hn (lives_fun fun e he => H e (.tail _ he))

/-- G: what stands whatever comes -/
structure GC (B G : Heap) (l : List Env) (σ : Sto) (β : List Addr) (h : Heap) : Prop where
  stay : G.StaysIn h
  gro : ∀ b ∈ growS σ β, G.get? b = none
  dic : ∀ b o es ep, G.get? b = some o → o.data = .dict es ep → B.get? b = some o
  out : ∀ e ∈ l, Lives G h e
structure GS (B G : Heap) (env : Env) (outer : List Env) (σ : Sto) (β : List Addr) (h : Heap) : Prop extends GC B G (env :: outer) σ β h where
  own : ∀ b ∈ own env, G.get? b = none
  fr : env.frame = some env.locals
  off : ∀ e ∈ outer, ∀ L, e.frame = some L → L ∉ Mine.own env

section
variable {B G : Heap} {env : Env} {outer : List Env} {s s' : Shared} {σ σ' : Sto} {π β β' : List Addr} {cx : Cx} {ρ : Loc} {fnm : Nat → Option Str} {con : Con}

theorem dict_not_grow {h : Heap} (S : Sim B π h σ β) {c : Addr} {o : Obj} {es : Array DictEntry} {ep : Nat} (ho : h.get? c = some o) (hd : o.data = .dict es ep) : c ∉ β := by
  intro q
  obtain ⟨k, hk, e⟩ := List.mem_iff_getElem.mp q
  have hk' : k < σ.length := by rw [← S.len]; exact hk
  obtain ⟨vs, ⟨n, hp⟩, _⟩ := S.ent k σ[k] c (List.getElem?_eq_getElem hk') (by rw [List.getElem?_eq_getElem hk, e])
  rw [hp] at ho; cases ho
  cases hd
theorem SOk.tabs (x : SOk B π env s s' σ σ' β β') (S : Sim B π s.heap σ β) : Tabs (own env) s.heap s'.heap := fun b o es ep e hd hb =>
  (x.keep b o e (fun q => dict_not_grow S e hd (growS_sub q)) hb).1

theorem GS.step (g : GS B G env outer σ β s.heap) (S : Sim B π s.heap σ β) (x : SOk B π env s s' σ σ' β β') (hn : ∃ m, s'.heap.Ns env.locals m) : GS B G env outer σ' β' s'.heap where
  stay := fun b o e => by
    have h1 := g.stay b o e
    have hg : b ∉ growS σ β := fun q => by rw [g.gro b q] at e; cases e
    have ho : b ∉ Mine.own env := fun q => by rw [g.own b q] at e; cases e
    have k := x.keep b o h1 hg ho
    by_cases hd : ∃ es ep, o.data = .dict es ep
    · obtain ⟨es, ep, hd⟩ := hd
      exact x.sim.base b o (g.dic b o es ep e hd)
    · exact k.2 fun es ep q => hd ⟨es, ep, q⟩
  gro := fun b hb => by
    rcases x.mon b hb with q | q
    · exact g.gro b q
    · cases e : G.get? b with
      | none => rfl
      | some o => have := g.stay b o e; rw [q] at this; cases this
  dic := g.dic
  out := fun e he => by
    rcases List.mem_cons.mp he with rfl | he'
    · obtain ⟨hk, L, m, hf, hG, hm⟩ := g.out e he
      obtain ⟨m', hn⟩ := hn
      rw [g.fr] at hf; cases hf
      exact ⟨hk, _, m', g.fr, hG, hn⟩
    · obtain ⟨hk, L, m, hf, hG, hm⟩ := g.out e he
      exact ⟨hk, L, m, hf, hG, Kept.ns hm fun o ho => x.keep L o ho (fun q => ns_not_grow S hm (growS_sub q)) (g.off e he' L hf)⟩
  own := g.own
  fr := g.fr
  off := g.off

/-- what is asked of the way out -/
noncomputable def ThrE (G : Heap) (env : Env) (outer : List Env) (cls : Value) (E : Value → Shared → Prop) (s : Shared) : Prop := ∀ a h tk, Thr G (env :: outer) env.locals cls (own env) s.heap a h → E (.ref a) { s with heap := h, toks := tk }

theorem ThrE.step {cls : Value} {E : Value → Shared → Prop} (t : ThrE G env outer cls E s) (S : Sim B π s.heap σ β) (x : SOk B π env s s' σ σ' β β') : ThrE G env outer cls E s' := fun a h tk y => by
  obtain ⟨h1, t1, rfl⟩ := id x.sh
  exact t a h tk ⟨y.stay, y.new, y.frs, y.way, (x.tabs S).comp y.tab fun _ q => q⟩
end
end Mine

/-! ## MCls -/
namespace Mine
open PySem PyProof.Rows

/-! ## the program's own exception classes -/
noncomputable def VB : List Value := [.type "ValueError", .type "Exception", .type "BaseException", .type "object"]
noncomputable def askNames : List Str := "__class__" :: quietNames

inductive Tail (h : Heap) : List Value → Prop
  | base : Tail h VB
  | own {A : Addr} {c0 : Value} {dd : Option Addr} {cd : ClassData} {sl : Array (Option Value)} {mA : Str → Option Value} {tl : List Value} :
      h.get? A = some { cls := c0, dict := dd, data := .cls cd, slots := sl } → h.Ns cd.ns mA → (∀ n ∈ askNames, mA n = none) → Tail h tl → Tail h (.ref A :: tl)
theorem Tail.q {h : Heap} {tl : List Value} (T : Tail h tl) : OwnTailQ h VB tl := by
  induction T with
  | base => exact .base
  | own hA hN hq _ ih => exact .own hA hN (fun n hn => hq n (.tail _ hn)) ih
theorem Tail.keeps {h h' : Heap} {tl : List Value} (T : Tail h tl) (hk : ∀ b o, h.get? b = some o → h'.get? b = some o) : Tail h' tl := by
  induction T with
  | base => exact .base
  | own hA hN hq _ ih => exact .own (hk _ _ hA) (hN.keeps hk) hq ih

/-- a class of the program's own -/
noncomputable def OwnC (C : Addr) (bm : List Value) (h : Heap) : Prop :=
  Tail h bm ∧ ∃ N nm q bs hdct sn sub ab col dd k0 k1 k2 k3 k5 mN, h.get? C = some (excClassObj nm q C N bs bm hdct sn sub ab col dd k0 k1 k2 k3 k5 "ValueError.__new__") ∧ h.Ns N mN ∧ ∀ n ∈ askNames, mN n = none
theorem OwnC.keeps {C : Addr} {bm : List Value} {h h' : Heap} (O : OwnC C bm h) (hk : ∀ b o, h.get? b = some o → h'.get? b = some o) : OwnC C bm h' := by
  obtain ⟨T, N, nm, q, bs, hdct, sn, sub, ab, col, dd, k0, k1, k2, k3, k5, mN, hC, hN, hq⟩ := O
  exact ⟨T.keeps hk, N, nm, q, bs, hdct, sn, sub, ab, col, dd, k0, k1, k2, k3, k5, mN, hk _ _ hC, hN.keeps hk, hq⟩

theorem own_has {C : Addr} {bm : List Value} {h : Heap} {T : String} (O : OwnC C bm h) (hT : VB.contains (.type T) = true) : (Value.ref C :: bm).contains (.type T) = true := by
  rw [List.contains_cons, O.1.q.tail.hasType hT]; rfl

section
variable {M : Model} {A : Around} {E : Value → Shared → Prop} {h : Heap} {g : Array GenState} {d : Drawn} {t : Nat} {os : OsState}

theorem along_class {tl : List Value} {y : Option Value} {Q : Option Value → Shared → Prop} (T : Tail h tl) (hrest : lookupAlong VB "__class__" = pure y) (hq : Q y ⟨h, g, d, t, os⟩) : wpAny M A (lookupAlong tl "__class__") Q E ⟨h, g, d, t, os⟩ := by
  induction T with
  | base => rw [hrest]; exact wpAny_pure hq
  | own hA hN hni _ ih =>
    rw [lookupAlong_cons]
    refine wpAny_bind (wpAny_classOwn_cls hA hN ?_)
    rw [hni _ (.head _)]
    exact ih
theorem lk_V_class : typeLookup (.type "ValueError") "__class__" = pure (some (.builtin "object.__class__")) := by rw [typeLookup_type, builtinLookup_eq_fast]; kernel_rfl
theorem mro_V : mroOf (.type "ValueError") = pure VB := F.excBase_ValueError.mroIs
theorem along_V : lookupAlong VB "__class__" = pure (some (.builtin "object.__class__")) := by
  have := lk_V_class
  rw [typeLookup_eq, mro_V] at this
  exact this
theorem lookup_class {C : Addr} {bm : List Value} {Q : Option Value → Shared → Prop} (O : OwnC C bm h) (hq : Q (some (.builtin "object.__class__")) ⟨h, g, d, t, os⟩) : wpAny M A (typeLookup (.ref C) "__class__") Q E ⟨h, g, d, t, os⟩ := by
  obtain ⟨T, N, nm, q, bs, hdct, sn, sub, ab, col, dd, k0, k1, k2, k3, k5, mN, hC, hN, hmN⟩ := O
  rw [typeLookup_eq]
  refine wpAny_bind (wpAny_mroOf_exc hC ?_)
  rw [lookupAlong_cons]
  refine wpAny_bind (wpAny_classOwn_exc hC hN ?_)
  rw [hmN _ (.head _)]
  exact along_class T along_V hq
theorem sub_own {C : Addr} {bm : List Value} {v : Value} {Q : Bool → Shared → Prop} (O : OwnC C bm h) (hq : Q ((Value.ref C :: bm).contains v) ⟨h, g, d, t, os⟩) : wpAny M A (isSubtype (.ref C) v) Q E ⟨h, g, d, t, os⟩ := by
  obtain ⟨T, N, nm, q, bs, hdct, sn, sub, ab, col, dd, k0, k1, k2, k3, k5, mN, hC, hN, hmN⟩ := O
  exact wpAny_isSubtype_exc hC hq
end

section
variable {prog : Program} {w : World} {A : Around} {E : Value → Shared → Prop} {h : Heap} {g : Array GenState} {d : Drawn} {t : Nat} {os : OsState} {a C : Addr} {bm : List Value} {o : Obj}

theorem class_get_own {R : Result → Shared → Prop} (O : OwnC C bm h) (hx : h.get? a = some o) (hc : o.cls = .ref C) (hq : R (.ok (.ret (.ref C))) ⟨h, g, d, t, os⟩) :
    codeAny (model prog w) A (.call (.builtin "getset_descriptor.__get__") ⟨[.builtin "object.__class__", .ref a, .ref C], []⟩) R ⟨h, g, d, t, os⟩ := by
  have hT5 : (⟨h, g, d, t, os⟩ : Shared).TypeIs (.builtin "object.__class__") "getset_descriptor" := F.typeOf_object_class
  have hcB : (Value.ref C :: bm).contains (.type (".".intercalate ("object.__class__".cutAt '.').dropLast)) = true := by rw [F.owner_object_class]; exact own_has O (by decide +kernel)
  obtain ⟨T, N, nm, q, bs, hdct, sn, sub, ab, col, dd, k0, k1, k2, k3, k5, mN, hC, hN, hmN⟩ := O
  refine codeAny_call_builtin F.slot_gs_get.plain F.entry_gs_get (F.slot_gs_get.check _ _ _ _ _ _ _ _ hT5 (F.args_gs_get _ _ _) ?_)
  repeat (any_goals (first | assumption | (with_reducible refine wpAny_loadPart_at hx ?_; rw [hc]) | (with_reducible refine wpAny_isSubtype_exc hC ?_; rw [hcB]) | wp_step))
  refine ⟨Code.quiet_builtin _ (by decide +kernel), codeAny_builtin F.entry_object_class ?_⟩
  repeat (any_goals (first | assumption | (with_reducible refine wpAny_loadPart_at hx ?_; rw [hc]) | wp_step))

theorem class_entry_own {tk : Tok} {Q : Fin → Shared → Prop} (O : OwnC C bm h) (hx : h.get? a = some o) (hc : o.cls = .ref C) (hq : Q (.done (.ret (.ref C))) ⟨h, g, d, t, os⟩) :
    wpAny (model prog w) A (Builtin.«object.__getattribute__» ⟨[.ref a, .str "__class__" tk], []⟩) Q E ⟨h, g, d, t, os⟩ := by
  have hT5 : (⟨h, g, d, t, os⟩ : Shared).TypeIs (.builtin "object.__class__") "getset_descriptor" := F.typeOf_object_class
  have f5 := F.typeOf_object_class
  have f6 := F.slot_gs_get.lookup
  have f7 := F.slot_gs_set.lookup
  repeat (any_goals (first | assumption | (with_reducible refine wpAny_loadPart_at hx ?_; rw [hc]) | with_reducible refine lookup_class O ?_ | wp_step))
  refine class_get_own O hx hc ?_
  repeat (any_goals (first | assumption | wp_step))

theorem class_call_own {tk : Tok} {R : Result → Shared → Prop} (O : OwnC C bm h) (hx : h.get? a = some o) (hc : o.cls = .ref C) (hq : R (.ok (.ret (.ref C))) ⟨h, g, d, t, os⟩) :
    codeAny (model prog w) A (.call (.builtin "BaseException.__getattribute__") ⟨[.ref a, .str "__class__" tk], []⟩) R ⟨h, g, d, t, os⟩ := by
  obtain ⟨T, N, nm, q, bs, hdct, sn, sub, ab, col, dd, k0, k1, k2, k3, k5, mN, hC, hN, hmN⟩ := id O
  exact codeAny_call_builtin F.attrBase_ValueError.ga.plain F.entry_bexc_ga (wpAny_check_ga_own F.attrBase_ValueError hC T.q hx hc (class_entry_own O hx hc hq))

theorem class_by_own {tk : Tok} {fill expr : Bool} {Q : Value → Shared → Prop} (O : OwnC C bm h) (hx : h.get? a = some o) (hc : o.cls = .ref C) (hq : Q (.ref C) ⟨h, g, d, t, os⟩) :
    wpAny (model prog w) A (getAttrBy (.ref a) (.str "__class__" tk) fill expr) Q E ⟨h, g, d, t, os⟩ := by
  obtain ⟨T, N, nm, q, bs, hdct, sn, sub, ab, col, dd, k0, k1, k2, k3, k5, mN, hC, hN, hmN⟩ := id O
  have hmQ : ∀ n ∈ quietNames, mN n = none := fun n hn => hmN n (.tail _ hn)
  have f3 := F.attrBase_ValueError.ga.bind (.ref a)
  have hx0 : (expr && onTheHeap (Value.builtin "BaseException.__getattribute__")) = false := by cases expr <;> rfl
  have hx2 : (Value.builtin "BaseException.__getattribute__" == Value.builtin "object.__getattribute__") = false := by decide +kernel
  have hx1 : (onTheHeap (Value.ref C) && Value.builtin "BaseException.__getattribute__" == Value.builtin "object.__getattribute__") = false := by rw [hx2]; rfl
  have hm1 : ("__getattribute__" : Str) ∈ quietNames := .tail _ (.head _)
  have hm2 : ("__getattr__" : Str) ∈ quietNames := .tail _ (.tail _ (.head _))
  repeat (any_goals (first | assumption | (with_reducible refine wpAny_loadPart_at hx ?_; rw [hc]) | with_reducible refine wpAny_typeLookup_tailQ hm1 hC hN hmQ T.q F.attrBase_ValueError.mro F.attrBase_ValueError.ga.lookup ?_ | with_reducible refine wpAny_typeLookup_tailQ hm2 hC hN hmQ T.q F.attrBase_ValueError.mro F.attrBase_ValueError.noGetattr ?_ | wp_step))
  refine class_call_own O hx hc ?_
  repeat (any_goals (first | assumption | wp_step))

theorem class_attr_own {Q : Option Value → Shared → Prop} (O : OwnC C bm h) (hx : h.get? a = some o) (hc : o.cls = .ref C) (hq : Q (some (.ref C)) ⟨h, g, d, t + 1, os⟩) : wpAny (model prog w) A (getAttr? (.ref a) "__class__") Q E ⟨h, g, d, t, os⟩ := by
  unfold getAttr? getAttrBy?
  repeat (any_goals (first | assumption | with_reducible apply class_by_own O hx hc | wp_step))

/-- isinstance(e, a class of the program's own) -/
theorem nested_own {D : Addr} {bD : List Value} {dep : Int} {tk : Tok} {b : Bool} {Q : Fin → Shared → Prop} (O : OwnC C bm h) (OD : OwnC D bD h) (hx : h.get? a = some o) (hc : o.cls = .ref C) (hb : (Value.ref C :: bm).contains (.ref D) = b)
    (hq : ∀ t, Q (.done (.ret (.bool b))) ⟨h, g, d, t, os⟩) :
    wpAny (model prog w) A (Builtin.«isinstance.nested» ⟨[.ref a, .ref D, .int dep tk], []⟩) Q E ⟨h, g, d, t, os⟩ := by
  obtain ⟨T, N, nm, q, bs, hdct, sn, sub, ab, col, dd, k0, k1, k2, k3, k5, mN, hC, hN, hmN⟩ := id O
  obtain ⟨T', N', nm', q', bs', hdct', sn', sub', ab', col', dd', k0', k1', k2', k3', k5', mN', hD, hN', hmN'⟩ := id OD
  unfold Builtin.«isinstance.nested»
  by_cases hCD : C = D
  · subst hCD
    have : b = true := by rw [← hb]; simp
    subst this
    repeat (any_goals (first | exact hq _ | (with_reducible refine wpAny_loadPart_at hx ?_; rw [hc]) | wp_step))
  · have hne : (Value.ref C == Value.ref D) = false := by simp [hCD]
    cases b
    all_goals repeat (any_goals (first | exact hq _ | (with_reducible refine wpAny_loadPart_at hx ?_; rw [hc]) | with_reducible refine wpAny_loadPart_at hD ?_ | with_reducible refine wpAny_loadPart_at hC ?_ | (with_reducible refine wpAny_isSubtype_exc hC ?_; rw [hb]) | with_reducible apply class_attr_own O hx hc | wp_step))

theorem nested_V {dep : Int} {tk : Tok} {Q : Fin → Shared → Prop} (O : OwnC C bm h) (hx : h.get? a = some o) (hc : o.cls = .ref C) (hq : Q (.done (.ret (.bool true))) ⟨h, g, d, t, os⟩) :
    wpAny (model prog w) A (Builtin.«isinstance.nested» ⟨[.ref a, .type "ValueError", .int dep tk], []⟩) Q E ⟨h, g, d, t, os⟩ := by
  have hb : (Value.ref C :: bm).contains (.type "ValueError") = true := own_has O (by decide +kernel)
  obtain ⟨T, N, nm, q, bs, hdct, sn, sub, ab, col, dd, k0, k1, k2, k3, k5, mN, hC, hN, hmN⟩ := id O
  have hne : (Value.ref C == Value.type "ValueError") = false := by simp
  have hty : typeOf (.type "ValueError") = pure (.type "type") := by kernel_rfl
  unfold Builtin.«isinstance.nested»
  repeat (any_goals (first | exact hq | assumption | (with_reducible refine wpAny_loadPart_at hx ?_; rw [hc]) | with_reducible refine wpAny_loadPart_at hC ?_ | (with_reducible refine wpAny_isSubtype_exc hC ?_; rw [hb]) | wp_step))
end

section
variable {prog : Program} {w : World} {A : Around} {E : Value → Shared → Prop} {s : Shared} {a C D : Addr} {bm bD : List Value} {o : Obj} {b : Bool}
theorem isi_own {Q : Value → Shared → Prop} (O : OwnC C bm s.heap) (OD : OwnC D bD s.heap) (hx : s.heap.get? a = some o) (hc : o.cls = .ref C) (hb : (Value.ref C :: bm).contains (.ref D) = b) (hq : ∀ t, Q (.bool b) { s with toks := t }) :
    wpAny (model prog w) A (call (.builtin "isinstance") [.ref a, .ref D]) Q E s :=
  call_isinstance (S := fun _ R s => (OwnC C bm s.heap ∧ OwnC D bD s.heap ∧ s.heap.get? a = some o) ∧ ∀ t, R (.ok (.ret (.bool b))) { s with toks := t })
    (fun _ _ _ _ s hs => by obtain ⟨h, g, d, t, os⟩ := s; exact isinstance_outer (nested_own hs.1.1 hs.1.2.1 hs.1.2.2 hc hb hs.2) (by intro q; cases q)) ⟨⟨O, OD, hx⟩, hq⟩
theorem isi_V {Q : Value → Shared → Prop} (O : OwnC C bm s.heap) (hx : s.heap.get? a = some o) (hc : o.cls = .ref C) (hq : Q (.bool true) s) : wpAny (model prog w) A (call (.builtin "isinstance") [.ref a, .type "ValueError"]) Q E s :=
  call_isinstance (S := fun _ R s => (OwnC C bm s.heap ∧ s.heap.get? a = some o) ∧ R (.ok (.ret (.bool true))) s)
    (fun _ _ _ _ s hs => by obtain ⟨h, g, d, t, os⟩ := s; exact isinstance_outer (nested_V hs.1.1 hs.1.2 hc hs.2) (by intro q; cases q)) ⟨⟨O, hx⟩, hq⟩
theorem exm_own {Q : Bool → Shared → Prop} (O : OwnC C bm s.heap) (OD : OwnC D bD s.heap) (hx : s.heap.get? a = some o) (hc : o.cls = .ref C) (hb : (Value.ref C :: bm).contains (.ref D) = b) (hq : Q b s) :
    wpAny (model prog w) A (excMatches (.ref a) (.ref D)) Q E s := by
  have hcB := own_has (T := "BaseException") OD (by decide +kernel)
  obtain ⟨T, N, nm, q, bs, hdct, sn, sub, ab, col, dd, k0, k1, k2, k3, k5, mN, hC, hN, hmN⟩ := id O
  obtain ⟨T', N', nm', q', bs', hdct', sn', sub', ab', col', dd', k0', k1', k2', k3', k5', mN', hD, hN', hmN'⟩ := id OD
  obtain ⟨h, g, d, t, os⟩ := s
  have f := tc_notTuple
  unfold excMatches
  cases b
  all_goals repeat (any_goals (first | exact hq | (with_reducible refine wpAny_loadPart_at hx ?_; rw [hc]) | with_reducible refine wpAny_loadPart_at hD ?_ | (with_reducible refine wpAny_isSubtype_exc hC ?_; rw [hb]) | (with_reducible refine wpAny_isSubtype_exc hD ?_; rw [hcB]) | wp_step))
end
end Mine

/-! ## MExn -/
namespace Mine
open PySem PyProof.Rows

/-! ## where an exception comes from -/
theorem bind_no {α β : Type} {o : Out α} {f : α → Sto → Out β} {c : Nat} {σ : Sto} (hf : ∀ a σ₁, f a σ₁ ≠ .exn c σ) : o.bind f ≠ .exn c σ := by
  cases o with
  | val a σ₁ => exact hf a σ₁
  | exn => exact nofun
  | bad => exact nofun
theorem noX_no {α : Type} {o : Out α} {c : Nat} {σ : Sto} : o.noX ≠ .exn c σ := by cases o <;> exact nofun
theorem ofOpt_no {α : Type} {o : Option α} {σ₁ : Sto} {c : Nat} {σ : Sto} : ofOpt o σ₁ ≠ .exn c σ := by cases o <;> exact nofun
theorem d1_no {f : Dat → Option Dat} {v : Val} {σ₁ : Sto} {c : Nat} {σ : Sto} : d1 f v σ₁ ≠ .exn c σ := by unfold d1; split <;> exact nofun
theorem d2_no {f : Dat → Dat → Option Dat} {v w : Val} {σ₁ : Sto} {c : Nat} {σ : Sto} : d2 f v w σ₁ ≠ .exn c σ := by unfold d2; split <;> exact nofun
theorem toDat_no {v : Val} {σ₁ : Sto} {c : Nat} {σ : Sto} : toDat v σ₁ ≠ .exn c σ := by
  cases v with
  | dat => exact nofun
  | exc => exact nofun
  | ref k => simp only [toDat]; split <;> exact nofun
theorem isin_no {t : Ty} {v : Val} {sub : Nat → Nat → Bool} {σ₁ : Sto} {c : Nat} {σ : Sto} : isinstOf t v sub σ₁ ≠ .exn c σ := by
  unfold isinstOf
  split
  · split <;> exact nofun
  · exact ofOpt_no
theorem bindX_exn {α β : Type} {o : Out α} {f : α → Sto → Out β} {c : Nat} {σ : Sto} (h : o.bindX f = .exn c σ) : o = .exn c σ ∨ ∃ a σ₁, o = .val a σ₁ ∧ f a σ₁ = .exn c σ := by
  cases o with
  | val a σ₁ => exact .inr ⟨a, σ₁, rfl, h⟩
  | exn => cases h; exact .inl rfl
  | bad => cases h
theorem bind_exn {α β : Type} {o : Out α} {f : α → Sto → Out β} {c : Nat} {σ : Sto} (h : o.bind f = .exn c σ) : ∃ a σ₁, o = .val a σ₁ ∧ f a σ₁ = .exn c σ := by
  cases o with
  | val a σ₁ => exact ⟨a, σ₁, rfl, h⟩
  | exn => cases h
  | bad => cases h
theorem stm_exn {α : Type} {o : Out α} {ρ : Loc} {f : α → Sto → SOut} {c : Nat} {ρ' : Loc} {σ' : Sto} (h : o.stm ρ f = .exn c ρ' σ') : o = .exn c σ' ∨ ∃ a σ₁, o = .val a σ₁ ∧ f a σ₁ = .exn c ρ' σ' := by
  cases o with
  | val a σ₁ => exact .inr ⟨a, σ₁, rfl, h⟩
  | exn => cases h; exact .inl rfl
  | bad => cases h
theorem stmK_exn {α : Type} {o : Out α} {f : α → Sto → SOut} {c : Nat} {ρ' : Loc} {σ' : Sto} (h : o.stmK f = .exn c ρ' σ') : ∃ a σ₁, o = .val a σ₁ ∧ f a σ₁ = .exn c ρ' σ' := by
  cases o with
  | val a σ₁ => exact ⟨a, σ₁, rfl, h⟩
  | exn => cases h
  | bad => cases h
theorem sbind_exn {o : SOut} {f : Loc → Sto → SOut} {c : Nat} {ρ' : Loc} {σ' : Sto} (h : o.bind f = .exn c ρ' σ') : o = .exn c ρ' σ' ∨ ∃ ρ₁ σ₁, o = .next ρ₁ σ₁ ∧ f ρ₁ σ₁ = .exn c ρ' σ' := by
  cases o with
  | next ρ₁ σ₁ => exact .inr ⟨ρ₁, σ₁, rfl, h⟩
  | ret => cases h
  | exn => exact .inl h
  | bad => cases h

section
variable {sub : Nat → Nat → Bool} {C : Oracle} {c : Nat} {σ' : Sto}
theorem evAnd_no : ∀ {es : IEs} {ρ : Loc} {σ : Sto}, evAnd sub C es ρ σ ≠ .exn c σ'
  | .nil, _, _ => nofun
  | .cons e .nil, _, _ => noX_no
  | .cons e (.cons e' es), ρ, σ => bind_no fun v σ₁ => bind_no fun b σ₂ => by cases b; exact nofun; exact evAnd_no (es := .cons e' es)
theorem evOr_no : ∀ {es : IEs} {ρ : Loc} {σ : Sto}, evOr sub C es ρ σ ≠ .exn c σ'
  | .nil, _, _ => nofun
  | .cons e .nil, _, _ => noX_no
  | .cons e (.cons e' es), ρ, σ => bind_no fun v σ₁ => bind_no fun b σ₂ => by cases b; exact evOr_no (es := .cons e' es); exact nofun
theorem evAll_no : ∀ {es : IEs} {ρ : Loc} {σ : Sto}, evAll sub C es ρ σ ≠ .exn c σ'
  | .nil, _, _ => nofun
  | .cons e es, ρ, σ => bind_no fun b σ₁ => by cases b; exact nofun; exact evAll_no (es := es)
theorem evAny_no : ∀ {es : IEs} {ρ : Loc} {σ : Sto}, evAny sub C es ρ σ ≠ .exn c σ'
  | .nil, _, _ => nofun
  | .cons e es, ρ, σ => bind_no fun b σ₁ => by cases b; exact evAny_no (es := es); exact nofun
theorem evCmp_no : ∀ {cs : ICs} {v : Val} {ρ : Loc} {σ : Sto}, evCmp sub C v cs ρ σ ≠ .exn c σ'
  | .nil, _, _, _ => nofun
  | .cons op e cs, v, ρ, σ => bind_no fun w σ₁ => by
    show (match c2 op v w σ₁ with | some true => evCmp sub C w cs ρ σ₁ | some false => Out.val false σ₁ | Option.none => Out.bad) ≠ _
    split
    · exact evCmp_no
    · exact nofun
    · exact nofun
theorem evI_no : ∀ {it : II} {ρ : Loc} {σ : Sto}, evI sub C it ρ σ ≠ .exn c σ'
  | .of e, ρ, σ => bind_no fun v σ₁ => by cases v <;> first | exact ofOpt_no | exact nofun
  | .range1 e, ρ, σ => bind_no fun v σ₁ => by
    split
    · split <;> exact nofun
    · exact nofun
  | .range2 a b, ρ, σ => bind_no fun v σ₁ => bind_no fun w σ₂ => by
    split
    · split <;> exact nofun
    · exact nofun
  | .rev e, ρ, σ => bind_no fun v σ₁ => by
    split
    · split <;> exact nofun
    · exact nofun
  | .enum e, ρ, σ => bind_no fun v σ₁ => by split <;> exact nofun
  | .zip a b, ρ, σ => bind_no fun v σ₁ => bind_no fun d σ₂ => bind_no fun w σ₃ => bind_no fun e σ₄ => by split <;> exact nofun
end

/-! ## soundness, where an exception comes -/
/-- the classes stand -/
structure ClsOk (B : Heap) (mg : Str → Option Value) : Prop where
  cls : ∀ c x, cnm c = some x → ∃ C bm, mg x = some (.ref C) ∧ OwnC C bm B ∧ ∀ c' x' D, cnm c' = some x' → mg x' = some (.ref D) → (Value.ref C :: bm).contains (.ref D) = subC c c'
noncomputable def cad (mg : Str → Option Value) (c : Nat) : Addr := match (cnm c).bind mg with
  | some (.ref C) => C
  | _ => 0
theorem cad_of {mg : Str → Option Value} {c : Nat} {x : Str} {C : Addr} (h1 : cnm c = some x) (h2 : mg x = some (.ref C)) : cad mg c = C := by unfold cad; rw [h1, Option.bind_some, h2]

structure HypX (prog : Program) (w : World) (A : Around) (B : Heap) (Δ : Nat → Option Fn) (fnm : Nat → Option Str) (con : Con) (mg mb : Str → Option Value) (C : Oracle) : Prop where
  H : Hyp prog w A B Δ fnm con mg mb C
  K : ClsOk B mg
  hX : ∀ (f : Nat) (x : Str) (args : List Val) (vals : List Value) (σ σ' : Sto) (c : Nat) (π β : List Addr) (s : Shared) (E : Value → Shared → Prop) (a : Addr) (Q : Value → Shared → Prop) (G : Heap) (l : List Env), fnm f = some x → mg x = some (.ref a) → x ≠ ("law" : Str) → isSp f = false → C f args σ = .exn c σ' →
    RelVs s.heap π β σ args vals → Sim B π s.heap σ β → B.objs.size ≤ s.heap.objs.size → A.frames = some l → GC B G l σ β s.heap → (∀ a' h' tk, Fly G l (.ref (cad mg c)) [] s.heap a' h' → E (.ref a') { s with heap := h', toks := tk }) → wpAny (model prog w) A (call (.ref a) vals) Q E s

abbrev XndE (prog : Program) (w : World) (A : Around) (B : Heap) (fnm : Nat → Option Str) (con : Con) (mg : Str → Option Value) (sub : Nat → Nat → Bool) (C : Oracle) (ie : IE) : Prop :=
  ∀ {cx : Cx} {e : Expr} {env : Env} {s : Shared} {ρ : Loc} {σ σ' : Sto} {π β : List Addr} {c : Nat} {E : Value → Shared → Prop} {Q : Value → Shared → Prop} {G : Heap} {outer : List Env}, cx.top = false → At fnm con B π cx env s ρ σ β → chkE cx ie e = true → ev sub C ie ρ σ = .exn c σ' →
    A.frames = some (env :: outer) → GS B G env outer σ β s.heap → ThrE G env outer (.ref (cad mg c)) E s → wpAny (model prog w) A (eval e env) Q E s
abbrev XndB (prog : Program) (w : World) (A : Around) (B : Heap) (fnm : Nat → Option Str) (con : Con) (mg : Str → Option Value) (sub : Nat → Nat → Bool) (C : Oracle) (ie : IE) : Prop :=
  ∀ {cx : Cx} {e : Expr} {env : Env} {s : Shared} {ρ : Loc} {σ σ' : Sto} {π β : List Addr} {c : Nat} {E : Value → Shared → Prop} {Q : Bool → Shared → Prop} {G : Heap} {outer : List Env}, cx.top = false → At fnm con B π cx env s ρ σ β → chkE cx ie e = true → evB sub C ie ρ σ = .exn c σ' →
    A.frames = some (env :: outer) → GS B G env outer σ β s.heap → ThrE G env outer (.ref (cad mg c)) E s → wpAny (model prog w) A (isTrue e env (eval e env)) Q E s
abbrev XndS (prog : Program) (w : World) (A : Around) (B : Heap) (fnm : Nat → Option Str) (con : Con) (mg : Str → Option Value) (sub : Nat → Nat → Bool) (C : Oracle) (st : IS) : Prop :=
  ∀ {cx : Cx} {x : Stmt} {env : Env} {s : Shared} {ρ ρ' : Loc} {σ σ' : Sto} {π β : List Addr} {c : Nat} {E : Value → Shared → Prop} {Q : Flow → Shared → Prop} {G : Heap} {outer : List Env}, cx.top = false → Named cx env → At fnm con B π cx env s ρ σ β → chkS cx st x = true → ex sub C st ρ σ = .exn c ρ' σ' →
    A.frames = some (env :: outer) → GS B G env outer σ β s.heap → ThrE G env outer (.ref (cad mg c)) E s → wpAny (model prog w) A (exec x env) Q E s
abbrev XndSs (prog : Program) (w : World) (A : Around) (B : Heap) (fnm : Nat → Option Str) (con : Con) (mg : Str → Option Value) (sub : Nat → Nat → Bool) (C : Oracle) (ss : ISs) : Prop :=
  ∀ {cx : Cx} {xs : List Stmt} {env : Env} {s : Shared} {ρ ρ' : Loc} {σ σ' : Sto} {π β : List Addr} {c : Nat} {E : Value → Shared → Prop} {Q : Flow → Shared → Prop} {G : Heap} {outer : List Env}, cx.top = false → Named cx env → At fnm con B π cx env s ρ σ β → chkSs cx ss xs = true → exs sub C ss ρ σ = .exn c ρ' σ' →
    A.frames = some (env :: outer) → GS B G env outer σ β s.heap → ThrE G env outer (.ref (cad mg c)) E s → wpAny (model prog w) A (execs xs env) Q E s

section
variable {prog : Program} {w : World} {A : Around} {B : Heap} {Δ : Nat → Option Fn} {fnm : Nat → Option Str} {con : Con} {mg mb : Str → Option Value} {sub : Nat → Nat → Bool} {C : Oracle}
variable (X : HypX prog w A B Δ fnm con mg mb C)
include X

theorem x_call (f : Nat) (as : IEs) : XndE prog w A B fnm con mg sub C (.call f as) := by
  intro cx e env s ρ σ σ' π β c E Q G outer ht a hc he hfr g hE
  replace hc := any_ex hc
  obtain ⟨⟨x, xs⟩, hq, hc⟩ := hc
  obtain ⟨p, q, rfl⟩ := asCall_eq hq
  simp only [Bool.and_eq_true, beq_iff_eq, Bool.or_eq_true, Bool.not_eq_true', beq_eq_false_iff_ne] at hc
  obtain ⟨⟨hc, hsp⟩, hlaw⟩ := hc
  obtain ⟨vs, σ₁, h1, h2⟩ := bind_exn he
  have h3 : C f vs σ₁ = .exn c σ' := by
    rcases bindX_exn h2 with h | ⟨_, _, _, h⟩
    · exact h
    · cases h
  have hns : isSp f = false := by
    rcases hsp with h | h
    · exact h
    · rw [ht] at h; cases h
  have W : Wd prog w B Δ cx.fn cx.con mg mb := a.fn ▸ a.con.1 ▸ X.H.W
  obtain ⟨fn, vars, dr, ad, o, pm, code, doc, e1, e2, e3, e4, e5, e6⟩ := W.fn f x hc.1.1
  refine Call_Name rfl (glob_sound W a.V a.S hc.1.2 e2 ?_)
  refine Calls.callWith_function (o := o) (fd := Calls.docDef dr.name dr.params dr.body dr.scope pm code doc) (evalArgs_any (trees_plain hc.2) (wpAny_mono (evArgs_sound X.H as a hc.2 h1) (fun us s₁ q1 => ⟨⟨q1.2.sim.base _ _ e3, e4⟩, ?_⟩) fun _ _ z => z))
  have a1 := a.ok q1.2
  have x1 := a.soK q1.2
  have g1 := g.step a.S x1 a1.ns
  have hE1 := hE.step a.S x1
  exact X.hX f x vs us σ₁ σ' c π β s₁ E ad _ G (env :: outer) (a.fn ▸ hc.1.1) e2 hlaw hns h3 q1.1 q1.2.sim a1.baseLe hfr g1.toGC fun a' h' tk y => hE1 a' h' tk ⟨y.stay, y.new, y.frs, .inr (.inl y.way), fun b o es ep e hd hb => y.tab b o es ep e hd (fun z => nomatch z)⟩

omit X in
theorem x_none (ie : IE) (h : ∀ ρ σ c σ', ev sub C ie ρ σ ≠ .exn c σ') : XndE prog w A B fnm con mg sub C ie := by
  intro cx e env s ρ σ σ' π β c E Q G outer ht a hc he hfr g hE
  exact absurd he (h _ _ _ _)
theorem x_idx (y i : IE) (ih : XndE prog w A B fnm con mg sub C y) : XndE prog w A B fnm con mg sub C (.idx y i) := by
  intro cx e env s ρ σ σ' π β c E Q G outer ht a hc he hfr g hE
  replace hc := any_ex hc
  obtain ⟨⟨u, z⟩, hq, hc⟩ := hc
  obtain ⟨p1, rfl, hsl⟩ := asSub_eq hq
  simp only [Bool.and_eq_true] at hc
  rcases bindX_exn he with h | ⟨v1, σ₁, h1, h2⟩
  · exact Subscript_ (ih ht a hc.1 h hfr g hE)
  · exact absurd h2 (bind_no fun _ _ => d2_no)

theorem ev_x : ∀ ie : IE, XndE prog w A B fnm con mg sub C ie
  | .call f as => x_call X f as
  | .idx y i => x_idx X y i (ev_x y)
  | .lit d => x_none (sub := sub) (C := C) (.lit d) fun _ _ _ _ => nofun
  | .con y d => x_none (sub := sub) (C := C) (.con y d) fun _ _ _ _ => nofun
  | .var i => x_none (sub := sub) (C := C) (.var i) fun ρ σ c σ' => by
    show (match ρ[i]? with | some (some v) => Out.val v σ | _ => Out.bad) ≠ _
    split <;> exact nofun
  | .tup es => x_none (sub := sub) (C := C) (.tup es) fun _ _ _ _ => bind_no fun _ _ => nofun
  | .lst es => x_none (sub := sub) (C := C) (.lst es) fun _ _ _ _ => bind_no fun _ _ => nofun
  | .bin op y z => x_none (sub := sub) (C := C) (.bin op y z) fun _ _ _ _ => bind_no fun _ _ => bind_no fun _ _ => d2_no
  | .neg y => x_none (sub := sub) (C := C) (.neg y) fun _ _ _ _ => bind_no fun _ _ => d1_no
  | .not y => x_none (sub := sub) (C := C) (.not y) fun _ _ _ _ => bind_no fun _ _ => bind_no fun _ _ => nofun
  | .and es => x_none (sub := sub) (C := C) (.and es) fun _ _ _ _ => evAnd_no
  | .or es => x_none (sub := sub) (C := C) (.or es) fun _ _ _ _ => evOr_no
  | .cmp y cs => x_none (sub := sub) (C := C) (.cmp y cs) fun _ _ _ _ => bind_no fun _ _ => bind_no fun _ _ => nofun
  | .prim p y => x_none (sub := sub) (C := C) (.prim p y) fun _ _ _ _ => bind_no fun _ _ => d1_no
  | .prim2 p y z => x_none (sub := sub) (C := C) (.prim2 p y z) fun _ _ _ _ => bind_no fun _ _ => bind_no fun _ _ => d2_no
  | .listOf y => x_none (sub := sub) (C := C) (.listOf y) fun _ _ _ _ => bind_no fun _ _ => d1_no
  | .listRange y => x_none (sub := sub) (C := C) (.listRange y) fun _ _ _ _ => bind_no fun _ _ => d1_no
  | .isinst y t => x_none (sub := sub) (C := C) (.isinst y t) fun _ _ _ _ => bind_no fun _ _ => isin_no
  | .slFrom y z => x_none (sub := sub) (C := C) (.slFrom y z) fun _ _ _ _ => bind_no fun _ _ => bind_no fun _ _ => d2_no
  | .slTo y z => x_none (sub := sub) (C := C) (.slTo y z) fun _ _ _ _ => bind_no fun _ _ => bind_no fun _ _ => d2_no
  | .sorted y => x_none (sub := sub) (C := C) (.sorted y) fun _ _ _ _ => bind_no fun _ _ => d1_no
  | .comp k it ifs elt => x_none (sub := sub) (C := C) (.comp k it ifs elt) fun ρ σ c σ' => bind_no fun s σ₁ => by
    split
    · exact bind_no fun _ _ => nofun
    · exact nofun

omit X in
theorem xb_none (ie : IE) (h : ∀ ρ σ c σ', evB sub C ie ρ σ ≠ .exn c σ') : XndB prog w A B fnm con mg sub C ie := by
  intro cx e env s ρ σ σ' π β c E Q G outer ht a hc he hfr g hE
  exact absurd he (h _ _ _ _)
theorem xb_idx (y i : IE) : XndB prog w A B fnm con mg sub C (.idx y i) := by
  intro cx e env s ρ σ σ' π β c E Q G outer ht a hc he hfr g hE
  have h : ev sub C (.idx y i) ρ σ = .exn c σ' := by
    rcases bindX_exn he with h | ⟨v1, σ₁, h1, h2⟩
    · show Out.bindX _ _ = _; rw [h]; rfl
    · exact absurd h2 (bind_no fun _ _ => bind_no fun _ _ => ofOpt_no)
  have hp : isTrue e env (eval e env) = (do let v ← eval e env; standAt e.pos; holding [v] (truthy v)) := by
    replace hc := any_ex hc
    obtain ⟨⟨u, z⟩, hq, hc⟩ := hc
    obtain ⟨p, rfl, _⟩ := asSub_eq hq; rfl
  rw [hp]
  exact wpAny_bind (ev_x X _ ht a hc h hfr g hE)
theorem xb_not (y : IE) (ih : XndB prog w A B fnm con mg sub C y) : XndB prog w A B fnm con mg sub C (.not y) := by
  intro cx e env s ρ σ σ' π β c E Q G outer ht a hc he hfr g hE
  replace hc := any_ex hc
  obtain ⟨u, hq, hc⟩ := hc
  obtain ⟨p, rfl⟩ := asNot_eq hq
  show wpAny _ _ (do return !(← isTrue u env (eval u env))) _ _ _
  rcases bindX_exn he with h | ⟨v1, σ₁, h1, h2⟩
  · exact wpAny_bind (ih ht a hc h hfr g hE)
  · cases h2
theorem evB_x : ∀ ie : IE, XndB prog w A B fnm con mg sub C ie
  | .not y => xb_not X y (evB_x y)
  | .idx y i => xb_idx X y i
  | .and es => xb_none (sub := sub) (C := C) (.and es) fun _ _ _ _ => evAll_no
  | .or es => xb_none (sub := sub) (C := C) (.or es) fun _ _ _ _ => evAny_no
  | .cmp y cs => xb_none (sub := sub) (C := C) (.cmp y cs) fun _ _ _ _ => bind_no fun _ _ => evCmp_no
  | .lit d => xb_none (sub := sub) (C := C) (.lit d) fun _ _ _ _ => ofOpt_no
  | .con y d => xb_none (sub := sub) (C := C) (.con y d) fun _ _ _ _ => ofOpt_no
  | .var i => xb_none (sub := sub) (C := C) (.var i) fun ρ σ c σ' => by
    show (match ρ[i]? with | some (some v) => truthOf v σ | _ => Out.bad) ≠ _
    split
    · exact ofOpt_no
    · exact nofun
  | .call f as => xb_none (sub := sub) (C := C) (.call f as) fun _ _ _ _ => bind_no fun _ _ => bind_no fun _ _ => ofOpt_no
  | .prim p y => xb_none (sub := sub) (C := C) (.prim p y) fun _ _ _ _ => bind_no fun _ _ => bind_no fun _ _ => ofOpt_no
  | .isinst y t => xb_none (sub := sub) (C := C) (.isinst y t) fun _ _ _ _ => bind_no fun _ _ => bind_no fun _ _ => ofOpt_no
  | .tup u0 => xb_none (sub := sub) (C := C) (.tup u0) fun _ _ _ _ => nofun
  | .lst u0 => xb_none (sub := sub) (C := C) (.lst u0) fun _ _ _ _ => nofun
  | .bin u0 u1 u2 => xb_none (sub := sub) (C := C) (.bin u0 u1 u2) fun _ _ _ _ => nofun
  | .neg u0 => xb_none (sub := sub) (C := C) (.neg u0) fun _ _ _ _ => nofun
  | .prim2 u0 u1 u2 => xb_none (sub := sub) (C := C) (.prim2 u0 u1 u2) fun _ _ _ _ => nofun
  | .listOf u0 => xb_none (sub := sub) (C := C) (.listOf u0) fun _ _ _ _ => nofun
  | .listRange u0 => xb_none (sub := sub) (C := C) (.listRange u0) fun _ _ _ _ => nofun
  | .slFrom u0 u1 => xb_none (sub := sub) (C := C) (.slFrom u0 u1) fun _ _ _ _ => nofun
  | .slTo u0 u1 => xb_none (sub := sub) (C := C) (.slTo u0 u1) fun _ _ _ _ => nofun
  | .sorted u0 => xb_none (sub := sub) (C := C) (.sorted u0) fun _ _ _ _ => nofun
  | .comp u0 u1 u2 u3 => xb_none (sub := sub) (C := C) (.comp u0 u1 u2 u3) fun _ _ _ _ => nofun
end
end Mine

/-! ## MExS -/
namespace Mine
open PySem PyProof.Rows

section
variable {prog : Program} {w : World} {A : Around} {B : Heap} {Δ : Nat → Option Fn} {fnm : Nat → Option Str} {con : Con} {mg mb : Str → Option Value} {sub : Nat → Nat → Bool} {C : Oracle}
variable (X : HypX prog w A B Δ fnm con mg mb C)
include X

theorem x_raise (c : Nat) (m : List Nat) : XndS prog w A B fnm con mg sub C (.raise c m) := by
  intro cx x env s ρ ρ' σ σ' π β c' E Q G outer ht hN a hc he hfr g hE
  replace hc := any_ex hc
  obtain ⟨⟨y, z⟩, hq, hc⟩ := hc
  obtain ⟨p, q, r, rfl⟩ := asRaise_eq hq
  simp only [Bool.and_eq_true, beq_iff_eq] at hc
  have he : SOut.exn c ρ σ = .exn c' ρ' σ' := he
  cases he
  obtain ⟨D, bm, e1, O, _⟩ := X.K.cls c y hc.1.1
  have hcad := cad_of hc.1.1 e1
  have W : Wd prog w B Δ cx.fn cx.con mg mb := a.fn ▸ a.con.1 ▸ X.H.W
  obtain ⟨T, N, nm, qn, bs, hdct, sn, sub', ab, col, dd, k0, k1, k2, k3, k5, mN, hC, hNs, hmN⟩ := id O
  have hst := trees_cons (env := env) (xs := []) (pos := q) (not_starred hc.2)
  refine wpAny_Raise_call_subU (C := D) (nm := nm) (q := qn) (N := N) (bs := bs) (bm := bm) (hdct := hdct) (sn := sn) (sub := sub') (ab := ab) (col := col) (dd := dd) (k0 := k0) (k1 := k1) (k2 := k2) (k3 := k3) (k5 := k5) (mN := mN)
    F.excBase_ValueError (by decide +kernel) F.excBase_ValueError (T.q.tail.hasType (by decide +kernel)) X.H.hh (by rw [hst]; rfl) (hmN _ (.tail _ (.head _))) (glob_sound W a.V a.S hc.1.2 e1 ⟨rfl, ?_⟩)
  rw [hst]
  refine Calls.evalArgs_plain (Calls.spliced_cons (wpAny_mono (ev_sound (sub := sub) X.H (.lit (.str m)) a hc.2 rfl) (fun v s₁ r1 => Calls.spliced_nil ?_) fun _ _ z => z))
  have a1 := a.ok r1.2
  have x1 := a.soK r1.2
  have g1 := g.step a.S x1 a1.ns
  have hE1 := hE.step a.S x1
  refine ⟨rfl, (by show 1 ≤ 2 ^ 24; decide), a1.S.base _ _ hC, hNs.keeps a1.S.base, (T.keeps a1.S.base).q.tail, fun h' e hm => ?_⟩
  obtain ⟨t, he', _, _⟩ := hm.there
  have := hE1 e h' s₁.toks ⟨fun b o q => hm.keeps b o (g1.stay b o q), ?_, (lives_fun g1.out).of_keeps fun b o hb _ => ⟨o, hm.keeps b o hb, rfl⟩, .inl ⟨_, _, _, he', by rw [hcad], rfl, rfl, rfl⟩, fun b o es ep e _ _ => ⟨o.slots, hm.keeps b o e⟩⟩
  · exact this
  · cases hq : G.get? e with
    | none => rfl
    | some o => have := g1.stay e o hq; rw [hm.new] at this; cases this

theorem x_assign (i : Nat) (e : IE) : XndS prog w A B fnm con mg sub C (.assign i e) := by
  intro cx x env s ρ ρ' σ σ' π β c E Q G outer ht hN a hc he hfr g hE
  replace hc := any_ex hc
  obtain ⟨⟨y, v⟩, hq, hc⟩ := hc
  obtain ⟨p1, p2, rfl⟩ := asAssign_eq hq
  simp only [Bool.and_eq_true, beq_iff_eq] at hc
  rw [exq_assign] at he
  rcases stm_exn he with h | ⟨_, _, _, h⟩
  · rcases swaps_of (x := y) (p := p1) (line := p2.line) (env := env) hc.2 with hs | ⟨hs, k, it, ifs, elt, el, y', iter, conds, sc, q1, q2, rfl, rfl⟩
    · rw [exec_Assign_Name _ _ _ _ _ hs]
      exact wpAny_bind (wpAny_standAt (wpAny_bind (ev_x X e ht a hc.2 h hfr g hE)))
    · refine absurd h (bind_no fun s σ₁ => ?_)
      split
      · exact bind_no fun _ _ => nofun
      · exact nofun
  · cases h
theorem x_drop (e : IE) : XndS prog w A B fnm con mg sub C (.drop e) := by
  intro cx x env s ρ ρ' σ σ' π β c E Q G outer ht hN a hc he hfr g hE
  replace hc := any_ex hc
  obtain ⟨v, hq, hc⟩ := hc
  obtain ⟨p1, rfl⟩ := asExpr_eq hq
  replace hc := any_ex hc
  obtain ⟨q, hq2, hc⟩ := hc
  obtain ⟨y, xs⟩ := q
  obtain ⟨p2, p3, rfl⟩ := asCall_eq hq2
  rw [exq_drop] at he
  rcases stm_exn he with h | ⟨v, _, _, h⟩
  · have hk : env.scope.kind = .function := a.V.scope ▸ a.V.kind
    have hint : interactive env = false := by unfold interactive; rw [hk]; rfl
    exact wpAny_Expr_any (ev_x X e ht a hc h hfr g hE) hint rfl
  · exfalso
    split at h <;> cases h
theorem x_ret (e : IE) : XndS prog w A B fnm con mg sub C (.ret e) := by
  intro cx x env s ρ ρ' σ σ' π β c E Q G outer ht hN a hc he hfr g hE
  replace hc := any_ex hc
  obtain ⟨v, hq, hc⟩ := hc
  obtain ⟨p1, rfl⟩ := asRet_eq hq
  rw [exq_ret] at he
  rcases stm_exn he with h | ⟨v1, _, _, h⟩
  · exact wpAny_Return_some (ev_x X e ht a hc h hfr g hE)
  · rcases stm_exn h with h | ⟨_, _, _, h⟩
    · exact absurd h toDat_no
    · cases h
theorem x_ite (c : IE) (u v : ISs) (ihu : XndSs prog w A B fnm con mg sub C u) (ihv : XndSs prog w A B fnm con mg sub C v) : XndS prog w A B fnm con mg sub C (.ite c u v) := by
  intro cx x env s ρ ρ' σ σ' π β c' E Q G outer ht hN a hc he hfr g hE
  replace hc := any_ex hc
  obtain ⟨⟨t, xs, ys⟩, hq, hc⟩ := hc
  obtain ⟨p1, rfl⟩ := asIf_eq hq
  simp only [Bool.and_eq_true] at hc
  rw [exq_ite] at he
  rcases stm_exn he with h | ⟨b, σ₁, h1, h2⟩
  · exact wpAny_If (evB_x X c ht a hc.1.1 h hfr g hE)
  · refine wpAny_If (wpAny_mono (evB_sound X.H c a hc.1.1 h1) (fun b' s₁ r => ?_) fun _ _ z => z)
    obtain ⟨rfl, ok⟩ := r
    have a1 := a.ok ok
    have x1 := a.soK ok
    cases b' with
    | true =>
      simp only [if_true] at h2 ⊢
      exact ihu ht hN a1 hc.1.2 h2 hfr (g.step a.S x1 a1.ns) (hE.step a.S x1)
    | false =>
      simp only [Bool.false_eq_true, if_false] at h2 ⊢
      exact ihv ht hN a1 hc.2 h2 hfr (g.step a.S x1 a1.ns) (hE.step a.S x1)

omit X in
/-- the way out of a loop -/
theorem ThrE.loop {G : Heap} {env : Env} {outer : List Env} {cls : Value} {E : Value → Shared → Prop} {s : Shared} {M : Model} {A : Around} (hfr : A.frames = some (env :: outer)) (hf : env.frame = some env.locals) (t : ThrE G env outer cls E s) :
    ThrE G env outer cls (notedBy M A env fun e s' => cameBackBy M A env E e s') s := fun a h tk y =>
  loop_thr (s := { s with heap := h, toks := tk }) hfr hf y fun h' y' => t a h' tk y'

/-- a loop over an iterator that has just been made -/
theorem for_loop_x {cx : Cx} {env : Env} {s s₁ : Shared} {ρ ρ' : Loc} {σ σ₁ σ' : Sto} {π β : List Addr} {E : Value → Shared → Prop} {Q : Flow → Shared → Prop} {G : Heap} {outer : List Env} {c : Nat} {i : Nat} {nm : Str} {p1 : Pos} {xs : List Stmt} {x : ISs} {src : Src} {K : Kd} {ob : Obj} (ihx : XndSs prog w A B fnm con mg sub C x) (ht : cx.top = false) (hN : Named cx env) (a : At fnm con B π cx env s ρ σ β)
    (hx : cx.name i = some nm) (hv : cx.isVar nm = true) (hb : chkSs cx x xs = true) (ok1 : Ok B π env.locals β s s₁ σ σ₁) (hK : K.Is s₁.heap π β σ₁ src) (hst : K.St (s₁.heap.push ob) s₁.heap.objs.size 0)
    (he : forL src (fun d ρ σ => exs sub C x (ρ.set i (some (.dat d))) σ) src.items ρ σ₁ = .exn c ρ' σ') (hfr : A.frames = some (env :: outer)) (g : GS B G env outer σ β s.heap) (hE : ThrE G env outer (.ref (cad mg c)) E s) :
    codeAny (model prog w) A (.forLoop (.Name nm p1) (.ref s₁.heap.objs.size) xs [] env) (fun r s' => match r with
      | .ok f => Q f s'
      | .error e => cameBackBy (model prog w) A env E e s') { s₁ with heap := s₁.heap.push ob } := by
  have a1 := a.ok ok1
  have x1 := a.soK ok1
  generalize hf0 : (fun d ρ σ => exs sub C x (List.set ρ i (some (Val.dat d))) σ) = bodyF at he
  have hIdead : s₁.heap.get? s₁.heap.objs.size = none := Heap.get?_none_of_le (Nat.le_refl _)
  generalize hI : s₁.heap.objs.size = I at *
  have hIs : s.heap.get? I = none := dead_of x1.alive hIdead
  have hIown : I ∉ own env := fun q => by have := a.own_alive hN q; rw [hIs] at this; cases this
  have hIπ : I ∉ π := fun q => by have := (a.S.priv I q).1; rw [hIs] at this; cases this
  have hBI : B.get? I = none := by
    cases q : B.get? I with
    | none => rfl
    | some o => have := a.S.base I o q; rw [hIs] at this; cases this
  have fI : ∀ {h : Heap} {j : Nat} {σ₂ : Sto} {β₂ : List Addr}, Sim B π h σ₂ β₂ → K.St h I j → Foreign B π β₂ env h I := fun {h} {j} {σ₂} {β₂} S hst => by
    obtain ⟨o₀, vs₀, hI0, hd₀⟩ := hst.fields
    refine ⟨.inr (fun o xs n' ho hd => by rw [hI0] at ho; cases ho; rw [hd₀] at hd; cases hd), (fun o v ho hd => by rw [hI0] at ho; cases ho; rw [hd₀] at hd; cases hd), fun q => hIown (by rw [q]; exact List.mem_cons_self), fun q => ?_, hBI⟩
    obtain ⟨k, hk, e⟩ := List.mem_iff_getElem.mp q
    obtain ⟨vs, ⟨n, hp⟩, _⟩ := S.ent k (σ₂[k]'(by rw [← S.len]; exact hk)) I (List.getElem?_eq_getElem _) (by rw [List.getElem?_eq_getElem hk, e])
    rw [hI0] at hp; cases hp; cases hd₀
  refine codeAny_forLoop (fun n s₂ => ∃ j ρ₂ σ₂ β₂, At fnm con B π cx env s₂ ρ₂ σ₂ β₂ ∧ SOk B π env s s₂ σ σ₂ β β₂ ∧ K.Is s₂.heap π β₂ σ₂ src ∧ K.St s₂.heap I j ∧ j ≤ src.items.length ∧ n = src.items.length + 1 - j ∧ forL src bodyF (src.items.drop j) ρ₂ σ₂ = .exn c ρ' σ') (fun n s₂ hinv => ?_) (src.items.length + 1) ?_
  · obtain ⟨j, ρ₂, σ₂, β₂, a₂, x₂, hK₂, hst₂, hj, hn, h₂⟩ := hinv
    have f₂ := fI a₂.S hst₂
    by_cases hlt : j < src.items.length
    · have hd : src.items.drop j = src.items[j] :: src.items.drop (j + 1) := List.drop_eq_getElem_cons hlt
      rw [hd] at h₂
      simp only [forL] at h₂
      split at h₂
      · rename_i hstill
        refine next_item a₂.S hstill hK₂ hst₂ (List.getElem?_eq_getElem hlt) fun v' h₃ tk₃ rv hst₃ hk₃ => ?_
        have a₃ : At fnm con B π cx env { s₂ with heap := h₃, toks := tk₃ } ρ₂ σ₂ β₂ := a₂.poke' f₂ hk₃ hIπ
        have x₃ := x₂.poke (s₂ := { s₂ with heap := h₃, toks := tk₃ }) hIs ⟨_, _, rfl⟩ a₃.S hk₃
        have sk₃ : SeqKeep (grow π σ₂ β₂) (grow π σ₂ β₂) s₂.heap h₃ := f₂.seqKeep hk₃
        refine wpAny_assign_Name (store_sound (v := .dat src.items[j]) a₃.V a₃.F a₃.S hx hv rv fun s₄ F₄ x₄ rel₄ => ?_)
        have a₄ : At fnm con B π cx env s₄ (ρ₂.set i (some (.dat src.items[j]))) σ₂ β₂ := ⟨a₃.fn, a₃.con, a₃.V, F₄, x₄.sim⟩
        have x₄' := x₃.trans x₄
        have keepI : ∀ {s₅ s₆ : Shared} {σ₅ σ₆ : Sto} {β₅ β₆ : List Addr} {q : Nat}, Sim B π s₅.heap σ₅ β₅ → SOk B π env s₅ s₆ σ₅ σ₆ β₅ β₆ → K.St s₅.heap I q → K.St s₆.heap I q := fun {s₅ s₆ σ₅ σ₆ β₅ β₆ q} S x hst => hst.kept fun o ho => x.keep I o ho (fun z => (fI S hst).sto (growS_sub z)) hIown
        have keepK : ∀ {s₅ s₆ : Shared} {ρ₅ : Loc} {σ₅ σ₆ : Sto} {β₅ β₆ : List Addr}, At fnm con B π cx env s₅ ρ₅ σ₅ β₅ → SOk B π env s₅ s₆ σ₅ σ₆ β₅ β₆ → K.Is s₅.heap π β₅ σ₅ src → K.Is s₆.heap π β₆ σ₆ src := fun {s₅ s₆ ρ₅ σ₅ σ₆ β₅ β₆} aa x hK => by
          have sk := x.seqK aa hN
          obtain ⟨β', rfl, _⟩ := x.ext
          exact hK.mono sk
        have hst₄ := keepI a₃.S x₄ hst₃
        have hK₄ := keepK a₃ x₄ (hK₂.mono' sk₃)
        rcases sbind_exn h₂ with h5 | ⟨ρ₅, σ₅, h5, h6⟩
        · rw [← hf0] at h5
          exact ihx ht hN a₄ hb h5 hfr (g.step a.S x₄' a₄.ns) ((hE.step a.S x₄').loop hfr g.fr)
        · rw [← hf0] at h5
          replace h5 : exs sub C x (ρ₂.set i (some (.dat src.items[j]))) σ₂ = _ := h5
          refine wpAny_mono (exs_sound X.H x hN a₄ hb (by rw [h5]; trivial)) (fun f s₅ q => ?_) fun _ _ z => z
          rw [h5] at q
          obtain ⟨rfl, β₅, a₅, x₅⟩ := q
          exact ⟨src.items.length + 1 - (j + 1), by omega, j + 1, ρ₅, σ₅, β₅, a₅, x₄'.trans x₅, keepK a₄ x₅ hK₄, keepI a₄.S x₅ hst₄, by omega, rfl, h6⟩
      · cases h₂
    · rw [List.drop_of_length_le (by omega)] at h₂
      simp only [forL] at h₂
      split at h₂ <;> cases h₂
  · have hkk : ∀ b o, s₁.heap.get? b = some o → (s₁.heap.push ob).get? b = some o := fun b o q => Heap.get?_push_of_some _ q
    have a2 : At fnm con B π cx env { s₁ with heap := s₁.heap.push ob } ρ σ₁ β := a1.keeps hkk
    refine ⟨0, ρ, σ₁, β, a2, x1.poke hIs ⟨_, _, rfl⟩ a2.S (fun b o _ q => hkk b o q), hK.mono' (fun b o xs n ho hd ha => ⟨ha, hkk b o ho⟩), hst, by omega, by omega, by simpa using he⟩

theorem x_for1 (i : Nat) (it : II) (u : ISs) (ihu : XndSs prog w A B fnm con mg sub C u) : XndS prog w A B fnm con mg sub C (.for1 i it u) := by
  intro cx x env s ρ ρ' σ σ' π β c E Q G outer ht hN a hc he hfr g hE
  replace hc := any_ex hc
  obtain ⟨⟨nm, iter, xs⟩, hq, hc⟩ := hc
  obtain ⟨p1, p2, rfl⟩ := asFor1_eq hq
  simp only [Bool.and_eq_true, beq_iff_eq] at hc
  obtain ⟨⟨⟨⟨hx, hv⟩, hpl⟩, hit⟩, hb⟩ := hc
  rw [exq_for1] at he
  rcases stm_exn he with h | ⟨src, σ₁, h1, h2⟩
  · exact absurd h evI_no
  · split at h2
    · rename_i hlen
      refine wpAny_For ?_ (fun z => folded_none (notSetI hit))
      cases hp : plainI it with
      | true =>
        refine wpAny_mono (evI_sound X.H it a hp hit h1) (fun xv s₁ r1 => ?_) fun _ _ z => z
        exact iter_start (a.ok r1.2).S r1.1 fun K ob hK hst hfree => for_loop_x X ihu ht hN a hx hv hb r1.2 hK hst h2 hfr g hE
      | false =>
        have hr : ∃ e, it = .rev e := by cases it <;> simp [plainI, isRev] at hpl hp; exact ⟨_, rfl⟩
        obtain ⟨e, rfl⟩ := hr
        exact nof hit
    · cases h2

omit X in
theorem xs_none (st : IS) (h : ∀ ρ σ c ρ' σ', ex sub C st ρ σ ≠ .exn c ρ' σ') : XndS prog w A B fnm con mg sub C st := by
  intro cx x env s ρ ρ' σ σ' π β c E Q G outer ht hN a hc he hfr g hE
  exact absurd he (h _ _ _ _ _)
omit X in
theorem xs_chk (st : IS) (h : ∀ cx x, chkS cx st x = false) : XndS prog w A B fnm con mg sub C st := by
  intro cx x env s ρ ρ' σ σ' π β c E Q G outer ht hN a hc he hfr g hE
  rw [h] at hc; cases hc
theorem xss_cons (st : IS) (ss : ISs) (ih : XndS prog w A B fnm con mg sub C st) (ihs : XndSs prog w A B fnm con mg sub C ss) : XndSs prog w A B fnm con mg sub C (.cons st ss) := by
  intro cx xs env s ρ ρ' σ σ' π β c E Q G outer ht hN a hc he hfr g hE
  cases xs with
  | nil => simp [chkSs] at hc
  | cons x xs =>
    have hc := Bool.and_eq_true_iff.mp (show (_ && _) = true from hc)
    rw [exq_cons] at he
    rcases sbind_exn he with h | ⟨ρ₁, σ₁, h1, h2⟩
    · exact wpAny_execs_cons (ih ht hN a hc.1 h hfr g hE)
    · refine wpAny_execs_cons (wpAny_mono (ex_sound X.H st hN a hc.1 (by rw [h1]; trivial)) (fun f s₁ q => ?_) fun _ _ z => z)
      rw [h1] at q
      obtain ⟨rfl, β₁, a₁, x₁⟩ := q
      exact ihs ht hN a₁ hc.2 h2 hfr (g.step a.S x₁ a₁.ns) (hE.step a.S x₁)
omit X in
theorem xss_nil : XndSs prog w A B fnm con mg sub C .nil := by
  intro cx xs env s ρ ρ' σ σ' π β c E Q G outer ht hN a hc he hfr g hE
  cases (show SOut.next ρ σ = .exn c ρ' σ' from he)
end

section
variable {prog : Program} {w : World} {A : Around} {B : Heap} {Δ : Nat → Option Fn} {fnm : Nat → Option Str} {con : Con} {mg mb : Str → Option Value} {sub : Nat → Nat → Bool} {C : Oracle}
theorem evs_no {c : Nat} {σ' : Sto} : ∀ {es : IEs} {ρ : Loc} {σ : Sto}, evs sub C es ρ σ ≠ .exn c σ'
  | .nil, _, _ => nofun
  | .cons e es, ρ, σ => bind_no fun v σ₁ => bind_no fun d σ₂ => bind_no fun ds σ₃ => nofun
theorem newlst_no (i : Nat) (es : IEs) (ρ : Loc) (σ : Sto) (c : Nat) (ρ' : Loc) (σ' : Sto) : ex sub C (.newlst i es) ρ σ ≠ .exn c ρ' σ' := fun h => by
  rw [exq_newlst] at h
  rcases stm_exn h with h | ⟨_, _, _, h⟩
  · exact evs_no h
  · cases h
theorem newcopy_no (i : Nat) (e : IE) (ρ : Loc) (σ : Sto) (c : Nat) (ρ' : Loc) (σ' : Sto) : ex sub C (.newcopy i e) ρ σ ≠ .exn c ρ' σ' := fun h => by
  rw [exq_newcopy] at h
  obtain ⟨_, _, _, h⟩ := stmK_exn h
  split at h <;> cases h
theorem append_no (i : Nat) (e : IE) (ρ : Loc) (σ : Sto) (c : Nat) (ρ' : Loc) (σ' : Sto) : ex sub C (.append i e) ρ σ ≠ .exn c ρ' σ' := fun h => by
  rw [exq_append] at h
  split at h
  · obtain ⟨_, _, _, h⟩ := stmK_exn h
    split at h
    · split at h
      · split at h <;> cases h
      · cases h
    · cases h
  · cases h
theorem for2_no (i j : Nat) (it : II) (u : ISs) (ρ : Loc) (σ : Sto) (c : Nat) (ρ' : Loc) (σ' : Sto) : ex sub C (.for2 i j it u) ρ σ ≠ .exn c ρ' σ' := fun h => by
  rw [exq_for2] at h
  rcases stm_exn h with h | ⟨src, σ₁, _, h⟩
  · exact evI_no h
  · split at h
    · cases hq : forL src (pairF sub C i j u) src.items ρ σ₁ <;> rw [hq] at h <;> cases h
    · cases h
variable (X : HypX prog w A B Δ fnm con mg mb C)
include X
mutual
theorem ex_x : ∀ st : IS, XndS prog w A B fnm con mg sub C st
  | .assign i e => x_assign X i e
  | .newlst i es => xs_none (.newlst i es) (newlst_no i es)
  | .newcopy i e => xs_none (.newcopy i e) (newcopy_no i e)
  | .append i e => xs_none (.append i e) (append_no i e)
  | .drop e => x_drop X e
  | .ret e => x_ret X e
  | .ite c u v => x_ite X c u v (exs_x u) (exs_x v)
  | .for1 i it u => x_for1 X i it u (exs_x u)
  | .for2 i j it u => xs_none (.for2 i j it u) (for2_no i j it u)
  | .while c u => xs_chk (.while c u) fun _ _ => rfl
  | .raise c m => x_raise X c m
  | .tryc f as hs => xs_chk (.tryc f as hs) fun _ _ => rfl
  | .any => xs_none .any fun _ _ _ _ _ => nofun
theorem exs_x : ∀ ss : ISs, XndSs prog w A B fnm con mg sub C ss
  | .nil => xss_nil
  | .cons st ss => xss_cons X st ss (ex_x st) (exs_x ss)
end
end
end Mine

/-! ## MTry -/
namespace Mine
open PySem PyProof.Rows

/-! ## what stands whatever comes: all but the tables that are younger than the base -/
open Classical in
noncomputable def cut (B h : Heap) : Heap := { h with objs := h.objs.mapIdx fun b o => if (∃ es ep, o.data = .dict es ep) ∧ B.get? b ≠ some o then { o with data := .freed } else o }
theorem cut_get {B h : Heap} {b : Addr} {o : Obj} : (cut B h).get? b = some o ↔ h.get? b = some o ∧ ((∀ es ep, o.data ≠ .dict es ep) ∨ B.get? b = some o) := by
  rw [Heap.get?_some_iff, Heap.get?_some_iff]
  unfold cut
  simp only [Array.getElem?_mapIdx]
  cases hq : h.objs[b]? with
  | none => simp
  | some o' =>
    simp only [Option.map_some, Option.some.injEq]
    split
    · rename_i hc
      constructor
      · rintro ⟨rfl, hf⟩
        simp [Obj.isFreed] at hf
      · rintro ⟨⟨rfl, hf⟩, hd | hb⟩
        · obtain ⟨⟨es, ep, h1⟩, _⟩ := hc
          exact absurd h1 (hd es ep)
        · exact absurd hb hc.2
    · rename_i hc
      constructor
      · rintro ⟨rfl, hf⟩
        refine ⟨⟨rfl, hf⟩, ?_⟩
        by_cases hd : ∃ es ep, o'.data = .dict es ep
        · exact .inr (Classical.byContradiction fun hb => hc ⟨hd, hb⟩)
        · exact .inl fun es ep q => hd ⟨es, ep, q⟩
      · rintro ⟨⟨rfl, hf⟩, _⟩
        exact ⟨rfl, hf⟩
theorem cut_none {B h : Heap} {b : Addr} {m : Str → Option Value} (hn : h.Ns b m) (hB : B.get? b = none) : (cut B h).get? b = none := by
  cases e : (cut B h).get? b with
  | none => rfl
  | some o =>
    obtain ⟨h1, h2⟩ := cut_get.mp e
    obtain ⟨o', es, ep, ho, hd, _⟩ := hn
    rw [h1] at ho; cases ho
    rcases h2 with h2 | h2
    · exact absurd hd (h2 es ep)
    · rw [hB] at h2; cases h2

section
variable {B : Heap} {env : Env} {s : Shared} {σ : Sto} {π β : List Addr} {cx : Cx} {ρ : Loc} {fnm : Nat → Option Str} {con : Con}

/-- what stands, seen behind an exception that was caught -/
theorem after_sok {h : Heap} {tk : Nat} (a : At fnm con B π cx env s ρ σ β) (hN : Named cx env) (stay : (cut B s.heap).StaysIn h) (tab : Tabs (own env) s.heap h) (hn : ∃ m, h.Ns env.locals m) : SOk B π env s { s with heap := h, toks := tk } σ σ β β := by
  have ex : ∀ b o, s.heap.get? b = some o → (∀ es ep, o.data ≠ .dict es ep) → h.get? b = some o := fun b o e hd => stay b o (cut_get.mpr ⟨e, .inl hd⟩)
  have kp : ∀ b o, s.heap.get? b = some o → b ∉ own env → Kept h b o := fun b o e ho => by
    by_cases hd : ∃ es ep, o.data = .dict es ep
    · obtain ⟨es, ep, hd⟩ := hd
      exact ⟨tab b o es ep e hd ho, fun hn => absurd hd (hn es ep)⟩
    · exact .of (ex b o e fun es ep q => hd ⟨es, ep, q⟩)
  have al : ∀ b, (s.heap.get? b).isSome = true → (h.get? b).isSome = true := fun b hb => by
    obtain ⟨o, ho⟩ := Option.isSome_iff_exists.mp hb
    by_cases hw : b ∈ own env
    · unfold own at hw
      rcases List.mem_cons.mp hw with rfl | hw
      · obtain ⟨m, o', _, _, ho', _⟩ := hn
        rw [ho']; rfl
      · obtain ⟨p, hp, rfl⟩ := List.mem_map.mp hw
        obtain ⟨i, h1, h2, h3⟩ := hN p hp
        obtain ⟨c, o', hc, ⟨ob, ho', hd'⟩, _⟩ := a.F.cell i p.1 h1 h2
        rw [h3] at hc; cases hc
        rw [ex _ ob ho' fun es ep q => by rw [hd'] at q; cases q]; rfl
    · exact (kp b o ho hw).is
  have sk : SeqKeep (grow π σ β) (grow π σ β) s.heap h := fun b o xs n ho hd hb => ⟨hb, ex b o ho fun es ep q => by rw [hd] at q; cases q⟩
  refine ⟨⟨h, tk, rfl⟩, ⟨a.S.len, a.S.nodup, fun b o e => stay b o (cut_get.mpr ⟨a.S.base b o e, .inr e⟩), a.S.new, fun k e p h1 h2 => ?_, fun p hp => ⟨al p (a.S.priv p hp).1, (a.S.priv p hp).2⟩⟩, fun b o e _ ho => kp b o e ho, fun b hb => .inl hb, ⟨[], by simp, fun _ h => nomatch h⟩, al⟩
  obtain ⟨vs, ⟨n, hp⟩, hr⟩ := a.S.ent k e p h1 h2
  exact ⟨vs, ⟨n, ex p _ hp fun es ep q => nomatch q⟩, Reps.mono sk hr⟩
end

/-! ## a handler -/
theorem rawHnd_eq {x : ExceptHandler} {f : Option Expr × Option Str × List Stmt} (h : rawHnd x = some f) : ∃ p, x = .ExceptHandler f.1 f.2.1 f.2.2 p := by
  cases x; cases h; exact ⟨_, rfl⟩
theorem asHnd_eq {x : ExceptHandler} {X n : Str} {v : Expr} (h : asHnd x = some (X, n, v)) : ∃ p q r, x = .ExceptHandler (some (.Name X p)) (some n) [.Return (some v) q] r := by
  obtain ⟨⟨t, nm, b⟩, h1, h2⟩ := bnd h
  obtain ⟨r, rfl⟩ := rawHnd_eq h1
  obtain ⟨t', h3, h4⟩ := bnd h2
  obtain ⟨n', h5, h6⟩ := bnd h4
  obtain ⟨st, h7, h8⟩ := bnd h6
  obtain ⟨X', h9, h10⟩ := bnd h8
  obtain ⟨v', h11, h12⟩ := Option.map_eq_some_iff.mp h10
  cases h12
  obtain ⟨p, h13⟩ := asName_eq h9
  obtain ⟨q, h14⟩ := asRet_eq h11
  refine ⟨p, q, r, ?_⟩
  show ExceptHandler.ExceptHandler t nm b r = _
  rw [show t = _ from h3, show nm = _ from h5, show b = _ from one_eq h7, h13, h14]
theorem rawTry_eq {st : Stmt} {f : List Stmt × List ExceptHandler × List Stmt × List Stmt} (h : rawTry st = some f) : ∃ p, st = .Try f.1 f.2.1 f.2.2.1 f.2.2.2 p := by
  cases st <;> first | exact nos h | (cases h; exact ⟨_, rfl⟩)

/-- the state in a handler: the exception has a name -/
structure HS (B : Heap) (cx : Cx) (env : Env) (n : Str) (ρ : Loc) (C a : Addr) (h : Heap) : Prop where
  base : ∀ b o, B.get? b = some o → h.get? b = some o
  loc : ∃ m, h.Ns env.locals m ∧ m n = some (.ref a) ∧ ∀ i y b, cx.name i = some y → cx.scope.names.lookup y = some .local → y ≠ n → ρ[i]? = some (some (.dat (.bool b))) → m y = some (.bool b)
  exc : ∃ oe, h.get? a = some oe ∧ oe.cls = .ref C

section
variable {prog : Program} {w : World} {A : Around} {B : Heap} {Δ : Nat → Option Fn} {mg mb : Str → Option Value} {E : Value → Shared → Prop} {cx : Cx} {env : Env} {s : Shared} {ρ : Loc} {n : Str} {C a : Addr} {c : Nat} {X0 : Str}

theorem glob_b {M : Model} {x : Str} {pos : Pos} {v : Value} {Q : Value → Shared → Prop} (W : Wd prog w B Δ cx.fn cx.con mg mb) (V : EnvOk cx env) (hB : ∀ b o, B.get? b = some o → s.heap.get? b = some o) (hx : cx.isGlob x = true) (hv : mg x = some v) (h : Q v s) :
    wpAny M A (eval (.Name x pos) env) Q E s := by
  simp only [Cx.isGlob, Bool.and_eq_true, beq_iff_eq, Bool.not_eq_true'] at hx
  refine Calls.Name_function_global (V.scope ▸ V.kind) (by show env.scope.names.lookup x = _; rw [V.scope]; exact hx.1) ?_ hx.2
  exact Calls.loadGlobal_global (by rw [V.globals]; exact W.g.keeps hB) hv h
theorem bi_b {M : Model} {x : Str} {pos : Pos} {v : Value} {Q : Value → Shared → Prop} (W : Wd prog w B Δ cx.fn cx.con mg mb) (V : EnvOk cx env) (hB : ∀ b o, B.get? b = some o → s.heap.get? b = some o) (hx : cx.isGlob x = true) (hv : (x, v) ∈ bis) (h : Q v s) :
    wpAny M A (eval (.Name x pos) env) Q E s := by
  simp only [Cx.isGlob, Bool.and_eq_true, beq_iff_eq, Bool.not_eq_true'] at hx
  refine Calls.Name_function_global (V.scope ▸ V.kind) (by show env.scope.names.lookup x = _; rw [V.scope]; exact hx.1) ?_ hx.2
  have hb := W.bi x v hv
  exact Calls.loadGlobal_builtin (by rw [V.globals]; exact W.g.keeps hB) hb.1 (by rw [V.builtins]; exact W.b.keeps hB) hb.2 h

theorem not_star_name {x : Str} {p : Pos} : ∀ z r, Expr.Name x p ≠ .Starred z r := fun _ _ h => nomatch h

abbrev Says (b : Bool) (s : Shared) (v : Value) (s' : Shared) : Prop := v = .bool b ∧ ∃ t, s' = { s with toks := t }

theorem atom_sound {at' : Atom} {x : Expr} {b : Bool} (W : Wd prog w B Δ cx.fn cx.con mg mb) (K : ClsOk B mg) (V : EnvOk cx env) (hs : HS B cx env n ρ C a s.heap) (hnl : cx.scope.names.lookup n = some .local) (hnd : (n == ("__debug__" : Str)) = false)
    (h0 : cnm c = some X0) (h1 : mg X0 = some (.ref C)) (hc : chkA cx n at' x = true) (hv : atomV c ρ at' = some b) : wpAny (model prog w) A (eval x env) (Says b s) E s := by
  have hk : env.scope.kind = .function := V.scope ▸ V.kind
  obtain ⟨m, hm, hmn, hvar⟩ := hs.loc
  have ld : ∀ {y : Str} {v : Value} {p : Pos} {Q : Value → Shared → Prop}, cx.scope.names.lookup y = some .local → (y == ("__debug__" : Str)) = false → m y = some v → Q v s → wpAny (model prog w) A (eval (.Name y p) env) Q E s := fun hl hd hv hq =>
    wpAny_Name (wpAny_loadName_local hk (by show env.scope.names.lookup _ = _; rw [V.scope]; exact hl) hm hv hq) hd
  cases at' with
  | var i =>
    replace hc := any_ex hc
    obtain ⟨y, hq, hc⟩ := hc
    obtain ⟨p, rfl⟩ := asName_eq hq
    simp only [Bool.and_eq_true, beq_iff_eq, Bool.not_eq_true', beq_eq_false_iff_ne] at hc
    simp only [atomV] at hv
    split at hv
    · rename_i b' hr
      cases hv
      exact ld hc.1.1.2 (by simpa using hc.2) (hvar i y b hc.1.1.1 hc.1.1.2 hc.1.2 hr) ⟨rfl, s.toks, rfl⟩
    · cases hv
  | isi c' =>
    have hv : subC c c' = b := by injection hv
    replace hc := any_ex hc
    obtain ⟨⟨f, y, z⟩, hq, hc⟩ := hc
    obtain ⟨p, q, rfl⟩ := asCall2_eq hq
    simp only [Bool.and_eq_true, beq_iff_eq] at hc
    obtain ⟨⟨⟨rfl, hg⟩, hy⟩, hz⟩ := hc
    replace hy := any_ex hy
    obtain ⟨y', hq1, hy⟩ := hy
    obtain ⟨p1, rfl⟩ := asName_eq hq1
    have hy : y' = n := beq_iff_eq.mp hy
    subst hy
    replace hz := any_ex hz
    obtain ⟨X, hq2, hz⟩ := hz
    obtain ⟨p2, rfl⟩ := asName_eq hq2
    rw [Bool.and_eq_true] at hz
    obtain ⟨oe, he, hcl⟩ := hs.exc
    obtain ⟨D0, bm, e1, O, hsub⟩ := K.cls c X0 h0
    rw [h1] at e1; cases e1
    refine Call_Name rfl (bi_b W V hs.base hg bi_isinstance ?_)
    rw [trees_cons not_star_name, trees_cons not_star_name]
    refine Calls.callWith_builtin rfl (Calls.evalArgs_plain (Calls.spliced_cons (ld hnl hnd hmn (Calls.spliced_cons ?_))))
    by_cases h9 : c' = 9
    · rw [if_pos h9] at hz
      have hX : X = ("ValueError" : Str) := beq_iff_eq.mp hz.2
      subst hX
      refine bi_b W V hs.base hz.1 bi_ValueError (Calls.spliced_nil (isi_V (O.keeps hs.base) he hcl ⟨?_, s.toks, rfl⟩))
      rw [← hv]; subst h9; simp [subC]
    · rw [if_neg h9] at hz
      have hX : cnm c' = some X := beq_iff_eq.mp hz.2
      obtain ⟨D, bD, e2, OD, _⟩ := K.cls c' X hX
      exact glob_b W V hs.base hz.1 e2 (Calls.spliced_nil (isi_own (O.keeps hs.base) (OD.keeps hs.base) he hcl ((hsub c' X D hX e2).trans hv) fun t => ⟨rfl, t, rfl⟩))

theorem natom_sound {na : Bool × Atom} {x : Expr} {b : Bool} (W : Wd prog w B Δ cx.fn cx.con mg mb) (K : ClsOk B mg) (V : EnvOk cx env) (hs : HS B cx env n ρ C a s.heap) (hnl : cx.scope.names.lookup n = some .local) (hnd : (n == ("__debug__" : Str)) = false)
    (h0 : cnm c = some X0) (h1 : mg X0 = some (.ref C)) (hc : chkNA cx n na x = true) (hv : atomV c ρ na.2 = some b) : wpAny (model prog w) A (eval x env) (Says (b != na.1) s) E s := by
  obtain ⟨g, at'⟩ := na
  cases g with
  | false =>
    have hc : chkA cx n at' x = true := hc
    rw [Bool.bne_false]
    exact atom_sound W K V hs hnl hnd h0 h1 hc hv
  | true =>
    have hc : ((asNot x).any fun y => chkA cx n at' y) = true := hc
    replace hc := any_ex hc
    obtain ⟨y, hq, hc⟩ := hc
    obtain ⟨p, rfl⟩ := asNot_eq hq
    show wpAny _ _ (do let v ← eval y env; standAt p; holding [v] (unaryOp .Not v)) _ _ _
    refine wpAny_bind (wpAny_mono (atom_sound W K V hs hnl hnd h0 h1 hc hv) (fun u1 s₁ q1 => wpAny_bind (wpAny_standAt (wpAny_holding ?_))) fun _ _ z => z)
    obtain ⟨rfl, t, rfl⟩ := q1
    show wpAny _ _ (holding [_] _) _ _ _
    refine wpAny_holding ?_
    show wpAny _ _ (do return Value.bool (!(← truthy _))) _ _ _
    exact wpAny_bind (wpAny_truthy_bool (wpAny_pure ⟨by cases b <;> rfl, t, rfl⟩))

theorem and_atoms {pos : Pos} (W : Wd prog w B Δ cx.fn cx.con mg mb) (K : ClsOk B mg) (V : EnvOk cx env) (hnl : cx.scope.names.lookup n = some .local) (hnd : (n == ("__debug__" : Str)) = false) (h0 : cnm c = some X0) (h1 : mg X0 = some (.ref C)) :
    ∀ {l : List (Bool × Atom)} {xs : List Expr} {b : Bool} {s : Shared}, HS B cx env n ρ C a s.heap → l ≠ [] → chkAL cx n l xs = true → atomsV c ρ l = some b → wpAny (model prog w) A (boolOp pos .And (evalEach xs env)) (Says b s) E s
  | [], _, _, _, _, h, _, _ => absurd rfl h
  | na :: l, [], _, _, _, _, hc, _ => nomatch hc
  | [na], [x], b, s, hs, _, hc, hv => by
    simp only [chkAL, Bool.and_true] at hc
    simp only [atomsV] at hv
    obtain ⟨b', h3, h4⟩ := Option.bind_eq_some_iff.mp hv
    simp only [Option.map_some, Bool.and_true, Option.some.injEq] at h4
    subst h4
    exact natom_sound W K V hs hnl hnd h0 h1 hc h3
  | [na], x :: y :: ys, _, _, _, _, hc, _ => by simp [chkAL] at hc
  | na :: nb :: l, [x], _, _, _, _, hc, _ => by simp [chkAL] at hc
  | na :: nb :: l, x :: y :: ys, b, s, hs, _, hc, hv => by
    rw [chkAL, Bool.and_eq_true] at hc
    rw [atomsV] at hv
    obtain ⟨b', h3, h4⟩ := Option.bind_eq_some_iff.mp hv
    obtain ⟨r, h5, rfl⟩ := Option.map_eq_some_iff.mp h4
    show wpAny _ _ (do
      let v ← eval x env
      standAt pos
      let t ← holding [v] (truthy v)
      match BoolOp.And, t with
      | .And, false | .Or, true => pure v
      | _, _ => boolOp pos .And (evalEach (y :: ys) env)) _ _ _
    refine wpAny_bind (wpAny_mono (natom_sound W K V hs hnl hnd h0 h1 hc.1 h3) (fun u1 s₁ q1 => ?_) fun _ _ z => z)
    obtain ⟨rfl, t, rfl⟩ := q1
    refine wpAny_bind (wpAny_standAt (wpAny_bind (wpAny_holding (wpAny_truthy_bool ?_))))
    generalize (b' != na.1) = bb
    cases bb with
    | true => exact wpAny_mono (and_atoms (l := nb :: l) W K V hnl hnd h0 h1 (s := { s with toks := t }) hs (fun h => nomatch h) hc.2 h5) (fun v s' q => by obtain ⟨rfl, t', rfl⟩ := q; exact ⟨by simp, t', rfl⟩) fun _ _ z => z
    | false => exact wpAny_pure ⟨by simp, t, rfl⟩

theorem atoms_sound {l : List (Bool × Atom)} {x : Expr} {b : Bool} (W : Wd prog w B Δ cx.fn cx.con mg mb) (K : ClsOk B mg) (V : EnvOk cx env) (hs : HS B cx env n ρ C a s.heap) (hnl : cx.scope.names.lookup n = some .local) (hnd : (n == ("__debug__" : Str)) = false)
    (h0 : cnm c = some X0) (h1 : mg X0 = some (.ref C)) (hc : chkAs cx n l x = true) (hv : atomsV c ρ l = some b) : wpAny (model prog w) A (eval x env) (Says b s) E s := by
  match l, hc, hv with
  | [], hc, _ => exact nomatch hc
  | [na], hc, hv =>
    simp only [atomsV] at hv
    obtain ⟨b', h3, h4⟩ := Option.bind_eq_some_iff.mp hv
    simp only [Option.map_some, Bool.and_true, Option.some.injEq] at h4
    subst h4
    exact natom_sound W K V hs hnl hnd h0 h1 hc h3
  | na :: nb :: l, hc, hv =>
    have hc : ((asAnd x).any fun xs => chkAL cx n (na :: nb :: l) xs) = true := hc
    replace hc := any_ex hc
    obtain ⟨xs, hq, hc⟩ := hc
    obtain ⟨p, rfl⟩ := asAnd_eq hq
    exact and_atoms (l := na :: nb :: l) W K V hnl hnd h0 h1 hs (fun h => nomatch h) hc hv
end
end Mine

/-! ## MTrz -/
namespace Mine
open PySem PyProof.Rows

section
variable {prog : Program} {w : World} {A : Around} {B : Heap} {Δ : Nat → Option Fn} {mg mb : Str → Option Value} {E : Value → Shared → Prop} {cx : Cx} {env : Env} {ρ : Loc} {C a : Addr} {c : Nat} {X0 : Str} {G h₀ : Heap} {outer : List Env}

/-- the names of the frame that hold a truth value -/
noncomputable def Boolish (cx : Cx) (env : Env) (ρ : Loc) (h : Heap) : Prop := ∃ m, h.Ns env.locals m ∧ ∀ i y b, cx.name i = some y → cx.scope.names.lookup y = some .local → ρ[i]? = some (some (.dat (.bool b))) → m y = some (.bool b)

/-- the end of a handler -/
noncomputable def Caught (G h₀ : Heap) (env : Env) (b : Bool) (s : Shared) (f : Flow) (s' : Shared) : Prop :=
  f = .ret (.bool b) ∧ ∃ h tk, s' = { s with heap := h, toks := tk } ∧ G.StaysIn h ∧ Tabs (own env) h₀ h ∧ ∃ m, h.Ns env.locals m

theorem handle_sound (W : Wd prog w B Δ cx.fn cx.con mg mb) (K : ClsOk B mg) (V : EnvOk cx env) (h0 : cnm c = some X0) (h1 : mg X0 = some (.ref C)) (hBG : ∀ b o, B.get? b = some o → G.get? b = some o) (hloc : G.get? env.locals = none) :
    ∀ {hs : List Hnd} {xs : List ExceptHandler} {hd : Hnd} {b : Bool} {s : Shared}, chkHs cx hs xs = true → hs.find? (fun h => subC c h.cls) = some hd → atomsV c ρ hd.atoms = some b → Fly G (env :: outer) (.ref C) [] h₀ a s.heap → Boolish cx env ρ h₀ →
      wpAny (model prog w) A (handleBy (.ref a) env xs) (Caught G h₀ env b s) E s
  | [], xs, _, _, _, _, hf, _, _, _ => nomatch hf
  | _ :: _, [], _, _, _, hc, _, _, _, _ => nomatch hc
  | h :: hs, x :: xs, hd, b, s, hc, hf, hv, fly, hb => by
    rw [chkHs, Bool.and_eq_true] at hc
    obtain ⟨hc, hcs⟩ := hc
    replace hc := any_ex hc
    obtain ⟨⟨X, n, v⟩, hq, hc⟩ := hc
    obtain ⟨p, q, r, rfl⟩ := asHnd_eq hq
    simp only [Bool.and_eq_true, beq_iff_eq, Bool.not_eq_true'] at hc
    obtain ⟨⟨⟨⟨hX, hg⟩, hnl⟩, hnd⟩, hat⟩ := hc
    have hk : env.scope.kind = .function := V.scope ▸ V.kind
    have hB : ∀ b o, B.get? b = some o → s.heap.get? b = some o := fun b o q => fly.stay b o (hBG b o q)
    obtain ⟨D0, bm, e1, O, hsub⟩ := K.cls c X0 h0
    rw [h1] at e1; cases e1
    obtain ⟨D, bD, e2, OD, _⟩ := K.cls h.cls X hX
    have hee : ∃ oe, s.heap.get? a = some oe ∧ oe.cls = .ref C := by
      obtain ⟨a0, oe, vs, T, oT, ts, he, hcl, _⟩ := fly.way
      exact ⟨oe, he, hcl.1⟩
    obtain ⟨oe, he, hcl⟩ := hee
    refine wpAny_handleBy_cons (codeAny_handlers_test (glob_b W V hB hg e2 (exm_own (O.keeps hB) (OD.keeps hB) he hcl (hsub h.cls X D hX e2) ?_))) (by intro q; cases q)
    cases hsc : subC c h.cls with
    | false =>
      rw [List.find?_cons_of_neg (by rw [hsc]; simp)] at hf
      exact handle_sound W K V h0 h1 hBG hloc hcs hf hv fly hb
    | true =>
      rw [List.find?_cons_of_pos (p := fun h : Hnd => subC c h.cls) hsc] at hf
      cases hf
      show codeAny _ _ (.handlers _ [.ExceptHandler none (some n) [.Return (some v) q] r] env) _ _
      refine codeAny_handlers_suite_as ?_
      refine flight_none (fl := .none) (L := env.locals) fly.thr fly.way fun h₂ fly₂ => ?_
      obtain ⟨m, hm, hvar⟩ := hb
      have hm₂ : h₂.Ns env.locals m := by
        obtain ⟨o, es, ep, ho, hdd, rr⟩ := hm
        obtain ⟨sl, e⟩ := fly₂.tab env.locals o es ep ho hdd (fun z => nomatch z)
        exact ⟨_, es, ep, e, hdd, rr⟩
      refine wpAny_storeName_local (by show env.scope.names.lookup n = _; rw [V.scope]; exact hnl) hm₂ (fun h₃ hn₃ hs₃ => ?_) (by rw [hk]; rfl)
      have hneB : ∀ {b o}, G.get? b = some o → b ≠ env.locals := fun {b o} q e => by rw [e, hloc] at q; cases q
      obtain ⟨a0, oe₂, vs, T', oT, ts, he₂, hcl₂, hde, _⟩ := fly₂.way
      have hna : a ≠ env.locals := fun e => by
        obtain ⟨o, es, ep, ho, hdd, _⟩ := hm₂
        rw [← e, he₂] at ho; cases ho
        rw [hde] at hdd; cases hdd
      have HS₃ : HS B cx env n ρ C a h₃ := by
        refine ⟨fun b o q => ?_, ⟨_, hn₃, by simp, fun i y b' e1 e2 e3 e4 => ?_⟩, ⟨oe₂, ?_, hcl₂.1⟩⟩
        · rw [hs₃.2 b (hneB (hBG b o q))]; exact fly₂.stay b o (hBG b o q)
        · simp [e3, hvar i y b' e1 e2 e4]
        · rw [hs₃.2 a hna]; exact he₂
      refine wpAny_execs_cons (wpAny_Return_some (wpAny_mono (atoms_sound (s := { s with heap := h₃, toks := s.toks + 1 }) W K V HS₃ hnl hnd h0 h1 hat hv) (fun u s₄ q => ?_) fun _ _ z => z))
      · obtain ⟨rfl, t, rfl⟩ := q
        refine wpAny_nameGoes (by show env.scope.names.lookup n = _; rw [V.scope]; exact hnl) hn₃ (by rw [hk]; rfl) fun h₅ m₅ hn₅ hs₅ => ?_
        refine ⟨rfl, h₅, _, rfl, fun b o q => ?_, fun b o es ep e1 e2 e3 => ?_, m₅, hn₅⟩
        · rw [hs₅.2 b (hneB q), hs₃.2 b (hneB q)]; exact fly₂.stay b o q
        · have hb' : b ≠ env.locals := fun e => e3 (by rw [e]; exact List.mem_cons_self)
          rw [hs₅.2 b hb', hs₃.2 b hb']
          exact fly₂.tab b o es ep e1 e2 (fun z => nomatch z)
end

theorem exq_tryc (sub : Nat → Nat → Bool) (C : Oracle) (ρ : Loc) (σ : Sto) (f : Nat) (as : IEs) (hs : List Hnd) : ex sub C (.tryc f as hs) ρ σ = (evArgs sub C as ρ σ).stmK fun vs σ => match C f vs σ with
    | .exn c _ => if (σ.all (fun e => !e.1) && decide (c < 4)) = true then ofHnd c ρ σ (hs.find? fun h => subC c h.cls) else .bad
    | _ => .bad := rfl

theorem cnm_lt {c : Nat} (h : c < 4) : ∃ x, cnm c = some x := by
  match c, h with
  | 0, _ => exact ⟨_, rfl⟩
  | 1, _ => exact ⟨_, rfl⟩
  | 2, _ => exact ⟨_, rfl⟩
  | 3, _ => exact ⟨_, rfl⟩

section
variable {prog : Program} {w : World} {A : Around} {B : Heap} {Δ : Nat → Option Fn} {fnm : Nat → Option Str} {con : Con} {mg mb : Str → Option Value} {sub : Nat → Nat → Bool} {C : Oracle}
variable (X : HypX prog w A B Δ fnm con mg mb C)
include X

theorem try_sound {cx : Cx} {x : Stmt} {env : Env} {s : Shared} {ρ : Loc} {σ σ' : Sto} {π β : List Addr} {f : Nat} {as : IEs} {hs : List Hnd} {d : Dat} {outer : List Env} {E : Value → Shared → Prop} (hN : Named cx env) (a : At fnm con B π cx env s ρ σ β) (hc : chkT cx f as hs x = true)
    (he : ex sub C (.tryc f as hs) ρ σ = .ret d σ') (hfr : A.frames = some (env :: outer)) (hf : env.frame = some env.locals) (hout : ∀ e ∈ outer, e.scope.kind ≠ .module ∧ ∃ L m, e.frame = some L ∧ B.objs.size ≤ L ∧ L ∉ own env ∧ s.heap.Ns L m) :
    wpAny (model prog w) A (exec x env) (fun fl s' => SPost fnm con B π cx env s σ β (.ret d σ') fl s') E s := by
  replace hc := any_ex hc
  obtain ⟨⟨b, hh, o, fi⟩, hq, hc⟩ := hc
  obtain ⟨p0, rfl⟩ := rawTry_eq hq
  simp only [Bool.and_eq_true, List.isEmpty_iff] at hc
  obtain ⟨⟨⟨⟨rfl, rfl⟩, hb⟩, hhs⟩, hne⟩ := hc
  replace hb := any_ex hb
  obtain ⟨st, hq1, hb⟩ := hb
  have hb1 := one_eq hq1
  subst hb1
  replace hb := any_ex hb
  obtain ⟨v, hq2, hb⟩ := hb
  obtain ⟨p1, rfl⟩ := asExpr_eq hq2
  replace hb := any_ex hb
  obtain ⟨⟨nm, xs⟩, hq3, hb⟩ := hb
  obtain ⟨p, q, rfl⟩ := asCall_eq hq3
  simp only [Bool.and_eq_true, beq_iff_eq, Bool.not_eq_true', beq_eq_false_iff_ne] at hb
  obtain ⟨⟨⟨⟨hfn, hgl⟩, has⟩, hns⟩, hlaw⟩ := hb
  rw [exq_tryc] at he
  obtain ⟨vs, σ₁, h1, h2⟩ : ∃ vs σ₁, evArgs sub C as ρ σ = .val vs σ₁ ∧ (match C f vs σ₁ with
    | .exn c _ => if (σ₁.all (fun e => !e.1) && decide (c < 4)) = true then ofHnd c ρ σ₁ (hs.find? fun h => subC c h.cls) else .bad
    | _ => .bad) = SOut.ret d σ' := by
    cases hq : evArgs sub C as ρ σ with
    | val vs σ₁ => rw [hq] at he; exact ⟨vs, σ₁, rfl, he⟩
    | exn => rw [hq] at he; cases he
    | bad => rw [hq] at he; cases he
  cases h3 : C f vs σ₁ with
  | val => rw [h3] at h2; cases h2
  | bad => rw [h3] at h2; cases h2
  | exn c σ₂ =>
    rw [h3] at h2
    simp only at h2
    split at h2
    · rename_i hcond
      simp only [Bool.and_eq_true, decide_eq_true_eq] at hcond
      obtain ⟨hall, hc4⟩ := hcond
      obtain ⟨X0, h0⟩ := cnm_lt hc4
      obtain ⟨D, bm, e0, O, _⟩ := X.K.cls c X0 h0
      have hcad := cad_of h0 e0
      cases hfind : hs.find? fun h => subC c h.cls with
      | none => rw [hfind] at h2; cases h2
      | some hd =>
        rw [hfind] at h2
        simp only [ofHnd] at h2
        split at h2
        · rename_i b hat
          cases h2
          cases hh with
          | nil =>
            cases hs with
            | nil => simp at hne
            | cons y ys => exact nomatch hhs
          | cons hx hxs =>
            have hk : env.scope.kind = .function := a.V.scope ▸ a.V.kind
            have hint : interactive env = false := by unfold interactive; rw [hk]; rfl
            have W : Wd prog w B Δ cx.fn cx.con mg mb := a.fn ▸ a.con.1 ▸ X.H.W
            obtain ⟨fn, vars, dr, ad, o, pm, code, doc, e1, e2, e3, e4, e5, e6⟩ := W.fn f nm hfn
            refine wpAny_Try_except (wpAny_execs_cons (wpAny_Expr_any (Call_Name rfl (glob_sound W a.V a.S hgl e2 ?_)) hint rfl))
            refine Calls.callWith_function (o := o) (fd := Calls.docDef dr.name dr.params dr.body dr.scope pm code doc) (evalArgs_any (trees_plain has) (wpAny_mono (evArgs_sound X.H as a has h1) (fun us s₁ q1 => ⟨⟨q1.2.sim.base _ _ e3, e4⟩, ?_⟩) fun _ _ z => z))
            have a1 := a.ok q1.2
            have x1 := a.soK q1.2
            have hBL : ∀ {L : Addr}, B.objs.size ≤ L → B.get? L = none := fun {L} h => by
              cases e : B.get? L with
              | none => rfl
              | some o => exact absurd (Heap.lt_size e) (Nat.not_lt.mpr h)
            have hlocN : (cut B s₁.heap).get? env.locals = none := by
              obtain ⟨m, hm⟩ := a1.ns
              exact cut_none hm (hBL a1.F.off.2)
            have gc : GC B (cut B s₁.heap) (env :: outer) σ' β s₁.heap := by
              refine ⟨fun b o e => (cut_get.mp e).1, fun b hb => ?_, fun b o es ep e hdd => ?_, fun e he => ?_⟩
              · obtain ⟨k, l, g1, g2⟩ := mem_growS.mp hb
                have := List.all_eq_true.mp hall _ (List.mem_of_getElem? g1)
                cases this
              · rcases (cut_get.mp e).2 with h | h
                · exact absurd hdd (h es ep)
                · exact h
              · rcases List.mem_cons.mp he with rfl | he
                · obtain ⟨m, hm⟩ := a1.ns
                  exact ⟨by rw [hk]; decide, _, m, hf, hlocN, hm⟩
                · obtain ⟨hkm, L, m, hfL, hL, hoL, hm⟩ := hout e he
                  have hm1 : s₁.heap.Ns L m := Kept.ns hm fun o ho => x1.keep L o ho (fun q => ns_not_grow a.S hm (growS_sub q)) hoL
                  exact ⟨hkm, L, m, hfL, cut_none hm1 (hBL hL), hm1⟩
            have hbool : Boolish cx env ρ s₁.heap := by
              obtain ⟨m, hm, hv⟩ := a1.F.loc
              refine ⟨m, hm, fun i y b' g1 g2 g3 => ?_⟩
              obtain ⟨v', g4, g5⟩ := hv i y _ g1 g2 g3
              rw [g4, show v' = .bool b' from g5]
            refine X.hX f nm vs us σ' σ₂ c π β s₁ _ ad _ (cut B s₁.heap) (env :: outer) (a.fn ▸ hfn) e2 hlaw hns h3 q1.1 q1.2.sim a1.baseLe hfr gc fun a' h' tk fly => ?_
            rw [hcad] at fly
            refine note_thr (s := { s₁ with heap := h', toks := tk }) hfr hf fly.thr fun h₂ t₂ ht₂ => ?_
            refine flight_none (s := { s₁ with heap := h₂, toks := tk }) t₂ ht₂ fun h₃ fly₃ => ?_
            refine wpAny_mono (handle_sound (outer := outer) (s := { s₁ with heap := h₃, toks := tk }) W X.K a.V h0 e0 (fun b o e => cut_get.mpr ⟨a1.S.base b o e, .inr e⟩) hlocN hhs hfind hat fly₃ hbool) (fun fl s' q => ?_) fun _ _ z => z
            obtain ⟨rfl, h₅, tk₅, rfl, g1, g2, g3⟩ := q
            exact ⟨_, β, rfl, rfl, x1.trans (after_sok (tk := tk₅) a1 hN g1 g2 g3)⟩
        · cases h2
    · cases h2
end
end Mine

/-! ## MCall -/
namespace Mine
open PySem PyProof.Rows

theorem bindL_other {kindOf : Str → Option NameKind} {x : Str} : ∀ {bs : List (Str × Value)} {m : Str → Option Value}, (∀ p ∈ bs, p.1 ≠ x) → bindL kindOf bs m x = m x
  | [], m, _ => rfl
  | (n, v) :: r, m, h => by
    have hn : n ≠ x := h _ List.mem_cons_self
    show bindL kindOf r _ x = _
    rw [bindL_other fun p hp => h p (List.mem_cons_of_mem _ hp)]
    split
    · exact if_neg (Ne.symm hn)
    · rfl
theorem bindC_other {kindOf : Str → Option NameKind} {x : Str} : ∀ {bs : List (Str × Value)} {m : Str → Option Value}, (∀ p ∈ bs, p.1 ≠ x) → bindC kindOf bs m x = m x
  | [], m, _ => rfl
  | (n, v) :: r, m, h => by
    have hn : n ≠ x := h _ List.mem_cons_self
    show bindC kindOf r _ x = _
    rw [bindC_other fun p hp => h p (List.mem_cons_of_mem _ hp)]
    split
    · rfl
    · exact if_neg (Ne.symm hn)
theorem zip_fst {α : Type} {ns : List Str} {vs : List α} {p : Str × α} (h : p ∈ ns.zip vs) : p.1 ∈ ns := (List.of_mem_zip h).1
theorem bindL_get {kindOf : Str → Option NameKind} {x : Str} {v : Value} : ∀ {ns : List Str} {vs : List Value} {m : Str → Option Value} {i : Nat}, ns.Nodup → ns[i]? = some x → vs[i]? = some v → kindOf x = some .local → bindL kindOf (ns.zip vs) m x = some v
  | [], _, _, i, _, h, _, _ => by simp at h
  | n :: ns, [], _, i, _, _, h, _ => by simp at h
  | n :: ns, u :: vs, m, 0, hd, h1, h2, hk => by
    simp at h1 h2; subst h1; subst h2
    obtain ⟨hn, hd⟩ := List.nodup_cons.mp hd
    show bindL kindOf (ns.zip vs) _ n = _
    rw [bindL_other (x := n) (fun p hp q => hn (by have := zip_fst hp; rw [q] at this; exact this)), if_pos hk]; simp
  | n :: ns, u :: vs, m, i + 1, hd, h1, h2, hk => by
    obtain ⟨hn, hd⟩ := List.nodup_cons.mp hd
    show bindL kindOf (ns.zip vs) _ x = _
    exact bindL_get (i := i) hd (by simpa using h1) (by simpa using h2) hk
theorem bindC_get {kindOf : Str → Option NameKind} {x : Str} {v : Value} : ∀ {ns : List Str} {vs : List Value} {m : Str → Option Value} {i : Nat}, ns.Nodup → ns[i]? = some x → vs[i]? = some v → kindOf x ≠ some .local → bindC kindOf (ns.zip vs) m x = some v
  | [], _, _, i, _, h, _, _ => by simp at h
  | n :: ns, [], _, i, _, _, h, _ => by simp at h
  | n :: ns, u :: vs, m, 0, hd, h1, h2, hk => by
    simp at h1 h2; subst h1; subst h2
    obtain ⟨hn, hd⟩ := List.nodup_cons.mp hd
    show bindC kindOf (ns.zip vs) _ n = _
    rw [bindC_other (x := n) (fun p hp q => hn (by have := zip_fst hp; rw [q] at this; exact this)), if_neg hk]; simp
  | n :: ns, u :: vs, m, i + 1, hd, h1, h2, hk => by
    obtain ⟨hn, hd⟩ := List.nodup_cons.mp hd
    show bindC kindOf (ns.zip vs) _ x = _
    exact bindC_get (i := i) hd (by simpa using h1) (by simpa using h2) hk

theorem cells_mem : ∀ {names : List (Str × NameKind)} {k : Nat} {acc : List (Str × Addr)} {n : Str}, (∃ c, (n, c) ∈ cellsFrom k names acc) ↔ ((n, NameKind.cell) ∈ names ∨ ∃ c, (n, c) ∈ acc)
  | [], k, acc, n => by simp [cellsFrom]
  | (m, kd) :: r, k, acc, n => by
    unfold cellsFrom
    split
    · rename_i hk
      simp only [beq_iff_eq] at hk
      subst hk
      rw [cells_mem]
      simp only [List.mem_cons, Prod.mk.injEq, and_true]
      constructor
      · rintro (h | ⟨c, (⟨h, _⟩ | h)⟩)
        · exact .inl (.inr h)
        · exact .inl (.inl h)
        · exact .inr ⟨c, h⟩
      · rintro ((h | h) | ⟨c, h⟩)
        · exact .inr ⟨_, .inl ⟨h, rfl⟩⟩
        · exact .inl h
        · exact .inr ⟨c, .inr h⟩
    · rename_i hk
      rw [cells_mem]
      have hk' : kd ≠ .cell := by simpa using hk
      simp only [List.mem_cons, Prod.mk.injEq]
      constructor
      · rintro (h | h)
        · exact .inl (.inr h)
        · exact .inr h
      · rintro ((⟨_, h⟩ | h) | h)
        · exact absurd h.symm hk'
        · exact .inl h
        · exact .inr h
theorem cells_nodup : ∀ {names : List (Str × NameKind)} {k : Nat} {acc : List (Str × Addr)}, (names.map (·.1)).Nodup → (acc.map (·.1)).Nodup → (∀ p ∈ acc, p.1 ∉ names.map (·.1)) → ((cellsFrom k names acc).map (·.1)).Nodup
  | [], k, acc, _, h, _ => by simpa [cellsFrom] using h
  | (m, kd) :: r, k, acc, h1, h2, h3 => by
    simp only [List.map_cons] at h1 h3
    obtain ⟨hm, h1⟩ := List.nodup_cons.mp h1
    unfold cellsFrom
    split
    · refine cells_nodup h1 ?_ fun p hp => ?_
      · rw [List.map_cons]
        refine List.nodup_cons.mpr ⟨fun q => ?_, h2⟩
        obtain ⟨p, hp, e⟩ := List.mem_map.mp q
        exact h3 p hp (by rw [e]; exact List.mem_cons_self)
      · rcases List.mem_cons.mp hp with rfl | hp
        · exact hm
        · exact fun q => h3 p hp (List.mem_cons_of_mem _ q)
    · exact cells_nodup h1 h2 fun p hp q => h3 p hp (List.mem_cons_of_mem _ q)

section
variable {prog : Program} {w : World} {B : Heap} {Δ : Nat → Option Fn} {fnm : Nat → Option Str} {con : Str → Option Dat} {mg mb : Str → Option Value} {sub : Nat → Nat → Bool}

theorem RelVs.get {h : Heap} {π β : List Addr} {σ : Sto} : ∀ {vs : List Val} {us : List Value} {i : Nat} {v : Val}, RelVs h π β σ vs us → vs[i]? = some v → ∃ u, us[i]? = some u ∧ RelV h π β σ v u
  | v :: vs, u :: us, 0, _, r, e => by simp at e; subst e; exact ⟨u, rfl, r.1⟩
  | v :: vs, u :: us, i + 1, _, r, e => by
    obtain ⟨u', h1, h2⟩ := RelVs.get (i := i) r.2 (by simpa using e)
    exact ⟨u', by simpa using h1, h2⟩
  | [], us, i, _, r, e => by simp at e
  | _ :: _, [], i, _, r, e => r.elim
theorem RelVs.length {h : Heap} {π β : List Addr} {σ : Sto} : ∀ {vs : List Val} {us : List Value}, RelVs h π β σ vs us → vs.length = us.length
  | [], [], _ => rfl
  | v :: vs, u :: us, r => by simp [RelVs.length r.2]
  | [], _ :: _, r => r.elim
  | _ :: _, [], r => r.elim

/-- what a call leaves, seen by its caller -/
theorem ok_back {env : Env} {s s₁ s' : Shared} {σ σ₂ : Sto} {π β β₂ : List Addr} (S : Sim B π s.heap σ β) (hsh : ∃ h tk, s₁ = { s with heap := h, toks := tk }) (hk : ∀ b o, s.heap.get? b = some o → s₁.heap.get? b = some o) (hown : ∀ b ∈ own env, s.heap.get? b = none)
    (x : SOk B π env s₁ s' σ σ₂ β β₂) : SeqKeep (grow π σ₂ β₂) (grow π (σ₂.take σ.length) β) s'.heap s'.heap ∧ ∀ L, Ok B π L β s s' σ (σ₂.take σ.length) := by
  obtain ⟨βx, rfl, hx⟩ := x.ext
  have hlen : σ.length = β.length := S.len.symm
  have hlen2 : σ.length ≤ σ₂.length := by have := x.sim.len; simp at this; omega
  have hg : ∀ b, b ∈ growS (σ₂.take σ.length) β → b ∈ growS σ₂ (β ++ βx) := fun b hb => by
    obtain ⟨k, l, h1, h2⟩ := mem_growS.mp hb
    have hk2 : k < β.length := (List.getElem?_eq_some_iff.mp h2).1
    rw [List.getElem?_take_of_lt (by omega)] at h1
    exact mem_growS.mpr ⟨k, l, h1, by rw [List.getElem?_append_left hk2]; exact h2⟩
  have sk : SeqKeep (grow π σ₂ (β ++ βx)) (grow π (σ₂.take σ.length) β) s'.heap s'.heap := fun b o xs n ho hd hb => ⟨fun q => hb (mem_grow.mpr ((mem_grow.mp q).imp id (hg b))), ho⟩
  have S' : Sim B π s'.heap (σ₂.take σ.length) β := by
    refine ⟨by simp; omega, S.nodup, x.sim.base, S.new, fun k e b h1 h2 => ?_, fun b hb => ⟨(x.sim.priv b hb).1, (S.priv b hb).2⟩⟩
    have hk2 : k < β.length := (List.getElem?_eq_some_iff.mp h2).1
    rw [List.getElem?_take_of_lt (by omega)] at h1
    obtain ⟨vs, hp, hr⟩ := x.sim.ent k e b h1 (by rw [List.getElem?_append_left hk2]; exact h2)
    exact ⟨vs, hp, Reps.mono sk hr⟩
  have keep : ∀ b o, s.heap.get? b = some o → b ∉ growS σ β → Kept s'.heap b o := fun b o q hb => x.keep b o (hk b o q) hb fun z => by rw [hown b z] at q; cases q
  refine ⟨sk, fun L => ⟨?_, S', fun b o q hb _ => keep b o q hb, fun m hm => ?_, fun b hb => ?_⟩⟩
  · obtain ⟨h1, t1, rfl⟩ := hsh; obtain ⟨h2, t2, rfl⟩ := x.sh; exact ⟨h2, t2, rfl⟩
  · exact Kept.ns hm fun o q => keep L o q fun z => ns_not_grow S hm (growS_sub z)
  · rcases x.mon b (hg b hb) with h | h
    · exact h
    · have hb' : b ∈ β := growS_sub hb
      have := At.sto_alive S hb'
      obtain ⟨o, ho⟩ := Option.isSome_iff_exists.mp this
      rw [hk b o ho] at h; cases h


/-- into a call -/
theorem call_enter (W : Wd prog w B Δ fnm con mg mb) {A : Around} {f : Nat} {x : Str} {args : List Val} {vals : List Value} {σ : Sto} {π β : List Addr} {s : Shared} {E : Value → Shared → Prop} {Q : Value → Shared → Prop} {a : Addr} {fn : Fn} (hroom : A.depth < recursionLimit)
    (hf : fnm f = some x) (hx : mg x = some (.ref a)) (hfn : Δ f = some fn) (harity : args.length = fn.arity) (hrel : RelVs s.heap π β σ args vals) (S : Sim B π s.heap σ β) (hle : B.objs.size ≤ s.heap.objs.size)
    (K : ∀ (env : Env) (s₁ : Shared) (dr : DefRec) (vars : List Str), dr.name = x →
      (if isSp f then chkTB ⟨dr.scope, fun i => vars[i]?, fnm, con, false⟩ fn.body dr.body else chkSs ⟨dr.scope, fun i => vars[i]?, fnm, con, dr.name == ("law" : Str)⟩ fn.body dr.body) = true →
      (∀ (con' : Con) (top : Bool), con'.tab = con → (top = true → env = con'.env0 ∧ con'.lone = true) → At fnm con' B π ⟨dr.scope, fun i => vars[i]?, fnm, con, top⟩ env s₁ (args.map some ++ List.replicate (fn.slots - fn.arity) none) σ β) →
      (∀ top, Named ⟨dr.scope, fun i => vars[i]?, fnm, con, top⟩ env) → (∃ h tk, s₁ = { s with heap := h, toks := tk }) → (∀ b o, s.heap.get? b = some o → s₁.heap.get? b = some o) → (∀ b ∈ own env, s.heap.get? b = none) → env.frame = some env.locals → env.scope.kind = .function → B.objs.size ≤ env.locals →
      wpAny (model prog w) (A.deeper env) (execs dr.body env) (fun fl s' => Q (match fl with | .ret v => v | _ => .none) s') (fun e s' => wpAny (model prog w) (A.deeper env) (leaving env e) (fun _ s'' => E e s'') (fun e' s'' => E e' s'') s') s₁) :
    wpAny (model prog w) A (call (.ref a) vals) Q E s := by
  obtain ⟨fn', vars, dr, ad, o, pm, code, doc, e1, e2, e3, e4, e5, e6, e7⟩ := W.fn f x hf
  have ead : a = ad := by rw [hx] at e2; injection e2 with e2; injection e2
  subst ead
  have efn : fn' = fn := by rw [hfn] at e1; injection e1 with e1; exact e1.symm
  subst efn
  simp only [chkFn, Bool.and_eq_true, List.isEmpty_iff, Option.isNone_iff_eq_none, decide_eq_true_eq, Bool.not_eq_true', beq_iff_eq, List.all_eq_true, Bool.or_eq_true, beq_eq_false_iff_ne, List.contains_iff_mem] at e6
  obtain ⟨⟨⟨⟨⟨⟨⟨⟨⟨⟨⟨⟨⟨⟨⟨⟨⟨k1, k2⟩, k3⟩, k4⟩, k5⟩, k6⟩, k7⟩, k8⟩, k9⟩, k10⟩, k11⟩, k12⟩, k13⟩, k14⟩, k15⟩, k16⟩, k17⟩, k18⟩ := e6
  have hlen := hrel.length
  have hnames : (dr.params.args.map (·.arg)) = vars.take fn'.arity := k10
  have hnd : (dr.params.args.map (·.arg)).Nodup := by rw [hnames]; exact k11.sublist (List.take_sublist _ _)
  have hbind := bind_plain (name := dr.name) (body := dr.body) (scope := dr.scope) (pm := pm) (cd := code) (doc := doc) (vals := vals) k1 k2 k3 k4 (by omega) hnd
  have ho : s.heap.get? a = some o := S.base _ _ e3
  have hcells := fun (n : Str) => cells_mem (names := dr.scope.names) (k := s.heap.objs.size + 1) (acc := []) (n := n)
  have hcnd := cells_nodup (names := dr.scope.names) (k := s.heap.objs.size + 1) (acc := []) k15 (by simp) (by simp)
  have hclook : ∀ n, dr.scope.names.lookup n = some .cell → ∃ c, (cellsFrom (s.heap.objs.size + 1) dr.scope.names []).lookup n = some c := fun n hn => by
    obtain ⟨c, hc⟩ := (hcells n).mpr (.inl (mem_of_lookup hn))
    exact ⟨c, lookup_mem_nodup hcnd hc⟩
  refine wpAny_call ?_
  refine codeAny_call_cells (fd := Calls.docDef dr.name dr.params dr.body dr.scope pm code doc) hroom ho e4 (W.nolimit.keeps S.base) (e5.keeps S.base) rfl hbind rfl (fun y hy => ?_) (fun s₁ X => ?_) k12 k13 k14
  · have hy1 : y.1 ∈ vars := by
      have := zip_fst hy
      rw [hnames] at this
      exact List.mem_of_mem_take this
    rcases k16 _ hy1 with h | h
    · exact .inl h
    · obtain ⟨c, hc⟩ := hclook _ h
      exact .inr ⟨h, by show (List.lookup y.1 (cellsFrom (s.heap.objs.size + 1) dr.scope.names [])).isSome = true; rw [hc]; rfl⟩
  · have hfra : (callEnvC (Calls.docDef dr.name dr.params dr.body dr.scope pm code doc) s.heap.objs.size a).frame = some (callEnvC (Calls.docDef dr.name dr.params dr.body dr.scope pm code doc) s.heap.objs.size a).locals := rfl
    generalize hE : callEnvC (Calls.docDef dr.name dr.params dr.body dr.scope pm code doc) s.heap.objs.size a = env at X hfra ⊢
    have hloc : env.locals = s.heap.objs.size := by rw [← hE]; rfl
    have hcel : env.cells = cellsFrom (s.heap.objs.size + 1) dr.scope.names [] := by rw [← hE]; rfl
    have hsc : env.scope = dr.scope := by rw [← hE]; rfl
    have hgl : env.globals = mainGlobals := by rw [← hE]; rfl
    have hbu : env.builtins = builtinsNs := by rw [← hE]; rfl
    have hkind : ∀ y, env.kindOf y = dr.scope.names.lookup y := fun y => by rw [← hsc]; rfl
    have hfresh : env.locals ∉ β := fun q => by have := ltSim S q; rw [hloc] at this; omega
    have hkeep := X.toInCall.keep
    have S₁ : Sim B π s₁.heap σ β := S.keeps hkeep
    have sk₁ : SeqKeep (grow π σ β) (grow π σ β) s.heap s₁.heap := fun b o xs n ho hd ha => ⟨ha, hkeep b o ho⟩
    have hown : ∀ b ∈ own env, s.heap.get? b = none := fun b hb => by
      unfold own at hb
      rcases List.mem_cons.mp hb with rfl | hb
      · rw [hloc]; exact Heap.get?_none_of_le (Nat.le_refl _)
      · obtain ⟨p, hp, rfl⟩ := List.mem_map.mp hb
        have := X.above p.1 p.2 hp
        rw [hloc] at this
        exact Heap.get?_none_of_le (Nat.le_of_lt this)
    have hρ : ∀ (i : Nat) (v : Val), (args.map some ++ List.replicate (fn'.slots - fn'.arity) none)[i]? = some (some v) → args[i]? = some v := fun i v h => by
      by_cases hi : i < args.length
      · rw [List.getElem?_append_left (by simpa using hi), List.getElem?_map] at h
        cases hq : args[i]? with
        | none => rw [hq] at h; cases h
        | some z => rw [hq] at h; simp at h; rw [h]
      · rw [List.getElem?_append_right (by simp; omega), List.getElem?_replicate] at h
        split at h <;> simp at h
    have hnm : ∀ (i : Nat) (y : Str) (v : Val), vars[i]? = some y → args[i]? = some v → (dr.params.args.map (·.arg))[i]? = some y := fun i y v h1 h2 => by
      rw [hnames, List.getElem?_take_of_lt]
      · exact h1
      · have := (List.getElem?_eq_some_iff.mp h2).1; omega
    refine K env s₁ dr vars e7 k18 (fun con' top hct htop => ?_) (fun top p hp => ?_) X.toInCall.same hkeep hown hfra (by rw [hsc]; exact k14) (by rw [hloc]; exact hle)
    · refine ⟨rfl, ⟨hct.symm, htop⟩, ⟨hsc, k14, hgl, hbu, X.apart, fun p hp q => ?_, fun i j y h1 h2 => ?_⟩, ⟨⟨_, X.toInCall.ns, fun i y v h1 h2 h3 => ?_⟩, fun i y h1 h2 => ?_, ⟨hfresh, by rw [hloc]; exact hle⟩, fun p hp => ?_⟩, S₁⟩
      · have := X.above p.1 p.2 hp
        exact absurd q (Nat.ne_of_gt this)
      · have hi := (List.getElem?_eq_some_iff.mp h1).1
        exact (List.getElem?_inj hi k11).mp (h1.trans h2.symm)
      · have h4 := hρ i v h3
        obtain ⟨u, hu, ru⟩ := hrel.get h4
        exact ⟨u, bindL_get hnd (hnm i y v h1 h4) hu (by rw [hkind]; exact h2), ru.seq sk₁⟩
      · obtain ⟨c, hc⟩ := hclook y h2
        refine ⟨c, _, by rw [hcel]; exact hc, X.cell y c (by rw [hcel]; exact hc), fun v h3 => ?_⟩
        have h4 := hρ i v h3
        obtain ⟨u, hu, ru⟩ := hrel.get h4
        exact ⟨u, bindC_get hnd (hnm i y v h1 h4) hu (by rw [hkind, show dr.scope.names.lookup y = some .cell from h2]; simp), ru.seq sk₁⟩
      · have := X.above p.1 p.2 hp
        rw [hloc] at this
        exact Nat.le_trans hle (Nat.le_of_lt this)
    · rw [hcel] at hp
      have hm : (p.1, NameKind.cell) ∈ dr.scope.names := by
        rcases (hcells p.1).mp ⟨p.2, hp⟩ with h | ⟨c, h⟩
        · exact h
        · simp at h
      have hv : p.1 ∈ vars := (k17 _ hm).resolve_left fun q => q rfl
      obtain ⟨i, hi, e⟩ := List.mem_iff_getElem.mp hv
      exact ⟨i, by show vars[i]? = _; rw [List.getElem?_eq_getElem hi, e], lookup_mem_nodup k15 hm, by rw [hcel]; exact lookup_mem_nodup hcnd hp⟩
end
end Mine

/-! ## MRun -/
namespace Mine
open PySem PyProof.Rows

noncomputable def Room (n : Nat) (A : Around) (l : List Env) : Prop := A.handled = none ∧ A.depth + n < recursionLimit ∧ A.units + 3 * n + 1000 < cLine ∧ A.frames = some l

section
variable {prog : Program} {w : World} {B : Heap} {Δ : Nat → Option Fn} {fnm : Nat → Option Str} {con : Str → Option Dat} {mg mb : Str → Option Value} {sub : Nat → Nat → Bool}

theorem tryc_ret {C : Oracle} {f : Nat} {as : IEs} {hs : List Hnd} {ρ ρ' : Loc} {σ σ' : Sto} : ex sub C (.tryc f as hs) ρ σ ≠ .next ρ' σ' := fun h => by
  rw [exq_tryc] at h
  cases hq : evArgs sub C as ρ σ with
  | exn => rw [hq] at h; cases h
  | bad => rw [hq] at h; cases h
  | val vs σ₁ =>
    rw [hq] at h
    simp only [Out.stmK_val] at h
    split at h
    · split at h
      · unfold ofHnd at h
        split at h
        · split at h <;> cases h
        · cases h
      · cases h
    · cases h

theorem chkT1_eq {cx : Cx} {ss : ISs} {xs : List Stmt} (h : chkT1 cx ss xs = true) : ∃ f as hs rest y ys, ss = .cons (.tryc f as hs) rest ∧ xs = y :: ys ∧ chkT cx f as hs y = true := by
  replace h := any_ex h
  obtain ⟨⟨s, r⟩, h1, h⟩ := h
  replace h := any_ex h
  obtain ⟨y, h2, h⟩ := h
  replace h := any_ex h
  obtain ⟨⟨f, as, hs⟩, h3, h⟩ := h
  cases ss with
  | nil => cases h1
  | cons s' r' =>
    cases h1
    cases s <;> first | exact nos h3 | skip
    cases h3
    cases xs with
    | nil => cases h2
    | cons z zs => cases h2; exact ⟨_, _, _, _, _, _, rfl, rfl, h⟩
theorem chkTB_eq {cx : Cx} {ss : ISs} {xs : List Stmt} (h : chkTB cx ss xs = true) : chkT1 cx ss xs = true ∨ ∃ i u r t zs p ys, ss = .cons (.ite (.var i) u .nil) r ∧ xs = .If t zs [] p :: ys ∧ chkE cx (.var i) t = true ∧ chkT1 cx u zs = true ∧ chkT1 cx r ys = true := by
  rcases Bool.or_eq_true_iff.mp h with h | h
  · exact .inl h
  · refine .inr ?_
    replace h := any_ex h
    obtain ⟨⟨s, r⟩, h1, h⟩ := h
    replace h := any_ex h
    obtain ⟨y, h2, h⟩ := h
    replace h := any_ex h
    obtain ⟨⟨c, u, v⟩, h3, h⟩ := h
    simp only [Bool.and_eq_true] at h
    obtain ⟨⟨h4, h5⟩, h6⟩ := h
    replace h5 := any_ex h5
    obtain ⟨i, h7, h5⟩ := h5
    replace h5 := any_ex h5
    obtain ⟨⟨t, zs, ys⟩, h8, h5⟩ := h5
    obtain ⟨p, rfl⟩ := asIf_eq h8
    simp only [Bool.and_eq_true, List.isEmpty_iff] at h5
    obtain ⟨⟨h9, rfl⟩, h10⟩ := h5
    cases ss with
    | nil => cases h1
    | cons s' r' =>
      cases h1
      cases s <;> first | exact nos h3 | skip
      cases h3
      cases c <;> first | exact nos h7 | skip
      cases h7
      cases v with
      | cons _ _ => cases h4
      | nil =>
        cases xs with
        | nil => cases h2
        | cons z zs' => cases h2; exact ⟨_, _, _, _, _, _, _, rfl, rfl, h9, h10, h6⟩

structure CallOk (prog : Program) (w : World) (B : Heap) (Δ : Nat → Option Fn) (fnm : Nat → Option Str) (mg : Str → Option Value) (sub : Nat → Nat → Bool) (n : Nat) : Prop where
  val : ∀ (A : Around) (l : List Env), Room n A l → ∀ (f : Nat) (x : Str) (args : List Val) (vals : List Value) (σ σ' : Sto) (d : Dat) (π β : List Addr) (s : Shared) (E : Value → Shared → Prop) (a : Addr),
    fnm f = some x → mg x = some (.ref a) → (l = [] ∨ x ≠ ("law" : Str)) → (isSp f = true → ∃ e m, l = [e] ∧ e.scope.kind ≠ .module ∧ e.frame = some e.locals ∧ B.objs.size ≤ e.locals ∧ s.heap.Ns e.locals m) → callF sub Δ n f args σ = .val d σ' →
    RelVs s.heap π β σ args vals → Sim B π s.heap σ β → B.objs.size ≤ s.heap.objs.size → wpAny (model prog w) A (call (.ref a) vals) (fun v' s' => Rep s'.heap (grow π σ' β) d v' ∧ ∀ L, Ok B π L β s s' σ σ') E s
  exn : ∀ (A : Around) (l : List Env), Room n A l → ∀ (f : Nat) (x : Str) (args : List Val) (vals : List Value) (σ σ' : Sto) (c : Nat) (π β : List Addr) (s : Shared) (E : Value → Shared → Prop) (a : Addr) (Q : Value → Shared → Prop) (G : Heap), fnm f = some x → mg x = some (.ref a) → x ≠ ("law" : Str) → isSp f = false → callF sub Δ n f args σ = .exn c σ' →
    RelVs s.heap π β σ args vals → Sim B π s.heap σ β → B.objs.size ≤ s.heap.objs.size → GC B G l σ β s.heap → (∀ a' h' tk, Fly G l (.ref (cad mg c)) [] s.heap a' h' → E (.ref a') { s with heap := h', toks := tk }) → wpAny (model prog w) A (call (.ref a) vals) Q E s

theorem hyp_of (W : Wd prog w B Δ fnm con mg mb) (K : ClsOk B mg) {n : Nat} (ih : CallOk prog w B Δ fnm mg sub n) {A : Around} {l : List Env} (hR : Room (n + 1) A l) {env : Env} (hf : env.frame = some env.locals) (hk : env.scope.kind = .function) (hL : B.objs.size ≤ env.locals) :
    HypX prog w (A.deeper env) B Δ fnm ⟨con, env, l.isEmpty⟩ mg mb (callF sub Δ n) := by
  have hR' : Room n (A.deeper env) (env :: l) := ⟨hR.1, by have := hR.2.1; show A.depth + 1 + n < _; omega, by have := hR.2.2.1; show A.units + 3 + 3 * n + 1000 < _; omega, Around.frames_deeper hR.2.2.2⟩
  have hkm : env.scope.kind ≠ .module := by rw [hk]; decide
  refine ⟨⟨W, hR.1, by have := hR'.2.2.1; omega, fun f x args vals σ σ' d π β s E a h1 h2 h3 h4 h5 h6 h7 h8 => ih.val (A.deeper env) (env :: l) hR' f x args vals σ σ' d π β s E a h1 h2 (.inr h3) (fun hs => ?_) h5 h6 h7 h8⟩, K, fun f x args vals σ σ' c π β s E a Q G l' h1 h2 h3 h4 h5 h6 h7 h8 h9 h10 h11 => ?_⟩
  · obtain ⟨q1, m, q2⟩ := h4 hs
    have : l = [] := List.isEmpty_iff.mp q1
    subst this
    exact ⟨env, m, rfl, hkm, hf, hL, q2⟩
  · rw [hR'.2.2.2] at h9
    cases h9
    exact ih.exn (A.deeper env) (env :: l) hR' f x args vals σ σ' c π β s E a Q G h1 h2 h3 h4 h5 h6 h7 h8 h10 h11

theorem call_val (W : Wd prog w B Δ fnm con mg mb) (K : ClsOk B mg) {n : Nat} (ih : CallOk prog w B Δ fnm mg sub n) (A : Around) (l : List Env) (hR : Room (n + 1) A l) (f : Nat) (x : Str) (args : List Val) (vals : List Value) (σ σ' : Sto) (d : Dat) (π β : List Addr) (s : Shared) (E : Value → Shared → Prop) (a : Addr)
    (hf : fnm f = some x) (hx : mg x = some (.ref a)) (hlaw : l = [] ∨ x ≠ ("law" : Str)) (hS : isSp f = true → ∃ e m, l = [e] ∧ e.scope.kind ≠ .module ∧ e.frame = some e.locals ∧ B.objs.size ≤ e.locals ∧ s.heap.Ns e.locals m) (hcall : callF sub Δ (n + 1) f args σ = .val d σ')
    (hrel : RelVs s.heap π β σ args vals) (S : Sim B π s.heap σ β) (hle : B.objs.size ≤ s.heap.objs.size) : wpAny (model prog w) A (call (.ref a) vals) (fun v' s' => Rep s'.heap (grow π σ' β) d v' ∧ ∀ L, Ok B π L β s s' σ σ') E s := by
  simp only [callF] at hcall
  cases hfn : Δ f with
  | none => rw [hfn] at hcall; cases hcall
  | some fn =>
    rw [hfn] at hcall
    simp only at hcall
    split at hcall
    · rename_i harity
      refine call_enter W (by have := hR.2.1; omega) hf hx hfn harity hrel S hle fun env s₁ dr vars e7 k18 at₀ hNamed hsame hkeep hown hfra hkind hLB => ?_
      have HX := hyp_of (sub := sub) W K ih hR hfra hkind hLB
      -- what is left of the body's end
      have fin : ∀ {cx : Cx} {fl : Flow} {s' : Shared}, SPost fnm ⟨con, env, l.isEmpty⟩ B π cx env s₁ σ β (exs sub (callF sub Δ n) fn.body (args.map some ++ List.replicate (fn.slots - fn.arity) none) σ) fl s' →
          Rep s'.heap (grow π σ' β) d (match fl with | .ret v => v | _ => .none) ∧ ∀ L, Ok B π L β s s' σ σ' := fun {cx fl s'} q => by
        cases hq : exs sub (callF sub Δ n) fn.body (args.map some ++ List.replicate (fn.slots - fn.arity) none) σ with
        | next ρ' σ₂ =>
          rw [hq] at q hcall
          cases hcall
          obtain ⟨rfl, β₂, a₂, x₂⟩ := q
          obtain ⟨sk, ok⟩ := ok_back S hsame hkeep hown x₂
          exact ⟨rfl, ok⟩
        | ret d₂ σ₂ =>
          rw [hq] at q hcall
          cases hcall
          obtain ⟨v, β₂, rfl, r₂, x₂⟩ := q
          obtain ⟨sk, ok⟩ := ok_back S hsame hkeep hown x₂
          exact ⟨Rep.mono sk r₂, ok⟩
        | exn => rw [hq] at hcall; cases hcall
        | bad => rw [hq] at hcall; cases hcall
      have hfin : fineS (exs sub (callF sub Δ n) fn.body (args.map some ++ List.replicate (fn.slots - fn.arity) none) σ) := by
        cases hq : exs sub (callF sub Δ n) fn.body (args.map some ++ List.replicate (fn.slots - fn.arity) none) σ with
        | next => trivial
        | ret => trivial
        | exn => rw [hq] at hcall; cases hcall
        | bad => rw [hq] at hcall; cases hcall
      cases hsp : isSp f with
      | false =>
        simp only [hsp, Bool.false_eq_true, if_false] at k18
        have at₁ := at₀ ⟨con, env, l.isEmpty⟩ (dr.name == ("law" : Str)) rfl fun h => ⟨rfl, by
          rcases hlaw with h' | h'
          · rw [h']; rfl
          · exact absurd (e7 ▸ beq_iff_eq.mp h) h'⟩
        exact wpAny_mono (exs_sound HX.H fn.body (hNamed _) at₁ k18 hfin) (fun fl s' q => fin q) fun _ _ z => z
      | true =>
        simp only [hsp, if_true] at k18
        have at₁ := at₀ ⟨con, env, l.isEmpty⟩ false rfl (fun h => nomatch h)
        obtain ⟨e, m, rfl, q2, q3, q4, q5⟩ := hS hsp
        have hfr : (A.deeper env).frames = some (env :: [e]) := Around.frames_deeper hR.2.2.2
        have hout : ∀ e' ∈ [e], e'.scope.kind ≠ .module ∧ ∃ L m, e'.frame = some L ∧ B.objs.size ≤ L ∧ L ∉ own env ∧ s₁.heap.Ns L m := fun e' he' => by
          rcases List.mem_cons.mp he' with rfl | h
          · exact ⟨q2, e'.locals, m, q3, q4, (fun q => by obtain ⟨o, _, _, ho, _⟩ := q5; rw [hown _ q] at ho; cases ho), q5.keeps hkeep⟩
          · exact nomatch h
        generalize hbody : fn.body = bd at k18 hfin fin
        generalize hdb : dr.body = xs at k18 ⊢
        rcases chkTB_eq k18 with k18 | ⟨i, u, r, t, zs, p, ys, rfl, rfl, kv, ku, kr⟩
        · obtain ⟨g, as, hs, rest, y, ys, rfl, rfl, k18⟩ := chkT1_eq k18
          rw [exq_cons] at hfin fin
          cases hq : ex sub (callF sub Δ n) (.tryc g as hs) (args.map some ++ List.replicate (fn.slots - fn.arity) none) σ with
          | next => exact absurd hq tryc_ret
          | exn => rw [hq] at hfin; exact hfin.elim
          | bad => rw [hq] at hfin; exact hfin.elim
          | ret d₂ σ₂ =>
            rw [hq] at fin
            refine wpAny_execs_cons (wpAny_mono (try_sound HX (hNamed _) at₁ k18 hq hfr hfra hout) (fun fl s' q => ?_) fun _ _ z => z)
            have := fin q
            obtain ⟨v, β₂, rfl, _⟩ := q
            exact this
        · obtain ⟨g, as, hs, rest, z, zs, rfl, rfl, kt⟩ := chkT1_eq ku
          obtain ⟨g', as', hs', rest', y', ys, rfl, rfl, k2⟩ := chkT1_eq kr
          have hB : fineS (ex sub (callF sub Δ n) (.ite (.var i) (.cons (.tryc g as hs) rest) .nil) (args.map some ++ List.replicate (fn.slots - fn.arity) none) σ) := by
            rw [exq_cons] at hfin
            rcases bind_fine hfin with ⟨_, _, h, _⟩ | ⟨_, _, h, _⟩ <;> (rw [h]; trivial)
          rw [exq_ite] at hB
          obtain ⟨b, σ₂, h1, h2⟩ := stm_fine hB
          have hex : ex sub (callF sub Δ n) (.ite (.var i) (.cons (.tryc g as hs) rest) .nil) (args.map some ++ List.replicate (fn.slots - fn.arity) none) σ = _ := (exq_ite sub (callF sub Δ n) _ σ _ _ _).trans h2
          rw [exq_cons, hex] at hfin fin
          refine wpAny_execs_cons (wpAny_If (wpAny_mono (evB_sound HX.H (.var i) at₁ kv h1) (fun b' s₂ r => ?_) fun _ _ z => z))
          obtain ⟨rfl, ok⟩ := r
          have at₂ := at₁.ok ok
          have x₂ := at₁.soK ok
          have hout₂ : ∀ e' ∈ [e], e'.scope.kind ≠ .module ∧ ∃ L m, e'.frame = some L ∧ B.objs.size ≤ L ∧ L ∉ own env ∧ s₂.heap.Ns L m := fun e' he' => by
            obtain ⟨g1, L, m', g2, g3, g4, g5⟩ := hout e' he'
            exact ⟨g1, L, m', g2, g3, g4, Kept.ns g5 fun o ho => x₂.keep L o ho (fun q => ns_not_grow at₁.S g5 (growS_sub q)) g4⟩
          cases b' with
          | true =>
            simp only [if_true] at hfin fin ⊢
            rw [exq_cons] at hfin fin
            cases hq : ex sub (callF sub Δ n) (.tryc g as hs) (args.map some ++ List.replicate (fn.slots - fn.arity) none) σ₂ with
            | next => exact absurd hq tryc_ret
            | exn => rw [hq] at hfin; exact hfin.elim
            | bad => rw [hq] at hfin; exact hfin.elim
            | ret d₂ σ₃ =>
              rw [hq] at fin
              refine wpAny_execs_cons (wpAny_mono (try_sound HX (hNamed _) at₂ kt hq hfr hfra hout₂) (fun fl s' q => ?_) fun _ _ z => z)
              have := fin (SPost.after x₂ q)
              obtain ⟨v, β₂, rfl, _⟩ := q
              exact this
          | false =>
            simp only [Bool.false_eq_true, if_false] at hfin fin ⊢
            refine wpAny_execs_nil ?_
            have e0 : exs sub (callF sub Δ n) .nil (args.map some ++ List.replicate (fn.slots - fn.arity) none) σ₂ = .next (args.map some ++ List.replicate (fn.slots - fn.arity) none) σ₂ := rfl
            rw [e0, SOut.bind_next, exq_cons] at hfin fin
            cases hq : ex sub (callF sub Δ n) (.tryc g' as' hs') (args.map some ++ List.replicate (fn.slots - fn.arity) none) σ₂ with
            | next => exact absurd hq tryc_ret
            | exn => rw [hq] at hfin; exact hfin.elim
            | bad => rw [hq] at hfin; exact hfin.elim
            | ret d₂ σ₃ =>
              rw [hq] at fin
              refine wpAny_execs_cons (wpAny_mono (try_sound HX (hNamed _) at₂ k2 hq hfr hfra hout₂) (fun fl s' q => ?_) fun _ _ z => z)
              have := fin (SPost.after x₂ q)
              obtain ⟨v, β₂, rfl, _⟩ := q
              exact this
    · cases hcall

theorem call_exn (W : Wd prog w B Δ fnm con mg mb) (K : ClsOk B mg) {n : Nat} (ih : CallOk prog w B Δ fnm mg sub n) (A : Around) (l : List Env) (hR : Room (n + 1) A l) (f : Nat) (x : Str) (args : List Val) (vals : List Value) (σ σ' : Sto) (c : Nat) (π β : List Addr) (s : Shared) (E : Value → Shared → Prop) (a : Addr) (Q : Value → Shared → Prop) (G : Heap)
    (hf : fnm f = some x) (hx : mg x = some (.ref a)) (hlaw : x ≠ ("law" : Str)) (hsp : isSp f = false) (hcall : callF sub Δ (n + 1) f args σ = .exn c σ')
    (hrel : RelVs s.heap π β σ args vals) (S : Sim B π s.heap σ β) (hle : B.objs.size ≤ s.heap.objs.size) (g : GC B G l σ β s.heap) (hE : ∀ a' h' tk, Fly G l (.ref (cad mg c)) [] s.heap a' h' → E (.ref a') { s with heap := h', toks := tk }) : wpAny (model prog w) A (call (.ref a) vals) Q E s := by
  simp only [callF] at hcall
  cases hfn : Δ f with
  | none => rw [hfn] at hcall; cases hcall
  | some fn =>
    rw [hfn] at hcall
    simp only at hcall
    split at hcall
    · rename_i harity
      refine call_enter W (by have := hR.2.1; omega) hf hx hfn harity hrel S hle fun env s₁ dr vars e7 k18 at₀ hNamed hsame hkeep hown hfra hkind hLB => ?_
      have HX := hyp_of (sub := sub) W K ih hR hfra hkind hLB
      simp only [hsp, Bool.false_eq_true, if_false] at k18
      have htop : (dr.name == ("law" : Str)) = false := by rw [e7]; simpa using hlaw
      rw [htop] at k18
      have at₁ := at₀ ⟨con, env, l.isEmpty⟩ false rfl (fun h => nomatch h)
      have hfr : (A.deeper env).frames = some (env :: l) := Around.frames_deeper hR.2.2.2
      have gnone : ∀ b, s.heap.get? b = none → G.get? b = none := fun b hb => by
        cases e : G.get? b with
        | none => rfl
        | some o => have := g.stay b o e; rw [hb] at this; cases this
      cases hq : exs sub (callF sub Δ n) fn.body (args.map some ++ List.replicate (fn.slots - fn.arity) none) σ with
      | next => rw [hq] at hcall; cases hcall
      | ret => rw [hq] at hcall; cases hcall
      | bad => rw [hq] at hcall; cases hcall
      | exn c' ρ' σ₂ =>
        rw [hq] at hcall
        cases hcall
        have gs : GS B G env l σ β s₁.heap := by
          refine ⟨⟨fun b o e => hkeep b o (g.stay b o e), g.gro, g.dic, fun e he => ?_⟩, fun b hb => gnone b (hown b hb), hfra, fun e he L hL q => ?_⟩
          · rcases List.mem_cons.mp he with rfl | he
            · obtain ⟨m, hm⟩ := at₁.ns
              exact ⟨by rw [hkind]; decide, _, m, hfra, gnone _ (hown _ List.mem_cons_self), hm⟩
            · obtain ⟨q1, L, m, q2, q3, q4⟩ := g.out e he
              exact ⟨q1, L, m, q2, q3, q4.keeps hkeep⟩
          · obtain ⟨q1, L', m, q2, q3, q4⟩ := g.out e he
            rw [hL] at q2; cases q2
            obtain ⟨o, _, _, ho, _⟩ := q4
            rw [hown _ q] at ho; cases ho
        refine exs_x HX fn.body rfl (hNamed _) at₁ k18 hq hfr gs fun a' h tk thr => ?_
        refine leave_thr (s := { s₁ with heap := h, toks := tk }) hfr hfra thr fun h' fly => ?_
        obtain ⟨h1, t1, rfl⟩ := hsame
        exact hE a' h' tk ⟨fly.stay, fly.new, fly.frs, fly.way, fun b o es ep e hd _ => fly.tab b o es ep (hkeep b o e) hd fun q => by rw [hown b q] at e; cases e⟩
    · cases hcall

theorem call_ok (W : Wd prog w B Δ fnm con mg mb) (K : ClsOk B mg) : ∀ n, CallOk prog w B Δ fnm mg sub n
  | 0 => ⟨fun A l hR f x args vals σ σ' d π β s E a h1 h2 h3 h4 h5 => (nomatch h5), fun A l hR f x args vals σ σ' c π β s E a Q G h1 h2 h3 h4 h5 => (nomatch h5)⟩
  | n + 1 => ⟨call_val W K (call_ok W K n), call_exn W K (call_ok W K n)⟩
end
end Mine

/-! ## MOwn -/
namespace Mine
open PySem PyProof.Rows

/-! ## the classes, seen once after the top -/
noncomputable def askOk (h : Heap) (x : Str) : Bool := match h.clsAt mainGlobals x with
  | some (_, _, cd) => askNames.all fun n => (h.nsMap cd.ns n).isNone
  | none => false
noncomputable def ownAt (h : Heap) (x : Str) (ch : List Str) : Bool := h.ownExcOk x ch VB "ValueError.__new__" && askOk h x
noncomputable def addrOf (h : Heap) (x : Str) : Value := (h.nsMap mainGlobals x).getD .none
noncomputable def clsAll (h : Heap) : Bool := ownAt h "WishError" [] && ownAt h "BadGame" ["WishError"] && ownAt h "BadRow" ["WishError"] && ownAt h "BadText" ["WishError"] &&
  decide ([addrOf h "WishError", addrOf h "BadGame", addrOf h "BadRow", addrOf h "BadText"].Nodup)

theorem own_of {h : Heap} {x : Str} {ch : List Str} (e : ownAt h x ch = true) : ∃ C N nm q bs hdct sn sub ab col dd k0 k1 k2 k3 k5, h.nsMap mainGlobals x = some (.ref C) ∧
      h.get? C = some (excClassObj nm q C N bs ((ch.map fun n => (h.nsMap mainGlobals n).getD .none) ++ VB) hdct sn sub ab col dd k0 k1 k2 k3 k5 "ValueError.__new__") ∧ h.Ns N (h.nsMap N) ∧ ∀ n ∈ askNames, h.nsMap N n = none := by
  obtain ⟨x1, y⟩ := Bool.and_eq_true_iff.mp e
  obtain ⟨C, N, nm, q, bs, hdct, sn, sub, ab, col, dd, k0, k1, k2, k3, k5, hb, hC, hN, _⟩ := Heap.ownExc_of_ok x1
  refine ⟨C, N, nm, q, bs, hdct, sn, sub, ab, col, dd, k0, k1, k2, k3, k5, hb, hC, hN, fun n hn => ?_⟩
  unfold askOk at y
  cases hf : h.clsAt mainGlobals x with
  | none => rw [hf] at y; cases y
  | some z =>
    obtain ⟨C', o', cd'⟩ := z
    rw [hf] at y
    obtain ⟨hn', ho', hd'⟩ := Heap.clsAt_spec hf
    rw [hb] at hn'
    obtain rfl : C = C' := by injection hn' with q1; injection q1
    rw [hC] at ho'
    cases ho'
    cases hd'
    exact Option.isNone_iff_eq_none.mp (List.all_eq_true.mp y n hn)

theorem has1 (C D : Addr) : (Value.ref C :: VB).contains (.ref D) = (D == C) := by simp [VB]; rfl
theorem has2 (C W D : Addr) : (Value.ref C :: .ref W :: VB).contains (.ref D) = (D == C || D == W) := by simp [VB]; rfl
theorem cls_ok {h : Heap} (e : clsAll h = true) : ClsOk h (h.nsMap mainGlobals) := by
  simp only [clsAll, Bool.and_eq_true, decide_eq_true_eq] at e
  obtain ⟨⟨⟨⟨e0, e1⟩, e2⟩, e3⟩, hnd⟩ := e
  obtain ⟨W, N0, nm0, q0, bs0, hd0, sn0, sub0, ab0, col0, dd0, a0, a1, a2, a3, a5, b0, c0, n0, m0⟩ := own_of e0
  obtain ⟨C1, N1, nm1, q1, bs1, hd1, sn1, sub1, ab1, col1, dd1, f0, f1, f2, f3, f5, b1, c1, n1, m1⟩ := own_of e1
  obtain ⟨C2, N2, nm2, q2, bs2, hd2, sn2, sub2, ab2, col2, dd2, g0, g1, g2, g3, g5, b2, c2, n2, m2⟩ := own_of e2
  obtain ⟨C3, N3, nm3, q3, bs3, hd3, sn3, sub3, ab3, col3, dd3, i0, i1, i2, i3, i5, b3, c3, n3, m3⟩ := own_of e3
  simp only [addrOf, b0, b1, b2, b3, Option.getD_some, List.nodup_cons, List.mem_cons, List.not_mem_nil, or_false, not_or, Value.ref.injEq, not_false_eq_true, List.nodup_nil, and_true] at hnd
  obtain ⟨⟨d01, d02, d03⟩, ⟨d12, d13⟩, d23⟩ := hnd
  have T0 : Tail h VB := .base
  have TW : Tail h (.ref W :: VB) := .own c0 n0 m0 .base
  have O0 : OwnC W VB h := ⟨T0, N0, nm0, q0, bs0, hd0, sn0, sub0, ab0, col0, dd0, a0, a1, a2, a3, a5, _, by simpa using c0, n0, m0⟩
  have O1 : OwnC C1 (.ref W :: VB) h := ⟨TW, N1, nm1, q1, bs1, hd1, sn1, sub1, ab1, col1, dd1, f0, f1, f2, f3, f5, _, by simpa [b0] using c1, n1, m1⟩
  have O2 : OwnC C2 (.ref W :: VB) h := ⟨TW, N2, nm2, q2, bs2, hd2, sn2, sub2, ab2, col2, dd2, g0, g1, g2, g3, g5, _, by simpa [b0] using c2, n2, m2⟩
  have O3 : OwnC C3 (.ref W :: VB) h := ⟨TW, N3, nm3, q3, bs3, hd3, sn3, sub3, ab3, col3, dd3, i0, i1, i2, i3, i5, _, by simpa [b0] using c3, n3, m3⟩
  have key : ∀ c' x' D, cnm c' = some x' → h.nsMap mainGlobals x' = some (.ref D) → (c' = 0 ∧ D = W) ∨ (c' = 1 ∧ D = C1) ∨ (c' = 2 ∧ D = C2) ∨ (c' = 3 ∧ D = C3) := fun c' x' D h1 h2 => by
    match c', h1 with
    | 0, h1 => cases h1; rw [b0] at h2; cases h2; exact .inl ⟨rfl, rfl⟩
    | 1, h1 => cases h1; rw [b1] at h2; cases h2; exact .inr (.inl ⟨rfl, rfl⟩)
    | 2, h1 => cases h1; rw [b2] at h2; cases h2; exact .inr (.inr (.inl ⟨rfl, rfl⟩))
    | 3, h1 => cases h1; rw [b3] at h2; cases h2; exact .inr (.inr (.inr ⟨rfl, rfl⟩))
  have n10 := Ne.symm d01
  have n20 := Ne.symm d02
  have n30 := Ne.symm d03
  have n21 := Ne.symm d12
  have n31 := Ne.symm d13
  have n32 := Ne.symm d23
  have bn : ∀ {X Y : Addr}, X ≠ Y → (X == Y) = false := fun h => beq_false_of_ne h
  have bs : ∀ X : Addr, (X == X) = true := fun X => beq_self_eq_true X
  refine ⟨fun c x hc => ?_⟩
  match c, hc with
  | 0, hc =>
    cases hc
    refine ⟨W, VB, b0, O0, fun c' x' D h1 h2 => ?_⟩
    rw [has1]
    rcases key c' x' D h1 h2 with ⟨rfl, rfl⟩ | ⟨rfl, rfl⟩ | ⟨rfl, rfl⟩ | ⟨rfl, rfl⟩
    · rw [bs]; rfl
    · rw [bn n10]; rfl
    · rw [bn n20]; rfl
    · rw [bn n30]; rfl
  | 1, hc =>
    cases hc
    refine ⟨C1, _, b1, O1, fun c' x' D h1 h2 => ?_⟩
    rw [has2]
    rcases key c' x' D h1 h2 with ⟨rfl, rfl⟩ | ⟨rfl, rfl⟩ | ⟨rfl, rfl⟩ | ⟨rfl, rfl⟩
    · rw [bs, bn d01]; rfl
    · rw [bs]; rfl
    · rw [bn n21, bn n20]; rfl
    · rw [bn n31, bn n30]; rfl
  | 2, hc =>
    cases hc
    refine ⟨C2, _, b2, O2, fun c' x' D h1 h2 => ?_⟩
    rw [has2]
    rcases key c' x' D h1 h2 with ⟨rfl, rfl⟩ | ⟨rfl, rfl⟩ | ⟨rfl, rfl⟩ | ⟨rfl, rfl⟩
    · rw [bs, bn d02]; rfl
    · rw [bn d12, bn n10]; rfl
    · rw [bs]; rfl
    · rw [bn n32, bn n30]; rfl
  | 3, hc =>
    cases hc
    refine ⟨C3, _, b3, O3, fun c' x' D h1 h2 => ?_⟩
    rw [has2]
    rcases key c' x' D h1 h2 with ⟨rfl, rfl⟩ | ⟨rfl, rfl⟩ | ⟨rfl, rfl⟩ | ⟨rfl, rfl⟩
    · rw [bs, bn d03]; rfl
    · rw [bn d13, bn n10]; rfl
    · rw [bn d23, bn n20]; rfl
    · rw [bs]; rfl
theorem ClsOk.keeps {mg : Str → Option Value} {h h' : Heap} (K : ClsOk h mg) (hk : ∀ b o, h.get? b = some o → h'.get? b = some o) : ClsOk h' mg :=
  ⟨fun c x hc => let ⟨C, bm, e, O, r⟩ := K.cls c x hc; ⟨C, bm, e, O.keeps hk, r⟩⟩
end Mine

/-! ## MGlue -/
namespace Mine
open PySem PyProof.Rows

/-- the table of a law's functions: number, name, the names of its places, its IR -/
noncomputable def chkTab (t : Tab) (con : List (Str × Dat)) (recs : List DefRec) : Bool := t.all fun e => recs.any fun d => d.name == e.2.1 && chkFn e.1 t.fnm (fun x => con.lookup x) e.2.2.1 d e.2.2.2
noncomputable def chkFree (loose recs lits clss : List Str) : Bool := bis.all fun e => !startupNames.contains e.1 && !loose.contains e.1 && !recs.contains e.1 && !lits.contains e.1 && !clss.contains e.1

theorem boot_bis : ∀ e ∈ bis, e.1 ≠ ("__name__" : Str) ∧ bootBuiltins e.1 = some e.2 := by
  intro e he
  simp only [bis, List.mem_cons, List.not_mem_nil, or_false] at he
  rcases he with rfl | rfl | rfl | rfl | rfl | rfl | rfl | rfl | rfl | rfl | rfl | rfl | rfl | rfl | rfl | rfl | rfl | rfl <;> exact ⟨by decide, by kernel_rfl⟩

theorem lookup_mem {κ α : Type} [BEq κ] [LawfulBEq κ] : ∀ {l : List (κ × α)} {n : κ} {c : α}, l.lookup n = some c → (n, c) ∈ l
  | (k, v) :: r, n, c, h => by
    rw [List.lookup_cons] at h
    cases hb : n == k with
    | true => rw [hb] at h; cases h; rw [beq_iff_eq.mp hb]; exact List.mem_cons_self
    | false => rw [hb] at h; exact List.mem_cons_of_mem _ (lookup_mem h)

/-- a module constant that is a number, a truth value or a text -/
noncomputable def conPy : Dat → Option PyData
  | .int i => some (.int i)
  | .bool b => some (.bool b)
  | .str s => some (.str ⟨s.toArray⟩)
  | .none => some .none
  | _ => none

theorem con_ok {p : Program} {con : List (Str × Dat)} (h : ∀ e ∈ con, ∃ pd, conPy e.2 = some pd ∧ valOf p e.1 = some pd) : ∀ x d, con.lookup x = some d → ∃ pd, conPy d = some pd ∧ valOf p x = some pd := fun x d hl => h _ (lookup_mem hl)
theorem wd_of {prog p : Program} {w : World} {loose : List Str} {mean : ExcName → Option Value} {mg mb : Str → Option Value} {h : Heap} (T : Top p loose mean mg mb h) (t : Tab) (con : List (Str × Dat))
    (h1 : chkTab t con (recsOf p) = true) (h2 : chkFree loose ((recsOf p).map (·.name)) ((litsOf p).map (·.1)) ((clssOf p loose).map (·.name)) = true) (h3 : ∀ x d, con.lookup x = some d → ∃ pd, conPy d = some pd ∧ valOf p x = some pd) :
    Wd prog w h t.Δ t.fnm (fun x => con.lookup x) mg mb where
  g := T.g
  b := T.b
  nolimit := T.nolimit
  bi := fun x v hm => by
    have hb := boot_bis (x, v) hm
    refine ⟨?_, (T.builtins x hb.1).trans hb.2⟩
    have := List.all_eq_true.mp h2 (x, v) hm
    simp only [Bool.and_eq_true, Bool.not_eq_true', List.contains_eq_mem, decide_eq_false_iff_not] at this
    exact T.free x this.1.1.1.1 this.1.1.1.2 this.1.1.2 this.1.2 this.2
  fn := fun f x hf => by
    unfold Tab.fnm at hf
    cases hl : t.lookup f with
    | none => rw [hl] at hf; cases hf
    | some e =>
      rw [hl] at hf
      cases hf
      have := List.all_eq_true.mp h1 _ (lookup_mem hl)
      obtain ⟨d, hd, hc⟩ := List.any_eq_true.mp this
      simp only [Bool.and_eq_true, beq_iff_eq] at hc
      obtain ⟨a, o, pm, code, doc, q1, q2, q3, q4⟩ := T.fn d hd
      exact ⟨e.2.2, e.2.1, d, a, o, pm, code, doc, by unfold Tab.Δ; rw [hl]; rfl, by show mg e.1 = _; rw [← hc.1]; exact q1, q2, q3, q4, hc.2, hc.1⟩
  con := fun x d hc => by
    obtain ⟨pd, h4, h5⟩ := h3 x d hc
    obtain ⟨v, hv, hr⟩ := T.const x pd h5
    refine ⟨v, hv, fun hh γ => ?_⟩
    have hr := hr hh
    cases d <;> simp only [conPy, reduceCtorEq, Option.some.injEq] at h4 <;> subst h4 <;> cases hr
    · rfl
    · rfl
    · exact ⟨_, rfl⟩
    · exact ⟨_, rfl⟩

theorem reps_ints {h : Heap} {γ : List Addr} {vs : List Value} {is : List Int} (x : IntsAre vs is) : Reps h γ (is.map .int) vs := by
  induction x with
  | nil => simp [Reps]
  | cons n t x ih => simp only [List.map_cons, Reps]; exact ⟨⟨t, rfl⟩, ih⟩

theorem law_glue {prog : Program} {w : World} {mg mb : Str → Option Value} {s₁ : Shared} {t : Tab} {con : Str → Option Dat} {sub : Nat → Nat → Bool} {fa la : Addr} {vs : List Value} {script : List Int} {f : Nat} {x : Str} {n : Nat} {Q : Value → Shared → Prop} {E : Value → Shared → Prop}
    (W : Wd prog w s₁.heap t.Δ t.fnm con mg mb) (K : ClsOk s₁.heap mg) (hsp : isSp f = false) (hf : t.fnm f = some x) (hx : mg x = some (.ref fa)) (hl : s₁.heap.IsList la vs.toArray) (hi : IntsAre vs script) (hn : n ≤ 600)
    (hcall : callF sub t.Δ n f [.dat (.lst (script.map .int))] [] = .val (.bool true) [])
    (hQ : ∀ h' tk, (∀ b o, s₁.heap.get? b = some o → h'.get? b = some o) → Q (.bool true) { s₁ with heap := h', toks := tk }) :
    wpAny (model prog w) callerA (call (.ref fa) [.ref la]) Q E s₁ := by
  have S : Sim s₁.heap [] s₁.heap [] [] := ⟨rfl, List.nodup_nil, fun _ _ e => e, fun _ h => (nomatch h), fun k e a h1 => by simp at h1, fun _ h => (nomatch h)⟩
  have hr : RelVs s₁.heap [] [] [] [.dat (.lst (script.map .int))] [.ref la] := by
    refine ⟨?_, trivial⟩
    show Rep _ _ _ _
    simp only [Rep]
    exact ⟨la, vs.toArray, rfl, by simp [grow, growS], hl, by simpa using reps_ints hi⟩
  have hR : Room n callerA [] := by
    have hm : claimMargin ≤ 300 := by decide
    refine ⟨rfl, ?_, ?_, rfl⟩
    · show 1 + claimMargin + n < 1000
      omega
    · show 4 + 3 * n + 1000 < 9900
      omega
  refine wpAny_mono ((call_ok (sub := sub) W K n).val callerA [] hR f x _ _ [] [] _ [] [] s₁ E fa hf hx (.inl rfl) (fun h => by rw [hsp] at h; cases h) hcall hr S (Nat.le_refl _)) (fun v' s' q => ?_) fun _ _ z => z
  obtain ⟨rv, ok⟩ := q
  have e : v' = .bool true := rv
  subst e
  obtain ⟨h', tk, rfl⟩ := (ok 0).sh
  refine hQ h' tk fun b o q => ?_
  exact (ok 0).sim.base b o q
end Mine

/-! ## PBase -/
namespace Mine

theorem st_get (σ : Sto) (e : Bool × List Dat) : (σ ++ [e])[σ.length]? = some e := by simp
theorem st_set (σ : Sto) (e e' : Bool × List Dat) : (σ ++ [e]).set σ.length e' = σ ++ [e'] := by simp
theorem st_take (σ : Sto) (e : Bool × List Dat) : (σ ++ [e]).take σ.length = σ := by simp

/-! ### the evaluator, step by step -/
section
variable (sub : Nat → Nat → Bool) (C : Oracle)
noncomputable def kSeq (ss : ISs) : SOut → SOut | .next ρ σ => exs sub C ss ρ σ | o => o
noncomputable def kAsg (i : Nat) (ρ : Loc) : Out Val → SOut | .val v σ => .next (ρ.set i (some v)) σ | .exn c σ => .exn c ρ σ | .bad => .bad
noncomputable def kNew (i : Nat) (ρ : Loc) : Out (List Dat) → SOut | .val ds σ => .next (ρ.set i (some (.ref σ.length))) (σ ++ [(true, ds)]) | .exn c σ => .exn c ρ σ | .bad => .bad
noncomputable def kApp2 (k : Nat) (ρ : Loc) (d : Dat) (σ : Sto) : Option (Bool × List Dat) → SOut
  | some (true, l) => if l.length < 1000000 then .next ρ (σ.set k (true, l ++ [d])) else .bad
  | _ => .bad
noncomputable def kApp (k : Nat) (ρ : Loc) : Out Val → SOut
  | .val v σ => (match toDat v σ with | .val d σ => kApp2 k ρ d σ σ[k]? | _ => .bad)
  | .exn c σ => .bad
  | .bad => .bad
noncomputable def kApp0 (e : IE) (ρ : Loc) (σ : Sto) : Option (Option Val) → SOut
  | some (some (.ref k)) => kApp k ρ (ev sub C e ρ σ)
  | _ => .bad
noncomputable def kRet (ρ : Loc) : Out Val → SOut | .val v σ => (toDat v σ).stm ρ fun d σ => .ret d σ | .exn c σ => .exn c ρ σ | .bad => .bad
noncomputable def kIte (a b : ISs) (ρ : Loc) : Out Bool → SOut | .val t σ => if t then exs sub C a ρ σ else exs sub C b ρ σ | .exn c σ => .exn c ρ σ | .bad => .bad
noncomputable def bodyF (x : Nat) (body : ISs) (d : Dat) (ρ : Loc) (σ : Sto) : SOut := exs sub C body (ρ.set x (some (.dat d))) σ
noncomputable def kFor (x : Nat) (body : ISs) (ρ : Loc) : Out Src → SOut | .val s σ => if s.items.length ≤ 1000000 then forL s (bodyF sub C x body) s.items ρ σ else .bad | .exn c σ => .exn c ρ σ | .bad => .bad
noncomputable def kBack (n : Nat) (o : SOut) : Out Dat := o.back n

theorem exs_nil (ρ : Loc) (σ : Sto) : exs sub C .nil ρ σ = .next ρ σ := rfl
theorem exs_cons (s : IS) (ss : ISs) (ρ : Loc) (σ : Sto) : exs sub C (.cons s ss) ρ σ = kSeq sub C ss (ex sub C s ρ σ) := by
  show SOut.bind (ex sub C s ρ σ) _ = _; cases ex sub C s ρ σ <;> rfl
theorem kSeq_next (ss : ISs) (ρ : Loc) (σ : Sto) : kSeq sub C ss (.next ρ σ) = exs sub C ss ρ σ := rfl
theorem kSeq_ret (ss : ISs) (d : Dat) (σ : Sto) : kSeq sub C ss (.ret d σ) = .ret d σ := rfl
theorem ex_assign (i : Nat) (e : IE) (ρ : Loc) (σ : Sto) : ex sub C (.assign i e) ρ σ = kAsg i ρ (ev sub C e ρ σ) := by
  show Out.stm (ev sub C e ρ σ) _ _ = _; cases ev sub C e ρ σ <;> rfl
theorem kAsg_val (i : Nat) (ρ : Loc) (v : Val) (σ : Sto) : kAsg i ρ (.val v σ) = .next (ρ.set i (some v)) σ := rfl
theorem ex_newlst (i : Nat) (es : IEs) (ρ : Loc) (σ : Sto) : ex sub C (.newlst i es) ρ σ = kNew i ρ (evs sub C es ρ σ) := by
  show Out.stm (evs sub C es ρ σ) _ _ = _; cases evs sub C es ρ σ <;> rfl
theorem kNew_val (i : Nat) (ρ : Loc) (ds : List Dat) (σ : Sto) : kNew i ρ (.val ds σ) = .next (ρ.set i (some (.ref σ.length))) (σ ++ [(true, ds)]) := rfl
theorem ex_append (i : Nat) (e : IE) (ρ : Loc) (σ : Sto) : ex sub C (.append i e) ρ σ = kApp0 sub C e ρ σ ρ[i]? := by
  show (match ρ[i]? with
    | some (some (.ref k)) => (ev sub C e ρ σ).stmK fun v σ => match toDat v σ with
      | .val d σ => (match σ[k]? with
        | some (true, l) => if l.length < 1000000 then SOut.next ρ (σ.set k (true, l ++ [d])) else .bad
        | _ => .bad)
      | _ => .bad
    | _ => .bad) = _
  cases ρ[i]? with
  | none => rfl
  | some o =>
    cases o with
    | none => rfl
    | some v =>
      cases v with
      | dat d => rfl
      | exc c => rfl
      | ref k =>
        simp only [kApp0]
        cases ev sub C e ρ σ with
        | val v σ =>
          simp only [Out.stmK_val, kApp]
          cases toDat v σ with
          | val d σ =>
            simp only
            cases σ[k]? with
            | none => rfl
            | some e => obtain ⟨b, l⟩ := e; cases b <;> rfl
          | exn => rfl
          | bad => rfl
        | exn => rfl
        | bad => rfl
theorem kApp0_ref (e : IE) (ρ : Loc) (σ : Sto) (k : Nat) : kApp0 sub C e ρ σ (some (some (.ref k))) = kApp k ρ (ev sub C e ρ σ) := rfl
theorem kApp_dat (k : Nat) (ρ : Loc) (d : Dat) (σ : Sto) : kApp k ρ (.val (.dat d) σ) = kApp2 k ρ d σ σ[k]? := rfl
theorem kApp2_some (k : Nat) (ρ : Loc) (d : Dat) (σ : Sto) (l : List Dat) (h : l.length < 1000000) : kApp2 k ρ d σ (some (true, l)) = .next ρ (σ.set k (true, l ++ [d])) := if_pos h
theorem ex_ret (e : IE) (ρ : Loc) (σ : Sto) : ex sub C (.ret e) ρ σ = kRet ρ (ev sub C e ρ σ) := by
  show Out.stm (ev sub C e ρ σ) _ _ = _; cases ev sub C e ρ σ <;> rfl
theorem kRet_dat (ρ : Loc) (d : Dat) (σ : Sto) : kRet ρ (.val (.dat d) σ) = .ret d σ := rfl
theorem kRet_ref (ρ : Loc) (k : Nat) (σ : Sto) (b : Bool) (l : List Dat) (h : σ[k]? = some (b, l)) : kRet ρ (.val (.ref k) σ) = .ret (.lst l) (σ.set k (false, l)) := by
  simp [kRet, toDat, h]
theorem ex_ite (c : IE) (a b : ISs) (ρ : Loc) (σ : Sto) : ex sub C (.ite c a b) ρ σ = kIte sub C a b ρ (evB sub C c ρ σ) := by
  show Out.stm (evB sub C c ρ σ) _ _ = _; cases evB sub C c ρ σ <;> rfl
theorem kIte_true (a b : ISs) (ρ : Loc) (σ : Sto) : kIte sub C a b ρ (.val true σ) = exs sub C a ρ σ := rfl
theorem kIte_false (a b : ISs) (ρ : Loc) (σ : Sto) : kIte sub C a b ρ (.val false σ) = exs sub C b ρ σ := rfl
theorem kIte_val (a b : ISs) (ρ : Loc) (σ : Sto) (t : Bool) : kIte sub C a b ρ (.val t σ) = if t then exs sub C a ρ σ else exs sub C b ρ σ := rfl
theorem ex_for1 (x : Nat) (it : II) (body : ISs) (ρ : Loc) (σ : Sto) : ex sub C (.for1 x it body) ρ σ = kFor sub C x body ρ (evI sub C it ρ σ) := by
  show Out.stm (evI sub C it ρ σ) _ _ = _; cases evI sub C it ρ σ <;> rfl
theorem kFor_val (x : Nat) (body : ISs) (ρ : Loc) (s : Src) (σ : Sto) (h : s.items.length ≤ 1000000) : kFor sub C x body ρ (.val s σ) = forL s (bodyF sub C x body) s.items ρ σ := if_pos h

noncomputable def kBin1 (op : BOp) (b : IE) (ρ : Loc) : Out Val → Out Val | .val v σ => (ev sub C b ρ σ).bind fun w σ => d2 (bin2 op) v w σ | .exn c σ => .bad | .bad => .bad
noncomputable def kBin2 (op : BOp) (v : Val) : Out Val → Out Val | .val w σ => d2 (bin2 op) v w σ | .exn c σ => .bad | .bad => .bad
theorem ev_lit (d : Dat) (ρ : Loc) (σ : Sto) : ev sub C (.lit d) ρ σ = .val (.dat d) σ := rfl
theorem ev_con (x : String) (d : Dat) (ρ : Loc) (σ : Sto) : ev sub C (.con x d) ρ σ = .val (.dat d) σ := rfl
noncomputable def kVar (σ : Sto) : Option (Option Val) → Out Val | some (some v) => .val v σ | _ => .bad
theorem kVar_val (σ : Sto) (v : Val) : kVar σ (some (some v)) = .val v σ := rfl
theorem ev_var (i : Nat) (ρ : Loc) (σ : Sto) : ev sub C (.var i) ρ σ = kVar σ ρ[i]? := by
  show (match ρ[i]? with | some (some v) => Out.val v σ | _ => Out.bad) = _
  cases ρ[i]? with
  | none => rfl
  | some o => cases o <;> rfl
theorem ev_bin (op : BOp) (a b : IE) (ρ : Loc) (σ : Sto) : ev sub C (.bin op a b) ρ σ = kBin1 sub C op b ρ (ev sub C a ρ σ) := by
  show Out.bind (ev sub C a ρ σ) _ = _; cases ev sub C a ρ σ <;> rfl
theorem kBin1_val (op : BOp) (b : IE) (ρ : Loc) (v : Val) (σ : Sto) : kBin1 sub C op b ρ (.val v σ) = kBin2 op v (ev sub C b ρ σ) := by
  simp only [kBin1]; cases ev sub C b ρ σ <;> rfl
theorem kBin2_val (op : BOp) (v w : Val) (σ : Sto) : kBin2 op v (.val w σ) = d2 (bin2 op) v w σ := rfl
noncomputable def kD1 (f : Dat → Option Dat) : Out Val → Out Val | .val v σ => d1 f v σ | .exn c σ => .bad | .bad => .bad
theorem kD1_val (f : Dat → Option Dat) (v : Val) (σ : Sto) : kD1 f (.val v σ) = d1 f v σ := rfl
noncomputable def kD2a (f : Dat → Dat → Option Dat) (b : IE) (ρ : Loc) : Out Val → Out Val | .val v σ => (ev sub C b ρ σ).bind fun w σ => d2 f v w σ | .exn c σ => .bad | .bad => .bad
noncomputable def kD2 (f : Dat → Dat → Option Dat) (v : Val) : Out Val → Out Val | .val w σ => d2 f v w σ | .exn c σ => .bad | .bad => .bad
theorem kD2a_val (f : Dat → Dat → Option Dat) (b : IE) (ρ : Loc) (v : Val) (σ : Sto) : kD2a sub C f b ρ (.val v σ) = kD2 f v (ev sub C b ρ σ) := by
  simp only [kD2a]; cases ev sub C b ρ σ <;> rfl
theorem kD2_val (f : Dat → Dat → Option Dat) (v w : Val) (σ : Sto) : kD2 f v (.val w σ) = d2 f v w σ := rfl
noncomputable def negD : Dat → Option Dat | .int i => some (.int (-i)) | _ => Option.none
theorem ev_neg (a : IE) (ρ : Loc) (σ : Sto) : ev sub C (.neg a) ρ σ = kD1 negD (ev sub C a ρ σ) := by
  show Out.bind (ev sub C a ρ σ) _ = _; cases ev sub C a ρ σ <;> rfl
theorem ev_prim (p : Prim) (a : IE) (ρ : Loc) (σ : Sto) : ev sub C (.prim p a) ρ σ = kD1 (prim1 p) (ev sub C a ρ σ) := by
  show Out.bind (ev sub C a ρ σ) _ = _; cases ev sub C a ρ σ <;> rfl
theorem ev_prim2 (p : Prim2) (a b : IE) (ρ : Loc) (σ : Sto) : ev sub C (.prim2 p a b) ρ σ = kD2a sub C (prim2 p) b ρ (ev sub C a ρ σ) := by
  show Out.bind (ev sub C a ρ σ) _ = _; cases ev sub C a ρ σ <;> rfl
noncomputable def kIdx (b : IE) (ρ : Loc) : Out Val → Out Val | .val v σ => kD2 idx2 v (ev sub C b ρ σ) | .exn c σ => .exn c σ | .bad => .bad
theorem kIdx_val (b : IE) (ρ : Loc) (v : Val) (σ : Sto) : kIdx sub C b ρ (.val v σ) = kD2 idx2 v (ev sub C b ρ σ) := rfl
theorem kIdx_exn (b : IE) (ρ : Loc) (c : Nat) (σ : Sto) : kIdx sub C b ρ (.exn c σ) = .exn c σ := rfl
theorem ev_idx (a b : IE) (ρ : Loc) (σ : Sto) : ev sub C (.idx a b) ρ σ = kIdx sub C b ρ (ev sub C a ρ σ) := by
  show Out.bindX (ev sub C a ρ σ) _ = _
  cases ev sub C a ρ σ with
  | val v σ => simp only [Out.bindX_val, kIdx]; cases ev sub C b ρ σ <;> rfl
  | exn => rfl
  | bad => rfl
theorem ev_slFrom (a b : IE) (ρ : Loc) (σ : Sto) : ev sub C (.slFrom a b) ρ σ = kD2a sub C slFrom2 b ρ (ev sub C a ρ σ) := by
  show Out.bind (ev sub C a ρ σ) _ = _; cases ev sub C a ρ σ <;> rfl
theorem ev_slTo (a b : IE) (ρ : Loc) (σ : Sto) : ev sub C (.slTo a b) ρ σ = kD2a sub C slTo2 b ρ (ev sub C a ρ σ) := by
  show Out.bind (ev sub C a ρ σ) _ = _; cases ev sub C a ρ σ <;> rfl
theorem ev_sorted (a : IE) (ρ : Loc) (σ : Sto) : ev sub C (.sorted a) ρ σ = kD1 sortD (ev sub C a ρ σ) := by
  show Out.bind (ev sub C a ρ σ) _ = _; cases ev sub C a ρ σ <;> rfl
theorem ev_listOf (a : IE) (ρ : Loc) (σ : Sto) : ev sub C (.listOf a) ρ σ = kD1 seqD (ev sub C a ρ σ) := by
  show Out.bind (ev sub C a ρ σ) _ = _; cases ev sub C a ρ σ <;> rfl
theorem ev_listRange (a : IE) (ρ : Loc) (σ : Sto) : ev sub C (.listRange a) ρ σ = kD1 listRangeD (ev sub C a ρ σ) := by
  show Out.bind (ev sub C a ρ σ) _ = _; cases ev sub C a ρ σ <;> rfl
noncomputable def kTup : Out (List Dat) → Out Val | .val ds σ => .val (.dat (.tup ds)) σ | .exn c σ => .bad | .bad => .bad
noncomputable def kLst : Out (List Dat) → Out Val | .val ds σ => .val (.dat (.lst ds)) σ | .exn c σ => .bad | .bad => .bad
theorem kTup_val (ds : List Dat) (σ : Sto) : kTup (.val ds σ) = .val (.dat (.tup ds)) σ := rfl
theorem kLst_val (ds : List Dat) (σ : Sto) : kLst (.val ds σ) = .val (.dat (.lst ds)) σ := rfl
theorem ev_tup (es : IEs) (ρ : Loc) (σ : Sto) : ev sub C (.tup es) ρ σ = kTup (evs sub C es ρ σ) := by
  show Out.bind (evs sub C es ρ σ) _ = _; cases evs sub C es ρ σ <;> rfl
theorem ev_lst (es : IEs) (ρ : Loc) (σ : Sto) : ev sub C (.lst es) ρ σ = kLst (evs sub C es ρ σ) := by
  show Out.bind (evs sub C es ρ σ) _ = _; cases evs sub C es ρ σ <;> rfl
noncomputable def kNot : Out Bool → Out Bool | .val b σ => .val (!b) σ | .exn c σ => .bad | .bad => .bad
theorem kNot_val (b : Bool) (σ : Sto) : kNot (.val b σ) = .val (!b) σ := rfl
noncomputable def kBool : Out Bool → Out Val | .val b σ => .val (.dat (.bool b)) σ | .exn c σ => .bad | .bad => .bad
theorem kBool_val (b : Bool) (σ : Sto) : kBool (.val b σ) = .val (.dat (.bool b)) σ := rfl
noncomputable def kTru : Out Val → Out Bool | .val v σ => truthOf v σ | .exn c σ => .bad | .bad => .bad
theorem kTru_val (b : Bool) (σ : Sto) : kTru (.val (.dat (.bool b)) σ) = .val b σ := rfl
theorem ev_not (a : IE) (ρ : Loc) (σ : Sto) : ev sub C (.not a) ρ σ = kBool (kNot (kTru (ev sub C a ρ σ))) := by
  show Out.bind (ev sub C a ρ σ) _ = _
  cases ev sub C a ρ σ with
  | val v σ => simp only [Out.bind_val, kTru]; cases truthOf v σ <;> rfl
  | exn => rfl
  | bad => rfl
noncomputable def kCmp2 (cs : ICs) (ρ : Loc) (w : Val) (σ : Sto) : Option Bool → Out Bool
  | some true => evCmp sub C w cs ρ σ
  | some false => .val false σ
  | Option.none => .bad
noncomputable def kCmp1 (op : COp) (v : Val) (cs : ICs) (ρ : Loc) : Out Val → Out Bool | .val w σ => kCmp2 sub C cs ρ w σ (c2 op v w σ) | .exn c σ => .bad | .bad => .bad
noncomputable def kCmp0 (cs : ICs) (ρ : Loc) : Out Val → Out Bool | .val v σ => evCmp sub C v cs ρ σ | .exn c σ => .bad | .bad => .bad
theorem evCmp_cons (v : Val) (op : COp) (e : IE) (cs : ICs) (ρ : Loc) (σ : Sto) : evCmp sub C v (.cons op e cs) ρ σ = kCmp1 sub C op v cs ρ (ev sub C e ρ σ) := by
  show Out.bind (ev sub C e ρ σ) _ = _
  cases ev sub C e ρ σ with
  | val w σ => simp only [Out.bind_val, kCmp1]; cases c2 op v w σ with
    | none => rfl
    | some b => cases b <;> rfl
  | exn => rfl
  | bad => rfl
theorem evCmp_nil (v : Val) (ρ : Loc) (σ : Sto) : evCmp sub C v .nil ρ σ = .val true σ := rfl
theorem kCmp1_val (op : COp) (v w : Val) (cs : ICs) (ρ : Loc) (σ : Sto) : kCmp1 sub C op v cs ρ (.val w σ) = kCmp2 sub C cs ρ w σ (c2 op v w σ) := rfl
theorem kCmp2_nil (ρ : Loc) (w : Val) (σ : Sto) (b : Bool) : kCmp2 sub C .nil ρ w σ (some b) = .val b σ := by cases b <;> simp only [kCmp2, evCmp]
theorem kCmp2_true (cs : ICs) (ρ : Loc) (w : Val) (σ : Sto) : kCmp2 sub C cs ρ w σ (some true) = evCmp sub C w cs ρ σ := rfl
theorem kCmp2_false (cs : ICs) (ρ : Loc) (w : Val) (σ : Sto) : kCmp2 sub C cs ρ w σ (some false) = .val false σ := rfl
theorem kCmp0_val (cs : ICs) (ρ : Loc) (v : Val) (σ : Sto) : kCmp0 sub C cs ρ (.val v σ) = evCmp sub C v cs ρ σ := rfl
theorem ev_cmp (a : IE) (cs : ICs) (ρ : Loc) (σ : Sto) : ev sub C (.cmp a cs) ρ σ = kBool (kCmp0 sub C cs ρ (ev sub C a ρ σ)) := by
  show Out.bind (ev sub C a ρ σ) _ = _
  cases ev sub C a ρ σ with
  | val v σ => simp only [Out.bind_val, kCmp0]; cases evCmp sub C v cs ρ σ <;> rfl
  | exn => rfl
  | bad => rfl
theorem evB_cmp (a : IE) (cs : ICs) (ρ : Loc) (σ : Sto) : evB sub C (.cmp a cs) ρ σ = kCmp0 sub C cs ρ (ev sub C a ρ σ) := by
  show Out.bind (ev sub C a ρ σ) _ = _; cases ev sub C a ρ σ <;> rfl
noncomputable def kCall (f : Nat) : Out (List Val) → Out Dat | .val vs σ => C f vs σ | .exn c σ => .bad | .bad => .bad
noncomputable def kDat : Out Dat → Out Val | .val d σ => .val (.dat d) σ | .exn c σ => .exn c σ | .bad => .bad
theorem kDat_exn (c : Nat) (σ : Sto) : kDat (.exn c σ) = .exn c σ := rfl
theorem kCall_val (f : Nat) (vs : List Val) (σ : Sto) : kCall C f (.val vs σ) = C f vs σ := rfl
theorem kDat_val (d : Dat) (σ : Sto) : kDat (.val d σ) = .val (.dat d) σ := rfl
theorem ev_call (f : Nat) (as : IEs) (ρ : Loc) (σ : Sto) : ev sub C (.call f as) ρ σ = kDat (kCall C f (evArgs sub C as ρ σ)) := by
  show Out.bind (evArgs sub C as ρ σ) _ = _
  cases evArgs sub C as ρ σ with
  | val vs σ => simp only [Out.bind_val, kCall]; cases C f vs σ <;> rfl
  | exn => rfl
  | bad => rfl
noncomputable def kCons {α : Type} (a : α) : Out (List α) → Out (List α) | .val as σ => .val (a :: as) σ | .exn c σ => .bad | .bad => .bad
theorem kCons_val {α : Type} (a : α) (as : List α) (σ : Sto) : kCons a (.val as σ) = .val (a :: as) σ := rfl
noncomputable def kArgs (es : IEs) (ρ : Loc) : Out Val → Out (List Val) | .val v σ => kCons v (evArgs sub C es ρ σ) | .exn c σ => .bad | .bad => .bad
theorem kArgs_val (es : IEs) (ρ : Loc) (v : Val) (σ : Sto) : kArgs sub C es ρ (.val v σ) = kCons v (evArgs sub C es ρ σ) := rfl
theorem evArgs_nil (ρ : Loc) (σ : Sto) : evArgs sub C .nil ρ σ = .val [] σ := rfl
theorem evArgs_cons (e : IE) (es : IEs) (ρ : Loc) (σ : Sto) : evArgs sub C (.cons e es) ρ σ = kArgs sub C es ρ (ev sub C e ρ σ) := by
  show Out.bind (ev sub C e ρ σ) _ = _
  cases ev sub C e ρ σ with
  | val v σ => simp only [Out.bind_val, kArgs]; cases evArgs sub C es ρ σ <;> rfl
  | exn => rfl
  | bad => rfl
noncomputable def kToDat : Out Val → Out Dat | .val v σ => toDat v σ | .exn c σ => .bad | .bad => .bad
theorem kToDat_dat (d : Dat) (σ : Sto) : kToDat (.val (.dat d) σ) = .val d σ := rfl
theorem kToDat_ref (k : Nat) (σ : Sto) (b : Bool) (l : List Dat) (h : σ[k]? = some (b, l)) : kToDat (.val (.ref k) σ) = .val (.lst l) (σ.set k (false, l)) := by simp [kToDat, toDat, h]
noncomputable def kEvs (es : IEs) (ρ : Loc) : Out Dat → Out (List Dat) | .val d σ => kCons d (evs sub C es ρ σ) | .exn c σ => .bad | .bad => .bad
theorem kEvs_val (es : IEs) (ρ : Loc) (d : Dat) (σ : Sto) : kEvs sub C es ρ (.val d σ) = kCons d (evs sub C es ρ σ) := rfl
theorem evs_nil (ρ : Loc) (σ : Sto) : evs sub C .nil ρ σ = .val [] σ := rfl
theorem evs_cons (e : IE) (es : IEs) (ρ : Loc) (σ : Sto) : evs sub C (.cons e es) ρ σ = kEvs sub C es ρ (kToDat (ev sub C e ρ σ)) := by
  show Out.bind (ev sub C e ρ σ) _ = _
  cases ev sub C e ρ σ with
  | val v σ =>
    simp only [Out.bind_val, kToDat]
    cases toDat v σ with
    | val d σ => simp only [Out.bind_val, kEvs]; cases evs sub C es ρ σ <;> rfl
    | exn => rfl
    | bad => rfl
  | exn => rfl
  | bad => rfl
/-- and, or of values -/
noncomputable def kAnd (es : IEs) (ρ : Loc) (o : Out Val) : Out Val := o.bind fun v σ => (truthOf v σ).bind fun b σ => if b then evAnd sub C es ρ σ else .val v σ
noncomputable def kOr (es : IEs) (ρ : Loc) (o : Out Val) : Out Val := o.bind fun v σ => (truthOf v σ).bind fun b σ => if b then .val v σ else evOr sub C es ρ σ
theorem ev_and (es : IEs) (ρ : Loc) (σ : Sto) : ev sub C (.and es) ρ σ = evAnd sub C es ρ σ := rfl
theorem ev_or (es : IEs) (ρ : Loc) (σ : Sto) : ev sub C (.or es) ρ σ = evOr sub C es ρ σ := rfl
theorem evAnd_one (e : IE) (ρ : Loc) (σ : Sto) : evAnd sub C (.cons e .nil) ρ σ = (ev sub C e ρ σ).noX := rfl
theorem evOr_one (e : IE) (ρ : Loc) (σ : Sto) : evOr sub C (.cons e .nil) ρ σ = (ev sub C e ρ σ).noX := rfl
theorem evAnd_cons (e e' : IE) (es : IEs) (ρ : Loc) (σ : Sto) : evAnd sub C (.cons e (.cons e' es)) ρ σ = kAnd sub C (.cons e' es) ρ (ev sub C e ρ σ) := rfl
theorem evOr_cons (e e' : IE) (es : IEs) (ρ : Loc) (σ : Sto) : evOr sub C (.cons e (.cons e' es)) ρ σ = kOr sub C (.cons e' es) ρ (ev sub C e ρ σ) := rfl
theorem kAnd_true (es : IEs) (ρ : Loc) (σ : Sto) : kAnd sub C es ρ (.val (.dat (.bool true)) σ) = evAnd sub C es ρ σ := rfl
theorem kAnd_false (es : IEs) (ρ : Loc) (σ : Sto) : kAnd sub C es ρ (.val (.dat (.bool false)) σ) = .val (.dat (.bool false)) σ := rfl
theorem kOr_true (es : IEs) (ρ : Loc) (σ : Sto) : kOr sub C es ρ (.val (.dat (.bool true)) σ) = .val (.dat (.bool true)) σ := rfl
theorem kOr_false (es : IEs) (ρ : Loc) (σ : Sto) : kOr sub C es ρ (.val (.dat (.bool false)) σ) = evOr sub C es ρ σ := rfl
theorem kAnd_val (es : IEs) (ρ : Loc) (σ : Sto) (b : Bool) : kAnd sub C es ρ (.val (.dat (.bool b)) σ) = if b then evAnd sub C es ρ σ else .val (.dat (.bool false)) σ := by cases b <;> rfl
theorem kOr_val (es : IEs) (ρ : Loc) (σ : Sto) (b : Bool) : kOr sub C es ρ (.val (.dat (.bool b)) σ) = if b then .val (.dat (.bool true)) σ else evOr sub C es ρ σ := by cases b <;> rfl
/-- tests -/
noncomputable def kAll (es : IEs) (ρ : Loc) : Out Bool → Out Bool | .val b σ => if b then evAll sub C es ρ σ else .val false σ | .exn c σ => .bad | .bad => .bad
noncomputable def kAny (es : IEs) (ρ : Loc) : Out Bool → Out Bool | .val b σ => if b then .val true σ else evAny sub C es ρ σ | .exn c σ => .bad | .bad => .bad
noncomputable def kIfs (es : IEs) (ρ : Loc) : Out Bool → Out Bool | .val b σ => if b then evIfs sub C es ρ σ else .val false σ | .exn c σ => .bad | .bad => .bad
theorem evAll_nil (ρ : Loc) (σ : Sto) : evAll sub C .nil ρ σ = .val true σ := rfl
theorem evAny_nil (ρ : Loc) (σ : Sto) : evAny sub C .nil ρ σ = .val false σ := rfl
theorem evIfs_nil (ρ : Loc) (σ : Sto) : evIfs sub C .nil ρ σ = .val true σ := rfl
theorem evAll_cons (e : IE) (es : IEs) (ρ : Loc) (σ : Sto) : evAll sub C (.cons e es) ρ σ = kAll sub C es ρ (evB sub C e ρ σ) := by show Out.bind (evB sub C e ρ σ) _ = _; cases evB sub C e ρ σ <;> rfl
theorem evAny_cons (e : IE) (es : IEs) (ρ : Loc) (σ : Sto) : evAny sub C (.cons e es) ρ σ = kAny sub C es ρ (evB sub C e ρ σ) := by show Out.bind (evB sub C e ρ σ) _ = _; cases evB sub C e ρ σ <;> rfl
theorem evIfs_cons (e : IE) (es : IEs) (ρ : Loc) (σ : Sto) : evIfs sub C (.cons e es) ρ σ = kIfs sub C es ρ (evB sub C e ρ σ) := by show Out.bind (evB sub C e ρ σ) _ = _; cases evB sub C e ρ σ <;> rfl
theorem kAll_val (es : IEs) (ρ : Loc) (σ : Sto) (b : Bool) : kAll sub C es ρ (.val b σ) = if b then evAll sub C es ρ σ else .val false σ := rfl
theorem kAny_val (es : IEs) (ρ : Loc) (σ : Sto) (b : Bool) : kAny sub C es ρ (.val b σ) = if b then .val true σ else evAny sub C es ρ σ := rfl
theorem kIfs_val (es : IEs) (ρ : Loc) (σ : Sto) (b : Bool) : kIfs sub C es ρ (.val b σ) = if b then evIfs sub C es ρ σ else .val false σ := rfl
theorem evB_and (es : IEs) (ρ : Loc) (σ : Sto) : evB sub C (.and es) ρ σ = evAll sub C es ρ σ := rfl
theorem evB_or (es : IEs) (ρ : Loc) (σ : Sto) : evB sub C (.or es) ρ σ = evAny sub C es ρ σ := rfl
noncomputable def kNotX : Out Bool → Out Bool | .val b σ => .val (!b) σ | .exn c σ => .exn c σ | .bad => .bad
theorem kNotX_val (b : Bool) (σ : Sto) : kNotX (.val b σ) = .val (!b) σ := rfl
theorem kNotX_exn (c : Nat) (σ : Sto) : kNotX (.exn c σ) = .exn c σ := rfl
theorem evB_not (a : IE) (ρ : Loc) (σ : Sto) : evB sub C (.not a) ρ σ = kNotX (evB sub C a ρ σ) := by show Out.bindX (evB sub C a ρ σ) _ = _; cases evB sub C a ρ σ <;> rfl
theorem evB_var (i : Nat) (ρ : Loc) (σ : Sto) : evB sub C (.var i) ρ σ = kTru (kVar σ ρ[i]?) := by
  show (match ρ[i]? with | some (some v) => truthOf v σ | _ => Out.bad) = _
  cases ρ[i]? with
  | none => rfl
  | some o => cases o <;> rfl
theorem evB_call (f : Nat) (as : IEs) (ρ : Loc) (σ : Sto) : evB sub C (.call f as) ρ σ = kTru (ev sub C (.call f as) ρ σ) := by
  show Out.bind (evArgs sub C as ρ σ) _ = kTru (Out.bind (evArgs sub C as ρ σ) _)
  cases evArgs sub C as ρ σ with
  | val vs σ => simp only [Out.bind_val]; cases C f vs σ <;> rfl
  | exn => rfl
  | bad => rfl
theorem evB_prim (p : Prim) (a : IE) (ρ : Loc) (σ : Sto) : evB sub C (.prim p a) ρ σ = kTru (ev sub C (.prim p a) ρ σ) := by
  show Out.bind (ev sub C a ρ σ) _ = kTru (Out.bind (ev sub C a ρ σ) _)
  cases ev sub C a ρ σ with
  | val v σ => simp only [Out.bind_val]; cases d1 (prim1 p) v σ <;> rfl
  | exn => rfl
  | bad => rfl
noncomputable def kIsin (t : Ty) : Out Val → Out Val | .val v σ => isinstOf t v sub σ | .exn c σ => .bad | .bad => .bad
theorem ev_isinst (a : IE) (t : Ty) (ρ : Loc) (σ : Sto) : ev sub C (.isinst a t) ρ σ = kIsin sub t (ev sub C a ρ σ) := by show Out.bind (ev sub C a ρ σ) _ = _; cases ev sub C a ρ σ <;> rfl
theorem evB_isinst (a : IE) (t : Ty) (ρ : Loc) (σ : Sto) : evB sub C (.isinst a t) ρ σ = kTru (ev sub C (.isinst a t) ρ σ) := by
  show Out.bind (ev sub C a ρ σ) _ = kTru (Out.bind (ev sub C a ρ σ) _)
  cases ev sub C a ρ σ with
  | val v σ => simp only [Out.bind_val]; cases isinstOf t v sub σ <;> rfl
  | exn => rfl
  | bad => rfl
noncomputable def kTruX : Out Val → Out Bool | .val v σ => truthOf v σ | .exn c σ => .exn c σ | .bad => .bad
theorem kTruX_val (b : Bool) (σ : Sto) : kTruX (.val (.dat (.bool b)) σ) = .val b σ := rfl
theorem kTruX_exn (c : Nat) (σ : Sto) : kTruX (.exn c σ) = .exn c σ := rfl
theorem evB_idx (a b : IE) (ρ : Loc) (σ : Sto) : evB sub C (.idx a b) ρ σ = kTruX (ev sub C (.idx a b) ρ σ) := by
  show Out.bindX (ev sub C a ρ σ) _ = kTruX (Out.bindX (ev sub C a ρ σ) _)
  cases ev sub C a ρ σ with
  | val v σ => simp only [Out.bindX_val]; cases ev sub C b ρ σ with
    | val w σ =>
      simp only [Out.bind_val]
      unfold d2
      cases (look σ v).bind fun a => (look σ w).bind fun b => idx2 a b <;> rfl
    | exn => rfl
    | bad => rfl
  | exn => rfl
  | bad => rfl
theorem kIsin_dat (t : Ty) (d : Dat) (σ : Sto) (ht : ∀ c, t ≠ .own c) : kIsin sub t (.val (.dat d) σ) = .val (.dat (.bool (isTy t d))) σ := by
  cases t <;> first | rfl | exact absurd rfl (ht _)
/-- comprehensions -/
noncomputable def compF (x : Nat) (ifs : IEs) (elt : IE) (ρ : Loc) (d : Dat) (σ : Sto) : Out (Option Dat) := (evIfs sub C ifs (ρ.set x (some (.dat d))) σ).bind fun b σ =>
  if b then (ev sub C elt (ρ.set x (some (.dat d))) σ).bind fun v σ => (toDat v σ).bind fun e σ => .val (some e) σ else .val Option.none σ
noncomputable def kComp (x : Nat) (ifs : IEs) (elt : IE) (ρ : Loc) : Out Src → Out Val
  | .val s σ => if s.items.length ≤ 1000000 then kLst (compL s (compF sub C x ifs elt ρ) s.items σ) else .bad
  | .exn c σ => .bad
  | .bad => .bad
theorem ev_comp (x : Nat) (it : II) (ifs : IEs) (elt : IE) (ρ : Loc) (σ : Sto) : ev sub C (.comp x it ifs elt) ρ σ = kComp sub C x ifs elt ρ (evI sub C it ρ σ) := by
  show Out.bind (evI sub C it ρ σ) _ = _
  cases evI sub C it ρ σ with
  | val s σ =>
    simp only [Out.bind_val, kComp]
    split
    · show (compL s (compF sub C x ifs elt ρ) s.items σ).bind _ = _
      cases compL s (compF sub C x ifs elt ρ) s.items σ <;> rfl
    · rfl
  | exn => rfl
  | bad => rfl
theorem kComp_val (x : Nat) (ifs : IEs) (elt : IE) (ρ : Loc) (s : Src) (σ : Sto) (h : s.items.length ≤ 1000000) : kComp sub C x ifs elt ρ (.val s σ) = kLst (compL s (compF sub C x ifs elt ρ) s.items σ) := if_pos h
/-- what loops go over -/
noncomputable def kOf : Out Val → Out Src
  | .val (.dat d) σ => ofOpt ((itemsOf d).map fun l => ⟨l, Option.none⟩) σ
  | .val (.ref k) σ => ofOpt ((σ[k]?).map fun e => ⟨e.2, some k⟩) σ
  | .val (.exc _) σ => .bad
  | .exn c σ => .bad
  | .bad => .bad
theorem evI_of' (e : IE) (ρ : Loc) (σ : Sto) : evI sub C (.of e) ρ σ = kOf (ev sub C e ρ σ) := by
  show Out.bind (ev sub C e ρ σ) _ = _
  cases ev sub C e ρ σ with
  | val v σ => cases v <;> rfl
  | exn => rfl
  | bad => rfl
theorem kOf_lst (l : List Dat) (σ : Sto) : kOf (.val (.dat (.lst l)) σ) = .val ⟨l, Option.none⟩ σ := rfl
theorem kOf_tup (l : List Dat) (σ : Sto) : kOf (.val (.dat (.tup l)) σ) = .val ⟨l, Option.none⟩ σ := rfl
theorem kOf_str (l : List Nat) (σ : Sto) : kOf (.val (.dat (.str l)) σ) = .val ⟨l.map fun c => .str [c], Option.none⟩ σ := rfl
noncomputable def kRev : Out Val → Out Src
  | .val (.dat (.str s)) σ => if s.length ≤ 1000000 then .val ⟨(s.map fun c => Dat.str [c]).reverse, Option.none⟩ σ else .bad
  | .val _ _ => .bad
  | .exn c σ => .bad
  | .bad => .bad
theorem evI_rev (e : IE) (ρ : Loc) (σ : Sto) : evI sub C (.rev e) ρ σ = kRev (ev sub C e ρ σ) := by
  show Out.bind (ev sub C e ρ σ) _ = _
  cases ev sub C e ρ σ with
  | val v σ => cases v with
    | dat d => cases d <;> rfl
    | _ => rfl
  | exn => rfl
  | bad => rfl
theorem kRev_val (s : List Nat) (σ : Sto) (h : s.length ≤ 1000000) : kRev (.val (.dat (.str s)) σ) = .val ⟨(s.map fun c => Dat.str [c]).reverse, Option.none⟩ σ := if_pos h
noncomputable def kRange1 : Out Val → Out Src
  | .val (.dat (.int n)) σ => if n ≤ 1000000 ∧ -1000000 ≤ n then .val ⟨rangeD 0 n, Option.none⟩ σ else .bad
  | .val _ _ => .bad
  | .exn c σ => .bad
  | .bad => .bad
theorem evI_range1 (e : IE) (ρ : Loc) (σ : Sto) : evI sub C (.range1 e) ρ σ = kRange1 (ev sub C e ρ σ) := by
  show Out.bind (ev sub C e ρ σ) _ = _
  cases ev sub C e ρ σ with
  | val v σ => cases v with
    | dat d => cases d <;> rfl
    | _ => rfl
  | exn => rfl
  | bad => rfl
theorem kRange1_val (n : Int) (σ : Sto) (h : n ≤ 1000000 ∧ -1000000 ≤ n) : kRange1 (.val (.dat (.int n)) σ) = .val ⟨rangeD 0 n, Option.none⟩ σ := if_pos h
noncomputable def kRange2 (b : IE) (ρ : Loc) : Out Val → Out Src
  | .val v σ => (ev sub C b ρ σ).bind fun w σ => match v, w with
    | .dat (.int n), .dat (.int m) => if -1000000 ≤ n ∧ n ≤ 1000000 ∧ m ≤ 1000000 ∧ -1000000 ≤ m then .val ⟨rangeD n m, Option.none⟩ σ else .bad
    | _, _ => .bad
  | .exn c σ => .bad
  | .bad => .bad
noncomputable def kRange2b (v : Val) : Out Val → Out Src
  | .val w σ => (match v, w with
    | .dat (.int n), .dat (.int m) => if -1000000 ≤ n ∧ n ≤ 1000000 ∧ m ≤ 1000000 ∧ -1000000 ≤ m then .val ⟨rangeD n m, Option.none⟩ σ else .bad
    | _, _ => .bad)
  | .exn c σ => .bad
  | .bad => .bad
theorem evI_range2 (a b : IE) (ρ : Loc) (σ : Sto) : evI sub C (.range2 a b) ρ σ = kRange2 sub C b ρ (ev sub C a ρ σ) := by
  show Out.bind (ev sub C a ρ σ) _ = _; cases ev sub C a ρ σ <;> rfl
theorem kRange2_val (b : IE) (ρ : Loc) (v : Val) (σ : Sto) : kRange2 sub C b ρ (.val v σ) = kRange2b v (ev sub C b ρ σ) := by
  simp only [kRange2]; cases ev sub C b ρ σ <;> rfl
theorem kRange2b_val (n m : Int) (σ : Sto) (h : -1000000 ≤ n ∧ n ≤ 1000000 ∧ m ≤ 1000000 ∧ -1000000 ≤ m) : kRange2b (.dat (.int n)) (.val (.dat (.int m)) σ) = .val ⟨rangeD n m, Option.none⟩ σ := if_pos h
theorem compF_nil (x : Nat) (elt : IE) (ρ : Loc) (d e : Dat) (σ : Sto) (h : ev sub C elt (ρ.set x (some (.dat d))) σ = .val (.dat e) σ) : compF sub C x .nil elt ρ d σ = .val (some e) σ := by
  simp only [compF, evIfs_nil, Out.bind_val, if_true, h, toDat_dat]
theorem compF_if (x : Nat) (c elt : IE) (ρ : Loc) (d e : Dat) (σ : Sto) (b : Bool) (hb : evB sub C c (ρ.set x (some (.dat d))) σ = .val b σ) (h : b = true → ev sub C elt (ρ.set x (some (.dat d))) σ = .val (.dat e) σ) : compF sub C x (.cons c .nil) elt ρ d σ = .val (if b then some e else Option.none) σ := by
  cases b with
  | true => simp only [compF, evIfs_cons, hb, kIfs_val, evIfs_nil, Out.bind_val, if_true, h rfl, toDat_dat]
  | false => simp only [compF, evIfs_cons, hb, kIfs_val, Out.bind_val, Bool.false_eq_true, if_false]
end

theorem b_add (a b : Int) : bin2 .add (.int a) (.int b) = some (.int (a + b)) := Eq.trans rfl rfl
theorem b_sub (a b : Int) : bin2 .sub (.int a) (.int b) = some (.int (a - b)) := Eq.trans rfl rfl
theorem b_mul1 (a b : Int) (h : -18446744073709551616 < a ∧ a < 18446744073709551616) : bin2 .mul (.int a) (.int b) = some (.int (a * b)) := if_pos (by simp only [shortInt, decide_eq_true h, Bool.true_or])
theorem b_mul2 (a b : Int) (h : -18446744073709551616 < b ∧ b < 18446744073709551616) : bin2 .mul (.int a) (.int b) = some (.int (a * b)) := if_pos (by simp only [shortInt, decide_eq_true h, Bool.or_true])
theorem b_mod (a b : Int) (h : 0 < b ∧ b < 18446744073709551616) : bin2 .mod (.int a) (.int b) = some (.int (a % b)) := if_pos h
theorem b_fdiv (a b : Int) (h : 0 < b ∧ b < 18446744073709551616) : bin2 .fdiv (.int a) (.int b) = some (.int (a / b)) := if_pos h
theorem cmp_eq_int (a b : Int) : cmp2 .eq (.int a) (.int b) = some (a == b) := Eq.trans rfl rfl
theorem cmp_eq_bool (a b : Bool) : cmp2 .eq (.bool a) (.bool b) = some (a == b) := Eq.trans rfl rfl
theorem cmp_lt (a b : Int) : cmp2 .lt (.int a) (.int b) = some (decide (a < b)) := Eq.trans rfl rfl
theorem cmp_le (a b : Int) : cmp2 .le (.int a) (.int b) = some (decide (a ≤ b)) := Eq.trans rfl rfl
theorem cmp_gt (a b : Int) : cmp2 .gt (.int a) (.int b) = some (decide (b < a)) := Eq.trans rfl rfl
theorem cmp_ge (a b : Int) : cmp2 .ge (.int a) (.int b) = some (decide (b ≤ a)) := Eq.trans rfl rfl
theorem idx_lst (l : List Dat) (k : Int) (d : Dat) (h : l.length ≤ 1000000) (h0 : 0 ≤ k) (hd : l[k.toNat]? = some d) : idx2 (.lst l) (.int k) = some d := by
  have h1 := (List.getElem?_eq_some_iff.mp hd).1
  have h2 : k < (l.length : Int) := by omega
  simp only [idx2, h, if_true, place, h0, h2, Option.bind_some, hd]
theorem idx_tup (l : List Dat) (k : Int) (d : Dat) (h : l.length ≤ 1000000) (h0 : 0 ≤ k) (hd : l[k.toNat]? = some d) : idx2 (.tup l) (.int k) = some d := by
  have h1 := (List.getElem?_eq_some_iff.mp hd).1
  have h2 : k < (l.length : Int) := by omega
  simp only [idx2, h, if_true, place, h0, h2, Option.bind_some, hd]
theorem idx_str (l : List Nat) (k : Int) (c : Nat) (h : l.length ≤ 1000000) (h0 : 0 ≤ k) (hd : l[k.toNat]? = some c) : idx2 (.str l) (.int k) = some (.str [c]) := by
  have h1 := (List.getElem?_eq_some_iff.mp hd).1
  have h2 : k < (l.length : Int) := by omega
  simp only [idx2, h, if_true, place, h0, h2, Option.bind_some, hd, Option.map_some]
mutual
theorem eqD_refl : ∀ d : Dat, eqD d d = some true
  | .none => rfl
  | .bool b => by simp [eqD]
  | .int i => by simp [eqD]
  | .str s => by simp [eqD]
  | .tup l => by simp only [eqD]; exact eqDs_refl l
  | .lst l => by simp only [eqD]; exact eqDs_refl l
theorem eqDs_refl : ∀ l : List Dat, eqDs l l = some true
  | [] => rfl
  | d :: l => by simp only [eqDs, eqD_refl d]; exact eqDs_refl l
end
theorem cmp_eq_self (d : Dat) (h : okD d = true) : cmp2 .eq d d = some true := (if_pos (by rw [h]; rfl)).trans (eqD_refl d)
theorem fine_ints (l : List Int) : fineDs (l.map .int) = true := by induction l with | nil => rfl | cons x l ih => simp [fineDs, fineD, ih]
theorem depth_ints (l : List Int) : depthDs (l.map .int) = 0 := by induction l with | nil => rfl | cons x l ih => simp [depthDs, depthD, ih]
theorem fine_bools (l : List Bool) : fineDs (l.map .bool) = true := by induction l with | nil => rfl | cons x l ih => simp [fineDs, fineD, ih]
theorem depth_bools (l : List Bool) : depthDs (l.map .bool) = 0 := by induction l with | nil => rfl | cons x l ih => simp [depthDs, depthD, ih]
theorem ok_ints (l : List Int) : okD (.lst (l.map .int)) = true := by simp [okD, fineD, depthD, fine_ints, depth_ints]
theorem ok_bools (l : List Bool) : okD (.lst (l.map .bool)) = true := by simp [okD, fineD, depthD, fine_bools, depth_bools]
theorem rangeD_nat (m : Nat) : (rangeD 0 m).length = m := by simp [rangeD]
theorem rangeD_item (m i : Nat) (h : i < (rangeD 0 m).length) : (rangeD 0 m)[i] = .int i := by simp [rangeD]
theorem max_neg (z : Int) : maxD z (-z) = (z.natAbs : Int) := by unfold maxD; split <;> omega
theorem p_max (x y : Int) : prim2 .max (.int x) (.int y) = some (.int (maxD x y)) := Eq.trans rfl rfl
theorem p_len_lst (l : List Dat) (h : l.length ≤ 1000000) : prim1 .len (.lst l) = some (.int l.length) := if_pos h
theorem p_len_str (l : List Nat) (h : l.length ≤ 1000000) : prim1 .len (.str l) = some (.int l.length) := if_pos h
theorem p_abs (i : Int) : prim1 .abs (.int i) = some (.int i.natAbs) := Eq.trans rfl rfl
theorem p_any (l : List Bool) : prim1 .any (.lst (l.map .bool)) = some (.bool (l.any id)) := by show (boolsOf _).map _ = _; rw [boolsOf_map]; rfl
theorem p_all (l : List Bool) : prim1 .all (.lst (l.map .bool)) = some (.bool (l.all id)) := by show (boolsOf _).map _ = _; rw [boolsOf_map]; rfl

/-- the source of a loop over a value -/
noncomputable def srcOf (v : Val) (l : List Dat) : Src := ⟨l, match v with | .ref k => some k | _ => none⟩
theorem srcOf_still {σ : Sto} {v : Val} {l : List Dat} (h : look σ v = some (.lst l)) : (srcOf v l).still σ = true := by
  cases v with
  | dat d => rfl
  | exc c => rfl
  | ref k =>
    simp only [look] at h
    cases hk : σ[k]? with
    | none => rw [hk] at h; cases h
    | some e => rw [hk] at h; simp at h; simp [srcOf, Src.still, hk, h]
theorem evI_of {sub : Nat → Nat → Bool} {C : Oracle} {e : IE} {ρ : Loc} {σ σ' : Sto} {v : Val} {l : List Dat} (h1 : ev sub C e ρ σ = .val v σ') (h : look σ' v = some (.lst l)) : evI sub C (.of e) ρ σ = .val (srcOf v l) σ' := by
  rw [evI_of', h1]
  cases v with
  | dat d => simp only [look, Option.some.injEq] at h; subst h; rfl
  | exc c => cases h
  | ref k =>
    simp only [look] at h
    cases hk : σ'[k]? with
    | none => rw [hk] at h; cases h
    | some e => rw [hk] at h; simp at h; simp [srcOf, kOf, hk, h]

theorem compL_map {s : Src} {f : Dat → Sto → Out (Option Dat)} {σ : Sto} (hs : s.still σ = true) {g : Dat → Option Dat} : ∀ {l : List Dat}, (∀ d ∈ l, f d σ = .val (g d) σ) → compL s f l σ = .val (l.filterMap g) σ
  | [], _ => by simp [compL, hs]
  | d :: l, h => by
    have ih := compL_map hs (l := l) fun d hd => h d (List.mem_cons_of_mem _ hd)
    simp only [compL, hs, if_true, h d List.mem_cons_self, Out.bind_val, ih]
    cases hg : g d <;> simp [hg]

/-- a loop that goes to its end -/
theorem forL_run {src : Src} {f : Dat → Loc → Sto → SOut} (I : Nat → Loc → Sto → Prop) {items : List Dat} {ρ : Loc} {σ : Sto} (hs : ∀ i ρ σ, I i ρ σ → src.still σ = true)
    (step : ∀ i ρ σ (h : i < items.length), I i ρ σ → ∃ ρ' σ', f items[i] ρ σ = .next ρ' σ' ∧ I (i + 1) ρ' σ') (h0 : I 0 ρ σ) : ∃ ρ' σ', forL src f items ρ σ = .next ρ' σ' ∧ I items.length ρ' σ' := by
  suffices k : ∀ (l pre : List Dat) (ρ : Loc) (σ : Sto), items = pre ++ l → I pre.length ρ σ → ∃ ρ' σ', forL src f l ρ σ = .next ρ' σ' ∧ I items.length ρ' σ' from k items [] ρ σ rfl h0
  intro l
  induction l with
  | nil =>
    intro pre ρ σ he hI
    refine ⟨ρ, σ, by simp [forL, hs _ _ _ hI], ?_⟩
    rw [he]; simpa using hI
  | cons d l ih =>
    intro pre ρ σ he hI
    have hlt : pre.length < items.length := by rw [he]; simp
    have hd : items[pre.length] = d := by simp [he]
    obtain ⟨ρ', σ', h1, h2⟩ := step _ ρ σ hlt hI
    rw [hd] at h1
    obtain ⟨ρ₂, σ₂, h3, h4⟩ := ih (pre ++ [d]) ρ' σ' (by simp [he]) (by simpa using h2)
    exact ⟨ρ₂, σ₂, by simp [forL, hs _ _ _ hI, h1, h3], h4⟩

/-! a loop over pairs -/
section
variable (sub : Nat → Nat → Bool) (C : Oracle)
noncomputable def bodyP (x y : Nat) (body : ISs) (d : Dat) (ρ : Loc) (σ : Sto) : SOut := match pairD d with
  | some (a, b) => exs sub C body ((ρ.set x (some (.dat a))).set y (some (.dat b))) σ
  | Option.none => .bad
noncomputable def kForP (x y : Nat) (body : ISs) (ρ : Loc) : Out Src → SOut | .val s σ => if s.items.length ≤ 1000000 then (forL s (bodyP sub C x y body) s.items ρ σ).noX else .bad | .exn c σ => .exn c ρ σ | .bad => .bad
theorem ex_for2 (x y : Nat) (it : II) (body : ISs) (ρ : Loc) (σ : Sto) : ex sub C (.for2 x y it body) ρ σ = kForP sub C x y body ρ (evI sub C it ρ σ) := by
  show Out.stm (evI sub C it ρ σ) _ _ = _; cases evI sub C it ρ σ <;> rfl
noncomputable def kEnum : Out Val → Out Src
  | .val (.dat (.lst l)) σ => .val ⟨enumD l, Option.none⟩ σ
  | .val (.dat (.str x)) σ => .val ⟨enumD (x.map fun c => .str [c]), Option.none⟩ σ
  | .val _ _ => .bad
  | .exn c σ => .bad
  | .bad => .bad
theorem evI_enum (e : IE) (ρ : Loc) (σ : Sto) : evI sub C (.enum e) ρ σ = kEnum (ev sub C e ρ σ) := by
  show Out.bind (ev sub C e ρ σ) _ = _
  cases ev sub C e ρ σ with
  | val v σ => cases v with
    | dat d => cases d <;> rfl
    | _ => rfl
  | exn => rfl
  | bad => rfl
end
/-- a loop over the items of a list that may return: what holds is said of the items gone -/
theorem forL_ret {α : Type} {src : Src} {f : Dat → Loc → Sto → SOut} {em : α → Dat} {l : List α} (P : List α → Loc → Sto → Prop) (R : Dat → Sto → Prop) (hs : ∀ b ρ σ, P b ρ σ → src.still σ = true)
    (step : ∀ pre a post ρ σ, l = pre ++ a :: post → P pre ρ σ → (∃ ρ' σ', f (em a) ρ σ = .next ρ' σ' ∧ P (pre ++ [a]) ρ' σ') ∨ ∃ d σ', f (em a) ρ σ = .ret d σ' ∧ R d σ') {ρ : Loc} {σ : Sto} (h0 : P [] ρ σ) :
    (∃ ρ' σ', forL src f (l.map em) ρ σ = .next ρ' σ' ∧ P l ρ' σ') ∨ ∃ d σ', forL src f (l.map em) ρ σ = .ret d σ' ∧ R d σ' := by
  suffices k : ∀ (m pre : List α) (ρ : Loc) (σ : Sto), l = pre ++ m → P pre ρ σ → (∃ ρ' σ', forL src f (m.map em) ρ σ = .next ρ' σ' ∧ P l ρ' σ') ∨ ∃ d σ', forL src f (m.map em) ρ σ = .ret d σ' ∧ R d σ' from k l [] ρ σ rfl h0
  intro m
  induction m with
  | nil =>
    intro pre ρ σ he hI
    rw [List.append_nil] at he
    exact .inl ⟨ρ, σ, by simp [forL, hs _ _ _ hI], he ▸ hI⟩
  | cons a m ih =>
    intro pre ρ σ he hI
    rcases step pre a m ρ σ he hI with ⟨ρ', σ', h1, h2⟩ | ⟨d, σ', h1, h2⟩
    · rcases ih (pre ++ [a]) ρ' σ' (by simp [he]) h2 with ⟨ρ₂, σ₂, h3, h4⟩ | ⟨d, σ₂, h3, h4⟩
      · exact .inl ⟨ρ₂, σ₂, by simp [forL, hs _ _ _ hI, h1, h3], h4⟩
      · exact .inr ⟨d, σ₂, by simp [forL, hs _ _ _ hI, h1, h3], h4⟩
    · exact .inr ⟨d, σ', by simp [forL, hs _ _ _ hI, h1], h2⟩
theorem rangeD_map (m : Nat) : rangeD 0 m = (List.range m).map fun i : Nat => Dat.int i := by simp [rangeD]

theorem compL_list {α : Type} {s : Src} {f : Dat → Sto → Out (Option Dat)} {σ : Sto} {em : α → Dat} (hs : s.still σ = true) {g : α → Option Dat} : ∀ {l : List α}, (∀ a ∈ l, f (em a) σ = .val (g a) σ) → compL s f (l.map em) σ = .val (l.filterMap g) σ
  | [], _ => by simp [compL, hs]
  | a :: l, h => by
    have ih := compL_list hs (l := l) fun d hd => h d (List.mem_cons_of_mem _ hd)
    simp only [List.map_cons, compL, hs, if_true, h a List.mem_cons_self, Out.bind_val, ih]
    cases hg : g a <;> simp [hg]
section
variable {sub : Nat → Nat → Bool} {C : Oracle} {α : Type}
theorem kComp_map {x : Nat} {elt : IE} {ρ : Loc} {σ : Sto} {em : α → Dat} (h : α → Dat) {l : List α} (hl : l.length ≤ 1000000) (hf : ∀ a ∈ l, ev sub C elt (ρ.set x (some (.dat (em a)))) σ = .val (.dat (h a)) σ) :
    kComp sub C x .nil elt ρ (.val ⟨l.map em, none⟩ σ) = .val (.dat (.lst (l.map h))) σ := by
  rw [kComp_val sub C x .nil elt ρ ⟨l.map em, none⟩ σ (by simpa using hl), compL_list (g := fun a => some (h a)) rfl fun a ha => compF_nil _ _ _ _ _ _ _ _ (hf a ha), kLst_val, List.filterMap_eq_map']
theorem filterMap_if {em : α → Dat} {p : α → Bool} : ∀ l : List α, l.filterMap (fun a => if p a then some (em a) else none) = (l.filter p).map em
  | [] => rfl
  | a :: l => by cases h : p a <;> simp [h, filterMap_if l]
theorem kComp_filter {x : Nat} {c elt : IE} {ρ : Loc} {σ : Sto} {em : α → Dat} (p : α → Bool) {l : List α} (hl : l.length ≤ 1000000) (hp : ∀ a ∈ l, evB sub C c (ρ.set x (some (.dat (em a)))) σ = .val (p a) σ)
    (hf : ∀ a ∈ l, ev sub C elt (ρ.set x (some (.dat (em a)))) σ = .val (.dat (em a)) σ) : kComp sub C x (.cons c .nil) elt ρ (.val ⟨l.map em, none⟩ σ) = .val (.dat (.lst ((l.filter p).map em))) σ := by
  rw [kComp_val sub C x _ elt ρ ⟨l.map em, none⟩ σ (by simpa using hl), compL_list (g := fun a => if p a then some (em a) else none) rfl fun a ha => compF_if _ _ _ _ _ _ _ _ _ _ (hp a ha) fun _ => hf a ha, kLst_val, filterMap_if]
theorem kFor_ret {x : Nat} {body : ISs} {em : α → Dat} {l : List α} (P : List α → Loc → Sto → Prop) (R : Dat → Sto → Prop) {ρ : Loc} {σ : Sto} (hl : l.length ≤ 1000000)
    (h : ∀ pre a post ρ σ, l = pre ++ a :: post → P pre ρ σ → (∃ ρ' σ', exs sub C body (ρ.set x (some (.dat (em a)))) σ = .next ρ' σ' ∧ P (pre ++ [a]) ρ' σ') ∨ ∃ d σ', exs sub C body (ρ.set x (some (.dat (em a)))) σ = .ret d σ' ∧ R d σ')
    (h0 : P [] ρ σ) : (∃ ρ' σ', kFor sub C x body ρ (.val ⟨l.map em, none⟩ σ) = .next ρ' σ' ∧ P l ρ' σ') ∨ ∃ d σ', kFor sub C x body ρ (.val ⟨l.map em, none⟩ σ) = .ret d σ' ∧ R d σ' := by
  rw [kFor_val sub C x body ρ ⟨l.map em, none⟩ σ (by simpa using hl)]
  exact forL_ret P R (fun _ _ _ _ => rfl) h h0
theorem kFor_all {x : Nat} {body : ISs} {em : α → Dat} {l : List α} (P : List α → Loc → Sto → Prop) {ρ : Loc} {σ : Sto} (hl : l.length ≤ 1000000)
    (h : ∀ pre a post ρ σ, l = pre ++ a :: post → P pre ρ σ → ∃ ρ' σ', exs sub C body (ρ.set x (some (.dat (em a)))) σ = .next ρ' σ' ∧ P (pre ++ [a]) ρ' σ')
    (h0 : P [] ρ σ) : ∃ ρ' σ', kFor sub C x body ρ (.val ⟨l.map em, none⟩ σ) = .next ρ' σ' ∧ P l ρ' σ' := by
  rcases kFor_ret P (fun _ _ => False) hl (fun pre a post ρ σ he hP => .inl (h pre a post ρ σ he hP)) h0 with h | ⟨_, _, _, h⟩
  · exact h
  · cases h
theorem zip_at {l : List α} {pre post : List (α × Nat)} {a : α} {k : Nat} (h : l.zipIdx = pre ++ (a, k) :: post) : k = pre.length ∧ l = pre.map (·.1) ++ a :: post.map (·.1) := by
  have h1 : l.zipIdx[pre.length]? = some (a, k) := by rw [h]; simp
  rw [List.getElem?_zipIdx] at h1
  obtain ⟨b, _, hb⟩ := Option.map_eq_some_iff.mp h1
  cases hb
  refine ⟨by omega, ?_⟩
  have := congrArg (List.map (·.1)) h
  rw [List.zipIdx_map_fst] at this
  simpa using this
theorem kForP_ret {x y : Nat} {body : ISs} {em : α → Dat} {l : List α} (P : List α → Loc → Sto → Prop) (R : Dat → Sto → Prop) {ρ : Loc} {σ : Sto} (hl : l.length ≤ 1000000)
    (h : ∀ pre a post ρ σ, l = pre ++ a :: post → P pre ρ σ → (∃ ρ' σ', exs sub C body ((ρ.set x (some (.dat (.int pre.length)))).set y (some (.dat (em a)))) σ = .next ρ' σ' ∧ P (pre ++ [a]) ρ' σ') ∨ ∃ d σ', exs sub C body ((ρ.set x (some (.dat (.int pre.length)))).set y (some (.dat (em a)))) σ = .ret d σ' ∧ R d σ')
    (h0 : P [] ρ σ) : (∃ ρ' σ', kForP sub C x y body ρ (.val ⟨enumD (l.map em), none⟩ σ) = .next ρ' σ' ∧ P l ρ' σ') ∨ ∃ d σ', kForP sub C x y body ρ (.val ⟨enumD (l.map em), none⟩ σ) = .ret d σ' ∧ R d σ' := by
  have e : enumD (l.map em) = l.zipIdx.map fun p => .tup [.int p.2, em p.1] := by
    unfold enumD
    rw [List.zipIdx_map, List.map_map]; rfl
  have hv : kForP sub C x y body ρ (.val ⟨enumD (l.map em), none⟩ σ) = (forL ⟨enumD (l.map em), none⟩ (bodyP sub C x y body) (enumD (l.map em)) ρ σ).noX := if_pos (by show (enumD (l.map em)).length ≤ 1000000; rw [e]; simpa using hl)
  rw [hv, e]
  have := forL_ret (src := ⟨l.zipIdx.map fun p => .tup [.int p.2, em p.1], none⟩) (f := bodyP sub C x y body) (em := fun p : α × Nat => Dat.tup [.int p.2, em p.1]) (l := l.zipIdx) (fun pre ρ τ => P (pre.map (·.1)) ρ τ) R (fun _ _ _ _ => rfl)
    (fun pre a post ρ τ he hP => by
      obtain ⟨a, k⟩ := a
      obtain ⟨rfl, hl'⟩ := zip_at he
      have := h _ a _ ρ τ hl' hP
      rw [List.length_map] at this
      simp only [List.map_append, List.map_cons, List.map_nil]
      exact this) h0
  rw [List.zipIdx_map_fst] at this
  rcases this with ⟨ρ', σ', h1, h2⟩ | ⟨d, σ', h1, h2⟩
  · exact .inl ⟨ρ', σ', by rw [h1]; rfl, h2⟩
  · exact .inr ⟨d, σ', by rw [h1]; rfl, h2⟩
theorem kForP_all {x y : Nat} {body : ISs} {em : α → Dat} {l : List α} (P : List α → Loc → Sto → Prop) {ρ : Loc} {σ : Sto} (hl : l.length ≤ 1000000)
    (h : ∀ pre a post ρ σ, l = pre ++ a :: post → P pre ρ σ → ∃ ρ' σ', exs sub C body ((ρ.set x (some (.dat (.int pre.length)))).set y (some (.dat (em a)))) σ = .next ρ' σ' ∧ P (pre ++ [a]) ρ' σ')
    (h0 : P [] ρ σ) : ∃ ρ' σ', kForP sub C x y body ρ (.val ⟨enumD (l.map em), none⟩ σ) = .next ρ' σ' ∧ P l ρ' σ' := by
  rcases kForP_ret P (fun _ _ => False) hl (fun pre a post ρ σ he hP => .inl (h pre a post ρ σ he hP)) h0 with h | ⟨_, _, _, h⟩
  · exact h
  · cases h
theorem pre_lt {l pre post : List α} {a : α} (h : l = pre ++ a :: post) : pre.length < l.length ∧ a ∈ l := by subst h; simp
end

theorem call_ret {sub : Nat → Nat → Bool} {Δ : Nat → Option Fn} {n f : Nat} {fn : Fn} {args : List Val} {σ σ' : Sto} {d : Dat} (hd : Δ f = some fn) (ha : args.length = fn.arity)
    (h : exs sub (callF sub Δ n) fn.body (args.map some ++ List.replicate (fn.slots - fn.arity) none) σ = .ret d σ') (ht : σ'.take σ.length = σ) : callF sub Δ (n + 1) f args σ = .val d σ := by
  simp only [callF, hd, ha, if_true, h, SOut.back_ret, ht]
end Mine

/-! ## PDef05 -/
namespace Mine
noncomputable def b_check_1 : ISs := (.cons (.ite (.or (.cons (.cmp (.var 4) (.cons .eq (.lit (.int 0)) .nil)) (.cons (.cmp (.prim .abs (.var 4)) (.cons .gt (.prim .len (.var 0)) .nil)) .nil))) (.cons (.raise 1 [110, 111, 32, 115, 117, 99, 104, 32, 108, 97, 109, 112]) .nil) .nil) .nil)
noncomputable def b_check_2 : ISs := (.cons (.ite (.cmp (.prim .len (.var 3)) (.cons .gt (.con "MOST_NUMBERS" (.int 10)) .nil)) (.cons (.raise 1 [116, 111, 111, 32, 109, 97, 110, 121, 32, 110, 117, 109, 98, 101, 114, 115]) .nil) .nil) (.cons (.for1 4 (.of (.var 3)) b_check_1) .nil))
noncomputable def b_check_3 : ISs := (.cons (.ite (.and (.cons (.cmp (.var 2) (.cons .ne (.lit (.str [102])) .nil)) (.cons (.cmp (.var 2) (.cons .ne (.lit (.str [111])) .nil)) .nil))) (.cons (.raise 1 [97, 32, 115, 101, 116, 116, 101, 114, 32, 105, 115, 32, 102, 32, 111, 114, 32, 111]) .nil) .nil) .nil)
/-- check: setters, wishes, sign, wish, number -/
noncomputable def fn_check : Fn := ⟨2, 5, (.cons (.ite (.or (.cons (.cmp (.prim .len (.var 0)) (.cons .gt (.con "MOST_LAMPS" (.int 10)) .nil)) (.cons (.cmp (.prim .len (.var 1)) (.cons .gt (.con "MOST_WISHES" (.int 20)) .nil)) .nil))) (.cons (.raise 1 [116, 111, 111, 32, 109, 97, 110, 121, 32, 108, 97, 109, 112, 115, 32, 111, 114, 32, 119, 105, 115, 104, 101, 115]) .nil) .nil) (.cons (.for1 2 (.of (.var 0)) b_check_3) (.cons (.for1 3 (.of (.var 1)) b_check_2) .nil)))⟩
/-- solve: setters, wishes, facts, found -/
noncomputable def fn_solve : Fn := ⟨2, 4, (.cons (.drop (.call 11 (.cons (.var 0) (.cons (.var 1) .nil)))) (.cons .any (.cons .any (.cons .any .nil))))⟩
/-- needed: setters, wishes, left, place, fewer -/
noncomputable def fn_needed : Fn := ⟨2, 5, (.cons (.ite (.idx (.call 10 (.cons (.var 0) (.cons (.var 1) .nil))) (.lit (.int 0))) (.cons .any .nil) .nil) (.cons .any (.cons .any (.cons .any .nil))))⟩
/-- lent: setters, wishes, at, other -/
noncomputable def fn_lent : Fn := ⟨2, 4, (.cons (.ite (.not (.idx (.call 10 (.cons (.var 0) (.cons (.var 1) .nil))) (.lit (.int 0)))) (.cons .any .nil) .nil) (.cons .any (.cons .any .nil)))⟩
/-- _law_cell_at: _law_script, _law_k -/
noncomputable def fn_l_cell_at : Fn := ⟨2, 2, (.cons (.ite (.cmp (.var 1) (.cons .lt (.prim .len (.var 0)) .nil)) (.cons (.ret (.idx (.var 0) (.var 1))) .nil) .nil) (.cons (.ret (.lit (.int 0))) .nil))⟩
noncomputable def b_l_setters_1 : ISs := (.cons (.assign 2 (.bin .add (.var 2) (.idx (.lit (.str [102, 111])) (.bin .mod (.var 0) (.lit (.int 2)))))) (.cons (.assign 0 (.bin .fdiv (.var 0) (.lit (.int 2)))) .nil))
/-- _law_setters: _law_cell, _law_many, _law_found, _law_k -/
noncomputable def fn_l_setters : Fn := ⟨2, 4, (.cons (.assign 2 (.lit (.str []))) (.cons (.for1 3 (.range1 (.var 1)) b_l_setters_1) (.cons (.ret (.var 2)) .nil)))⟩
noncomputable def b_l_wish_1 : ISs := (.cons (.ite (.cmp (.var 2) (.cons .gt (.lit (.int 0)) .nil)) (.cons (.assign 5 (.bin .add (.lit (.int 1)) (.bin .mod (.var 0) (.var 2)))) (.cons (.ite (.cmp (.bin .mod (.bin .fdiv (.var 0) (.var 2)) (.lit (.int 2))) (.cons .eq (.lit (.int 1)) .nil)) (.cons (.assign 5 (.neg (.var 5))) .nil) .nil) (.cons (.append 3 (.var 5)) (.cons (.assign 0 (.bin .fdiv (.var 0) (.bin .mul (.lit (.int 2)) (.var 2)))) .nil)))) .nil) .nil)
/-- _law_wish: _law_cell, _law_size, _law_many, _law_wish_here, _law_k, _law_number -/
noncomputable def fn_l_wish : Fn := ⟨3, 6, (.cons (.newlst 3 .nil) (.cons (.for1 4 (.range1 (.var 1)) b_l_wish_1) (.cons (.ret (.var 3)) .nil)))⟩
/-- _law_put: _law_row, _law_cell, _law_thing, _law_at -/
noncomputable def fn_l_put : Fn := ⟨3, 4, (.cons (.assign 3 (.bin .mod (.var 1) (.bin .add (.prim .len (.var 0)) (.lit (.int 1))))) (.cons (.ret (.bin .add (.bin .add (.slTo (.var 0) (.var 3)) (.lst (.cons (.var 2) .nil))) (.slFrom (.var 0) (.var 3)))) .nil))⟩
/-- _law_stranger: _law_cell, _law_many, _law_number -/
noncomputable def fn_l_stranger : Fn := ⟨2, 3, (.cons (.assign 2 (.idx (.lst (.cons (.bin .add (.var 1) (.lit (.int 1))) (.cons (.bin .add (.var 1) (.lit (.int 2))) (.cons (.bin .pow (.lit (.int 10)) (.lit (.int 30))) (.cons (.lit (.int 0)) .nil))))) (.bin .mod (.var 0) (.lit (.int 4))))) (.cons (.ite (.cmp (.bin .mod (.bin .fdiv (.var 0) (.lit (.int 4))) (.lit (.int 2))) (.cons .eq (.lit (.int 1)) .nil)) (.cons (.ret (.neg (.var 2))) .nil) .nil) (.cons (.ret (.var 2)) .nil)))⟩
noncomputable def t_l_faulty_6 : ISs := (.cons (.ret (.tup (.cons (.bin .add (.var 2) (.lit (.str [102]))) (.cons (.bin .add (.var 3) (.lst (.cons (.bin .mul (.lst (.cons (.lit (.int 1)) (.cons (.neg (.lit (.int 1))) .nil))) (.lit (.int 5))) .nil))) .nil)))) .nil)
noncomputable def t_l_faulty_5 : ISs := (.cons (.ite (.cmp (.var 0) (.cons .eq (.lit (.int 6)) .nil)) (.cons (.ret (.tup (.cons (.bin .add (.var 2) (.bin .mul (.lit (.str [111])) (.bin .sub (.lit (.int 10)) (.prim .len (.var 2))))) (.cons (.bin .add (.var 3) (.comp 7 (.range1 (.bin .sub (.lit (.int 20)) (.prim .len (.var 3)))) .nil (.lst .nil))) .nil)))) .nil) .nil) t_l_faulty_6)
noncomputable def t_l_faulty_4 : ISs := (.cons (.ite (.cmp (.var 0) (.cons .eq (.lit (.int 5)) .nil)) (.cons (.assign 6 (.call 103 (.cons (.call 102 (.cons (.bin .fdiv (.var 1) (.lit (.int 8))) (.cons (.bin .mod (.var 1) (.lit (.int 4))) (.cons (.prim .len (.var 2)) .nil)))) (.cons (.var 1) (.cons (.call 104 (.cons (.bin .fdiv (.var 1) (.lit (.int 7))) (.cons (.prim .len (.var 2)) .nil))) .nil))))) (.cons (.ret (.tup (.cons (.var 2) (.cons (.call 103 (.cons (.var 3) (.cons (.bin .fdiv (.var 1) (.lit (.int 3))) (.cons (.var 6) .nil)))) .nil)))) .nil)) .nil) t_l_faulty_5)
noncomputable def t_l_faulty_3 : ISs := (.cons (.ite (.cmp (.var 0) (.cons .eq (.lit (.int 4)) .nil)) (.cons (.ret (.tup (.cons (.bin .add (.var 2) (.lit (.str [102]))) (.cons (.call 103 (.cons (.var 3) (.cons (.var 1) (.cons (.bin .mul (.lst (.cons (.lit (.int 1)) .nil)) (.bin .add (.lit (.int 11)) (.bin .mod (.bin .fdiv (.var 1) (.lit (.int 5))) (.lit (.int 30))))) .nil)))) .nil)))) .nil) .nil) t_l_faulty_4)
noncomputable def t_l_faulty_2 : ISs := (.cons (.ite (.cmp (.var 0) (.cons .eq (.lit (.int 3)) .nil)) (.cons (.ret (.tup (.cons (.var 2) (.cons (.bin .add (.comp 7 (.range1 (.bin .add (.bin .sub (.lit (.int 21)) (.prim .len (.var 3))) (.bin .mod (.var 1) (.lit (.int 30))))) .nil (.lst .nil)) (.var 3)) .nil)))) .nil) .nil) t_l_faulty_3)
noncomputable def t_l_faulty_1 : ISs := (.cons (.ite (.cmp (.var 0) (.cons .eq (.lit (.int 2)) .nil)) (.cons (.ret (.tup (.cons (.bin .add (.var 2) (.bin .mul (.lit (.str [102])) (.bin .add (.bin .sub (.lit (.int 11)) (.prim .len (.var 2))) (.bin .mod (.var 1) (.lit (.int 30)))))) (.cons (.var 3) .nil)))) .nil) .nil) t_l_faulty_2)
noncomputable def t_l_faulty_0 : ISs := (.cons (.ite (.cmp (.var 0) (.cons .eq (.lit (.int 1)) .nil)) (.cons (.assign 4 (.idx (.lit (.str [103, 70, 79, 48, 32, 45, 110, 120])) (.bin .mod (.var 1) (.lit (.int 8))))) (.cons (.assign 5 (.bin .mod (.bin .fdiv (.var 1) (.lit (.int 8))) (.bin .add (.prim .len (.var 2)) (.lit (.int 1))))) (.cons (.ret (.tup (.cons (.bin .add (.bin .add (.slTo (.var 2) (.var 5)) (.var 4)) (.slFrom (.var 2) (.var 5))) (.cons (.var 3) .nil)))) .nil))) .nil) t_l_faulty_1)
/-- _law_faulty: _law_way, _law_cell, _law_setters_here, _law_wishes, _law_sign, _law_at, _law_wish_here -/
noncomputable def fn_l_faulty : Fn := ⟨4, 8, t_l_faulty_0⟩
noncomputable def t_l_told_3 : ISs := (.cons (.ret (.call 13 (.cons (.var 1) (.cons (.var 2) .nil)))) .nil)
noncomputable def t_l_told_2 : ISs := (.cons (.ite (.cmp (.var 0) (.cons .eq (.lit (.int 2)) .nil)) (.cons (.ret (.call 12 (.cons (.var 1) (.cons (.var 2) .nil)))) .nil) .nil) t_l_told_3)
noncomputable def t_l_told_1 : ISs := (.cons (.ite (.cmp (.var 0) (.cons .eq (.lit (.int 1)) .nil)) (.cons (.ret (.call 10 (.cons (.var 1) (.cons (.var 2) .nil)))) .nil) .nil) t_l_told_2)
noncomputable def t_l_told_0 : ISs := (.cons (.ite (.cmp (.var 0) (.cons .eq (.lit (.int 0)) .nil)) (.cons (.ret (.call 11 (.cons (.var 1) (.cons (.var 2) .nil)))) .nil) .nil) t_l_told_1)
/-- _law_told: _law_which, _law_setters_here, _law_wishes -/
noncomputable def fn_l_told : Fn := ⟨3, 3, t_l_told_0⟩
/-- _law_refused: _law_which, _law_setters_here, _law_wishes, _law_by_base, e -/
noncomputable def fn_l_refused : Fn := ⟨4, 5, (.cons (.ite (.var 3) (.cons (.tryc 106 (.cons (.var 0) (.cons (.var 1) (.cons (.var 2) .nil))) [⟨0, 4, [(false, .isi 9)]⟩]) (.cons (.ret (.lit (.bool false))) .nil)) .nil) (.cons (.tryc 106 (.cons (.var 0) (.cons (.var 1) (.cons (.var 2) .nil))) [⟨1, 4, [(false, .isi 0), (true, .isi 2), (true, .isi 3)]⟩]) (.cons (.ret (.lit (.bool false))) .nil)))⟩
noncomputable def t_law_14 : ISs := (.cons (.ret (.cmp (.var 9) (.cons .eq (.idx (.var 8) (.lit (.int 1))) .nil))) .nil)
noncomputable def b_law_1 : ISs := (.cons (.ite (.not (.call 1000 (.cons (.var 10) (.cons (.idx (.var 8) (.lit (.int 0))) (.cons (.var 9) (.cons (.var 11) .nil)))))) (.cons (.ret (.lit (.bool false))) .nil) .nil) .nil)
noncomputable def t_law_13 : ISs := (.cons (.for1 11 (.of (.tup (.cons (.lit (.bool false)) (.cons (.lit (.bool true)) .nil)))) b_law_1) t_law_14)
noncomputable def t_law_12 : ISs := (.cons (.assign 10 (.bin .mod (.bin .fdiv (.call 100 (.cons (.var 0) (.cons (.lit (.int 3)) .nil))) (.lit (.int 8))) (.lit (.int 4)))) t_law_13)
noncomputable def t_law_11 : ISs := (.cons (.ite (.or (.cons (.cmp (.var 6) (.cons .eq (.lit (.int 0)) .nil)) (.cons (.cmp (.var 6) (.cons .gt (.lit (.int 5)) .nil)) .nil))) (.cons (.ret (.and (.cons (.cmp (.call 11 (.cons (.idx (.var 8) (.lit (.int 0))) (.cons (.var 9) .nil))) (.cons .is (.lit .none) .nil)) (.cons (.cmp (.var 9) (.cons .eq (.idx (.var 8) (.lit (.int 1))) .nil)) .nil)))) .nil) .nil) t_law_12)
noncomputable def t_law_10 : ISs := (.cons (.assign 9 (.comp 12 (.of (.idx (.var 8) (.lit (.int 1)))) .nil (.listOf (.var 12)))) t_law_11)
noncomputable def t_law_9 : ISs := (.cons (.ite (.cmp (.var 6) (.cons .gt (.lit (.int 0)) .nil)) (.cons (.assign 8 (.call 105 (.cons (.var 6) (.cons (.var 7) (.cons (.var 2) (.cons (.var 4) .nil)))))) .nil) .nil) t_law_10)
noncomputable def t_law_8 : ISs := (.cons (.assign 8 (.tup (.cons (.var 2) (.cons (.var 4) .nil)))) t_law_9)
noncomputable def t_law_7 : ISs := (.cons (.assign 7 (.call 100 (.cons (.var 0) (.cons (.lit (.int 4)) .nil)))) t_law_8)
noncomputable def t_law_6 : ISs := (.cons (.assign 6 (.bin .mod (.call 100 (.cons (.var 0) (.cons (.lit (.int 3)) .nil))) (.lit (.int 8)))) t_law_7)
noncomputable def b_law_2 : ISs := (.cons (.append 4 (.call 102 (.cons (.call 100 (.cons (.var 0) (.cons (.bin .add (.lit (.int 5)) (.var 5)) .nil))) (.cons (.bin .mod (.bin .fdiv (.var 3) (.lit (.int 4))) (.lit (.int 4))) (.cons (.var 1) .nil))))) .nil)
noncomputable def t_law_5 : ISs := (.cons (.for1 5 (.range1 (.bin .mod (.var 3) (.lit (.int 4)))) b_law_2) t_law_6)
noncomputable def t_law_4 : ISs := (.cons (.newlst 4 .nil) t_law_5)
noncomputable def t_law_3 : ISs := (.cons (.assign 3 (.call 100 (.cons (.var 0) (.cons (.lit (.int 2)) .nil)))) t_law_4)
noncomputable def t_law_2 : ISs := (.cons (.assign 2 (.call 101 (.cons (.call 100 (.cons (.var 0) (.cons (.lit (.int 1)) .nil))) (.cons (.var 1) .nil)))) t_law_3)
noncomputable def t_law_1 : ISs := (.cons (.assign 1 (.bin .mod (.call 100 (.cons (.var 0) (.cons (.lit (.int 0)) .nil))) (.lit (.int 5)))) t_law_2)
noncomputable def t_law_0 : ISs := (.cons (.ite (.or (.cons (.cmp (.con "MOST_LAMPS" (.int 10)) (.cons .ne (.lit (.int 10)) .nil)) (.cons (.cmp (.con "MOST_WISHES" (.int 20)) (.cons .ne (.lit (.int 20)) .nil)) (.cons (.cmp (.con "MOST_NUMBERS" (.int 10)) (.cons .ne (.lit (.int 10)) .nil)) .nil)))) (.cons (.ret (.lit (.bool false))) .nil) .nil) t_law_1)
/-- law: _law_script, _law_many, _law_setters_here, _law_sizes, _law_wishes, _law_k, _law_way, _law_cell, _law_game, _law_handed, _law_which, _law_by_base -/
noncomputable def fn_law : Fn := ⟨1, 13, t_law_0⟩

noncomputable def tab : Tab := [(11, "check", ["setters", "wishes", "sign", "wish", "number"], fn_check),
  (10, "solve", ["setters", "wishes", "facts", "found"], fn_solve),
  (12, "needed", ["setters", "wishes", "left", "place", "fewer"], fn_needed),
  (13, "lent", ["setters", "wishes", "at", "other"], fn_lent),
  (100, "_law_cell_at", ["_law_script", "_law_k"], fn_l_cell_at),
  (101, "_law_setters", ["_law_cell", "_law_many", "_law_found", "_law_k"], fn_l_setters),
  (102, "_law_wish", ["_law_cell", "_law_size", "_law_many", "_law_wish_here", "_law_k", "_law_number"], fn_l_wish),
  (103, "_law_put", ["_law_row", "_law_cell", "_law_thing", "_law_at"], fn_l_put),
  (104, "_law_stranger", ["_law_cell", "_law_many", "_law_number"], fn_l_stranger),
  (105, "_law_faulty", ["_law_way", "_law_cell", "_law_setters_here", "_law_wishes", "_law_sign", "_law_at", "_law_wish_here"], fn_l_faulty),
  (106, "_law_told", ["_law_which", "_law_setters_here", "_law_wishes"], fn_l_told),
  (1000, "_law_refused", ["_law_which", "_law_setters_here", "_law_wishes", "_law_by_base", "e"], fn_l_refused),
  (107, "law", ["_law_script", "_law_many", "_law_setters_here", "_law_sizes", "_law_wishes", "_law_k", "_law_way", "_law_cell", "_law_game", "_law_handed", "_law_which", "_law_by_base"], fn_law)]
noncomputable def lawNo : Nat := 107
end Mine

/-! ## P05 -/
namespace Mine
noncomputable def wD (w : List Int) : Dat := .lst (w.map .int)
noncomputable abbrev wsD (ws : List (List Int)) : Dat := .lst (ws.map wD)
section
variable {sub : Nat → Nat → Bool}
theorem kSeq_exn {C : Oracle} (ss : ISs) (c : Nat) (ρ : Loc) (σ : Sto) : kSeq sub C ss (.exn c ρ σ) = .exn c ρ σ := rfl
theorem kIte_exn {C : Oracle} (a b : ISs) (c : Nat) (ρ : Loc) (σ : Sto) : kIte sub C a b ρ (.exn c σ) = .exn c ρ σ := rfl
theorem kRet_exn (c : Nat) (ρ : Loc) (σ : Sto) : kRet ρ (.exn c σ) = .exn c ρ σ := rfl
theorem ex_raise {C : Oracle} (c : Nat) (m : List Nat) (ρ : Loc) (σ : Sto) : ex sub C (.raise c m) ρ σ = .exn c ρ σ := rfl
theorem drop_exn {C : Oracle} {e : IE} {c : Nat} {ρ : Loc} {σ σ' : Sto} (h : ev sub C e ρ σ = .exn c σ') : ex sub C (.drop e) ρ σ = .exn c ρ σ' := by show Out.stm _ _ _ = _; rw [h]; rfl
theorem call_raise {Δ : Nat → Option Fn} {n f c : Nat} {fn : Fn} {args : List Val} {σ σ' : Sto} {ρ : Loc} (hd : Δ f = some fn) (ha : args.length = fn.arity)
    (h : exs sub (callF sub Δ n) fn.body (args.map some ++ List.replicate (fn.slots - fn.arity) none) σ = .exn c ρ σ') : callF sub Δ (n + 1) f args σ = .exn c (σ'.take σ.length) := by
  simp only [callF, hd, ha, if_true, h, SOut.back_exn]
theorem call_next {Δ : Nat → Option Fn} {n f : Nat} {fn : Fn} {args : List Val} {σ σ' : Sto} {ρ : Loc} (hd : Δ f = some fn) (ha : args.length = fn.arity)
    (h : exs sub (callF sub Δ n) fn.body (args.map some ++ List.replicate (fn.slots - fn.arity) none) σ = .next ρ σ') (ht : σ'.take σ.length = σ) : callF sub Δ (n + 1) f args σ = .val .none σ := by
  simp only [callF, hd, ha, if_true, h, SOut.back_next, ht]

/-- a loop that raises at the first item that is bad -/
theorem forL_dec {α : Type} {src : Src} {f : Dat → Loc → Sto → SOut} {em : α → Dat} (bad : α → Prop) (P : Loc → Sto → Prop) (hst : ∀ ρ σ, P ρ σ → src.still σ = true) :
    ∀ {l : List α} {ρ : Loc} {σ : Sto}, (∀ a ∈ l, ∀ ρ σ, P ρ σ → (¬ bad a → ∃ ρ' σ', f (em a) ρ σ = .next ρ' σ' ∧ P ρ' σ') ∧ (bad a → ∃ ρ' σ', f (em a) ρ σ = .exn 1 ρ' σ')) → P ρ σ →
    ((∀ a ∈ l, ¬ bad a) → ∃ ρ' σ', forL src f (l.map em) ρ σ = .next ρ' σ' ∧ P ρ' σ') ∧ ((∃ a ∈ l, bad a) → ∃ ρ' σ', forL src f (l.map em) ρ σ = .exn 1 ρ' σ')
  | [], ρ, σ, h, hP => ⟨fun _ => ⟨ρ, σ, by simp [forL, hst _ _ hP], hP⟩, fun ⟨a, ha, _⟩ => nomatch ha⟩
  | a :: l, ρ, σ, h, hP => by
    obtain ⟨h1, h2⟩ := h a (.head _) ρ σ hP
    by_cases hb : bad a
    · obtain ⟨ρ', σ', e⟩ := h2 hb
      exact ⟨fun hn => absurd hb (hn a (.head _)), fun _ => ⟨ρ', σ', by simp [forL, hst _ _ hP, e]⟩⟩
    · obtain ⟨ρ', σ', e, hP'⟩ := h1 hb
      obtain ⟨i1, i2⟩ := forL_dec bad P hst (l := l) (fun b hb => h b (.tail _ hb)) hP'
      refine ⟨fun hn => ?_, fun ⟨b, hb1, hb2⟩ => ?_⟩
      · obtain ⟨ρ₂, σ₂, e2, hP2⟩ := i1 fun b hb => hn b (.tail _ hb)
        exact ⟨ρ₂, σ₂, by simp [forL, hst _ _ hP, e, e2], hP2⟩
      · rcases List.mem_cons.mp hb1 with rfl | hb1
        · exact absurd hb2 hb
        · obtain ⟨ρ₂, σ₂, e2⟩ := i2 ⟨b, hb1, hb2⟩
          exact ⟨ρ₂, σ₂, by simp [forL, hst _ _ hP, e, e2]⟩
theorem kFor_dec {α : Type} {C : Oracle} {x : Nat} {body : ISs} {em : α → Dat} {l : List α} (bad : α → Prop) (P : Loc → Sto → Prop) {ρ : Loc} {σ : Sto} (hl : l.length ≤ 1000000)
    (h : ∀ a ∈ l, ∀ ρ σ, P ρ σ → (¬ bad a → ∃ ρ' σ', exs sub C body (ρ.set x (some (.dat (em a)))) σ = .next ρ' σ' ∧ P ρ' σ') ∧ (bad a → ∃ ρ' σ', exs sub C body (ρ.set x (some (.dat (em a)))) σ = .exn 1 ρ' σ')) (hP : P ρ σ) :
    ((∀ a ∈ l, ¬ bad a) → ∃ ρ' σ', kFor sub C x body ρ (.val ⟨l.map em, none⟩ σ) = .next ρ' σ' ∧ P ρ' σ') ∧ ((∃ a ∈ l, bad a) → ∃ ρ' σ', kFor sub C x body ρ (.val ⟨l.map em, none⟩ σ) = .exn 1 ρ' σ') := by
  rw [kFor_val sub C x body ρ ⟨l.map em, none⟩ σ (by simpa using hl)]
  exact forL_dec bad P (fun _ _ _ => rfl) h hP

/-! check -/
theorem ok_ch {a : Nat} (h : a < 1000) : okD (.str [a]) = true := by
  have : a < 1114112 := by omega
  simp [okD, fineD, depthD, this]
theorem ne_ch {a b : Nat} (ha : a < 1000) (hb : b < 1000) : cmp2 .ne (.str [a]) (.str [b]) = some (a != b) := by
  show (eq2 _ _).map _ = _
  simp only [eq2, ok_ch ha, ok_ch hb, Bool.and_self, if_true, eqD, Option.map_some]
  congr 1
  by_cases h : a = b <;> simp [h, bne]
theorem len_S (S : List Nat) (h : S.length ≤ 900) : prim1 .len (.str S) = some (.int S.length) := by
  have : S.length ≤ 1000000 := by omega
  simp [prim1, lenD, this]
theorem len_w (w : List Int) (h : w.length ≤ 900) : prim1 .len (wD w) = some (.int w.length) := by unfold wD; rw [p_len_lst _ (by simp; omega)]; simp
theorem len_ws (ws : List (List Int)) (h : ws.length ≤ 900) : prim1 .len (wsD ws) = some (.int ws.length) := by rw [p_len_lst _ (by simp; omega)]; simp
noncomputable def goodW (S : List Nat) (w : List Int) : Prop := w.length ≤ 10 ∧ ∀ z ∈ w, z ≠ 0 ∧ z.natAbs ≤ S.length
noncomputable def goodG (S : List Nat) (ws : List (List Int)) : Prop := S.length ≤ 10 ∧ ws.length ≤ 20 ∧ (∀ c ∈ S, c = 102 ∨ c = 111) ∧ ∀ w ∈ ws, goodW S w
/-- what check may be asked here -/
noncomputable def Small (S : List Nat) (ws : List (List Int)) : Prop := S.length ≤ 900 ∧ ws.length ≤ 900 ∧ (∀ w ∈ ws, w.length ≤ 900) ∧ ∀ c ∈ S, c < 1000
theorem ck_sign {C : Oracle} {c : Nat} {x0 x1 x3 x4 : Option Val} {σ : Sto} (hc : c < 1000) : exs sub C b_check_3 [x0, x1, some (.dat (.str [c])), x3, x4] σ = if c = 102 ∨ c = 111 then .next [x0, x1, some (.dat (.str [c])), x3, x4] σ else .exn 1 [x0, x1, some (.dat (.str [c])), x3, x4] σ := by
  have q1 := ne_ch hc (show 102 < 1000 by decide)
  have q2 := ne_ch hc (show 111 < 1000 by decide)
  by_cases h1 : c = 102
  · subst h1
    simp only [b_check_3, exs_nil, exs_cons, kSeq_next, kSeq_ret, ex_assign, kAsg_val, ex_newlst, kNew_val, ex_append, kApp0_ref, kApp_dat, ex_ret, kRet_dat, ex_ite, kIte_true, kIte_false, kIte_val, ex_for1, ex_for2, evI_enum, ev_lit, ev_con, ev_var, kVar_val, ev_bin, kBin1_val, kBin2_val, kD1_val, kD2a_val, kD2_val, ev_neg, negD, ev_prim, ev_prim2, ev_idx, kIdx_val, kNotX_val, kTruX_val, ev_slFrom, ev_slTo, ev_sorted, ev_listOf, ev_listRange, kTup_val, kLst_val, ev_tup, ev_lst, kNot_val, kBool_val, kTru_val, ev_not, evCmp_cons, evCmp_nil, kCmp1_val, kCmp2_nil, kCmp2_true, kCmp2_false, kCmp0_val, ev_cmp, evB_cmp, kCall_val, kDat_val, ev_call, kCons_val, kArgs_val, evArgs_nil, evArgs_cons, kToDat_dat, kEvs_val, evs_nil, evs_cons, ev_and, ev_or, evAnd_one, Out.noX_val, evOr_one, evAnd_cons, evOr_cons, kAnd_true, kAnd_false, kOr_true, kOr_false, kAnd_val, kOr_val, evAll_nil, evAny_nil, evIfs_nil, evAll_cons, evAny_cons, evIfs_cons, kAll_val, kAny_val, kIfs_val, evB_and, evB_or, evB_not, evB_var, evB_call, evB_prim, ev_isinst, evB_isinst, evB_idx, ev_comp, evI_of', kOf_lst, kOf_tup, kOf_str, evI_range1, evI_range2, kRange2_val, d1_dat, d2_dat, c2_dat, look_dat, bodyF, List.map_cons, List.map_nil, List.cons_append, List.nil_append, List.append_nil, List.replicate_succ, List.replicate_zero, List.getElem?_cons_zero, List.getElem?_cons_succ, List.set_cons_zero, List.set_cons_succ, List.length_cons, List.length_nil, Nat.sub_self, Nat.zero_add, Nat.reduceAdd, Nat.reduceSub, Nat.add_sub_cancel, if_true, if_false, Bool.false_eq_true, Int.reduceLT, Int.reduceLE, Int.reduceNeg, Int.reduceAdd, Int.reduceSub, Int.reduceMul, Int.reduceToNat, Nat.reduceLT, Nat.reduceLeDiff, and_self, and_true, true_and, decide_true, decide_false, Bool.not_true, Bool.not_false, Option.map_some, Option.bind_some, b_add, b_sub, b_mul1, b_mod, b_fdiv, cmp_eq_int, cmp_eq_bool, cmp_lt, cmp_le, cmp_gt, cmp_ge, Int.reduceGT, gt_iff_lt, ge_iff_le, isTy, q1, show ((102 : Nat) != 102) = false from rfl, true_or]
  · have e1 : (c != 102) = true := by simpa using h1
    by_cases h2 : c = 111
    · subst h2
      simp only [b_check_3, exs_nil, exs_cons, kSeq_next, kSeq_ret, ex_assign, kAsg_val, ex_newlst, kNew_val, ex_append, kApp0_ref, kApp_dat, ex_ret, kRet_dat, ex_ite, kIte_true, kIte_false, kIte_val, ex_for1, ex_for2, evI_enum, ev_lit, ev_con, ev_var, kVar_val, ev_bin, kBin1_val, kBin2_val, kD1_val, kD2a_val, kD2_val, ev_neg, negD, ev_prim, ev_prim2, ev_idx, kIdx_val, kNotX_val, kTruX_val, ev_slFrom, ev_slTo, ev_sorted, ev_listOf, ev_listRange, kTup_val, kLst_val, ev_tup, ev_lst, kNot_val, kBool_val, kTru_val, ev_not, evCmp_cons, evCmp_nil, kCmp1_val, kCmp2_nil, kCmp2_true, kCmp2_false, kCmp0_val, ev_cmp, evB_cmp, kCall_val, kDat_val, ev_call, kCons_val, kArgs_val, evArgs_nil, evArgs_cons, kToDat_dat, kEvs_val, evs_nil, evs_cons, ev_and, ev_or, evAnd_one, Out.noX_val, evOr_one, evAnd_cons, evOr_cons, kAnd_true, kAnd_false, kOr_true, kOr_false, kAnd_val, kOr_val, evAll_nil, evAny_nil, evIfs_nil, evAll_cons, evAny_cons, evIfs_cons, kAll_val, kAny_val, kIfs_val, evB_and, evB_or, evB_not, evB_var, evB_call, evB_prim, ev_isinst, evB_isinst, evB_idx, ev_comp, evI_of', kOf_lst, kOf_tup, kOf_str, evI_range1, evI_range2, kRange2_val, d1_dat, d2_dat, c2_dat, look_dat, bodyF, List.map_cons, List.map_nil, List.cons_append, List.nil_append, List.append_nil, List.replicate_succ, List.replicate_zero, List.getElem?_cons_zero, List.getElem?_cons_succ, List.set_cons_zero, List.set_cons_succ, List.length_cons, List.length_nil, Nat.sub_self, Nat.zero_add, Nat.reduceAdd, Nat.reduceSub, Nat.add_sub_cancel, if_true, if_false, Bool.false_eq_true, Int.reduceLT, Int.reduceLE, Int.reduceNeg, Int.reduceAdd, Int.reduceSub, Int.reduceMul, Int.reduceToNat, Nat.reduceLT, Nat.reduceLeDiff, and_self, and_true, true_and, decide_true, decide_false, Bool.not_true, Bool.not_false, Option.map_some, Option.bind_some, b_add, b_sub, b_mul1, b_mod, b_fdiv, cmp_eq_int, cmp_eq_bool, cmp_lt, cmp_le, cmp_gt, cmp_ge, Int.reduceGT, gt_iff_lt, ge_iff_le, isTy, q1, q2, e1, show ((111 : Nat) != 111) = false from rfl, or_true]
    · have e2 : (c != 111) = true := by simpa using h2
      simp only [b_check_3, exs_nil, exs_cons, kSeq_next, kSeq_ret, ex_assign, kAsg_val, ex_newlst, kNew_val, ex_append, kApp0_ref, kApp_dat, ex_ret, kRet_dat, ex_ite, kIte_true, kIte_false, kIte_val, ex_for1, ex_for2, evI_enum, ev_lit, ev_con, ev_var, kVar_val, ev_bin, kBin1_val, kBin2_val, kD1_val, kD2a_val, kD2_val, ev_neg, negD, ev_prim, ev_prim2, ev_idx, kIdx_val, kNotX_val, kTruX_val, ev_slFrom, ev_slTo, ev_sorted, ev_listOf, ev_listRange, kTup_val, kLst_val, ev_tup, ev_lst, kNot_val, kBool_val, kTru_val, ev_not, evCmp_cons, evCmp_nil, kCmp1_val, kCmp2_nil, kCmp2_true, kCmp2_false, kCmp0_val, ev_cmp, evB_cmp, kCall_val, kDat_val, ev_call, kCons_val, kArgs_val, evArgs_nil, evArgs_cons, kToDat_dat, kEvs_val, evs_nil, evs_cons, ev_and, ev_or, evAnd_one, Out.noX_val, evOr_one, evAnd_cons, evOr_cons, kAnd_true, kAnd_false, kOr_true, kOr_false, kAnd_val, kOr_val, evAll_nil, evAny_nil, evIfs_nil, evAll_cons, evAny_cons, evIfs_cons, kAll_val, kAny_val, kIfs_val, evB_and, evB_or, evB_not, evB_var, evB_call, evB_prim, ev_isinst, evB_isinst, evB_idx, ev_comp, evI_of', kOf_lst, kOf_tup, kOf_str, evI_range1, evI_range2, kRange2_val, d1_dat, d2_dat, c2_dat, look_dat, bodyF, List.map_cons, List.map_nil, List.cons_append, List.nil_append, List.append_nil, List.replicate_succ, List.replicate_zero, List.getElem?_cons_zero, List.getElem?_cons_succ, List.set_cons_zero, List.set_cons_succ, List.length_cons, List.length_nil, Nat.sub_self, Nat.zero_add, Nat.reduceAdd, Nat.reduceSub, Nat.add_sub_cancel, if_true, if_false, Bool.false_eq_true, Int.reduceLT, Int.reduceLE, Int.reduceNeg, Int.reduceAdd, Int.reduceSub, Int.reduceMul, Int.reduceToNat, Nat.reduceLT, Nat.reduceLeDiff, and_self, and_true, true_and, decide_true, decide_false, Bool.not_true, Bool.not_false, Option.map_some, Option.bind_some, b_add, b_sub, b_mul1, b_mod, b_fdiv, cmp_eq_int, cmp_eq_bool, cmp_lt, cmp_le, cmp_gt, cmp_ge, Int.reduceGT, gt_iff_lt, ge_iff_le, isTy, q1, q2, e1, e2, h1, h2, or_self, ex_raise, kSeq_exn]
theorem ck_num {C : Oracle} {S : List Nat} {z : Int} {x1 x2 x3 : Option Val} {σ : Sto} (hS : S.length ≤ 900) : exs sub C b_check_1 [some (.dat (.str S)), x1, x2, x3, some (.dat (.int z))] σ =
    if z ≠ 0 ∧ z.natAbs ≤ S.length then .next [some (.dat (.str S)), x1, x2, x3, some (.dat (.int z))] σ else .exn 1 [some (.dat (.str S)), x1, x2, x3, some (.dat (.int z))] σ := by
  have hln := len_S S hS
  have hab : prim1 .abs (.int z) = some (.int z.natAbs) := rfl
  generalize Dat.str S = X at hln
  by_cases h0 : z = 0
  · subst h0
    simp only [b_check_1, exs_nil, exs_cons, kSeq_next, kSeq_ret, ex_assign, kAsg_val, ex_newlst, kNew_val, ex_append, kApp0_ref, kApp_dat, ex_ret, kRet_dat, ex_ite, kIte_true, kIte_false, kIte_val, ex_for1, ex_for2, evI_enum, ev_lit, ev_con, ev_var, kVar_val, ev_bin, kBin1_val, kBin2_val, kD1_val, kD2a_val, kD2_val, ev_neg, negD, ev_prim, ev_prim2, ev_idx, kIdx_val, kNotX_val, kTruX_val, ev_slFrom, ev_slTo, ev_sorted, ev_listOf, ev_listRange, kTup_val, kLst_val, ev_tup, ev_lst, kNot_val, kBool_val, kTru_val, ev_not, evCmp_cons, evCmp_nil, kCmp1_val, kCmp2_nil, kCmp2_true, kCmp2_false, kCmp0_val, ev_cmp, evB_cmp, kCall_val, kDat_val, ev_call, kCons_val, kArgs_val, evArgs_nil, evArgs_cons, kToDat_dat, kEvs_val, evs_nil, evs_cons, ev_and, ev_or, evAnd_one, Out.noX_val, evOr_one, evAnd_cons, evOr_cons, kAnd_true, kAnd_false, kOr_true, kOr_false, kAnd_val, kOr_val, evAll_nil, evAny_nil, evIfs_nil, evAll_cons, evAny_cons, evIfs_cons, kAll_val, kAny_val, kIfs_val, evB_and, evB_or, evB_not, evB_var, evB_call, evB_prim, ev_isinst, evB_isinst, evB_idx, ev_comp, evI_of', kOf_lst, kOf_tup, kOf_str, evI_range1, evI_range2, kRange2_val, d1_dat, d2_dat, c2_dat, look_dat, bodyF, List.map_cons, List.map_nil, List.cons_append, List.nil_append, List.append_nil, List.replicate_succ, List.replicate_zero, List.getElem?_cons_zero, List.getElem?_cons_succ, List.set_cons_zero, List.set_cons_succ, List.length_cons, List.length_nil, Nat.sub_self, Nat.zero_add, Nat.reduceAdd, Nat.reduceSub, Nat.add_sub_cancel, if_true, if_false, Bool.false_eq_true, Int.reduceLT, Int.reduceLE, Int.reduceNeg, Int.reduceAdd, Int.reduceSub, Int.reduceMul, Int.reduceToNat, Nat.reduceLT, Nat.reduceLeDiff, and_self, and_true, true_and, decide_true, decide_false, Bool.not_true, Bool.not_false, Option.map_some, Option.bind_some, b_add, b_sub, b_mul1, b_mod, b_fdiv, cmp_eq_int, cmp_eq_bool, cmp_lt, cmp_le, cmp_gt, cmp_ge, Int.reduceGT, gt_iff_lt, ge_iff_le, isTy, show ((0 : Int) == 0) = true from rfl, ex_raise, kSeq_exn, ne_eq, not_true, false_and]
  · have e0 : (z == 0) = false := by simpa using h0
    by_cases h1 : z.natAbs ≤ S.length
    · have : ¬ ((S.length : Int) < (z.natAbs : Int)) := by omega
      simp only [b_check_1, exs_nil, exs_cons, kSeq_next, kSeq_ret, ex_assign, kAsg_val, ex_newlst, kNew_val, ex_append, kApp0_ref, kApp_dat, ex_ret, kRet_dat, ex_ite, kIte_true, kIte_false, kIte_val, ex_for1, ex_for2, evI_enum, ev_lit, ev_con, ev_var, kVar_val, ev_bin, kBin1_val, kBin2_val, kD1_val, kD2a_val, kD2_val, ev_neg, negD, ev_prim, ev_prim2, ev_idx, kIdx_val, kNotX_val, kTruX_val, ev_slFrom, ev_slTo, ev_sorted, ev_listOf, ev_listRange, kTup_val, kLst_val, ev_tup, ev_lst, kNot_val, kBool_val, kTru_val, ev_not, evCmp_cons, evCmp_nil, kCmp1_val, kCmp2_nil, kCmp2_true, kCmp2_false, kCmp0_val, ev_cmp, evB_cmp, kCall_val, kDat_val, ev_call, kCons_val, kArgs_val, evArgs_nil, evArgs_cons, kToDat_dat, kEvs_val, evs_nil, evs_cons, ev_and, ev_or, evAnd_one, Out.noX_val, evOr_one, evAnd_cons, evOr_cons, kAnd_true, kAnd_false, kOr_true, kOr_false, kAnd_val, kOr_val, evAll_nil, evAny_nil, evIfs_nil, evAll_cons, evAny_cons, evIfs_cons, kAll_val, kAny_val, kIfs_val, evB_and, evB_or, evB_not, evB_var, evB_call, evB_prim, ev_isinst, evB_isinst, evB_idx, ev_comp, evI_of', kOf_lst, kOf_tup, kOf_str, evI_range1, evI_range2, kRange2_val, d1_dat, d2_dat, c2_dat, look_dat, bodyF, List.map_cons, List.map_nil, List.cons_append, List.nil_append, List.append_nil, List.replicate_succ, List.replicate_zero, List.getElem?_cons_zero, List.getElem?_cons_succ, List.set_cons_zero, List.set_cons_succ, List.length_cons, List.length_nil, Nat.sub_self, Nat.zero_add, Nat.reduceAdd, Nat.reduceSub, Nat.add_sub_cancel, if_true, if_false, Bool.false_eq_true, Int.reduceLT, Int.reduceLE, Int.reduceNeg, Int.reduceAdd, Int.reduceSub, Int.reduceMul, Int.reduceToNat, Nat.reduceLT, Nat.reduceLeDiff, and_self, and_true, true_and, decide_true, decide_false, Bool.not_true, Bool.not_false, Option.map_some, Option.bind_some, b_add, b_sub, b_mul1, b_mod, b_fdiv, cmp_eq_int, cmp_eq_bool, cmp_lt, cmp_le, cmp_gt, cmp_ge, Int.reduceGT, gt_iff_lt, ge_iff_le, isTy, e0, hab, hln, this, ne_eq, h0, not_false_eq_true, h1]
    · have : (S.length : Int) < (z.natAbs : Int) := by omega
      simp only [b_check_1, exs_nil, exs_cons, kSeq_next, kSeq_ret, ex_assign, kAsg_val, ex_newlst, kNew_val, ex_append, kApp0_ref, kApp_dat, ex_ret, kRet_dat, ex_ite, kIte_true, kIte_false, kIte_val, ex_for1, ex_for2, evI_enum, ev_lit, ev_con, ev_var, kVar_val, ev_bin, kBin1_val, kBin2_val, kD1_val, kD2a_val, kD2_val, ev_neg, negD, ev_prim, ev_prim2, ev_idx, kIdx_val, kNotX_val, kTruX_val, ev_slFrom, ev_slTo, ev_sorted, ev_listOf, ev_listRange, kTup_val, kLst_val, ev_tup, ev_lst, kNot_val, kBool_val, kTru_val, ev_not, evCmp_cons, evCmp_nil, kCmp1_val, kCmp2_nil, kCmp2_true, kCmp2_false, kCmp0_val, ev_cmp, evB_cmp, kCall_val, kDat_val, ev_call, kCons_val, kArgs_val, evArgs_nil, evArgs_cons, kToDat_dat, kEvs_val, evs_nil, evs_cons, ev_and, ev_or, evAnd_one, Out.noX_val, evOr_one, evAnd_cons, evOr_cons, kAnd_true, kAnd_false, kOr_true, kOr_false, kAnd_val, kOr_val, evAll_nil, evAny_nil, evIfs_nil, evAll_cons, evAny_cons, evIfs_cons, kAll_val, kAny_val, kIfs_val, evB_and, evB_or, evB_not, evB_var, evB_call, evB_prim, ev_isinst, evB_isinst, evB_idx, ev_comp, evI_of', kOf_lst, kOf_tup, kOf_str, evI_range1, evI_range2, kRange2_val, d1_dat, d2_dat, c2_dat, look_dat, bodyF, List.map_cons, List.map_nil, List.cons_append, List.nil_append, List.append_nil, List.replicate_succ, List.replicate_zero, List.getElem?_cons_zero, List.getElem?_cons_succ, List.set_cons_zero, List.set_cons_succ, List.length_cons, List.length_nil, Nat.sub_self, Nat.zero_add, Nat.reduceAdd, Nat.reduceSub, Nat.add_sub_cancel, if_true, if_false, Bool.false_eq_true, Int.reduceLT, Int.reduceLE, Int.reduceNeg, Int.reduceAdd, Int.reduceSub, Int.reduceMul, Int.reduceToNat, Nat.reduceLT, Nat.reduceLeDiff, and_self, and_true, true_and, decide_true, decide_false, Bool.not_true, Bool.not_false, Option.map_some, Option.bind_some, b_add, b_sub, b_mul1, b_mod, b_fdiv, cmp_eq_int, cmp_eq_bool, cmp_lt, cmp_le, cmp_gt, cmp_ge, Int.reduceGT, gt_iff_lt, ge_iff_le, isTy, e0, hab, hln, this, ne_eq, h0, not_false_eq_true, h1, ex_raise, kSeq_exn]

theorem ck_wish {C : Oracle} {S : List Nat} {w : List Int} {x1 x2 y : Option Val} {σ : Sto} (hS : S.length ≤ 900) (hw : w.length ≤ 900) :
    (goodW S w → ∃ y', exs sub C b_check_2 [some (.dat (.str S)), x1, x2, some (.dat (wD w)), y] σ = .next [some (.dat (.str S)), x1, x2, some (.dat (wD w)), y'] σ) ∧
    (¬ goodW S w → ∃ ρ' σ', exs sub C b_check_2 [some (.dat (.str S)), x1, x2, some (.dat (wD w)), y] σ = .exn 1 ρ' σ') := by
  have hln := len_w w hw
  have hof : ∀ τ : Sto, kOf (.val (.dat (wD w)) τ) = .val ⟨w.map .int, none⟩ τ := fun _ => rfl
  obtain ⟨f1, f2⟩ := kFor_dec (sub := sub) (C := C) (x := 4) (body := b_check_1) (em := Dat.int) (l := w) (fun z => ¬ (z ≠ 0 ∧ z.natAbs ≤ S.length)) (fun ρ τ => (∃ y, ρ = [some (.dat (.str S)), x1, x2, some (.dat (wD w)), y]) ∧ τ = σ)
    (ρ := [some (.dat (.str S)), x1, x2, some (.dat (wD w)), y]) (σ := σ) (by omega) (fun z hz ρ τ hP => by
      obtain ⟨⟨y, rfl⟩, rfl⟩ := hP
      have := ck_num (sub := sub) (C := C) (S := S) (z := z) (x1 := x1) (x2 := x2) (x3 := some (.dat (wD w))) (σ := τ) hS
      exact ⟨fun h => ⟨_, _, this.trans (if_pos (Classical.not_not.mp h)), ⟨some (.dat (.int z)), rfl⟩, rfl⟩, fun h => ⟨_, _, this.trans (if_neg h)⟩⟩) ⟨⟨y, rfl⟩, rfl⟩
  by_cases hl : w.length ≤ 10
  · have hlt : ¬ ((10 : Int) < w.length) := by omega
    refine ⟨fun hg => ?_, fun hg => ?_⟩
    · obtain ⟨ρ', σ', e, ⟨y', rfl⟩, rfl⟩ := f1 fun z hz => not_not_intro (hg.2 z hz)
      refine ⟨y', ?_⟩
      generalize wD w = X at hln hof e
      simp only [b_check_2, exs_nil, exs_cons, kSeq_next, kSeq_ret, ex_assign, kAsg_val, ex_newlst, kNew_val, ex_append, kApp0_ref, kApp_dat, ex_ret, kRet_dat, ex_ite, kIte_true, kIte_false, kIte_val, ex_for1, ex_for2, evI_enum, ev_lit, ev_con, ev_var, kVar_val, ev_bin, kBin1_val, kBin2_val, kD1_val, kD2a_val, kD2_val, ev_neg, negD, ev_prim, ev_prim2, ev_idx, kIdx_val, kNotX_val, kTruX_val, ev_slFrom, ev_slTo, ev_sorted, ev_listOf, ev_listRange, kTup_val, kLst_val, ev_tup, ev_lst, kNot_val, kBool_val, kTru_val, ev_not, evCmp_cons, evCmp_nil, kCmp1_val, kCmp2_nil, kCmp2_true, kCmp2_false, kCmp0_val, ev_cmp, evB_cmp, kCall_val, kDat_val, ev_call, kCons_val, kArgs_val, evArgs_nil, evArgs_cons, kToDat_dat, kEvs_val, evs_nil, evs_cons, ev_and, ev_or, evAnd_one, Out.noX_val, evOr_one, evAnd_cons, evOr_cons, kAnd_true, kAnd_false, kOr_true, kOr_false, kAnd_val, kOr_val, evAll_nil, evAny_nil, evIfs_nil, evAll_cons, evAny_cons, evIfs_cons, kAll_val, kAny_val, kIfs_val, evB_and, evB_or, evB_not, evB_var, evB_call, evB_prim, ev_isinst, evB_isinst, evB_idx, ev_comp, evI_of', kOf_lst, kOf_tup, kOf_str, evI_range1, evI_range2, kRange2_val, d1_dat, d2_dat, c2_dat, look_dat, bodyF, List.map_cons, List.map_nil, List.cons_append, List.nil_append, List.append_nil, List.replicate_succ, List.replicate_zero, List.getElem?_cons_zero, List.getElem?_cons_succ, List.set_cons_zero, List.set_cons_succ, List.length_cons, List.length_nil, Nat.sub_self, Nat.zero_add, Nat.reduceAdd, Nat.reduceSub, Nat.add_sub_cancel, if_true, if_false, Bool.false_eq_true, Int.reduceLT, Int.reduceLE, Int.reduceNeg, Int.reduceAdd, Int.reduceSub, Int.reduceMul, Int.reduceToNat, Nat.reduceLT, Nat.reduceLeDiff, and_self, and_true, true_and, decide_true, decide_false, Bool.not_true, Bool.not_false, Option.map_some, Option.bind_some, b_add, b_sub, b_mul1, b_mod, b_fdiv, cmp_eq_int, cmp_eq_bool, cmp_lt, cmp_le, cmp_gt, cmp_ge, Int.reduceGT, gt_iff_lt, ge_iff_le, isTy, hln, hlt, hof, e]
    · obtain ⟨ρ', σ', e⟩ := f2 (Classical.byContradiction fun hn => hg ⟨hl, fun z hz => Classical.byContradiction fun hz' => hn ⟨z, hz, hz'⟩⟩)
      refine ⟨ρ', σ', ?_⟩
      generalize wD w = X at hln hof e
      simp only [b_check_2, exs_nil, exs_cons, kSeq_next, kSeq_ret, ex_assign, kAsg_val, ex_newlst, kNew_val, ex_append, kApp0_ref, kApp_dat, ex_ret, kRet_dat, ex_ite, kIte_true, kIte_false, kIte_val, ex_for1, ex_for2, evI_enum, ev_lit, ev_con, ev_var, kVar_val, ev_bin, kBin1_val, kBin2_val, kD1_val, kD2a_val, kD2_val, ev_neg, negD, ev_prim, ev_prim2, ev_idx, kIdx_val, kNotX_val, kTruX_val, ev_slFrom, ev_slTo, ev_sorted, ev_listOf, ev_listRange, kTup_val, kLst_val, ev_tup, ev_lst, kNot_val, kBool_val, kTru_val, ev_not, evCmp_cons, evCmp_nil, kCmp1_val, kCmp2_nil, kCmp2_true, kCmp2_false, kCmp0_val, ev_cmp, evB_cmp, kCall_val, kDat_val, ev_call, kCons_val, kArgs_val, evArgs_nil, evArgs_cons, kToDat_dat, kEvs_val, evs_nil, evs_cons, ev_and, ev_or, evAnd_one, Out.noX_val, evOr_one, evAnd_cons, evOr_cons, kAnd_true, kAnd_false, kOr_true, kOr_false, kAnd_val, kOr_val, evAll_nil, evAny_nil, evIfs_nil, evAll_cons, evAny_cons, evIfs_cons, kAll_val, kAny_val, kIfs_val, evB_and, evB_or, evB_not, evB_var, evB_call, evB_prim, ev_isinst, evB_isinst, evB_idx, ev_comp, evI_of', kOf_lst, kOf_tup, kOf_str, evI_range1, evI_range2, kRange2_val, d1_dat, d2_dat, c2_dat, look_dat, bodyF, List.map_cons, List.map_nil, List.cons_append, List.nil_append, List.append_nil, List.replicate_succ, List.replicate_zero, List.getElem?_cons_zero, List.getElem?_cons_succ, List.set_cons_zero, List.set_cons_succ, List.length_cons, List.length_nil, Nat.sub_self, Nat.zero_add, Nat.reduceAdd, Nat.reduceSub, Nat.add_sub_cancel, if_true, if_false, Bool.false_eq_true, Int.reduceLT, Int.reduceLE, Int.reduceNeg, Int.reduceAdd, Int.reduceSub, Int.reduceMul, Int.reduceToNat, Nat.reduceLT, Nat.reduceLeDiff, and_self, and_true, true_and, decide_true, decide_false, Bool.not_true, Bool.not_false, Option.map_some, Option.bind_some, b_add, b_sub, b_mul1, b_mod, b_fdiv, cmp_eq_int, cmp_eq_bool, cmp_lt, cmp_le, cmp_gt, cmp_ge, Int.reduceGT, gt_iff_lt, ge_iff_le, isTy, hln, hlt, hof, e, kSeq_exn]
  · have hlt : (10 : Int) < w.length := by omega
    refine ⟨fun hg => absurd hg.1 hl, fun _ => ⟨[some (.dat (.str S)), x1, x2, some (.dat (wD w)), y], σ, ?_⟩⟩
    · generalize wD w = X at hln
      simp only [b_check_2, exs_nil, exs_cons, kSeq_next, kSeq_ret, ex_assign, kAsg_val, ex_newlst, kNew_val, ex_append, kApp0_ref, kApp_dat, ex_ret, kRet_dat, ex_ite, kIte_true, kIte_false, kIte_val, ex_for1, ex_for2, evI_enum, ev_lit, ev_con, ev_var, kVar_val, ev_bin, kBin1_val, kBin2_val, kD1_val, kD2a_val, kD2_val, ev_neg, negD, ev_prim, ev_prim2, ev_idx, kIdx_val, kNotX_val, kTruX_val, ev_slFrom, ev_slTo, ev_sorted, ev_listOf, ev_listRange, kTup_val, kLst_val, ev_tup, ev_lst, kNot_val, kBool_val, kTru_val, ev_not, evCmp_cons, evCmp_nil, kCmp1_val, kCmp2_nil, kCmp2_true, kCmp2_false, kCmp0_val, ev_cmp, evB_cmp, kCall_val, kDat_val, ev_call, kCons_val, kArgs_val, evArgs_nil, evArgs_cons, kToDat_dat, kEvs_val, evs_nil, evs_cons, ev_and, ev_or, evAnd_one, Out.noX_val, evOr_one, evAnd_cons, evOr_cons, kAnd_true, kAnd_false, kOr_true, kOr_false, kAnd_val, kOr_val, evAll_nil, evAny_nil, evIfs_nil, evAll_cons, evAny_cons, evIfs_cons, kAll_val, kAny_val, kIfs_val, evB_and, evB_or, evB_not, evB_var, evB_call, evB_prim, ev_isinst, evB_isinst, evB_idx, ev_comp, evI_of', kOf_lst, kOf_tup, kOf_str, evI_range1, evI_range2, kRange2_val, d1_dat, d2_dat, c2_dat, look_dat, bodyF, List.map_cons, List.map_nil, List.cons_append, List.nil_append, List.append_nil, List.replicate_succ, List.replicate_zero, List.getElem?_cons_zero, List.getElem?_cons_succ, List.set_cons_zero, List.set_cons_succ, List.length_cons, List.length_nil, Nat.sub_self, Nat.zero_add, Nat.reduceAdd, Nat.reduceSub, Nat.add_sub_cancel, if_true, if_false, Bool.false_eq_true, Int.reduceLT, Int.reduceLE, Int.reduceNeg, Int.reduceAdd, Int.reduceSub, Int.reduceMul, Int.reduceToNat, Nat.reduceLT, Nat.reduceLeDiff, and_self, and_true, true_and, decide_true, decide_false, Bool.not_true, Bool.not_false, Option.map_some, Option.bind_some, b_add, b_sub, b_mul1, b_mod, b_fdiv, cmp_eq_int, cmp_eq_bool, cmp_lt, cmp_le, cmp_gt, cmp_ge, Int.reduceGT, gt_iff_lt, ge_iff_le, isTy, hln, hlt, ex_raise, kSeq_exn]
theorem c_check {n : Nat} {S : List Nat} {ws : List (List Int)} {σ : Sto} (hs : Small S ws) :
    (goodG S ws → callF sub tab.Δ (n + 1) 11 [.dat (.str S), .dat (wsD ws)] σ = .val .none σ) ∧ (¬ goodG S ws → ∃ σ', callF sub tab.Δ (n + 1) 11 [.dat (.str S), .dat (wsD ws)] σ = .exn 1 σ') := by
  obtain ⟨hS, hW, hw, hch⟩ := hs
  have hlS := len_S S hS
  have hlW := len_ws ws hW
  have hofS : ∀ τ : Sto, kOf (.val (.dat (.str S)) τ) = .val ⟨S.map fun c => .str [c], none⟩ τ := fun _ => rfl
  have hofW : ∀ τ : Sto, kOf (.val (.dat (wsD ws)) τ) = .val ⟨ws.map wD, none⟩ τ := fun _ => rfl
  obtain ⟨f1, f2⟩ := kFor_dec (sub := sub) (C := callF sub tab.Δ n) (x := 2) (body := b_check_3) (em := fun c => Dat.str [c]) (l := S) (fun c => ¬ (c = 102 ∨ c = 111)) (fun ρ τ => (∃ y, ρ = [some (.dat (.str S)), some (.dat (wsD ws)), y, none, none]) ∧ τ = σ)
    (ρ := [some (.dat (.str S)), some (.dat (wsD ws)), none, none, none]) (σ := σ) (by omega) (fun c hc ρ τ hP => by
      obtain ⟨⟨y, rfl⟩, rfl⟩ := hP
      have := ck_sign (sub := sub) (C := callF sub tab.Δ n) (c := c) (x0 := some (.dat (.str S))) (x1 := some (.dat (wsD ws))) (x3 := none) (x4 := none) (σ := τ) (hch c hc)
      exact ⟨fun h => ⟨_, _, this.trans (if_pos (Classical.not_not.mp h)), ⟨some (.dat (.str [c])), rfl⟩, rfl⟩, fun h => ⟨_, _, this.trans (if_neg h)⟩⟩) ⟨⟨none, rfl⟩, rfl⟩
  have g := fun y => kFor_dec (sub := sub) (C := callF sub tab.Δ n) (x := 3) (body := b_check_2) (em := wD) (l := ws) (fun w => ¬ goodW S w) (fun ρ τ => (∃ y3 y4, ρ = [some (.dat (.str S)), some (.dat (wsD ws)), y, y3, y4]) ∧ τ = σ)
    (ρ := [some (.dat (.str S)), some (.dat (wsD ws)), y, none, none]) (σ := σ) (by omega) (fun w hw' ρ τ hP => by
      obtain ⟨⟨y3, y4, rfl⟩, rfl⟩ := hP
      obtain ⟨k1, k2⟩ := ck_wish (sub := sub) (C := callF sub tab.Δ n) (S := S) (w := w) (x1 := some (.dat (wsD ws))) (x2 := y) (y := y4) (σ := τ) hS (hw w hw')
      refine ⟨fun h => ?_, fun h => ?_⟩
      · obtain ⟨y', e⟩ := k1 (Classical.not_not.mp h)
        exact ⟨_, _, e, ⟨some (.dat (wD w)), y', rfl⟩, rfl⟩
      · obtain ⟨ρ', σ', e⟩ := k2 h
        exact ⟨ρ', σ', e⟩) ⟨⟨none, none, rfl⟩, rfl⟩
  by_cases h1 : S.length ≤ 10
  · have e1 : ¬ ((10 : Int) < S.length) := by omega
    by_cases h2 : ws.length ≤ 20
    · have e2 : ¬ ((20 : Int) < ws.length) := by omega
      by_cases h3 : ∀ c ∈ S, c = 102 ∨ c = 111
      · obtain ⟨ρ', σ', q1, ⟨y, rfl⟩, rfl⟩ := f1 fun c hc => not_not_intro (h3 c hc)
        obtain ⟨g1, g2⟩ := g y
        refine ⟨fun hg => ?_, fun hg => ?_⟩
        · obtain ⟨ρ₂, σ₂, q2, ⟨y3, y4, rfl⟩, rfl⟩ := g1 fun w hw => not_not_intro (hg.2.2.2 w hw)
          refine call_next (fn := fn_check) (ρ := [some (.dat (.str S)), some (.dat (wsD ws)), y, y3, y4]) (σ' := σ₂) rfl rfl ?_ (by simp)
          generalize wsD ws = X at hlW hofW q1 q2
          generalize Dat.str S = Y at hlS hofS q1 q2
          simp only [fn_check, exs_nil, exs_cons, kSeq_next, kSeq_ret, ex_assign, kAsg_val, ex_newlst, kNew_val, ex_append, kApp0_ref, kApp_dat, ex_ret, kRet_dat, ex_ite, kIte_true, kIte_false, kIte_val, ex_for1, ex_for2, evI_enum, ev_lit, ev_con, ev_var, kVar_val, ev_bin, kBin1_val, kBin2_val, kD1_val, kD2a_val, kD2_val, ev_neg, negD, ev_prim, ev_prim2, ev_idx, kIdx_val, kNotX_val, kTruX_val, ev_slFrom, ev_slTo, ev_sorted, ev_listOf, ev_listRange, kTup_val, kLst_val, ev_tup, ev_lst, kNot_val, kBool_val, kTru_val, ev_not, evCmp_cons, evCmp_nil, kCmp1_val, kCmp2_nil, kCmp2_true, kCmp2_false, kCmp0_val, ev_cmp, evB_cmp, kCall_val, kDat_val, ev_call, kCons_val, kArgs_val, evArgs_nil, evArgs_cons, kToDat_dat, kEvs_val, evs_nil, evs_cons, ev_and, ev_or, evAnd_one, Out.noX_val, evOr_one, evAnd_cons, evOr_cons, kAnd_true, kAnd_false, kOr_true, kOr_false, kAnd_val, kOr_val, evAll_nil, evAny_nil, evIfs_nil, evAll_cons, evAny_cons, evIfs_cons, kAll_val, kAny_val, kIfs_val, evB_and, evB_or, evB_not, evB_var, evB_call, evB_prim, ev_isinst, evB_isinst, evB_idx, ev_comp, evI_of', kOf_lst, kOf_tup, kOf_str, evI_range1, evI_range2, kRange2_val, d1_dat, d2_dat, c2_dat, look_dat, bodyF, List.map_cons, List.map_nil, List.cons_append, List.nil_append, List.append_nil, List.replicate_succ, List.replicate_zero, List.getElem?_cons_zero, List.getElem?_cons_succ, List.set_cons_zero, List.set_cons_succ, List.length_cons, List.length_nil, Nat.sub_self, Nat.zero_add, Nat.reduceAdd, Nat.reduceSub, Nat.add_sub_cancel, if_true, if_false, Bool.false_eq_true, Int.reduceLT, Int.reduceLE, Int.reduceNeg, Int.reduceAdd, Int.reduceSub, Int.reduceMul, Int.reduceToNat, Nat.reduceLT, Nat.reduceLeDiff, and_self, and_true, true_and, decide_true, decide_false, Bool.not_true, Bool.not_false, Option.map_some, Option.bind_some, b_add, b_sub, b_mul1, b_mod, b_fdiv, cmp_eq_int, cmp_eq_bool, cmp_lt, cmp_le, cmp_gt, cmp_ge, Int.reduceGT, gt_iff_lt, ge_iff_le, isTy, hlS, hlW, e1, e2, hofS, hofW, q1, q2]
        · obtain ⟨ρ₂, σ₂, q2⟩ := g2 (Classical.byContradiction fun hn => hg ⟨h1, h2, h3, fun w hw => Classical.byContradiction fun hw' => hn ⟨w, hw, hw'⟩⟩)
          refine ⟨_, call_raise (fn := fn_check) (ρ := ρ₂) (σ' := σ₂) rfl rfl ?_⟩
          generalize wsD ws = X at hlW hofW q1 q2
          generalize Dat.str S = Y at hlS hofS q1 q2
          simp only [fn_check, exs_nil, exs_cons, kSeq_next, kSeq_ret, ex_assign, kAsg_val, ex_newlst, kNew_val, ex_append, kApp0_ref, kApp_dat, ex_ret, kRet_dat, ex_ite, kIte_true, kIte_false, kIte_val, ex_for1, ex_for2, evI_enum, ev_lit, ev_con, ev_var, kVar_val, ev_bin, kBin1_val, kBin2_val, kD1_val, kD2a_val, kD2_val, ev_neg, negD, ev_prim, ev_prim2, ev_idx, kIdx_val, kNotX_val, kTruX_val, ev_slFrom, ev_slTo, ev_sorted, ev_listOf, ev_listRange, kTup_val, kLst_val, ev_tup, ev_lst, kNot_val, kBool_val, kTru_val, ev_not, evCmp_cons, evCmp_nil, kCmp1_val, kCmp2_nil, kCmp2_true, kCmp2_false, kCmp0_val, ev_cmp, evB_cmp, kCall_val, kDat_val, ev_call, kCons_val, kArgs_val, evArgs_nil, evArgs_cons, kToDat_dat, kEvs_val, evs_nil, evs_cons, ev_and, ev_or, evAnd_one, Out.noX_val, evOr_one, evAnd_cons, evOr_cons, kAnd_true, kAnd_false, kOr_true, kOr_false, kAnd_val, kOr_val, evAll_nil, evAny_nil, evIfs_nil, evAll_cons, evAny_cons, evIfs_cons, kAll_val, kAny_val, kIfs_val, evB_and, evB_or, evB_not, evB_var, evB_call, evB_prim, ev_isinst, evB_isinst, evB_idx, ev_comp, evI_of', kOf_lst, kOf_tup, kOf_str, evI_range1, evI_range2, kRange2_val, d1_dat, d2_dat, c2_dat, look_dat, bodyF, List.map_cons, List.map_nil, List.cons_append, List.nil_append, List.append_nil, List.replicate_succ, List.replicate_zero, List.getElem?_cons_zero, List.getElem?_cons_succ, List.set_cons_zero, List.set_cons_succ, List.length_cons, List.length_nil, Nat.sub_self, Nat.zero_add, Nat.reduceAdd, Nat.reduceSub, Nat.add_sub_cancel, if_true, if_false, Bool.false_eq_true, Int.reduceLT, Int.reduceLE, Int.reduceNeg, Int.reduceAdd, Int.reduceSub, Int.reduceMul, Int.reduceToNat, Nat.reduceLT, Nat.reduceLeDiff, and_self, and_true, true_and, decide_true, decide_false, Bool.not_true, Bool.not_false, Option.map_some, Option.bind_some, b_add, b_sub, b_mul1, b_mod, b_fdiv, cmp_eq_int, cmp_eq_bool, cmp_lt, cmp_le, cmp_gt, cmp_ge, Int.reduceGT, gt_iff_lt, ge_iff_le, isTy, hlS, hlW, e1, e2, hofS, hofW, q1, q2, kSeq_exn]
      · refine ⟨fun hg => absurd hg.2.2.1 h3, fun _ => ?_⟩
        obtain ⟨ρ₂, σ₂, q1⟩ := f2 (Classical.byContradiction fun hn => h3 fun c hc => Classical.byContradiction fun hc' => hn ⟨c, hc, hc'⟩)
        refine ⟨_, call_raise (fn := fn_check) (ρ := ρ₂) (σ' := σ₂) rfl rfl ?_⟩
        generalize wsD ws = X at hlW hofW q1
        generalize Dat.str S = Y at hlS hofS q1
        simp only [fn_check, exs_nil, exs_cons, kSeq_next, kSeq_ret, ex_assign, kAsg_val, ex_newlst, kNew_val, ex_append, kApp0_ref, kApp_dat, ex_ret, kRet_dat, ex_ite, kIte_true, kIte_false, kIte_val, ex_for1, ex_for2, evI_enum, ev_lit, ev_con, ev_var, kVar_val, ev_bin, kBin1_val, kBin2_val, kD1_val, kD2a_val, kD2_val, ev_neg, negD, ev_prim, ev_prim2, ev_idx, kIdx_val, kNotX_val, kTruX_val, ev_slFrom, ev_slTo, ev_sorted, ev_listOf, ev_listRange, kTup_val, kLst_val, ev_tup, ev_lst, kNot_val, kBool_val, kTru_val, ev_not, evCmp_cons, evCmp_nil, kCmp1_val, kCmp2_nil, kCmp2_true, kCmp2_false, kCmp0_val, ev_cmp, evB_cmp, kCall_val, kDat_val, ev_call, kCons_val, kArgs_val, evArgs_nil, evArgs_cons, kToDat_dat, kEvs_val, evs_nil, evs_cons, ev_and, ev_or, evAnd_one, Out.noX_val, evOr_one, evAnd_cons, evOr_cons, kAnd_true, kAnd_false, kOr_true, kOr_false, kAnd_val, kOr_val, evAll_nil, evAny_nil, evIfs_nil, evAll_cons, evAny_cons, evIfs_cons, kAll_val, kAny_val, kIfs_val, evB_and, evB_or, evB_not, evB_var, evB_call, evB_prim, ev_isinst, evB_isinst, evB_idx, ev_comp, evI_of', kOf_lst, kOf_tup, kOf_str, evI_range1, evI_range2, kRange2_val, d1_dat, d2_dat, c2_dat, look_dat, bodyF, List.map_cons, List.map_nil, List.cons_append, List.nil_append, List.append_nil, List.replicate_succ, List.replicate_zero, List.getElem?_cons_zero, List.getElem?_cons_succ, List.set_cons_zero, List.set_cons_succ, List.length_cons, List.length_nil, Nat.sub_self, Nat.zero_add, Nat.reduceAdd, Nat.reduceSub, Nat.add_sub_cancel, if_true, if_false, Bool.false_eq_true, Int.reduceLT, Int.reduceLE, Int.reduceNeg, Int.reduceAdd, Int.reduceSub, Int.reduceMul, Int.reduceToNat, Nat.reduceLT, Nat.reduceLeDiff, and_self, and_true, true_and, decide_true, decide_false, Bool.not_true, Bool.not_false, Option.map_some, Option.bind_some, b_add, b_sub, b_mul1, b_mod, b_fdiv, cmp_eq_int, cmp_eq_bool, cmp_lt, cmp_le, cmp_gt, cmp_ge, Int.reduceGT, gt_iff_lt, ge_iff_le, isTy, hlS, hlW, e1, e2, hofS, q1, kSeq_exn]
    · have e2 : (20 : Int) < ws.length := by omega
      refine ⟨fun hg => absurd hg.2.1 h2, fun _ => ⟨_, call_raise (fn := fn_check) (ρ := [some (.dat (.str S)), some (.dat (wsD ws)), none, none, none]) (σ' := σ) rfl rfl ?_⟩⟩
      generalize wsD ws = X at hlW
      generalize Dat.str S = Y at hlS
      simp only [fn_check, exs_nil, exs_cons, kSeq_next, kSeq_ret, ex_assign, kAsg_val, ex_newlst, kNew_val, ex_append, kApp0_ref, kApp_dat, ex_ret, kRet_dat, ex_ite, kIte_true, kIte_false, kIte_val, ex_for1, ex_for2, evI_enum, ev_lit, ev_con, ev_var, kVar_val, ev_bin, kBin1_val, kBin2_val, kD1_val, kD2a_val, kD2_val, ev_neg, negD, ev_prim, ev_prim2, ev_idx, kIdx_val, kNotX_val, kTruX_val, ev_slFrom, ev_slTo, ev_sorted, ev_listOf, ev_listRange, kTup_val, kLst_val, ev_tup, ev_lst, kNot_val, kBool_val, kTru_val, ev_not, evCmp_cons, evCmp_nil, kCmp1_val, kCmp2_nil, kCmp2_true, kCmp2_false, kCmp0_val, ev_cmp, evB_cmp, kCall_val, kDat_val, ev_call, kCons_val, kArgs_val, evArgs_nil, evArgs_cons, kToDat_dat, kEvs_val, evs_nil, evs_cons, ev_and, ev_or, evAnd_one, Out.noX_val, evOr_one, evAnd_cons, evOr_cons, kAnd_true, kAnd_false, kOr_true, kOr_false, kAnd_val, kOr_val, evAll_nil, evAny_nil, evIfs_nil, evAll_cons, evAny_cons, evIfs_cons, kAll_val, kAny_val, kIfs_val, evB_and, evB_or, evB_not, evB_var, evB_call, evB_prim, ev_isinst, evB_isinst, evB_idx, ev_comp, evI_of', kOf_lst, kOf_tup, kOf_str, evI_range1, evI_range2, kRange2_val, d1_dat, d2_dat, c2_dat, look_dat, bodyF, List.map_cons, List.map_nil, List.cons_append, List.nil_append, List.append_nil, List.replicate_succ, List.replicate_zero, List.getElem?_cons_zero, List.getElem?_cons_succ, List.set_cons_zero, List.set_cons_succ, List.length_cons, List.length_nil, Nat.sub_self, Nat.zero_add, Nat.reduceAdd, Nat.reduceSub, Nat.add_sub_cancel, if_true, if_false, Bool.false_eq_true, Int.reduceLT, Int.reduceLE, Int.reduceNeg, Int.reduceAdd, Int.reduceSub, Int.reduceMul, Int.reduceToNat, Nat.reduceLT, Nat.reduceLeDiff, and_self, and_true, true_and, decide_true, decide_false, Bool.not_true, Bool.not_false, Option.map_some, Option.bind_some, b_add, b_sub, b_mul1, b_mod, b_fdiv, cmp_eq_int, cmp_eq_bool, cmp_lt, cmp_le, cmp_gt, cmp_ge, Int.reduceGT, gt_iff_lt, ge_iff_le, isTy, hlS, hlW, e1, e2, ex_raise, kSeq_exn]
  · have e1 : (10 : Int) < S.length := by omega
    refine ⟨fun hg => absurd hg.1 h1, fun _ => ⟨_, call_raise (fn := fn_check) (ρ := [some (.dat (.str S)), some (.dat (wsD ws)), none, none, none]) (σ' := σ) rfl rfl ?_⟩⟩
    generalize wsD ws = X at hlW
    generalize Dat.str S = Y at hlS
    simp only [fn_check, exs_nil, exs_cons, kSeq_next, kSeq_ret, ex_assign, kAsg_val, ex_newlst, kNew_val, ex_append, kApp0_ref, kApp_dat, ex_ret, kRet_dat, ex_ite, kIte_true, kIte_false, kIte_val, ex_for1, ex_for2, evI_enum, ev_lit, ev_con, ev_var, kVar_val, ev_bin, kBin1_val, kBin2_val, kD1_val, kD2a_val, kD2_val, ev_neg, negD, ev_prim, ev_prim2, ev_idx, kIdx_val, kNotX_val, kTruX_val, ev_slFrom, ev_slTo, ev_sorted, ev_listOf, ev_listRange, kTup_val, kLst_val, ev_tup, ev_lst, kNot_val, kBool_val, kTru_val, ev_not, evCmp_cons, evCmp_nil, kCmp1_val, kCmp2_nil, kCmp2_true, kCmp2_false, kCmp0_val, ev_cmp, evB_cmp, kCall_val, kDat_val, ev_call, kCons_val, kArgs_val, evArgs_nil, evArgs_cons, kToDat_dat, kEvs_val, evs_nil, evs_cons, ev_and, ev_or, evAnd_one, Out.noX_val, evOr_one, evAnd_cons, evOr_cons, kAnd_true, kAnd_false, kOr_true, kOr_false, kAnd_val, kOr_val, evAll_nil, evAny_nil, evIfs_nil, evAll_cons, evAny_cons, evIfs_cons, kAll_val, kAny_val, kIfs_val, evB_and, evB_or, evB_not, evB_var, evB_call, evB_prim, ev_isinst, evB_isinst, evB_idx, ev_comp, evI_of', kOf_lst, kOf_tup, kOf_str, evI_range1, evI_range2, kRange2_val, d1_dat, d2_dat, c2_dat, look_dat, bodyF, List.map_cons, List.map_nil, List.cons_append, List.nil_append, List.append_nil, List.replicate_succ, List.replicate_zero, List.getElem?_cons_zero, List.getElem?_cons_succ, List.set_cons_zero, List.set_cons_succ, List.length_cons, List.length_nil, Nat.sub_self, Nat.zero_add, Nat.reduceAdd, Nat.reduceSub, Nat.add_sub_cancel, if_true, if_false, Bool.false_eq_true, Int.reduceLT, Int.reduceLE, Int.reduceNeg, Int.reduceAdd, Int.reduceSub, Int.reduceMul, Int.reduceToNat, Nat.reduceLT, Nat.reduceLeDiff, and_self, and_true, true_and, decide_true, decide_false, Bool.not_true, Bool.not_false, Option.map_some, Option.bind_some, b_add, b_sub, b_mul1, b_mod, b_fdiv, cmp_eq_int, cmp_eq_bool, cmp_lt, cmp_le, cmp_gt, cmp_ge, Int.reduceGT, gt_iff_lt, ge_iff_le, isTy, hlS, e1, ex_raise, kSeq_exn]

/-! what asks check first -/
theorem c_bad {n : Nat} {S : List Nat} {ws : List (List Int)} {σ : Sto} (hs : Small S ws) (hb : ¬ goodG S ws) :
    (∃ σ', callF sub tab.Δ (n + 3) 11 [.dat (.str S), .dat (wsD ws)] σ = .exn 1 σ') ∧ (∃ σ', callF sub tab.Δ (n + 3) 10 [.dat (.str S), .dat (wsD ws)] σ = .exn 1 σ') ∧
    (∃ σ', callF sub tab.Δ (n + 3) 12 [.dat (.str S), .dat (wsD ws)] σ = .exn 1 σ') ∧ ∃ σ', callF sub tab.Δ (n + 3) 13 [.dat (.str S), .dat (wsD ws)] σ = .exn 1 σ' := by
  have so : ∀ m, ∃ σ', callF sub tab.Δ (m + 2) 10 [.dat (.str S), .dat (wsD ws)] σ = .exn 1 σ' := fun m => by
    obtain ⟨σ', h⟩ := (c_check (sub := sub) (n := m) (σ := σ) hs).2 hb
    refine ⟨_, call_raise (fn := fn_solve) (ρ := [some (.dat (.str S)), some (.dat (wsD ws)), none, none]) (σ' := σ') rfl rfl ?_⟩
    have := drop_exn (sub := sub) (C := callF sub tab.Δ (m + 1)) (e := .call 11 (.cons (.var 0) (.cons (.var 1) .nil))) (c := 1) (ρ := [some (.dat (.str S)), some (.dat (wsD ws)), none, none]) (σ := σ) (σ' := σ') (by simp only [exs_nil, exs_cons, kSeq_next, kSeq_ret, ex_assign, kAsg_val, ex_newlst, kNew_val, ex_append, kApp0_ref, kApp_dat, ex_ret, kRet_dat, ex_ite, kIte_true, kIte_false, kIte_val, ex_for1, ex_for2, evI_enum, ev_lit, ev_con, ev_var, kVar_val, ev_bin, kBin1_val, kBin2_val, kD1_val, kD2a_val, kD2_val, ev_neg, negD, ev_prim, ev_prim2, ev_idx, kIdx_val, kNotX_val, kTruX_val, ev_slFrom, ev_slTo, ev_sorted, ev_listOf, ev_listRange, kTup_val, kLst_val, ev_tup, ev_lst, kNot_val, kBool_val, kTru_val, ev_not, evCmp_cons, evCmp_nil, kCmp1_val, kCmp2_nil, kCmp2_true, kCmp2_false, kCmp0_val, ev_cmp, evB_cmp, kCall_val, kDat_val, ev_call, kCons_val, kArgs_val, evArgs_nil, evArgs_cons, kToDat_dat, kEvs_val, evs_nil, evs_cons, ev_and, ev_or, evAnd_one, Out.noX_val, evOr_one, evAnd_cons, evOr_cons, kAnd_true, kAnd_false, kOr_true, kOr_false, kAnd_val, kOr_val, evAll_nil, evAny_nil, evIfs_nil, evAll_cons, evAny_cons, evIfs_cons, kAll_val, kAny_val, kIfs_val, evB_and, evB_or, evB_not, evB_var, evB_call, evB_prim, ev_isinst, evB_isinst, evB_idx, ev_comp, evI_of', kOf_lst, kOf_tup, kOf_str, evI_range1, evI_range2, kRange2_val, d1_dat, d2_dat, c2_dat, look_dat, bodyF, List.map_cons, List.map_nil, List.cons_append, List.nil_append, List.append_nil, List.replicate_succ, List.replicate_zero, List.getElem?_cons_zero, List.getElem?_cons_succ, List.set_cons_zero, List.set_cons_succ, List.length_cons, List.length_nil, Nat.sub_self, Nat.zero_add, Nat.reduceAdd, Nat.reduceSub, Nat.add_sub_cancel, if_true, if_false, Bool.false_eq_true, Int.reduceLT, Int.reduceLE, Int.reduceNeg, Int.reduceAdd, Int.reduceSub, Int.reduceMul, Int.reduceToNat, Nat.reduceLT, Nat.reduceLeDiff, and_self, and_true, true_and, decide_true, decide_false, Bool.not_true, Bool.not_false, Option.map_some, Option.bind_some, b_add, b_sub, b_mul1, b_mod, b_fdiv, cmp_eq_int, cmp_eq_bool, cmp_lt, cmp_le, cmp_gt, cmp_ge, Int.reduceGT, gt_iff_lt, ge_iff_le, isTy, h, kDat_exn])
    simp only [fn_solve, exs_nil, exs_cons, kSeq_next, kSeq_ret, ex_assign, kAsg_val, ex_newlst, kNew_val, ex_append, kApp0_ref, kApp_dat, ex_ret, kRet_dat, ex_ite, kIte_true, kIte_false, kIte_val, ex_for1, ex_for2, evI_enum, ev_lit, ev_con, ev_var, kVar_val, ev_bin, kBin1_val, kBin2_val, kD1_val, kD2a_val, kD2_val, ev_neg, negD, ev_prim, ev_prim2, ev_idx, kIdx_val, kNotX_val, kTruX_val, ev_slFrom, ev_slTo, ev_sorted, ev_listOf, ev_listRange, kTup_val, kLst_val, ev_tup, ev_lst, kNot_val, kBool_val, kTru_val, ev_not, evCmp_cons, evCmp_nil, kCmp1_val, kCmp2_nil, kCmp2_true, kCmp2_false, kCmp0_val, ev_cmp, evB_cmp, kCall_val, kDat_val, ev_call, kCons_val, kArgs_val, evArgs_nil, evArgs_cons, kToDat_dat, kEvs_val, evs_nil, evs_cons, ev_and, ev_or, evAnd_one, Out.noX_val, evOr_one, evAnd_cons, evOr_cons, kAnd_true, kAnd_false, kOr_true, kOr_false, kAnd_val, kOr_val, evAll_nil, evAny_nil, evIfs_nil, evAll_cons, evAny_cons, evIfs_cons, kAll_val, kAny_val, kIfs_val, evB_and, evB_or, evB_not, evB_var, evB_call, evB_prim, ev_isinst, evB_isinst, evB_idx, ev_comp, evI_of', kOf_lst, kOf_tup, kOf_str, evI_range1, evI_range2, kRange2_val, d1_dat, d2_dat, c2_dat, look_dat, bodyF, List.map_cons, List.map_nil, List.cons_append, List.nil_append, List.append_nil, List.replicate_succ, List.replicate_zero, List.getElem?_cons_zero, List.getElem?_cons_succ, List.set_cons_zero, List.set_cons_succ, List.length_cons, List.length_nil, Nat.sub_self, Nat.zero_add, Nat.reduceAdd, Nat.reduceSub, Nat.add_sub_cancel, if_true, if_false, Bool.false_eq_true, Int.reduceLT, Int.reduceLE, Int.reduceNeg, Int.reduceAdd, Int.reduceSub, Int.reduceMul, Int.reduceToNat, Nat.reduceLT, Nat.reduceLeDiff, and_self, and_true, true_and, decide_true, decide_false, Bool.not_true, Bool.not_false, Option.map_some, Option.bind_some, b_add, b_sub, b_mul1, b_mod, b_fdiv, cmp_eq_int, cmp_eq_bool, cmp_lt, cmp_le, cmp_gt, cmp_ge, Int.reduceGT, gt_iff_lt, ge_iff_le, isTy, this, kSeq_exn]
  obtain ⟨σ₁, h1⟩ := so n
  refine ⟨(c_check (sub := sub) (n := n + 2) (σ := σ) hs).2 hb, so (n + 1), ⟨_, call_raise (fn := fn_needed) (ρ := [some (.dat (.str S)), some (.dat (wsD ws)), none, none, none]) (σ' := σ₁) rfl rfl ?_⟩, ⟨_, call_raise (fn := fn_lent) (ρ := [some (.dat (.str S)), some (.dat (wsD ws)), none, none]) (σ' := σ₁) rfl rfl ?_⟩⟩
  · simp only [fn_needed, exs_nil, exs_cons, kSeq_next, kSeq_ret, ex_assign, kAsg_val, ex_newlst, kNew_val, ex_append, kApp0_ref, kApp_dat, ex_ret, kRet_dat, ex_ite, kIte_true, kIte_false, kIte_val, ex_for1, ex_for2, evI_enum, ev_lit, ev_con, ev_var, kVar_val, ev_bin, kBin1_val, kBin2_val, kD1_val, kD2a_val, kD2_val, ev_neg, negD, ev_prim, ev_prim2, ev_idx, kIdx_val, kNotX_val, kTruX_val, ev_slFrom, ev_slTo, ev_sorted, ev_listOf, ev_listRange, kTup_val, kLst_val, ev_tup, ev_lst, kNot_val, kBool_val, kTru_val, ev_not, evCmp_cons, evCmp_nil, kCmp1_val, kCmp2_nil, kCmp2_true, kCmp2_false, kCmp0_val, ev_cmp, evB_cmp, kCall_val, kDat_val, ev_call, kCons_val, kArgs_val, evArgs_nil, evArgs_cons, kToDat_dat, kEvs_val, evs_nil, evs_cons, ev_and, ev_or, evAnd_one, Out.noX_val, evOr_one, evAnd_cons, evOr_cons, kAnd_true, kAnd_false, kOr_true, kOr_false, kAnd_val, kOr_val, evAll_nil, evAny_nil, evIfs_nil, evAll_cons, evAny_cons, evIfs_cons, kAll_val, kAny_val, kIfs_val, evB_and, evB_or, evB_not, evB_var, evB_call, evB_prim, ev_isinst, evB_isinst, evB_idx, ev_comp, evI_of', kOf_lst, kOf_tup, kOf_str, evI_range1, evI_range2, kRange2_val, d1_dat, d2_dat, c2_dat, look_dat, bodyF, List.map_cons, List.map_nil, List.cons_append, List.nil_append, List.append_nil, List.replicate_succ, List.replicate_zero, List.getElem?_cons_zero, List.getElem?_cons_succ, List.set_cons_zero, List.set_cons_succ, List.length_cons, List.length_nil, Nat.sub_self, Nat.zero_add, Nat.reduceAdd, Nat.reduceSub, Nat.add_sub_cancel, if_true, if_false, Bool.false_eq_true, Int.reduceLT, Int.reduceLE, Int.reduceNeg, Int.reduceAdd, Int.reduceSub, Int.reduceMul, Int.reduceToNat, Nat.reduceLT, Nat.reduceLeDiff, and_self, and_true, true_and, decide_true, decide_false, Bool.not_true, Bool.not_false, Option.map_some, Option.bind_some, b_add, b_sub, b_mul1, b_mod, b_fdiv, cmp_eq_int, cmp_eq_bool, cmp_lt, cmp_le, cmp_gt, cmp_ge, Int.reduceGT, gt_iff_lt, ge_iff_le, isTy, h1, kDat_exn, kIdx_exn, kTruX_exn, kIte_exn, kSeq_exn]
  · simp only [fn_lent, exs_nil, exs_cons, kSeq_next, kSeq_ret, ex_assign, kAsg_val, ex_newlst, kNew_val, ex_append, kApp0_ref, kApp_dat, ex_ret, kRet_dat, ex_ite, kIte_true, kIte_false, kIte_val, ex_for1, ex_for2, evI_enum, ev_lit, ev_con, ev_var, kVar_val, ev_bin, kBin1_val, kBin2_val, kD1_val, kD2a_val, kD2_val, ev_neg, negD, ev_prim, ev_prim2, ev_idx, kIdx_val, kNotX_val, kTruX_val, ev_slFrom, ev_slTo, ev_sorted, ev_listOf, ev_listRange, kTup_val, kLst_val, ev_tup, ev_lst, kNot_val, kBool_val, kTru_val, ev_not, evCmp_cons, evCmp_nil, kCmp1_val, kCmp2_nil, kCmp2_true, kCmp2_false, kCmp0_val, ev_cmp, evB_cmp, kCall_val, kDat_val, ev_call, kCons_val, kArgs_val, evArgs_nil, evArgs_cons, kToDat_dat, kEvs_val, evs_nil, evs_cons, ev_and, ev_or, evAnd_one, Out.noX_val, evOr_one, evAnd_cons, evOr_cons, kAnd_true, kAnd_false, kOr_true, kOr_false, kAnd_val, kOr_val, evAll_nil, evAny_nil, evIfs_nil, evAll_cons, evAny_cons, evIfs_cons, kAll_val, kAny_val, kIfs_val, evB_and, evB_or, evB_not, evB_var, evB_call, evB_prim, ev_isinst, evB_isinst, evB_idx, ev_comp, evI_of', kOf_lst, kOf_tup, kOf_str, evI_range1, evI_range2, kRange2_val, d1_dat, d2_dat, c2_dat, look_dat, bodyF, List.map_cons, List.map_nil, List.cons_append, List.nil_append, List.append_nil, List.replicate_succ, List.replicate_zero, List.getElem?_cons_zero, List.getElem?_cons_succ, List.set_cons_zero, List.set_cons_succ, List.length_cons, List.length_nil, Nat.sub_self, Nat.zero_add, Nat.reduceAdd, Nat.reduceSub, Nat.add_sub_cancel, if_true, if_false, Bool.false_eq_true, Int.reduceLT, Int.reduceLE, Int.reduceNeg, Int.reduceAdd, Int.reduceSub, Int.reduceMul, Int.reduceToNat, Nat.reduceLT, Nat.reduceLeDiff, and_self, and_true, true_and, decide_true, decide_false, Bool.not_true, Bool.not_false, Option.map_some, Option.bind_some, b_add, b_sub, b_mul1, b_mod, b_fdiv, cmp_eq_int, cmp_eq_bool, cmp_lt, cmp_le, cmp_gt, cmp_ge, Int.reduceGT, gt_iff_lt, ge_iff_le, isTy, h1, kDat_exn, kIdx_exn, kTruX_exn, kNotX_exn, kIte_exn, kSeq_exn]
theorem c_told {n : Nat} {S : List Nat} {ws : List (List Int)} {σ : Sto} {k : Int} (hs : Small S ws) (hb : ¬ goodG S ws) : ∃ σ', callF sub tab.Δ (n + 4) 106 [.dat (.int k), .dat (.str S), .dat (wsD ws)] σ = .exn 1 σ' := by
  obtain ⟨⟨s0, h0⟩, ⟨s1, h1⟩, ⟨s2, h2⟩, ⟨s3, h3⟩⟩ := c_bad (sub := sub) (n := n) (σ := σ) hs hb
  by_cases e0 : k = 0
  · subst e0
    refine ⟨_, call_raise (fn := fn_l_told) (ρ := [some (.dat (.int 0)), some (.dat (.str S)), some (.dat (wsD ws))]) (σ' := s0) rfl rfl ?_⟩
    simp only [fn_l_told, t_l_told_0, exs_nil, exs_cons, kSeq_next, kSeq_ret, ex_assign, kAsg_val, ex_newlst, kNew_val, ex_append, kApp0_ref, kApp_dat, ex_ret, kRet_dat, ex_ite, kIte_true, kIte_false, kIte_val, ex_for1, ex_for2, evI_enum, ev_lit, ev_con, ev_var, kVar_val, ev_bin, kBin1_val, kBin2_val, kD1_val, kD2a_val, kD2_val, ev_neg, negD, ev_prim, ev_prim2, ev_idx, kIdx_val, kNotX_val, kTruX_val, ev_slFrom, ev_slTo, ev_sorted, ev_listOf, ev_listRange, kTup_val, kLst_val, ev_tup, ev_lst, kNot_val, kBool_val, kTru_val, ev_not, evCmp_cons, evCmp_nil, kCmp1_val, kCmp2_nil, kCmp2_true, kCmp2_false, kCmp0_val, ev_cmp, evB_cmp, kCall_val, kDat_val, ev_call, kCons_val, kArgs_val, evArgs_nil, evArgs_cons, kToDat_dat, kEvs_val, evs_nil, evs_cons, ev_and, ev_or, evAnd_one, Out.noX_val, evOr_one, evAnd_cons, evOr_cons, kAnd_true, kAnd_false, kOr_true, kOr_false, kAnd_val, kOr_val, evAll_nil, evAny_nil, evIfs_nil, evAll_cons, evAny_cons, evIfs_cons, kAll_val, kAny_val, kIfs_val, evB_and, evB_or, evB_not, evB_var, evB_call, evB_prim, ev_isinst, evB_isinst, evB_idx, ev_comp, evI_of', kOf_lst, kOf_tup, kOf_str, evI_range1, evI_range2, kRange2_val, d1_dat, d2_dat, c2_dat, look_dat, bodyF, List.map_cons, List.map_nil, List.cons_append, List.nil_append, List.append_nil, List.replicate_succ, List.replicate_zero, List.getElem?_cons_zero, List.getElem?_cons_succ, List.set_cons_zero, List.set_cons_succ, List.length_cons, List.length_nil, Nat.sub_self, Nat.zero_add, Nat.reduceAdd, Nat.reduceSub, Nat.add_sub_cancel, if_true, if_false, Bool.false_eq_true, Int.reduceLT, Int.reduceLE, Int.reduceNeg, Int.reduceAdd, Int.reduceSub, Int.reduceMul, Int.reduceToNat, Nat.reduceLT, Nat.reduceLeDiff, and_self, and_true, true_and, decide_true, decide_false, Bool.not_true, Bool.not_false, Option.map_some, Option.bind_some, b_add, b_sub, b_mul1, b_mod, b_fdiv, cmp_eq_int, cmp_eq_bool, cmp_lt, cmp_le, cmp_gt, cmp_ge, Int.reduceGT, gt_iff_lt, ge_iff_le, isTy, show ((0 : Int) == 0) = true from rfl, h0, kDat_exn, kRet_exn, kSeq_exn]
  · have q0 : (k == 0) = false := by simpa using e0
    by_cases e1 : k = 1
    · subst e1
      refine ⟨_, call_raise (fn := fn_l_told) (ρ := [some (.dat (.int 1)), some (.dat (.str S)), some (.dat (wsD ws))]) (σ' := s1) rfl rfl ?_⟩
      simp only [fn_l_told, t_l_told_0, t_l_told_1, exs_nil, exs_cons, kSeq_next, kSeq_ret, ex_assign, kAsg_val, ex_newlst, kNew_val, ex_append, kApp0_ref, kApp_dat, ex_ret, kRet_dat, ex_ite, kIte_true, kIte_false, kIte_val, ex_for1, ex_for2, evI_enum, ev_lit, ev_con, ev_var, kVar_val, ev_bin, kBin1_val, kBin2_val, kD1_val, kD2a_val, kD2_val, ev_neg, negD, ev_prim, ev_prim2, ev_idx, kIdx_val, kNotX_val, kTruX_val, ev_slFrom, ev_slTo, ev_sorted, ev_listOf, ev_listRange, kTup_val, kLst_val, ev_tup, ev_lst, kNot_val, kBool_val, kTru_val, ev_not, evCmp_cons, evCmp_nil, kCmp1_val, kCmp2_nil, kCmp2_true, kCmp2_false, kCmp0_val, ev_cmp, evB_cmp, kCall_val, kDat_val, ev_call, kCons_val, kArgs_val, evArgs_nil, evArgs_cons, kToDat_dat, kEvs_val, evs_nil, evs_cons, ev_and, ev_or, evAnd_one, Out.noX_val, evOr_one, evAnd_cons, evOr_cons, kAnd_true, kAnd_false, kOr_true, kOr_false, kAnd_val, kOr_val, evAll_nil, evAny_nil, evIfs_nil, evAll_cons, evAny_cons, evIfs_cons, kAll_val, kAny_val, kIfs_val, evB_and, evB_or, evB_not, evB_var, evB_call, evB_prim, ev_isinst, evB_isinst, evB_idx, ev_comp, evI_of', kOf_lst, kOf_tup, kOf_str, evI_range1, evI_range2, kRange2_val, d1_dat, d2_dat, c2_dat, look_dat, bodyF, List.map_cons, List.map_nil, List.cons_append, List.nil_append, List.append_nil, List.replicate_succ, List.replicate_zero, List.getElem?_cons_zero, List.getElem?_cons_succ, List.set_cons_zero, List.set_cons_succ, List.length_cons, List.length_nil, Nat.sub_self, Nat.zero_add, Nat.reduceAdd, Nat.reduceSub, Nat.add_sub_cancel, if_true, if_false, Bool.false_eq_true, Int.reduceLT, Int.reduceLE, Int.reduceNeg, Int.reduceAdd, Int.reduceSub, Int.reduceMul, Int.reduceToNat, Nat.reduceLT, Nat.reduceLeDiff, and_self, and_true, true_and, decide_true, decide_false, Bool.not_true, Bool.not_false, Option.map_some, Option.bind_some, b_add, b_sub, b_mul1, b_mod, b_fdiv, cmp_eq_int, cmp_eq_bool, cmp_lt, cmp_le, cmp_gt, cmp_ge, Int.reduceGT, gt_iff_lt, ge_iff_le, isTy, q0, show ((1 : Int) == 1) = true from rfl, h1, kDat_exn, kRet_exn, kSeq_exn]
    · have q1 : (k == 1) = false := by simpa using e1
      by_cases e2 : k = 2
      · subst e2
        refine ⟨_, call_raise (fn := fn_l_told) (ρ := [some (.dat (.int 2)), some (.dat (.str S)), some (.dat (wsD ws))]) (σ' := s2) rfl rfl ?_⟩
        simp only [fn_l_told, t_l_told_0, t_l_told_1, t_l_told_2, exs_nil, exs_cons, kSeq_next, kSeq_ret, ex_assign, kAsg_val, ex_newlst, kNew_val, ex_append, kApp0_ref, kApp_dat, ex_ret, kRet_dat, ex_ite, kIte_true, kIte_false, kIte_val, ex_for1, ex_for2, evI_enum, ev_lit, ev_con, ev_var, kVar_val, ev_bin, kBin1_val, kBin2_val, kD1_val, kD2a_val, kD2_val, ev_neg, negD, ev_prim, ev_prim2, ev_idx, kIdx_val, kNotX_val, kTruX_val, ev_slFrom, ev_slTo, ev_sorted, ev_listOf, ev_listRange, kTup_val, kLst_val, ev_tup, ev_lst, kNot_val, kBool_val, kTru_val, ev_not, evCmp_cons, evCmp_nil, kCmp1_val, kCmp2_nil, kCmp2_true, kCmp2_false, kCmp0_val, ev_cmp, evB_cmp, kCall_val, kDat_val, ev_call, kCons_val, kArgs_val, evArgs_nil, evArgs_cons, kToDat_dat, kEvs_val, evs_nil, evs_cons, ev_and, ev_or, evAnd_one, Out.noX_val, evOr_one, evAnd_cons, evOr_cons, kAnd_true, kAnd_false, kOr_true, kOr_false, kAnd_val, kOr_val, evAll_nil, evAny_nil, evIfs_nil, evAll_cons, evAny_cons, evIfs_cons, kAll_val, kAny_val, kIfs_val, evB_and, evB_or, evB_not, evB_var, evB_call, evB_prim, ev_isinst, evB_isinst, evB_idx, ev_comp, evI_of', kOf_lst, kOf_tup, kOf_str, evI_range1, evI_range2, kRange2_val, d1_dat, d2_dat, c2_dat, look_dat, bodyF, List.map_cons, List.map_nil, List.cons_append, List.nil_append, List.append_nil, List.replicate_succ, List.replicate_zero, List.getElem?_cons_zero, List.getElem?_cons_succ, List.set_cons_zero, List.set_cons_succ, List.length_cons, List.length_nil, Nat.sub_self, Nat.zero_add, Nat.reduceAdd, Nat.reduceSub, Nat.add_sub_cancel, if_true, if_false, Bool.false_eq_true, Int.reduceLT, Int.reduceLE, Int.reduceNeg, Int.reduceAdd, Int.reduceSub, Int.reduceMul, Int.reduceToNat, Nat.reduceLT, Nat.reduceLeDiff, and_self, and_true, true_and, decide_true, decide_false, Bool.not_true, Bool.not_false, Option.map_some, Option.bind_some, b_add, b_sub, b_mul1, b_mod, b_fdiv, cmp_eq_int, cmp_eq_bool, cmp_lt, cmp_le, cmp_gt, cmp_ge, Int.reduceGT, gt_iff_lt, ge_iff_le, isTy, q0, q1, show ((2 : Int) == 2) = true from rfl, h2, kDat_exn, kRet_exn, kSeq_exn]
      · have q2 : (k == 2) = false := by simpa using e2
        refine ⟨_, call_raise (fn := fn_l_told) (ρ := [some (.dat (.int k)), some (.dat (.str S)), some (.dat (wsD ws))]) (σ' := s3) rfl rfl ?_⟩
        simp only [fn_l_told, t_l_told_0, t_l_told_1, t_l_told_2, t_l_told_3, exs_nil, exs_cons, kSeq_next, kSeq_ret, ex_assign, kAsg_val, ex_newlst, kNew_val, ex_append, kApp0_ref, kApp_dat, ex_ret, kRet_dat, ex_ite, kIte_true, kIte_false, kIte_val, ex_for1, ex_for2, evI_enum, ev_lit, ev_con, ev_var, kVar_val, ev_bin, kBin1_val, kBin2_val, kD1_val, kD2a_val, kD2_val, ev_neg, negD, ev_prim, ev_prim2, ev_idx, kIdx_val, kNotX_val, kTruX_val, ev_slFrom, ev_slTo, ev_sorted, ev_listOf, ev_listRange, kTup_val, kLst_val, ev_tup, ev_lst, kNot_val, kBool_val, kTru_val, ev_not, evCmp_cons, evCmp_nil, kCmp1_val, kCmp2_nil, kCmp2_true, kCmp2_false, kCmp0_val, ev_cmp, evB_cmp, kCall_val, kDat_val, ev_call, kCons_val, kArgs_val, evArgs_nil, evArgs_cons, kToDat_dat, kEvs_val, evs_nil, evs_cons, ev_and, ev_or, evAnd_one, Out.noX_val, evOr_one, evAnd_cons, evOr_cons, kAnd_true, kAnd_false, kOr_true, kOr_false, kAnd_val, kOr_val, evAll_nil, evAny_nil, evIfs_nil, evAll_cons, evAny_cons, evIfs_cons, kAll_val, kAny_val, kIfs_val, evB_and, evB_or, evB_not, evB_var, evB_call, evB_prim, ev_isinst, evB_isinst, evB_idx, ev_comp, evI_of', kOf_lst, kOf_tup, kOf_str, evI_range1, evI_range2, kRange2_val, d1_dat, d2_dat, c2_dat, look_dat, bodyF, List.map_cons, List.map_nil, List.cons_append, List.nil_append, List.append_nil, List.replicate_succ, List.replicate_zero, List.getElem?_cons_zero, List.getElem?_cons_succ, List.set_cons_zero, List.set_cons_succ, List.length_cons, List.length_nil, Nat.sub_self, Nat.zero_add, Nat.reduceAdd, Nat.reduceSub, Nat.add_sub_cancel, if_true, if_false, Bool.false_eq_true, Int.reduceLT, Int.reduceLE, Int.reduceNeg, Int.reduceAdd, Int.reduceSub, Int.reduceMul, Int.reduceToNat, Nat.reduceLT, Nat.reduceLeDiff, and_self, and_true, true_and, decide_true, decide_false, Bool.not_true, Bool.not_false, Option.map_some, Option.bind_some, b_add, b_sub, b_mul1, b_mod, b_fdiv, cmp_eq_int, cmp_eq_bool, cmp_lt, cmp_le, cmp_gt, cmp_ge, Int.reduceGT, gt_iff_lt, ge_iff_le, isTy, q0, q1, q2, h3, kDat_exn, kRet_exn, kSeq_exn]
theorem ex_tryc {C : Oracle} {f : Nat} {as : IEs} {hs : List Hnd} {ρ : Loc} {vs : List Val} {c : Nat} {σ σ' : Sto} {b : Bool} {h : Hnd} (hσ : σ.all (fun e => !e.1) = true) (h1 : evArgs sub C as ρ σ = .val vs σ) (h2 : C f vs σ = .exn c σ') (h3 : c < 4) (h4 : (hs.find? fun h => subC c h.cls) = some h) (h5 : atomsV c ρ h.atoms = some b) :
    ex sub C (.tryc f as hs) ρ σ = .ret (.bool b) σ := by
  show (evArgs sub C as ρ σ).stmK _ = _
  rw [h1]
  simp only [Out.stmK_val, h2, hσ, h3, decide_true, Bool.and_self, if_true, h4, ofHnd, h5]
theorem c_refused {n : Nat} {S : List Nat} {ws : List (List Int)} {σ : Sto} {k : Int} {b : Bool} (hσ : σ.all (fun e => !e.1) = true) (hs : Small S ws) (hb : ¬ goodG S ws) : callF sub tab.Δ (n + 5) 1000 [.dat (.int k), .dat (.str S), .dat (wsD ws), .dat (.bool b)] σ = .val (.bool true) σ := by
  obtain ⟨σ', h⟩ := c_told (sub := sub) (n := n) (σ := σ) (k := k) hs hb
  refine call_ret (fn := fn_l_refused) (σ' := σ) rfl rfl ?_ (by simp)
  cases b with
  | true =>
    have := ex_tryc (sub := sub) (C := callF sub tab.Δ (n + 4)) (f := 106) (as := .cons (.var 0) (.cons (.var 1) (.cons (.var 2) .nil))) (hs := [⟨0, 4, [(false, .isi 9)]⟩]) (ρ := [some (.dat (.int k)), some (.dat (.str S)), some (.dat (wsD ws)), some (.dat (.bool true)), none]) (b := true) hσ (by simp only [exs_nil, exs_cons, kSeq_next, kSeq_ret, ex_assign, kAsg_val, ex_newlst, kNew_val, ex_append, kApp0_ref, kApp_dat, ex_ret, kRet_dat, ex_ite, kIte_true, kIte_false, kIte_val, ex_for1, ex_for2, evI_enum, ev_lit, ev_con, ev_var, kVar_val, ev_bin, kBin1_val, kBin2_val, kD1_val, kD2a_val, kD2_val, ev_neg, negD, ev_prim, ev_prim2, ev_idx, kIdx_val, kNotX_val, kTruX_val, ev_slFrom, ev_slTo, ev_sorted, ev_listOf, ev_listRange, kTup_val, kLst_val, ev_tup, ev_lst, kNot_val, kBool_val, kTru_val, ev_not, evCmp_cons, evCmp_nil, kCmp1_val, kCmp2_nil, kCmp2_true, kCmp2_false, kCmp0_val, ev_cmp, evB_cmp, kCall_val, kDat_val, ev_call, kCons_val, kArgs_val, evArgs_nil, evArgs_cons, kToDat_dat, kEvs_val, evs_nil, evs_cons, ev_and, ev_or, evAnd_one, Out.noX_val, evOr_one, evAnd_cons, evOr_cons, kAnd_true, kAnd_false, kOr_true, kOr_false, kAnd_val, kOr_val, evAll_nil, evAny_nil, evIfs_nil, evAll_cons, evAny_cons, evIfs_cons, kAll_val, kAny_val, kIfs_val, evB_and, evB_or, evB_not, evB_var, evB_call, evB_prim, ev_isinst, evB_isinst, evB_idx, ev_comp, evI_of', kOf_lst, kOf_tup, kOf_str, evI_range1, evI_range2, kRange2_val, d1_dat, d2_dat, c2_dat, look_dat, bodyF, List.map_cons, List.map_nil, List.cons_append, List.nil_append, List.append_nil, List.replicate_succ, List.replicate_zero, List.getElem?_cons_zero, List.getElem?_cons_succ, List.set_cons_zero, List.set_cons_succ, List.length_cons, List.length_nil, Nat.sub_self, Nat.zero_add, Nat.reduceAdd, Nat.reduceSub, Nat.add_sub_cancel, if_true, if_false, Bool.false_eq_true, Int.reduceLT, Int.reduceLE, Int.reduceNeg, Int.reduceAdd, Int.reduceSub, Int.reduceMul, Int.reduceToNat, Nat.reduceLT, Nat.reduceLeDiff, and_self, and_true, true_and, decide_true, decide_false, Bool.not_true, Bool.not_false, Option.map_some, Option.bind_some, b_add, b_sub, b_mul1, b_mod, b_fdiv, cmp_eq_int, cmp_eq_bool, cmp_lt, cmp_le, cmp_gt, cmp_ge, Int.reduceGT, gt_iff_lt, ge_iff_le, isTy]) h (by decide) rfl rfl
    simp only [fn_l_refused, exs_nil, exs_cons, kSeq_next, kSeq_ret, ex_assign, kAsg_val, ex_newlst, kNew_val, ex_append, kApp0_ref, kApp_dat, ex_ret, kRet_dat, ex_ite, kIte_true, kIte_false, kIte_val, ex_for1, ex_for2, evI_enum, ev_lit, ev_con, ev_var, kVar_val, ev_bin, kBin1_val, kBin2_val, kD1_val, kD2a_val, kD2_val, ev_neg, negD, ev_prim, ev_prim2, ev_idx, kIdx_val, kNotX_val, kTruX_val, ev_slFrom, ev_slTo, ev_sorted, ev_listOf, ev_listRange, kTup_val, kLst_val, ev_tup, ev_lst, kNot_val, kBool_val, kTru_val, ev_not, evCmp_cons, evCmp_nil, kCmp1_val, kCmp2_nil, kCmp2_true, kCmp2_false, kCmp0_val, ev_cmp, evB_cmp, kCall_val, kDat_val, ev_call, kCons_val, kArgs_val, evArgs_nil, evArgs_cons, kToDat_dat, kEvs_val, evs_nil, evs_cons, ev_and, ev_or, evAnd_one, Out.noX_val, evOr_one, evAnd_cons, evOr_cons, kAnd_true, kAnd_false, kOr_true, kOr_false, kAnd_val, kOr_val, evAll_nil, evAny_nil, evIfs_nil, evAll_cons, evAny_cons, evIfs_cons, kAll_val, kAny_val, kIfs_val, evB_and, evB_or, evB_not, evB_var, evB_call, evB_prim, ev_isinst, evB_isinst, evB_idx, ev_comp, evI_of', kOf_lst, kOf_tup, kOf_str, evI_range1, evI_range2, kRange2_val, d1_dat, d2_dat, c2_dat, look_dat, bodyF, List.map_cons, List.map_nil, List.cons_append, List.nil_append, List.append_nil, List.replicate_succ, List.replicate_zero, List.getElem?_cons_zero, List.getElem?_cons_succ, List.set_cons_zero, List.set_cons_succ, List.length_cons, List.length_nil, Nat.sub_self, Nat.zero_add, Nat.reduceAdd, Nat.reduceSub, Nat.add_sub_cancel, if_true, if_false, Bool.false_eq_true, Int.reduceLT, Int.reduceLE, Int.reduceNeg, Int.reduceAdd, Int.reduceSub, Int.reduceMul, Int.reduceToNat, Nat.reduceLT, Nat.reduceLeDiff, and_self, and_true, true_and, decide_true, decide_false, Bool.not_true, Bool.not_false, Option.map_some, Option.bind_some, b_add, b_sub, b_mul1, b_mod, b_fdiv, cmp_eq_int, cmp_eq_bool, cmp_lt, cmp_le, cmp_gt, cmp_ge, Int.reduceGT, gt_iff_lt, ge_iff_le, isTy, this]
  | false =>
    have := ex_tryc (sub := sub) (C := callF sub tab.Δ (n + 4)) (f := 106) (as := .cons (.var 0) (.cons (.var 1) (.cons (.var 2) .nil))) (hs := [⟨1, 4, [(false, .isi 0), (true, .isi 2), (true, .isi 3)]⟩]) (ρ := [some (.dat (.int k)), some (.dat (.str S)), some (.dat (wsD ws)), some (.dat (.bool false)), none]) (b := true) hσ (by simp only [exs_nil, exs_cons, kSeq_next, kSeq_ret, ex_assign, kAsg_val, ex_newlst, kNew_val, ex_append, kApp0_ref, kApp_dat, ex_ret, kRet_dat, ex_ite, kIte_true, kIte_false, kIte_val, ex_for1, ex_for2, evI_enum, ev_lit, ev_con, ev_var, kVar_val, ev_bin, kBin1_val, kBin2_val, kD1_val, kD2a_val, kD2_val, ev_neg, negD, ev_prim, ev_prim2, ev_idx, kIdx_val, kNotX_val, kTruX_val, ev_slFrom, ev_slTo, ev_sorted, ev_listOf, ev_listRange, kTup_val, kLst_val, ev_tup, ev_lst, kNot_val, kBool_val, kTru_val, ev_not, evCmp_cons, evCmp_nil, kCmp1_val, kCmp2_nil, kCmp2_true, kCmp2_false, kCmp0_val, ev_cmp, evB_cmp, kCall_val, kDat_val, ev_call, kCons_val, kArgs_val, evArgs_nil, evArgs_cons, kToDat_dat, kEvs_val, evs_nil, evs_cons, ev_and, ev_or, evAnd_one, Out.noX_val, evOr_one, evAnd_cons, evOr_cons, kAnd_true, kAnd_false, kOr_true, kOr_false, kAnd_val, kOr_val, evAll_nil, evAny_nil, evIfs_nil, evAll_cons, evAny_cons, evIfs_cons, kAll_val, kAny_val, kIfs_val, evB_and, evB_or, evB_not, evB_var, evB_call, evB_prim, ev_isinst, evB_isinst, evB_idx, ev_comp, evI_of', kOf_lst, kOf_tup, kOf_str, evI_range1, evI_range2, kRange2_val, d1_dat, d2_dat, c2_dat, look_dat, bodyF, List.map_cons, List.map_nil, List.cons_append, List.nil_append, List.append_nil, List.replicate_succ, List.replicate_zero, List.getElem?_cons_zero, List.getElem?_cons_succ, List.set_cons_zero, List.set_cons_succ, List.length_cons, List.length_nil, Nat.sub_self, Nat.zero_add, Nat.reduceAdd, Nat.reduceSub, Nat.add_sub_cancel, if_true, if_false, Bool.false_eq_true, Int.reduceLT, Int.reduceLE, Int.reduceNeg, Int.reduceAdd, Int.reduceSub, Int.reduceMul, Int.reduceToNat, Nat.reduceLT, Nat.reduceLeDiff, and_self, and_true, true_and, decide_true, decide_false, Bool.not_true, Bool.not_false, Option.map_some, Option.bind_some, b_add, b_sub, b_mul1, b_mod, b_fdiv, cmp_eq_int, cmp_eq_bool, cmp_lt, cmp_le, cmp_gt, cmp_ge, Int.reduceGT, gt_iff_lt, ge_iff_le, isTy]) h (by decide) rfl rfl
    simp only [fn_l_refused, exs_nil, exs_cons, kSeq_next, kSeq_ret, ex_assign, kAsg_val, ex_newlst, kNew_val, ex_append, kApp0_ref, kApp_dat, ex_ret, kRet_dat, ex_ite, kIte_true, kIte_false, kIte_val, ex_for1, ex_for2, evI_enum, ev_lit, ev_con, ev_var, kVar_val, ev_bin, kBin1_val, kBin2_val, kD1_val, kD2a_val, kD2_val, ev_neg, negD, ev_prim, ev_prim2, ev_idx, kIdx_val, kNotX_val, kTruX_val, ev_slFrom, ev_slTo, ev_sorted, ev_listOf, ev_listRange, kTup_val, kLst_val, ev_tup, ev_lst, kNot_val, kBool_val, kTru_val, ev_not, evCmp_cons, evCmp_nil, kCmp1_val, kCmp2_nil, kCmp2_true, kCmp2_false, kCmp0_val, ev_cmp, evB_cmp, kCall_val, kDat_val, ev_call, kCons_val, kArgs_val, evArgs_nil, evArgs_cons, kToDat_dat, kEvs_val, evs_nil, evs_cons, ev_and, ev_or, evAnd_one, Out.noX_val, evOr_one, evAnd_cons, evOr_cons, kAnd_true, kAnd_false, kOr_true, kOr_false, kAnd_val, kOr_val, evAll_nil, evAny_nil, evIfs_nil, evAll_cons, evAny_cons, evIfs_cons, kAll_val, kAny_val, kIfs_val, evB_and, evB_or, evB_not, evB_var, evB_call, evB_prim, ev_isinst, evB_isinst, evB_idx, ev_comp, evI_of', kOf_lst, kOf_tup, kOf_str, evI_range1, evI_range2, kRange2_val, d1_dat, d2_dat, c2_dat, look_dat, bodyF, List.map_cons, List.map_nil, List.cons_append, List.nil_append, List.append_nil, List.replicate_succ, List.replicate_zero, List.getElem?_cons_zero, List.getElem?_cons_succ, List.set_cons_zero, List.set_cons_succ, List.length_cons, List.length_nil, Nat.sub_self, Nat.zero_add, Nat.reduceAdd, Nat.reduceSub, Nat.add_sub_cancel, if_true, if_false, Bool.false_eq_true, Int.reduceLT, Int.reduceLE, Int.reduceNeg, Int.reduceAdd, Int.reduceSub, Int.reduceMul, Int.reduceToNat, Nat.reduceLT, Nat.reduceLeDiff, and_self, and_true, true_and, decide_true, decide_false, Bool.not_true, Bool.not_false, Option.map_some, Option.bind_some, b_add, b_sub, b_mul1, b_mod, b_fdiv, cmp_eq_int, cmp_eq_bool, cmp_lt, cmp_le, cmp_gt, cmp_ge, Int.reduceGT, gt_iff_lt, ge_iff_le, isTy, this]

/-! the script's cells, setters, wishes -/
noncomputable def cellAt (s : List Int) (k : Int) : Int := s.getD k.toNat 0
theorem c_cell_at {n : Nat} {s : List Int} {k : Int} {σ : Sto} (hs : s.length ≤ 63) (hk : 0 ≤ k) :
    callF sub tab.Δ (n + 1) 100 [.dat (.lst (s.map .int)), .dat (.int k)] σ = .val (.int (cellAt s k)) σ := by
  refine call_ret (fn := fn_l_cell_at) (σ' := σ) rfl rfl ?_ (by simp)
  have h1 : s.length ≤ 1000000 := by omega
  simp only [fn_l_cell_at, exs_nil, exs_cons, kSeq_next, kSeq_ret, ex_assign, kAsg_val, ex_newlst, kNew_val, ex_append, kApp0_ref, kApp_dat, ex_ret, kRet_dat, ex_ite, kIte_true, kIte_false, kIte_val, ex_for1, ex_for2, evI_enum, ev_lit, ev_con, ev_var, kVar_val, ev_bin, kBin1_val, kBin2_val, kD1_val, kD2a_val, kD2_val, ev_neg, negD, ev_prim, ev_prim2, ev_idx, kIdx_val, kNotX_val, kTruX_val, ev_slFrom, ev_slTo, ev_sorted, ev_listOf, ev_listRange, kTup_val, kLst_val, ev_tup, ev_lst, kNot_val, kBool_val, kTru_val, ev_not, evCmp_cons, evCmp_nil, kCmp1_val, kCmp2_nil, kCmp2_true, kCmp2_false, kCmp0_val, ev_cmp, evB_cmp, kCall_val, kDat_val, ev_call, kCons_val, kArgs_val, evArgs_nil, evArgs_cons, kToDat_dat, kEvs_val, evs_nil, evs_cons, ev_and, ev_or, evAnd_one, Out.noX_val, evOr_one, evAnd_cons, evOr_cons, kAnd_true, kAnd_false, kOr_true, kOr_false, kAnd_val, kOr_val, evAll_nil, evAny_nil, evIfs_nil, evAll_cons, evAny_cons, evIfs_cons, kAll_val, kAny_val, kIfs_val, evB_and, evB_or, evB_not, evB_var, evB_call, evB_prim, ev_isinst, evB_isinst, evB_idx, ev_comp, evI_of', kOf_lst, kOf_tup, kOf_str, evI_range1, evI_range2, kRange2_val, d1_dat, d2_dat, c2_dat, look_dat, bodyF, List.map_cons, List.map_nil, List.cons_append, List.nil_append, List.append_nil, List.replicate_succ, List.replicate_zero, List.getElem?_cons_zero, List.getElem?_cons_succ, List.set_cons_zero, List.set_cons_succ, List.length_cons, List.length_nil, Nat.sub_self, Nat.zero_add, Nat.reduceAdd, Nat.reduceSub, Nat.add_sub_cancel, if_true, if_false, Bool.false_eq_true, Int.reduceLT, Int.reduceLE, Int.reduceNeg, Int.reduceAdd, Int.reduceSub, Int.reduceMul, Int.reduceToNat, Nat.reduceLT, Nat.reduceLeDiff, and_self, and_true, true_and, decide_true, decide_false, Bool.not_true, Bool.not_false, Option.map_some, Option.bind_some, b_add, b_sub, b_mul1, b_mod, b_fdiv, cmp_eq_int, cmp_eq_bool, cmp_lt, cmp_le, cmp_gt, cmp_ge, Int.reduceGT, gt_iff_lt, ge_iff_le, isTy, prim1, lenD, absD, anyD, allD, List.length_map, h1]
  by_cases h : k < s.length
  · have h2 : k.toNat < s.length := by omega
    simp only [h, exs_nil, exs_cons, kSeq_next, kSeq_ret, ex_assign, kAsg_val, ex_newlst, kNew_val, ex_append, kApp0_ref, kApp_dat, ex_ret, kRet_dat, ex_ite, kIte_true, kIte_false, kIte_val, ex_for1, ex_for2, evI_enum, ev_lit, ev_con, ev_var, kVar_val, ev_bin, kBin1_val, kBin2_val, kD1_val, kD2a_val, kD2_val, ev_neg, negD, ev_prim, ev_prim2, ev_idx, kIdx_val, kNotX_val, kTruX_val, ev_slFrom, ev_slTo, ev_sorted, ev_listOf, ev_listRange, kTup_val, kLst_val, ev_tup, ev_lst, kNot_val, kBool_val, kTru_val, ev_not, evCmp_cons, evCmp_nil, kCmp1_val, kCmp2_nil, kCmp2_true, kCmp2_false, kCmp0_val, ev_cmp, evB_cmp, kCall_val, kDat_val, ev_call, kCons_val, kArgs_val, evArgs_nil, evArgs_cons, kToDat_dat, kEvs_val, evs_nil, evs_cons, ev_and, ev_or, evAnd_one, Out.noX_val, evOr_one, evAnd_cons, evOr_cons, kAnd_true, kAnd_false, kOr_true, kOr_false, kAnd_val, kOr_val, evAll_nil, evAny_nil, evIfs_nil, evAll_cons, evAny_cons, evIfs_cons, kAll_val, kAny_val, kIfs_val, evB_and, evB_or, evB_not, evB_var, evB_call, evB_prim, ev_isinst, evB_isinst, evB_idx, ev_comp, evI_of', kOf_lst, kOf_tup, kOf_str, evI_range1, evI_range2, kRange2_val, d1_dat, d2_dat, c2_dat, look_dat, bodyF, List.map_cons, List.map_nil, List.cons_append, List.nil_append, List.append_nil, List.replicate_succ, List.replicate_zero, List.getElem?_cons_zero, List.getElem?_cons_succ, List.set_cons_zero, List.set_cons_succ, List.length_cons, List.length_nil, Nat.sub_self, Nat.zero_add, Nat.reduceAdd, Nat.reduceSub, Nat.add_sub_cancel, if_true, if_false, Bool.false_eq_true, Int.reduceLT, Int.reduceLE, Int.reduceNeg, Int.reduceAdd, Int.reduceSub, Int.reduceMul, Int.reduceToNat, Nat.reduceLT, Nat.reduceLeDiff, and_self, and_true, true_and, decide_true, decide_false, Bool.not_true, Bool.not_false, Option.map_some, Option.bind_some, b_add, b_sub, b_mul1, b_mod, b_fdiv, cmp_eq_int, cmp_eq_bool, cmp_lt, cmp_le, cmp_gt, cmp_ge, Int.reduceGT, gt_iff_lt, ge_iff_le, isTy, decide_true, idx2, place, List.length_map, h1, hk]
    simp [h2, cellAt, exs_nil, exs_cons, kSeq_next, kSeq_ret, ex_assign, kAsg_val, ex_newlst, kNew_val, ex_append, kApp0_ref, kApp_dat, ex_ret, kRet_dat, ex_ite, kIte_true, kIte_false, kIte_val, ex_for1, ex_for2, evI_enum, ev_lit, ev_con, ev_var, kVar_val, ev_bin, kBin1_val, kBin2_val, kD1_val, kD2a_val, kD2_val, ev_neg, negD, ev_prim, ev_prim2, ev_idx, kIdx_val, kNotX_val, kTruX_val, ev_slFrom, ev_slTo, ev_sorted, ev_listOf, ev_listRange, kTup_val, kLst_val, ev_tup, ev_lst, kNot_val, kBool_val, kTru_val, ev_not, evCmp_cons, evCmp_nil, kCmp1_val, kCmp2_nil, kCmp2_true, kCmp2_false, kCmp0_val, ev_cmp, evB_cmp, kCall_val, kDat_val, ev_call, kCons_val, kArgs_val, evArgs_nil, evArgs_cons, kToDat_dat, kEvs_val, evs_nil, evs_cons, ev_and, ev_or, evAnd_one, Out.noX_val, evOr_one, evAnd_cons, evOr_cons, kAnd_true, kAnd_false, kOr_true, kOr_false, kAnd_val, kOr_val, evAll_nil, evAny_nil, evIfs_nil, evAll_cons, evAny_cons, evIfs_cons, kAll_val, kAny_val, kIfs_val, evB_and, evB_or, evB_not, evB_var, evB_call, evB_prim, ev_isinst, evB_isinst, evB_idx, ev_comp, evI_of', kOf_lst, kOf_tup, kOf_str, evI_range1, evI_range2, kRange2_val, d1_dat, d2_dat, c2_dat, look_dat, bodyF, List.map_cons, List.map_nil, List.cons_append, List.nil_append, List.append_nil, List.replicate_succ, List.replicate_zero, List.getElem?_cons_zero, List.getElem?_cons_succ, List.set_cons_zero, List.set_cons_succ, List.length_cons, List.length_nil, Nat.sub_self, Nat.zero_add, Nat.reduceAdd, Nat.reduceSub, Nat.add_sub_cancel, if_true, if_false, Bool.false_eq_true, Int.reduceLT, Int.reduceLE, Int.reduceNeg, Int.reduceAdd, Int.reduceSub, Int.reduceMul, Int.reduceToNat, Nat.reduceLT, Nat.reduceLeDiff, and_self, and_true, true_and, decide_true, decide_false, Bool.not_true, Bool.not_false, Option.map_some, Option.bind_some, b_add, b_sub, b_mul1, b_mod, b_fdiv, cmp_eq_int, cmp_eq_bool, cmp_lt, cmp_le, cmp_gt, cmp_ge, Int.reduceGT, gt_iff_lt, ge_iff_le, isTy]
  · have h2 : s.length ≤ k.toNat := by omega
    simp only [h, exs_nil, exs_cons, kSeq_next, kSeq_ret, ex_assign, kAsg_val, ex_newlst, kNew_val, ex_append, kApp0_ref, kApp_dat, ex_ret, kRet_dat, ex_ite, kIte_true, kIte_false, kIte_val, ex_for1, ex_for2, evI_enum, ev_lit, ev_con, ev_var, kVar_val, ev_bin, kBin1_val, kBin2_val, kD1_val, kD2a_val, kD2_val, ev_neg, negD, ev_prim, ev_prim2, ev_idx, kIdx_val, kNotX_val, kTruX_val, ev_slFrom, ev_slTo, ev_sorted, ev_listOf, ev_listRange, kTup_val, kLst_val, ev_tup, ev_lst, kNot_val, kBool_val, kTru_val, ev_not, evCmp_cons, evCmp_nil, kCmp1_val, kCmp2_nil, kCmp2_true, kCmp2_false, kCmp0_val, ev_cmp, evB_cmp, kCall_val, kDat_val, ev_call, kCons_val, kArgs_val, evArgs_nil, evArgs_cons, kToDat_dat, kEvs_val, evs_nil, evs_cons, ev_and, ev_or, evAnd_one, Out.noX_val, evOr_one, evAnd_cons, evOr_cons, kAnd_true, kAnd_false, kOr_true, kOr_false, kAnd_val, kOr_val, evAll_nil, evAny_nil, evIfs_nil, evAll_cons, evAny_cons, evIfs_cons, kAll_val, kAny_val, kIfs_val, evB_and, evB_or, evB_not, evB_var, evB_call, evB_prim, ev_isinst, evB_isinst, evB_idx, ev_comp, evI_of', kOf_lst, kOf_tup, kOf_str, evI_range1, evI_range2, kRange2_val, d1_dat, d2_dat, c2_dat, look_dat, bodyF, List.map_cons, List.map_nil, List.cons_append, List.nil_append, List.append_nil, List.replicate_succ, List.replicate_zero, List.getElem?_cons_zero, List.getElem?_cons_succ, List.set_cons_zero, List.set_cons_succ, List.length_cons, List.length_nil, Nat.sub_self, Nat.zero_add, Nat.reduceAdd, Nat.reduceSub, Nat.add_sub_cancel, if_true, if_false, Bool.false_eq_true, Int.reduceLT, Int.reduceLE, Int.reduceNeg, Int.reduceAdd, Int.reduceSub, Int.reduceMul, Int.reduceToNat, Nat.reduceLT, Nat.reduceLeDiff, and_self, and_true, true_and, decide_true, decide_false, Bool.not_true, Bool.not_false, Option.map_some, Option.bind_some, b_add, b_sub, b_mul1, b_mod, b_fdiv, cmp_eq_int, cmp_eq_bool, cmp_lt, cmp_le, cmp_gt, cmp_ge, Int.reduceGT, gt_iff_lt, ge_iff_le, isTy, decide_false]
    simp [h2, cellAt]
theorem b_adds (a b : List Nat) (h : a.length + b.length ≤ 1000000) : bin2 .add (.str a) (.str b) = some (.str (a ++ b)) := by simp [bin2, addD, h]
theorem fo (c : Int) : ∃ x : Nat, (x = 102 ∨ x = 111) ∧ idx2 (.str [102, 111]) (.int (c % 2)) = some (.str [x]) := by
  have : c % 2 = 0 ∨ c % 2 = 1 := by omega
  rcases this with h | h <;> rw [h]
  · exact ⟨102, .inl rfl, rfl⟩
  · exact ⟨111, .inr rfl, rfl⟩
theorem c_setters {n : Nat} {c : Int} {m : Nat} {σ : Sto} (hm : m ≤ 10) : ∃ S : List Nat, S.length = m ∧ (∀ x ∈ S, x = 102 ∨ x = 111) ∧ callF sub tab.Δ (n + 1) 101 [.dat (.int c), .dat (.int m)] σ = .val (.str S) σ := by
  have hr : (m : Int) ≤ 1000000 ∧ -1000000 ≤ (m : Int) := by omega
  obtain ⟨ρ', σ', h1, c', S, y, hl, hS, rfl, rfl⟩ := kFor_all (sub := sub) (C := callF sub tab.Δ n) (x := 3) (body := b_l_setters_1) (em := fun i : Nat => Dat.int i) (l := List.range m)
    (ρ := [some (.dat (.int c)), some (.dat (.int m)), some (.dat (.str [])), none]) (σ := σ)
    (fun pre ρ τ => ∃ (c' : Int) (S : List Nat) (y : Option Val), S.length = pre.length ∧ (∀ x ∈ S, x = 102 ∨ x = 111) ∧ ρ = [some (.dat (.int c')), some (.dat (.int m)), some (.dat (.str S)), y] ∧ τ = σ)
    (by simp; omega) (fun pre a post ρ τ he hP => by
      obtain ⟨c', S, y, hl, hS, rfl, rfl⟩ := hP
      have hlt := (pre_lt he).1
      obtain ⟨x, hx, hi⟩ := fo c'
      refine ⟨_, _, ?_, c' / 2, S ++ [x], some (.dat (.int a)), by simp [hl], fun y hy => ?_, rfl, rfl⟩
      · simp only [b_l_setters_1, exs_nil, exs_cons, kSeq_next, kSeq_ret, ex_assign, kAsg_val, ex_newlst, kNew_val, ex_append, kApp0_ref, kApp_dat, ex_ret, kRet_dat, ex_ite, kIte_true, kIte_false, kIte_val, ex_for1, ex_for2, evI_enum, ev_lit, ev_con, ev_var, kVar_val, ev_bin, kBin1_val, kBin2_val, kD1_val, kD2a_val, kD2_val, ev_neg, negD, ev_prim, ev_prim2, ev_idx, kIdx_val, kNotX_val, kTruX_val, ev_slFrom, ev_slTo, ev_sorted, ev_listOf, ev_listRange, kTup_val, kLst_val, ev_tup, ev_lst, kNot_val, kBool_val, kTru_val, ev_not, evCmp_cons, evCmp_nil, kCmp1_val, kCmp2_nil, kCmp2_true, kCmp2_false, kCmp0_val, ev_cmp, evB_cmp, kCall_val, kDat_val, ev_call, kCons_val, kArgs_val, evArgs_nil, evArgs_cons, kToDat_dat, kEvs_val, evs_nil, evs_cons, ev_and, ev_or, evAnd_one, Out.noX_val, evOr_one, evAnd_cons, evOr_cons, kAnd_true, kAnd_false, kOr_true, kOr_false, kAnd_val, kOr_val, evAll_nil, evAny_nil, evIfs_nil, evAll_cons, evAny_cons, evIfs_cons, kAll_val, kAny_val, kIfs_val, evB_and, evB_or, evB_not, evB_var, evB_call, evB_prim, ev_isinst, evB_isinst, evB_idx, ev_comp, evI_of', kOf_lst, kOf_tup, kOf_str, evI_range1, evI_range2, kRange2_val, d1_dat, d2_dat, c2_dat, look_dat, bodyF, List.map_cons, List.map_nil, List.cons_append, List.nil_append, List.append_nil, List.replicate_succ, List.replicate_zero, List.getElem?_cons_zero, List.getElem?_cons_succ, List.set_cons_zero, List.set_cons_succ, List.length_cons, List.length_nil, Nat.sub_self, Nat.zero_add, Nat.reduceAdd, Nat.reduceSub, Nat.add_sub_cancel, if_true, if_false, Bool.false_eq_true, Int.reduceLT, Int.reduceLE, Int.reduceNeg, Int.reduceAdd, Int.reduceSub, Int.reduceMul, Int.reduceToNat, Nat.reduceLT, Nat.reduceLeDiff, and_self, and_true, true_and, decide_true, decide_false, Bool.not_true, Bool.not_false, Option.map_some, Option.bind_some, b_add, b_sub, b_mul1, b_mod, b_fdiv, cmp_eq_int, cmp_eq_bool, cmp_lt, cmp_le, cmp_gt, cmp_ge, Int.reduceGT, gt_iff_lt, ge_iff_le, isTy, hi, b_adds S [x] (by simp at hlt ⊢; omega)]
      · rcases List.mem_append.mp hy with h | h
        · exact hS y h
        · simp at h; subst h; exact hx) ⟨c, [], none, rfl, fun x hx => (nomatch hx), rfl, rfl⟩
  refine ⟨S, by simpa using hl, hS, call_ret (fn := fn_l_setters) (σ' := σ') rfl rfl ?_ (by simp)⟩
  simp only [fn_l_setters, exs_nil, exs_cons, kSeq_next, kSeq_ret, ex_assign, kAsg_val, ex_newlst, kNew_val, ex_append, kApp0_ref, kApp_dat, ex_ret, kRet_dat, ex_ite, kIte_true, kIte_false, kIte_val, ex_for1, ex_for2, evI_enum, ev_lit, ev_con, ev_var, kVar_val, ev_bin, kBin1_val, kBin2_val, kD1_val, kD2a_val, kD2_val, ev_neg, negD, ev_prim, ev_prim2, ev_idx, kIdx_val, kNotX_val, kTruX_val, ev_slFrom, ev_slTo, ev_sorted, ev_listOf, ev_listRange, kTup_val, kLst_val, ev_tup, ev_lst, kNot_val, kBool_val, kTru_val, ev_not, evCmp_cons, evCmp_nil, kCmp1_val, kCmp2_nil, kCmp2_true, kCmp2_false, kCmp0_val, ev_cmp, evB_cmp, kCall_val, kDat_val, ev_call, kCons_val, kArgs_val, evArgs_nil, evArgs_cons, kToDat_dat, kEvs_val, evs_nil, evs_cons, ev_and, ev_or, evAnd_one, Out.noX_val, evOr_one, evAnd_cons, evOr_cons, kAnd_true, kAnd_false, kOr_true, kOr_false, kAnd_val, kOr_val, evAll_nil, evAny_nil, evIfs_nil, evAll_cons, evAny_cons, evIfs_cons, kAll_val, kAny_val, kIfs_val, evB_and, evB_or, evB_not, evB_var, evB_call, evB_prim, ev_isinst, evB_isinst, evB_idx, ev_comp, evI_of', kOf_lst, kOf_tup, kOf_str, evI_range1, evI_range2, kRange2_val, d1_dat, d2_dat, c2_dat, look_dat, bodyF, List.map_cons, List.map_nil, List.cons_append, List.nil_append, List.append_nil, List.replicate_succ, List.replicate_zero, List.getElem?_cons_zero, List.getElem?_cons_succ, List.set_cons_zero, List.set_cons_succ, List.length_cons, List.length_nil, Nat.sub_self, Nat.zero_add, Nat.reduceAdd, Nat.reduceSub, Nat.add_sub_cancel, if_true, if_false, Bool.false_eq_true, Int.reduceLT, Int.reduceLE, Int.reduceNeg, Int.reduceAdd, Int.reduceSub, Int.reduceMul, Int.reduceToNat, Nat.reduceLT, Nat.reduceLeDiff, and_self, and_true, true_and, decide_true, decide_false, Bool.not_true, Bool.not_false, Option.map_some, Option.bind_some, b_add, b_sub, b_mul1, b_mod, b_fdiv, cmp_eq_int, cmp_eq_bool, cmp_lt, cmp_le, cmp_gt, cmp_ge, Int.reduceGT, gt_iff_lt, ge_iff_le, isTy, kRange1_val _ _ hr, rangeD_map, h1]
theorem c_wish {n : Nat} {c : Int} {k m : Nat} {σ : Sto} (hk : k ≤ 10) (hm : m ≤ 10) : ∃ w : List Int, w.length ≤ k ∧ (∀ z ∈ w, z ≠ 0 ∧ z.natAbs ≤ m) ∧ callF sub tab.Δ (n + 1) 102 [.dat (.int c), .dat (.int k), .dat (.int m)] σ = .val (wD w) σ := by
  have hr : (k : Int) ≤ 1000000 ∧ -1000000 ≤ (k : Int) := by omega
  obtain ⟨ρ', σ', h1, c', w, y4, y5, hl, hw, rfl, rfl⟩ := kFor_all (sub := sub) (C := callF sub tab.Δ n) (x := 4) (body := b_l_wish_1) (em := fun i : Nat => Dat.int i) (l := List.range k)
    (ρ := [some (.dat (.int c)), some (.dat (.int k)), some (.dat (.int m)), some (.ref σ.length), none, none]) (σ := σ ++ [(true, [])])
    (fun pre ρ τ => ∃ (c' : Int) (w : List Int) (y4 y5 : Option Val), w.length ≤ pre.length ∧ (∀ z ∈ w, z ≠ 0 ∧ z.natAbs ≤ m) ∧ ρ = [some (.dat (.int c')), some (.dat (.int k)), some (.dat (.int m)), some (.ref σ.length), y4, y5] ∧ τ = σ ++ [(true, w.map .int)])
    (by simp; omega) (fun pre a post ρ τ he hP => by
      obtain ⟨c', w, y4, y5, hl, hw, rfl, rfl⟩ := hP
      have hlt := (pre_lt he).1
      by_cases hm0 : 0 < m
      · have g0 : (0 : Int) < m := by omega
        have f0 : (0 : Int) < (m : Int) ∧ (m : Int) < 18446744073709551616 := by omega
        have f1 : (0 : Int) < 2 * (m : Int) ∧ 2 * (m : Int) < 18446744073709551616 := by omega
        have m1 : bin2 .mod (.int c') (.int m) = some (.int (c' % m)) := b_mod _ _ f0
        have m2 : bin2 .fdiv (.int c') (.int m) = some (.int (c' / m)) := b_fdiv _ _ f0
        have m3 : bin2 .fdiv (.int c') (.int (2 * (m : Int))) = some (.int (c' / (2 * m))) := b_fdiv _ _ f1
        have hl' : (w.map Dat.int).length < 1000000 := by simp at hlt ⊢; omega
        have b1 := Int.emod_nonneg c' (show (m : Int) ≠ 0 by omega)
        have b2 := Int.emod_lt_of_pos c' g0
        have key : ∀ z : Int, (z = 1 + c' % m ∨ z = -(1 + c' % m)) → ∀ x ∈ w ++ [z], x ≠ 0 ∧ x.natAbs ≤ m := fun z hz x hx => by
          rcases List.mem_append.mp hx with h | h
          · exact hw x h
          · simp at h; subst h
            rcases hz with rfl | rfl <;> omega
        by_cases h2 : c' / m % 2 = 1
        · have e2 : (c' / m % 2 == 1) = true := by simpa using h2
          refine ⟨_, _, ?_, c' / (2 * m), w ++ [-(1 + c' % m)], some (.dat (.int a)), some (.dat (.int (-(1 + c' % m)))), by simp; omega, key _ (.inr rfl), rfl, rfl⟩
          simp only [b_l_wish_1, exs_nil, exs_cons, kSeq_next, kSeq_ret, ex_assign, kAsg_val, ex_newlst, kNew_val, ex_append, kApp0_ref, kApp_dat, ex_ret, kRet_dat, ex_ite, kIte_true, kIte_false, kIte_val, ex_for1, ex_for2, evI_enum, ev_lit, ev_con, ev_var, kVar_val, ev_bin, kBin1_val, kBin2_val, kD1_val, kD2a_val, kD2_val, ev_neg, negD, ev_prim, ev_prim2, ev_idx, kIdx_val, kNotX_val, kTruX_val, ev_slFrom, ev_slTo, ev_sorted, ev_listOf, ev_listRange, kTup_val, kLst_val, ev_tup, ev_lst, kNot_val, kBool_val, kTru_val, ev_not, evCmp_cons, evCmp_nil, kCmp1_val, kCmp2_nil, kCmp2_true, kCmp2_false, kCmp0_val, ev_cmp, evB_cmp, kCall_val, kDat_val, ev_call, kCons_val, kArgs_val, evArgs_nil, evArgs_cons, kToDat_dat, kEvs_val, evs_nil, evs_cons, ev_and, ev_or, evAnd_one, Out.noX_val, evOr_one, evAnd_cons, evOr_cons, kAnd_true, kAnd_false, kOr_true, kOr_false, kAnd_val, kOr_val, evAll_nil, evAny_nil, evIfs_nil, evAll_cons, evAny_cons, evIfs_cons, kAll_val, kAny_val, kIfs_val, evB_and, evB_or, evB_not, evB_var, evB_call, evB_prim, ev_isinst, evB_isinst, evB_idx, ev_comp, evI_of', kOf_lst, kOf_tup, kOf_str, evI_range1, evI_range2, kRange2_val, d1_dat, d2_dat, c2_dat, look_dat, bodyF, List.map_cons, List.map_nil, List.cons_append, List.nil_append, List.append_nil, List.replicate_succ, List.replicate_zero, List.getElem?_cons_zero, List.getElem?_cons_succ, List.set_cons_zero, List.set_cons_succ, List.length_cons, List.length_nil, Nat.sub_self, Nat.zero_add, Nat.reduceAdd, Nat.reduceSub, Nat.add_sub_cancel, if_true, if_false, Bool.false_eq_true, Int.reduceLT, Int.reduceLE, Int.reduceNeg, Int.reduceAdd, Int.reduceSub, Int.reduceMul, Int.reduceToNat, Nat.reduceLT, Nat.reduceLeDiff, and_self, and_true, true_and, decide_true, decide_false, Bool.not_true, Bool.not_false, Option.map_some, Option.bind_some, b_add, b_sub, b_mul1, b_mod, b_fdiv, cmp_eq_int, cmp_eq_bool, cmp_lt, cmp_le, cmp_gt, cmp_ge, Int.reduceGT, gt_iff_lt, ge_iff_le, isTy, g0, m1, m2, e2, m3, st_get, kApp2_some _ _ _ _ _ hl', st_set, List.map_append]
        · have e2 : (c' / m % 2 == 1) = false := by simpa using h2
          refine ⟨_, _, ?_, c' / (2 * m), w ++ [1 + c' % m], some (.dat (.int a)), some (.dat (.int (1 + c' % m))), by simp; omega, key _ (.inl rfl), rfl, rfl⟩
          simp only [b_l_wish_1, exs_nil, exs_cons, kSeq_next, kSeq_ret, ex_assign, kAsg_val, ex_newlst, kNew_val, ex_append, kApp0_ref, kApp_dat, ex_ret, kRet_dat, ex_ite, kIte_true, kIte_false, kIte_val, ex_for1, ex_for2, evI_enum, ev_lit, ev_con, ev_var, kVar_val, ev_bin, kBin1_val, kBin2_val, kD1_val, kD2a_val, kD2_val, ev_neg, negD, ev_prim, ev_prim2, ev_idx, kIdx_val, kNotX_val, kTruX_val, ev_slFrom, ev_slTo, ev_sorted, ev_listOf, ev_listRange, kTup_val, kLst_val, ev_tup, ev_lst, kNot_val, kBool_val, kTru_val, ev_not, evCmp_cons, evCmp_nil, kCmp1_val, kCmp2_nil, kCmp2_true, kCmp2_false, kCmp0_val, ev_cmp, evB_cmp, kCall_val, kDat_val, ev_call, kCons_val, kArgs_val, evArgs_nil, evArgs_cons, kToDat_dat, kEvs_val, evs_nil, evs_cons, ev_and, ev_or, evAnd_one, Out.noX_val, evOr_one, evAnd_cons, evOr_cons, kAnd_true, kAnd_false, kOr_true, kOr_false, kAnd_val, kOr_val, evAll_nil, evAny_nil, evIfs_nil, evAll_cons, evAny_cons, evIfs_cons, kAll_val, kAny_val, kIfs_val, evB_and, evB_or, evB_not, evB_var, evB_call, evB_prim, ev_isinst, evB_isinst, evB_idx, ev_comp, evI_of', kOf_lst, kOf_tup, kOf_str, evI_range1, evI_range2, kRange2_val, d1_dat, d2_dat, c2_dat, look_dat, bodyF, List.map_cons, List.map_nil, List.cons_append, List.nil_append, List.append_nil, List.replicate_succ, List.replicate_zero, List.getElem?_cons_zero, List.getElem?_cons_succ, List.set_cons_zero, List.set_cons_succ, List.length_cons, List.length_nil, Nat.sub_self, Nat.zero_add, Nat.reduceAdd, Nat.reduceSub, Nat.add_sub_cancel, if_true, if_false, Bool.false_eq_true, Int.reduceLT, Int.reduceLE, Int.reduceNeg, Int.reduceAdd, Int.reduceSub, Int.reduceMul, Int.reduceToNat, Nat.reduceLT, Nat.reduceLeDiff, and_self, and_true, true_and, decide_true, decide_false, Bool.not_true, Bool.not_false, Option.map_some, Option.bind_some, b_add, b_sub, b_mul1, b_mod, b_fdiv, cmp_eq_int, cmp_eq_bool, cmp_lt, cmp_le, cmp_gt, cmp_ge, Int.reduceGT, gt_iff_lt, ge_iff_le, isTy, g0, m1, m2, e2, m3, st_get, kApp2_some _ _ _ _ _ hl', st_set, List.map_append]
      · have g0 : ¬ ((0 : Int) < m) := by omega
        refine ⟨_, _, ?_, c', w, some (.dat (.int a)), y5, by simp; omega, hw, rfl, rfl⟩
        simp only [b_l_wish_1, exs_nil, exs_cons, kSeq_next, kSeq_ret, ex_assign, kAsg_val, ex_newlst, kNew_val, ex_append, kApp0_ref, kApp_dat, ex_ret, kRet_dat, ex_ite, kIte_true, kIte_false, kIte_val, ex_for1, ex_for2, evI_enum, ev_lit, ev_con, ev_var, kVar_val, ev_bin, kBin1_val, kBin2_val, kD1_val, kD2a_val, kD2_val, ev_neg, negD, ev_prim, ev_prim2, ev_idx, kIdx_val, kNotX_val, kTruX_val, ev_slFrom, ev_slTo, ev_sorted, ev_listOf, ev_listRange, kTup_val, kLst_val, ev_tup, ev_lst, kNot_val, kBool_val, kTru_val, ev_not, evCmp_cons, evCmp_nil, kCmp1_val, kCmp2_nil, kCmp2_true, kCmp2_false, kCmp0_val, ev_cmp, evB_cmp, kCall_val, kDat_val, ev_call, kCons_val, kArgs_val, evArgs_nil, evArgs_cons, kToDat_dat, kEvs_val, evs_nil, evs_cons, ev_and, ev_or, evAnd_one, Out.noX_val, evOr_one, evAnd_cons, evOr_cons, kAnd_true, kAnd_false, kOr_true, kOr_false, kAnd_val, kOr_val, evAll_nil, evAny_nil, evIfs_nil, evAll_cons, evAny_cons, evIfs_cons, kAll_val, kAny_val, kIfs_val, evB_and, evB_or, evB_not, evB_var, evB_call, evB_prim, ev_isinst, evB_isinst, evB_idx, ev_comp, evI_of', kOf_lst, kOf_tup, kOf_str, evI_range1, evI_range2, kRange2_val, d1_dat, d2_dat, c2_dat, look_dat, bodyF, List.map_cons, List.map_nil, List.cons_append, List.nil_append, List.append_nil, List.replicate_succ, List.replicate_zero, List.getElem?_cons_zero, List.getElem?_cons_succ, List.set_cons_zero, List.set_cons_succ, List.length_cons, List.length_nil, Nat.sub_self, Nat.zero_add, Nat.reduceAdd, Nat.reduceSub, Nat.add_sub_cancel, if_true, if_false, Bool.false_eq_true, Int.reduceLT, Int.reduceLE, Int.reduceNeg, Int.reduceAdd, Int.reduceSub, Int.reduceMul, Int.reduceToNat, Nat.reduceLT, Nat.reduceLeDiff, and_self, and_true, true_and, decide_true, decide_false, Bool.not_true, Bool.not_false, Option.map_some, Option.bind_some, b_add, b_sub, b_mul1, b_mod, b_fdiv, cmp_eq_int, cmp_eq_bool, cmp_lt, cmp_le, cmp_gt, cmp_ge, Int.reduceGT, gt_iff_lt, ge_iff_le, isTy, g0]) ⟨c, [], none, none, Nat.le_refl _, fun x hx => (nomatch hx), rfl, rfl⟩
  refine ⟨w, by simpa using hl, hw, call_ret (fn := fn_l_wish) (σ' := σ ++ [(false, w.map .int)]) rfl rfl ?_ (by simp)⟩
  simp only [fn_l_wish, exs_nil, exs_cons, kSeq_next, kSeq_ret, ex_assign, kAsg_val, ex_newlst, kNew_val, ex_append, kApp0_ref, kApp_dat, ex_ret, kRet_dat, ex_ite, kIte_true, kIte_false, kIte_val, ex_for1, ex_for2, evI_enum, ev_lit, ev_con, ev_var, kVar_val, ev_bin, kBin1_val, kBin2_val, kD1_val, kD2a_val, kD2_val, ev_neg, negD, ev_prim, ev_prim2, ev_idx, kIdx_val, kNotX_val, kTruX_val, ev_slFrom, ev_slTo, ev_sorted, ev_listOf, ev_listRange, kTup_val, kLst_val, ev_tup, ev_lst, kNot_val, kBool_val, kTru_val, ev_not, evCmp_cons, evCmp_nil, kCmp1_val, kCmp2_nil, kCmp2_true, kCmp2_false, kCmp0_val, ev_cmp, evB_cmp, kCall_val, kDat_val, ev_call, kCons_val, kArgs_val, evArgs_nil, evArgs_cons, kToDat_dat, kEvs_val, evs_nil, evs_cons, ev_and, ev_or, evAnd_one, Out.noX_val, evOr_one, evAnd_cons, evOr_cons, kAnd_true, kAnd_false, kOr_true, kOr_false, kAnd_val, kOr_val, evAll_nil, evAny_nil, evIfs_nil, evAll_cons, evAny_cons, evIfs_cons, kAll_val, kAny_val, kIfs_val, evB_and, evB_or, evB_not, evB_var, evB_call, evB_prim, ev_isinst, evB_isinst, evB_idx, ev_comp, evI_of', kOf_lst, kOf_tup, kOf_str, evI_range1, evI_range2, kRange2_val, d1_dat, d2_dat, c2_dat, look_dat, bodyF, List.map_cons, List.map_nil, List.cons_append, List.nil_append, List.append_nil, List.replicate_succ, List.replicate_zero, List.getElem?_cons_zero, List.getElem?_cons_succ, List.set_cons_zero, List.set_cons_succ, List.length_cons, List.length_nil, Nat.sub_self, Nat.zero_add, Nat.reduceAdd, Nat.reduceSub, Nat.add_sub_cancel, if_true, if_false, Bool.false_eq_true, Int.reduceLT, Int.reduceLE, Int.reduceNeg, Int.reduceAdd, Int.reduceSub, Int.reduceMul, Int.reduceToNat, Nat.reduceLT, Nat.reduceLeDiff, and_self, and_true, true_and, decide_true, decide_false, Bool.not_true, Bool.not_false, Option.map_some, Option.bind_some, b_add, b_sub, b_mul1, b_mod, b_fdiv, cmp_eq_int, cmp_eq_bool, cmp_lt, cmp_le, cmp_gt, cmp_ge, Int.reduceGT, gt_iff_lt, ge_iff_le, isTy, kRange1_val _ _ hr, rangeD_map, h1]
  rw [kRet_ref _ _ _ true _ (st_get _ _), st_set, kSeq_ret]; rfl

/-! faults -/
theorem d1_look {f : Dat → Option Dat} {v : Val} {σ : Sto} {a d : Dat} (h : look σ v = some a) (hf : f a = some d) : d1 f v σ = .val (.dat d) σ := by unfold d1; rw [h, Option.bind_some, hf]
theorem d2_look {f : Dat → Dat → Option Dat} {v : Val} {σ : Sto} {a b d : Dat} (h : look σ v = some a) (hf : f a b = some d) : d2 f v (.dat b) σ = .val (.dat d) σ := by unfold d2; rw [h]; show (match (f a b) with | some d => _ | none => _) = _; rw [hf]
theorem d2_lookR {f : Dat → Dat → Option Dat} {v : Val} {σ : Sto} {a b d : Dat} (h : look σ v = some b) (hf : f a b = some d) : d2 f (.dat a) v σ = .val (.dat d) σ := by
  unfold d2; rw [h]; show (match (f a b) with | some d => _ | none => _) = _; rw [hf]
theorem add_lst (a b : List Dat) (h : a.length + b.length ≤ 1000000) : bin2 .add (.lst a) (.lst b) = some (.lst (a ++ b)) := by simp [bin2, addD, h]
theorem to_lst (l : List Dat) (a : Nat) (h : l.length ≤ 900) (ha : a ≤ l.length) : slTo2 (.lst l) (.int a) = some (.lst (l.take a)) := by
  have h1 : (0 : Int) ≤ a ∧ (a : Int) ≤ 1000000 ∧ l.length ≤ 1000000 := by omega
  simp only [slTo2, h1, and_self, if_true, Int.toNat_natCast]
theorem from_lst (l : List Dat) (a : Nat) (h : l.length ≤ 900) (ha : a ≤ l.length) : slFrom2 (.lst l) (.int a) = some (.lst (l.drop a)) := by
  have h1 : (0 : Int) ≤ a ∧ (a : Int) ≤ 1000000 ∧ l.length ≤ 1000000 := by omega
  simp only [slFrom2, h1, and_self, if_true, Int.toNat_natCast]
theorem place_of (c : Int) (k : Nat) (h : k ≤ 900) : ∃ a : Nat, a ≤ k ∧ bin2 .mod (.int c) (.int ((k : Int) + 1)) = some (.int a) := by
  have f : (0 : Int) < (k : Int) + 1 ∧ (k : Int) + 1 < 18446744073709551616 := by omega
  have b1 := Int.emod_nonneg c (show (k : Int) + 1 ≠ 0 by omega)
  have b2 := Int.emod_lt_of_pos c f.1
  refine ⟨(c % ((k : Int) + 1)).toNat, by omega, ?_⟩
  rw [b_mod _ _ f, Int.toNat_of_nonneg b1]
theorem c_put {n : Nat} {v : Val} {l : List Dat} {c : Int} {d : Dat} {σ : Sto} (hv : look σ v = some (.lst l)) (hl : l.length ≤ 900) : ∃ a, a ≤ l.length ∧ callF sub tab.Δ (n + 1) 103 [v, .dat (.int c), .dat d] σ = .val (.lst (l.take a ++ [d] ++ l.drop a)) σ := by
  obtain ⟨a, ha, hm⟩ := place_of c l.length hl
  refine ⟨a, ha, call_ret (fn := fn_l_put) (σ' := σ) rfl rfl ?_ (by simp)⟩
  have h1 : d1 (prim1 .len) v σ = .val (.dat (.int l.length)) σ := d1_look hv (p_len_lst l (by omega))
  have h2 : d2 slTo2 v (.dat (.int a)) σ = .val (.dat (.lst (l.take a))) σ := d2_look hv (to_lst l a hl ha)
  have h3 : d2 slFrom2 v (.dat (.int a)) σ = .val (.dat (.lst (l.drop a))) σ := d2_look hv (from_lst l a hl ha)
  have e1 := add_lst (l.take a) [d] (by simp; omega)
  have e2 := add_lst (l.take a ++ [d]) (l.drop a) (by simp; omega)
  simp only [fn_l_put, exs_nil, exs_cons, kSeq_next, kSeq_ret, ex_assign, kAsg_val, ex_newlst, kNew_val, ex_append, kApp0_ref, kApp_dat, ex_ret, kRet_dat, ex_ite, kIte_true, kIte_false, kIte_val, ex_for1, ex_for2, evI_enum, ev_lit, ev_con, ev_var, kVar_val, ev_bin, kBin1_val, kBin2_val, kD1_val, kD2a_val, kD2_val, ev_neg, negD, ev_prim, ev_prim2, ev_idx, kIdx_val, kNotX_val, kTruX_val, ev_slFrom, ev_slTo, ev_sorted, ev_listOf, ev_listRange, kTup_val, kLst_val, ev_tup, ev_lst, kNot_val, kBool_val, kTru_val, ev_not, evCmp_cons, evCmp_nil, kCmp1_val, kCmp2_nil, kCmp2_true, kCmp2_false, kCmp0_val, ev_cmp, evB_cmp, kCall_val, kDat_val, ev_call, kCons_val, kArgs_val, evArgs_nil, evArgs_cons, kToDat_dat, kEvs_val, evs_nil, evs_cons, ev_and, ev_or, evAnd_one, Out.noX_val, evOr_one, evAnd_cons, evOr_cons, kAnd_true, kAnd_false, kOr_true, kOr_false, kAnd_val, kOr_val, evAll_nil, evAny_nil, evIfs_nil, evAll_cons, evAny_cons, evIfs_cons, kAll_val, kAny_val, kIfs_val, evB_and, evB_or, evB_not, evB_var, evB_call, evB_prim, ev_isinst, evB_isinst, evB_idx, ev_comp, evI_of', kOf_lst, kOf_tup, kOf_str, evI_range1, evI_range2, kRange2_val, d1_dat, d2_dat, c2_dat, look_dat, bodyF, List.map_cons, List.map_nil, List.cons_append, List.nil_append, List.append_nil, List.replicate_succ, List.replicate_zero, List.getElem?_cons_zero, List.getElem?_cons_succ, List.set_cons_zero, List.set_cons_succ, List.length_cons, List.length_nil, Nat.sub_self, Nat.zero_add, Nat.reduceAdd, Nat.reduceSub, Nat.add_sub_cancel, if_true, if_false, Bool.false_eq_true, Int.reduceLT, Int.reduceLE, Int.reduceNeg, Int.reduceAdd, Int.reduceSub, Int.reduceMul, Int.reduceToNat, Nat.reduceLT, Nat.reduceLeDiff, and_self, and_true, true_and, decide_true, decide_false, Bool.not_true, Bool.not_false, Option.map_some, Option.bind_some, b_add, b_sub, b_mul1, b_mod, b_fdiv, cmp_eq_int, cmp_eq_bool, cmp_lt, cmp_le, cmp_gt, cmp_ge, Int.reduceGT, gt_iff_lt, ge_iff_le, isTy, h1, hm, h2, h3, e1, e2]
theorem c_stranger {n : Nat} {c : Int} {m : Nat} {σ : Sto} (hm : m ≤ 10) : ∃ z : Int, ¬ (z ≠ 0 ∧ z.natAbs ≤ m) ∧ callF sub tab.Δ (n + 1) 104 [.dat (.int c), .dat (.int m)] σ = .val (.int z) σ := by
  have hp : bin2 .pow (.int 10) (.int 30) = some (.int 1000000000000000000000000000000) := rfl
  have hi : ∃ z : Int, ¬ (z ≠ 0 ∧ z.natAbs ≤ m) ∧ idx2 (.lst [.int ((m : Int) + 1), .int ((m : Int) + 2), .int 1000000000000000000000000000000, .int 0]) (.int (c % 4)) = some (.int z) := by
    have h4 : c % 4 = 0 ∨ c % 4 = 1 ∨ c % 4 = 2 ∨ c % 4 = 3 := by omega
    rcases h4 with h | h | h | h <;> rw [h]
    · exact ⟨(m : Int) + 1, by omega, rfl⟩
    · exact ⟨(m : Int) + 2, by omega, rfl⟩
    · exact ⟨1000000000000000000000000000000, by omega, rfl⟩
    · exact ⟨0, by omega, rfl⟩
  obtain ⟨z, hz, hi⟩ := hi
  by_cases h2 : c / 4 % 2 = 1
  · have e2 : (c / 4 % 2 == 1) = true := by simpa using h2
    refine ⟨-z, by omega, call_ret (fn := fn_l_stranger) (σ' := σ) rfl rfl ?_ (by simp)⟩
    simp only [fn_l_stranger, exs_nil, exs_cons, kSeq_next, kSeq_ret, ex_assign, kAsg_val, ex_newlst, kNew_val, ex_append, kApp0_ref, kApp_dat, ex_ret, kRet_dat, ex_ite, kIte_true, kIte_false, kIte_val, ex_for1, ex_for2, evI_enum, ev_lit, ev_con, ev_var, kVar_val, ev_bin, kBin1_val, kBin2_val, kD1_val, kD2a_val, kD2_val, ev_neg, negD, ev_prim, ev_prim2, ev_idx, kIdx_val, kNotX_val, kTruX_val, ev_slFrom, ev_slTo, ev_sorted, ev_listOf, ev_listRange, kTup_val, kLst_val, ev_tup, ev_lst, kNot_val, kBool_val, kTru_val, ev_not, evCmp_cons, evCmp_nil, kCmp1_val, kCmp2_nil, kCmp2_true, kCmp2_false, kCmp0_val, ev_cmp, evB_cmp, kCall_val, kDat_val, ev_call, kCons_val, kArgs_val, evArgs_nil, evArgs_cons, kToDat_dat, kEvs_val, evs_nil, evs_cons, ev_and, ev_or, evAnd_one, Out.noX_val, evOr_one, evAnd_cons, evOr_cons, kAnd_true, kAnd_false, kOr_true, kOr_false, kAnd_val, kOr_val, evAll_nil, evAny_nil, evIfs_nil, evAll_cons, evAny_cons, evIfs_cons, kAll_val, kAny_val, kIfs_val, evB_and, evB_or, evB_not, evB_var, evB_call, evB_prim, ev_isinst, evB_isinst, evB_idx, ev_comp, evI_of', kOf_lst, kOf_tup, kOf_str, evI_range1, evI_range2, kRange2_val, d1_dat, d2_dat, c2_dat, look_dat, bodyF, List.map_cons, List.map_nil, List.cons_append, List.nil_append, List.append_nil, List.replicate_succ, List.replicate_zero, List.getElem?_cons_zero, List.getElem?_cons_succ, List.set_cons_zero, List.set_cons_succ, List.length_cons, List.length_nil, Nat.sub_self, Nat.zero_add, Nat.reduceAdd, Nat.reduceSub, Nat.add_sub_cancel, if_true, if_false, Bool.false_eq_true, Int.reduceLT, Int.reduceLE, Int.reduceNeg, Int.reduceAdd, Int.reduceSub, Int.reduceMul, Int.reduceToNat, Nat.reduceLT, Nat.reduceLeDiff, and_self, and_true, true_and, decide_true, decide_false, Bool.not_true, Bool.not_false, Option.map_some, Option.bind_some, b_add, b_sub, b_mul1, b_mod, b_fdiv, cmp_eq_int, cmp_eq_bool, cmp_lt, cmp_le, cmp_gt, cmp_ge, Int.reduceGT, gt_iff_lt, ge_iff_le, isTy, hp, hi, e2]
  · have e2 : (c / 4 % 2 == 1) = false := by simpa using h2
    refine ⟨z, hz, call_ret (fn := fn_l_stranger) (σ' := σ) rfl rfl ?_ (by simp)⟩
    simp only [fn_l_stranger, exs_nil, exs_cons, kSeq_next, kSeq_ret, ex_assign, kAsg_val, ex_newlst, kNew_val, ex_append, kApp0_ref, kApp_dat, ex_ret, kRet_dat, ex_ite, kIte_true, kIte_false, kIte_val, ex_for1, ex_for2, evI_enum, ev_lit, ev_con, ev_var, kVar_val, ev_bin, kBin1_val, kBin2_val, kD1_val, kD2a_val, kD2_val, ev_neg, negD, ev_prim, ev_prim2, ev_idx, kIdx_val, kNotX_val, kTruX_val, ev_slFrom, ev_slTo, ev_sorted, ev_listOf, ev_listRange, kTup_val, kLst_val, ev_tup, ev_lst, kNot_val, kBool_val, kTru_val, ev_not, evCmp_cons, evCmp_nil, kCmp1_val, kCmp2_nil, kCmp2_true, kCmp2_false, kCmp0_val, ev_cmp, evB_cmp, kCall_val, kDat_val, ev_call, kCons_val, kArgs_val, evArgs_nil, evArgs_cons, kToDat_dat, kEvs_val, evs_nil, evs_cons, ev_and, ev_or, evAnd_one, Out.noX_val, evOr_one, evAnd_cons, evOr_cons, kAnd_true, kAnd_false, kOr_true, kOr_false, kAnd_val, kOr_val, evAll_nil, evAny_nil, evIfs_nil, evAll_cons, evAny_cons, evIfs_cons, kAll_val, kAny_val, kIfs_val, evB_and, evB_or, evB_not, evB_var, evB_call, evB_prim, ev_isinst, evB_isinst, evB_idx, ev_comp, evI_of', kOf_lst, kOf_tup, kOf_str, evI_range1, evI_range2, kRange2_val, d1_dat, d2_dat, c2_dat, look_dat, bodyF, List.map_cons, List.map_nil, List.cons_append, List.nil_append, List.append_nil, List.replicate_succ, List.replicate_zero, List.getElem?_cons_zero, List.getElem?_cons_succ, List.set_cons_zero, List.set_cons_succ, List.length_cons, List.length_nil, Nat.sub_self, Nat.zero_add, Nat.reduceAdd, Nat.reduceSub, Nat.add_sub_cancel, if_true, if_false, Bool.false_eq_true, Int.reduceLT, Int.reduceLE, Int.reduceNeg, Int.reduceAdd, Int.reduceSub, Int.reduceMul, Int.reduceToNat, Nat.reduceLT, Nat.reduceLeDiff, and_self, and_true, true_and, decide_true, decide_false, Bool.not_true, Bool.not_false, Option.map_some, Option.bind_some, b_add, b_sub, b_mul1, b_mod, b_fdiv, cmp_eq_int, cmp_eq_bool, cmp_lt, cmp_le, cmp_gt, cmp_ge, Int.reduceGT, gt_iff_lt, ge_iff_le, isTy, hp, hi, e2]

theorem le9 {a b : Nat} (h : a ≤ b) (hb : b ≤ 900 := by decide) : a ≤ 900 := Nat.le_trans h hb
theorem le1 {a b : Nat} (h : a ≤ b) (hb : b ≤ 10 := by decide) : a ≤ 10 := Nat.le_trans h hb
/-- a game as the law builds it, before a fault is put in -/
structure Base (S : List Nat) (ws : List (List Int)) : Prop where
  len : S.length ≤ 4
  ok : ∀ x ∈ S, x = 102 ∨ x = 111
  many : ws.length ≤ 3
  good : ∀ w ∈ ws, w.length ≤ 3 ∧ ∀ z ∈ w, z ≠ 0 ∧ z.natAbs ≤ S.length
theorem Base.ch {S : List Nat} {ws : List (List Int)} (b : Base S ws) : ∀ x ∈ S, x < 1000 := fun x hx => by rcases b.ok x hx with h | h <;> omega
theorem Base.small {S : List Nat} {ws : List (List Int)} (b : Base S ws) : Small S ws := ⟨le9 b.len, le9 b.many, fun w hw => le9 (b.good w hw).1, b.ch⟩
theorem Base.goodG {S : List Nat} {ws : List (List Int)} (b : Base S ws) : goodG S ws := ⟨le1 b.len, Nat.le_trans b.many (by decide), b.ok, fun w hw => ⟨le1 (b.good w hw).1, (b.good w hw).2⟩⟩
theorem skip0 {C : Oracle} {w : Int} {x1 x2 x3 x4 x5 x6 x7 : Option Val} {σ : Sto} (h : (w == 1) = false) : exs sub C t_l_faulty_0 [some (.dat (.int w)), x1, x2, x3, x4, x5, x6, x7] σ = exs sub C t_l_faulty_1 [some (.dat (.int w)), x1, x2, x3, x4, x5, x6, x7] σ := by
  simp only [t_l_faulty_0, exs_nil, exs_cons, kSeq_next, kSeq_ret, ex_assign, kAsg_val, ex_newlst, kNew_val, ex_append, kApp0_ref, kApp_dat, ex_ret, kRet_dat, ex_ite, kIte_true, kIte_false, kIte_val, ex_for1, ex_for2, evI_enum, ev_lit, ev_con, ev_var, kVar_val, ev_bin, kBin1_val, kBin2_val, kD1_val, kD2a_val, kD2_val, ev_neg, negD, ev_prim, ev_prim2, ev_idx, kIdx_val, kNotX_val, kTruX_val, ev_slFrom, ev_slTo, ev_sorted, ev_listOf, ev_listRange, kTup_val, kLst_val, ev_tup, ev_lst, kNot_val, kBool_val, kTru_val, ev_not, evCmp_cons, evCmp_nil, kCmp1_val, kCmp2_nil, kCmp2_true, kCmp2_false, kCmp0_val, ev_cmp, evB_cmp, kCall_val, kDat_val, ev_call, kCons_val, kArgs_val, evArgs_nil, evArgs_cons, kToDat_dat, kEvs_val, evs_nil, evs_cons, ev_and, ev_or, evAnd_one, Out.noX_val, evOr_one, evAnd_cons, evOr_cons, kAnd_true, kAnd_false, kOr_true, kOr_false, kAnd_val, kOr_val, evAll_nil, evAny_nil, evIfs_nil, evAll_cons, evAny_cons, evIfs_cons, kAll_val, kAny_val, kIfs_val, evB_and, evB_or, evB_not, evB_var, evB_call, evB_prim, ev_isinst, evB_isinst, evB_idx, ev_comp, evI_of', kOf_lst, kOf_tup, kOf_str, evI_range1, evI_range2, kRange2_val, d1_dat, d2_dat, c2_dat, look_dat, bodyF, List.map_cons, List.map_nil, List.cons_append, List.nil_append, List.append_nil, List.replicate_succ, List.replicate_zero, List.getElem?_cons_zero, List.getElem?_cons_succ, List.set_cons_zero, List.set_cons_succ, List.length_cons, List.length_nil, Nat.sub_self, Nat.zero_add, Nat.reduceAdd, Nat.reduceSub, Nat.add_sub_cancel, if_true, if_false, Bool.false_eq_true, Int.reduceLT, Int.reduceLE, Int.reduceNeg, Int.reduceAdd, Int.reduceSub, Int.reduceMul, Int.reduceToNat, Nat.reduceLT, Nat.reduceLeDiff, and_self, and_true, true_and, decide_true, decide_false, Bool.not_true, Bool.not_false, Option.map_some, Option.bind_some, b_add, b_sub, b_mul1, b_mod, b_fdiv, cmp_eq_int, cmp_eq_bool, cmp_lt, cmp_le, cmp_gt, cmp_ge, Int.reduceGT, gt_iff_lt, ge_iff_le, isTy, h]
theorem skip1 {C : Oracle} {w : Int} {x1 x2 x3 x4 x5 x6 x7 : Option Val} {σ : Sto} (h : (w == 2) = false) : exs sub C t_l_faulty_1 [some (.dat (.int w)), x1, x2, x3, x4, x5, x6, x7] σ = exs sub C t_l_faulty_2 [some (.dat (.int w)), x1, x2, x3, x4, x5, x6, x7] σ := by
  simp only [t_l_faulty_1, exs_nil, exs_cons, kSeq_next, kSeq_ret, ex_assign, kAsg_val, ex_newlst, kNew_val, ex_append, kApp0_ref, kApp_dat, ex_ret, kRet_dat, ex_ite, kIte_true, kIte_false, kIte_val, ex_for1, ex_for2, evI_enum, ev_lit, ev_con, ev_var, kVar_val, ev_bin, kBin1_val, kBin2_val, kD1_val, kD2a_val, kD2_val, ev_neg, negD, ev_prim, ev_prim2, ev_idx, kIdx_val, kNotX_val, kTruX_val, ev_slFrom, ev_slTo, ev_sorted, ev_listOf, ev_listRange, kTup_val, kLst_val, ev_tup, ev_lst, kNot_val, kBool_val, kTru_val, ev_not, evCmp_cons, evCmp_nil, kCmp1_val, kCmp2_nil, kCmp2_true, kCmp2_false, kCmp0_val, ev_cmp, evB_cmp, kCall_val, kDat_val, ev_call, kCons_val, kArgs_val, evArgs_nil, evArgs_cons, kToDat_dat, kEvs_val, evs_nil, evs_cons, ev_and, ev_or, evAnd_one, Out.noX_val, evOr_one, evAnd_cons, evOr_cons, kAnd_true, kAnd_false, kOr_true, kOr_false, kAnd_val, kOr_val, evAll_nil, evAny_nil, evIfs_nil, evAll_cons, evAny_cons, evIfs_cons, kAll_val, kAny_val, kIfs_val, evB_and, evB_or, evB_not, evB_var, evB_call, evB_prim, ev_isinst, evB_isinst, evB_idx, ev_comp, evI_of', kOf_lst, kOf_tup, kOf_str, evI_range1, evI_range2, kRange2_val, d1_dat, d2_dat, c2_dat, look_dat, bodyF, List.map_cons, List.map_nil, List.cons_append, List.nil_append, List.append_nil, List.replicate_succ, List.replicate_zero, List.getElem?_cons_zero, List.getElem?_cons_succ, List.set_cons_zero, List.set_cons_succ, List.length_cons, List.length_nil, Nat.sub_self, Nat.zero_add, Nat.reduceAdd, Nat.reduceSub, Nat.add_sub_cancel, if_true, if_false, Bool.false_eq_true, Int.reduceLT, Int.reduceLE, Int.reduceNeg, Int.reduceAdd, Int.reduceSub, Int.reduceMul, Int.reduceToNat, Nat.reduceLT, Nat.reduceLeDiff, and_self, and_true, true_and, decide_true, decide_false, Bool.not_true, Bool.not_false, Option.map_some, Option.bind_some, b_add, b_sub, b_mul1, b_mod, b_fdiv, cmp_eq_int, cmp_eq_bool, cmp_lt, cmp_le, cmp_gt, cmp_ge, Int.reduceGT, gt_iff_lt, ge_iff_le, isTy, h]
theorem skip2 {C : Oracle} {w : Int} {x1 x2 x3 x4 x5 x6 x7 : Option Val} {σ : Sto} (h : (w == 3) = false) : exs sub C t_l_faulty_2 [some (.dat (.int w)), x1, x2, x3, x4, x5, x6, x7] σ = exs sub C t_l_faulty_3 [some (.dat (.int w)), x1, x2, x3, x4, x5, x6, x7] σ := by
  simp only [t_l_faulty_2, exs_nil, exs_cons, kSeq_next, kSeq_ret, ex_assign, kAsg_val, ex_newlst, kNew_val, ex_append, kApp0_ref, kApp_dat, ex_ret, kRet_dat, ex_ite, kIte_true, kIte_false, kIte_val, ex_for1, ex_for2, evI_enum, ev_lit, ev_con, ev_var, kVar_val, ev_bin, kBin1_val, kBin2_val, kD1_val, kD2a_val, kD2_val, ev_neg, negD, ev_prim, ev_prim2, ev_idx, kIdx_val, kNotX_val, kTruX_val, ev_slFrom, ev_slTo, ev_sorted, ev_listOf, ev_listRange, kTup_val, kLst_val, ev_tup, ev_lst, kNot_val, kBool_val, kTru_val, ev_not, evCmp_cons, evCmp_nil, kCmp1_val, kCmp2_nil, kCmp2_true, kCmp2_false, kCmp0_val, ev_cmp, evB_cmp, kCall_val, kDat_val, ev_call, kCons_val, kArgs_val, evArgs_nil, evArgs_cons, kToDat_dat, kEvs_val, evs_nil, evs_cons, ev_and, ev_or, evAnd_one, Out.noX_val, evOr_one, evAnd_cons, evOr_cons, kAnd_true, kAnd_false, kOr_true, kOr_false, kAnd_val, kOr_val, evAll_nil, evAny_nil, evIfs_nil, evAll_cons, evAny_cons, evIfs_cons, kAll_val, kAny_val, kIfs_val, evB_and, evB_or, evB_not, evB_var, evB_call, evB_prim, ev_isinst, evB_isinst, evB_idx, ev_comp, evI_of', kOf_lst, kOf_tup, kOf_str, evI_range1, evI_range2, kRange2_val, d1_dat, d2_dat, c2_dat, look_dat, bodyF, List.map_cons, List.map_nil, List.cons_append, List.nil_append, List.append_nil, List.replicate_succ, List.replicate_zero, List.getElem?_cons_zero, List.getElem?_cons_succ, List.set_cons_zero, List.set_cons_succ, List.length_cons, List.length_nil, Nat.sub_self, Nat.zero_add, Nat.reduceAdd, Nat.reduceSub, Nat.add_sub_cancel, if_true, if_false, Bool.false_eq_true, Int.reduceLT, Int.reduceLE, Int.reduceNeg, Int.reduceAdd, Int.reduceSub, Int.reduceMul, Int.reduceToNat, Nat.reduceLT, Nat.reduceLeDiff, and_self, and_true, true_and, decide_true, decide_false, Bool.not_true, Bool.not_false, Option.map_some, Option.bind_some, b_add, b_sub, b_mul1, b_mod, b_fdiv, cmp_eq_int, cmp_eq_bool, cmp_lt, cmp_le, cmp_gt, cmp_ge, Int.reduceGT, gt_iff_lt, ge_iff_le, isTy, h]
theorem skip3 {C : Oracle} {w : Int} {x1 x2 x3 x4 x5 x6 x7 : Option Val} {σ : Sto} (h : (w == 4) = false) : exs sub C t_l_faulty_3 [some (.dat (.int w)), x1, x2, x3, x4, x5, x6, x7] σ = exs sub C t_l_faulty_4 [some (.dat (.int w)), x1, x2, x3, x4, x5, x6, x7] σ := by
  simp only [t_l_faulty_3, exs_nil, exs_cons, kSeq_next, kSeq_ret, ex_assign, kAsg_val, ex_newlst, kNew_val, ex_append, kApp0_ref, kApp_dat, ex_ret, kRet_dat, ex_ite, kIte_true, kIte_false, kIte_val, ex_for1, ex_for2, evI_enum, ev_lit, ev_con, ev_var, kVar_val, ev_bin, kBin1_val, kBin2_val, kD1_val, kD2a_val, kD2_val, ev_neg, negD, ev_prim, ev_prim2, ev_idx, kIdx_val, kNotX_val, kTruX_val, ev_slFrom, ev_slTo, ev_sorted, ev_listOf, ev_listRange, kTup_val, kLst_val, ev_tup, ev_lst, kNot_val, kBool_val, kTru_val, ev_not, evCmp_cons, evCmp_nil, kCmp1_val, kCmp2_nil, kCmp2_true, kCmp2_false, kCmp0_val, ev_cmp, evB_cmp, kCall_val, kDat_val, ev_call, kCons_val, kArgs_val, evArgs_nil, evArgs_cons, kToDat_dat, kEvs_val, evs_nil, evs_cons, ev_and, ev_or, evAnd_one, Out.noX_val, evOr_one, evAnd_cons, evOr_cons, kAnd_true, kAnd_false, kOr_true, kOr_false, kAnd_val, kOr_val, evAll_nil, evAny_nil, evIfs_nil, evAll_cons, evAny_cons, evIfs_cons, kAll_val, kAny_val, kIfs_val, evB_and, evB_or, evB_not, evB_var, evB_call, evB_prim, ev_isinst, evB_isinst, evB_idx, ev_comp, evI_of', kOf_lst, kOf_tup, kOf_str, evI_range1, evI_range2, kRange2_val, d1_dat, d2_dat, c2_dat, look_dat, bodyF, List.map_cons, List.map_nil, List.cons_append, List.nil_append, List.append_nil, List.replicate_succ, List.replicate_zero, List.getElem?_cons_zero, List.getElem?_cons_succ, List.set_cons_zero, List.set_cons_succ, List.length_cons, List.length_nil, Nat.sub_self, Nat.zero_add, Nat.reduceAdd, Nat.reduceSub, Nat.add_sub_cancel, if_true, if_false, Bool.false_eq_true, Int.reduceLT, Int.reduceLE, Int.reduceNeg, Int.reduceAdd, Int.reduceSub, Int.reduceMul, Int.reduceToNat, Nat.reduceLT, Nat.reduceLeDiff, and_self, and_true, true_and, decide_true, decide_false, Bool.not_true, Bool.not_false, Option.map_some, Option.bind_some, b_add, b_sub, b_mul1, b_mod, b_fdiv, cmp_eq_int, cmp_eq_bool, cmp_lt, cmp_le, cmp_gt, cmp_ge, Int.reduceGT, gt_iff_lt, ge_iff_le, isTy, h]
theorem skip4 {C : Oracle} {w : Int} {x1 x2 x3 x4 x5 x6 x7 : Option Val} {σ : Sto} (h : (w == 5) = false) : exs sub C t_l_faulty_4 [some (.dat (.int w)), x1, x2, x3, x4, x5, x6, x7] σ = exs sub C t_l_faulty_5 [some (.dat (.int w)), x1, x2, x3, x4, x5, x6, x7] σ := by
  simp only [t_l_faulty_4, exs_nil, exs_cons, kSeq_next, kSeq_ret, ex_assign, kAsg_val, ex_newlst, kNew_val, ex_append, kApp0_ref, kApp_dat, ex_ret, kRet_dat, ex_ite, kIte_true, kIte_false, kIte_val, ex_for1, ex_for2, evI_enum, ev_lit, ev_con, ev_var, kVar_val, ev_bin, kBin1_val, kBin2_val, kD1_val, kD2a_val, kD2_val, ev_neg, negD, ev_prim, ev_prim2, ev_idx, kIdx_val, kNotX_val, kTruX_val, ev_slFrom, ev_slTo, ev_sorted, ev_listOf, ev_listRange, kTup_val, kLst_val, ev_tup, ev_lst, kNot_val, kBool_val, kTru_val, ev_not, evCmp_cons, evCmp_nil, kCmp1_val, kCmp2_nil, kCmp2_true, kCmp2_false, kCmp0_val, ev_cmp, evB_cmp, kCall_val, kDat_val, ev_call, kCons_val, kArgs_val, evArgs_nil, evArgs_cons, kToDat_dat, kEvs_val, evs_nil, evs_cons, ev_and, ev_or, evAnd_one, Out.noX_val, evOr_one, evAnd_cons, evOr_cons, kAnd_true, kAnd_false, kOr_true, kOr_false, kAnd_val, kOr_val, evAll_nil, evAny_nil, evIfs_nil, evAll_cons, evAny_cons, evIfs_cons, kAll_val, kAny_val, kIfs_val, evB_and, evB_or, evB_not, evB_var, evB_call, evB_prim, ev_isinst, evB_isinst, evB_idx, ev_comp, evI_of', kOf_lst, kOf_tup, kOf_str, evI_range1, evI_range2, kRange2_val, d1_dat, d2_dat, c2_dat, look_dat, bodyF, List.map_cons, List.map_nil, List.cons_append, List.nil_append, List.append_nil, List.replicate_succ, List.replicate_zero, List.getElem?_cons_zero, List.getElem?_cons_succ, List.set_cons_zero, List.set_cons_succ, List.length_cons, List.length_nil, Nat.sub_self, Nat.zero_add, Nat.reduceAdd, Nat.reduceSub, Nat.add_sub_cancel, if_true, if_false, Bool.false_eq_true, Int.reduceLT, Int.reduceLE, Int.reduceNeg, Int.reduceAdd, Int.reduceSub, Int.reduceMul, Int.reduceToNat, Nat.reduceLT, Nat.reduceLeDiff, and_self, and_true, true_and, decide_true, decide_false, Bool.not_true, Bool.not_false, Option.map_some, Option.bind_some, b_add, b_sub, b_mul1, b_mod, b_fdiv, cmp_eq_int, cmp_eq_bool, cmp_lt, cmp_le, cmp_gt, cmp_ge, Int.reduceGT, gt_iff_lt, ge_iff_le, isTy, h]
theorem skip5 {C : Oracle} {w : Int} {x1 x2 x3 x4 x5 x6 x7 : Option Val} {σ : Sto} (h : (w == 6) = false) : exs sub C t_l_faulty_5 [some (.dat (.int w)), x1, x2, x3, x4, x5, x6, x7] σ = exs sub C t_l_faulty_6 [some (.dat (.int w)), x1, x2, x3, x4, x5, x6, x7] σ := by
  simp only [t_l_faulty_5, exs_nil, exs_cons, kSeq_next, kSeq_ret, ex_assign, kAsg_val, ex_newlst, kNew_val, ex_append, kApp0_ref, kApp_dat, ex_ret, kRet_dat, ex_ite, kIte_true, kIte_false, kIte_val, ex_for1, ex_for2, evI_enum, ev_lit, ev_con, ev_var, kVar_val, ev_bin, kBin1_val, kBin2_val, kD1_val, kD2a_val, kD2_val, ev_neg, negD, ev_prim, ev_prim2, ev_idx, kIdx_val, kNotX_val, kTruX_val, ev_slFrom, ev_slTo, ev_sorted, ev_listOf, ev_listRange, kTup_val, kLst_val, ev_tup, ev_lst, kNot_val, kBool_val, kTru_val, ev_not, evCmp_cons, evCmp_nil, kCmp1_val, kCmp2_nil, kCmp2_true, kCmp2_false, kCmp0_val, ev_cmp, evB_cmp, kCall_val, kDat_val, ev_call, kCons_val, kArgs_val, evArgs_nil, evArgs_cons, kToDat_dat, kEvs_val, evs_nil, evs_cons, ev_and, ev_or, evAnd_one, Out.noX_val, evOr_one, evAnd_cons, evOr_cons, kAnd_true, kAnd_false, kOr_true, kOr_false, kAnd_val, kOr_val, evAll_nil, evAny_nil, evIfs_nil, evAll_cons, evAny_cons, evIfs_cons, kAll_val, kAny_val, kIfs_val, evB_and, evB_or, evB_not, evB_var, evB_call, evB_prim, ev_isinst, evB_isinst, evB_idx, ev_comp, evI_of', kOf_lst, kOf_tup, kOf_str, evI_range1, evI_range2, kRange2_val, d1_dat, d2_dat, c2_dat, look_dat, bodyF, List.map_cons, List.map_nil, List.cons_append, List.nil_append, List.append_nil, List.replicate_succ, List.replicate_zero, List.getElem?_cons_zero, List.getElem?_cons_succ, List.set_cons_zero, List.set_cons_succ, List.length_cons, List.length_nil, Nat.sub_self, Nat.zero_add, Nat.reduceAdd, Nat.reduceSub, Nat.add_sub_cancel, if_true, if_false, Bool.false_eq_true, Int.reduceLT, Int.reduceLE, Int.reduceNeg, Int.reduceAdd, Int.reduceSub, Int.reduceMul, Int.reduceToNat, Nat.reduceLT, Nat.reduceLeDiff, and_self, and_true, true_and, decide_true, decide_false, Bool.not_true, Bool.not_false, Option.map_some, Option.bind_some, b_add, b_sub, b_mul1, b_mod, b_fdiv, cmp_eq_int, cmp_eq_bool, cmp_lt, cmp_le, cmp_gt, cmp_ge, Int.reduceGT, gt_iff_lt, ge_iff_le, isTy, h]
theorem good_small {S : List Nat} {ws : List (List Int)} (h : goodG S ws) : Small S ws := ⟨le9 h.1, le9 h.2.1, fun w hw => le9 (h.2.2.2 w hw).1, fun y hy => by rcases h.2.2.1 y hy with h | h <;> (rw [h]; decide)⟩
/-- what faulty tells -/
noncomputable def Tells (n : Nat) (way c : Int) (S : List Nat) (v : Val) (σ : Sto) (P : List Nat → List (List Int) → Prop) (sub : Nat → Nat → Bool) : Prop :=
  ∃ S' ws', Small S' ws' ∧ P S' ws' ∧ callF sub tab.Δ (n + 2) 105 [.dat (.int way), .dat (.int c), .dat (.str S), v] σ = .val (.tup [.str S', wsD ws']) σ
section
variable {n : Nat} {c : Int} {S : List Nat} {ws : List (List Int)} {v : Val} {σ : Sto} (b : Base S ws) (hv : look σ v = some (wsD ws)) (htd : kToDat (.val v σ) = .val (wsD ws) σ)
include b hv htd
theorem fau1 : Tells n 1 c S v σ (fun S' ws' => ¬ goodG S' ws') sub := by
  have hlS := len_S S (le9 b.len)
  obtain ⟨a, ha, hm⟩ := place_of (c / 8) S.length (le9 b.len)
  have hi : ∃ x : Nat, x < 1000 ∧ ¬ (x = 102 ∨ x = 111) ∧ idx2 (.str [103, 70, 79, 48, 32, 45, 110, 120]) (.int (c % 8)) = some (.str [x]) := by
    obtain ⟨i, hi⟩ := Int.eq_ofNat_of_zero_le (Int.emod_nonneg c (show (8 : Int) ≠ 0 by decide))
    have hlt := Int.emod_lt_of_pos c (show (0 : Int) < 8 by decide)
    rw [hi] at hlt ⊢
    have hlt : i < 8 := Int.ofNat_lt.mp hlt
    match i, hlt with
    | 0, _ => exact ⟨_, by decide, by decide, rfl⟩
    | 1, _ => exact ⟨_, by decide, by decide, rfl⟩
    | 2, _ => exact ⟨_, by decide, by decide, rfl⟩
    | 3, _ => exact ⟨_, by decide, by decide, rfl⟩
    | 4, _ => exact ⟨_, by decide, by decide, rfl⟩
    | 5, _ => exact ⟨_, by decide, by decide, rfl⟩
    | 6, _ => exact ⟨_, by decide, by decide, rfl⟩
    | 7, _ => exact ⟨_, by decide, by decide, rfl⟩
  obtain ⟨x, hx, hx2, hi⟩ := hi
  have h1 : (0 : Int) ≤ a ∧ (a : Int) ≤ 1000000 ∧ S.length ≤ 1000000 := by have := b.len; omega
  have t1 : slTo2 (.str S) (.int a) = some (.str (S.take a)) := by simp only [slTo2, h1, and_self, if_true, Int.toNat_natCast]
  have t2 : slFrom2 (.str S) (.int a) = some (.str (S.drop a)) := by simp only [slFrom2, h1, and_self, if_true, Int.toNat_natCast]
  have hl := b.len
  have e1 := b_adds (S.take a) [x] (by simp; omega)
  have e2 := b_adds (S.take a ++ [x]) (S.drop a) (by simp; omega)
  refine ⟨S.take a ++ [x] ++ S.drop a, ws, ⟨by simp; omega, b.small.2.1, b.small.2.2.1, fun y hy => ?_⟩, fun hg => hx2 (hg.2.2.1 x (by simp)), call_ret (fn := fn_l_faulty) (σ' := σ) rfl rfl ?_ (by simp)⟩
  · simp only [List.mem_append, List.mem_singleton] at hy
    rcases hy with (h | h) | h
    · exact b.ch y (List.mem_of_mem_take h)
    · omega
    · exact b.ch y (List.mem_of_mem_drop h)
  · generalize Dat.str S = Y at hlS t1 t2
    show exs sub _ t_l_faulty_0 [some (.dat (.int 1)), some (.dat (.int c)), some (.dat Y), some v, none, none, none, none] σ = _; simp only [t_l_faulty_0, exs_nil, exs_cons, kSeq_next, kSeq_ret, ex_assign, kAsg_val, ex_newlst, kNew_val, ex_append, kApp0_ref, kApp_dat, ex_ret, kRet_dat, ex_ite, kIte_true, kIte_false, kIte_val, ex_for1, ex_for2, evI_enum, ev_lit, ev_con, ev_var, kVar_val, ev_bin, kBin1_val, kBin2_val, kD1_val, kD2a_val, kD2_val, ev_neg, negD, ev_prim, ev_prim2, ev_idx, kIdx_val, kNotX_val, kTruX_val, ev_slFrom, ev_slTo, ev_sorted, ev_listOf, ev_listRange, kTup_val, kLst_val, ev_tup, ev_lst, kNot_val, kBool_val, kTru_val, ev_not, evCmp_cons, evCmp_nil, kCmp1_val, kCmp2_nil, kCmp2_true, kCmp2_false, kCmp0_val, ev_cmp, evB_cmp, kCall_val, kDat_val, ev_call, kCons_val, kArgs_val, evArgs_nil, evArgs_cons, kToDat_dat, kEvs_val, evs_nil, evs_cons, ev_and, ev_or, evAnd_one, Out.noX_val, evOr_one, evAnd_cons, evOr_cons, kAnd_true, kAnd_false, kOr_true, kOr_false, kAnd_val, kOr_val, evAll_nil, evAny_nil, evIfs_nil, evAll_cons, evAny_cons, evIfs_cons, kAll_val, kAny_val, kIfs_val, evB_and, evB_or, evB_not, evB_var, evB_call, evB_prim, ev_isinst, evB_isinst, evB_idx, ev_comp, evI_of', kOf_lst, kOf_tup, kOf_str, evI_range1, evI_range2, kRange2_val, d1_dat, d2_dat, c2_dat, look_dat, bodyF, List.map_cons, List.map_nil, List.cons_append, List.nil_append, List.append_nil, List.replicate_succ, List.replicate_zero, List.getElem?_cons_zero, List.getElem?_cons_succ, List.set_cons_zero, List.set_cons_succ, List.length_cons, List.length_nil, Nat.sub_self, Nat.zero_add, Nat.reduceAdd, Nat.reduceSub, Nat.add_sub_cancel, if_true, if_false, Bool.false_eq_true, Int.reduceLT, Int.reduceLE, Int.reduceNeg, Int.reduceAdd, Int.reduceSub, Int.reduceMul, Int.reduceToNat, Nat.reduceLT, Nat.reduceLeDiff, and_self, and_true, true_and, decide_true, decide_false, Bool.not_true, Bool.not_false, Option.map_some, Option.bind_some, b_add, b_sub, b_mul1, b_mod, b_fdiv, cmp_eq_int, cmp_eq_bool, cmp_lt, cmp_le, cmp_gt, cmp_ge, Int.reduceGT, gt_iff_lt, ge_iff_le, isTy, show ((1 : Int) == 1) = true from rfl, hi, hlS, hm, t1, t2, e1, e2, htd]
theorem mul_ch (x : Nat) (k : Nat) (h : k ≤ 900) : bin2 .mul (.str [x]) (.int k) = some (.str (List.replicate k x)) := by
  have h1 : [x].length * (k : Int).toNat ≤ 1000000 ∧ (k : Int) < 1000000 ∧ -1000000 < (k : Int) := by simp; omega
  show (if [x].length * (k : Int).toNat ≤ 1000000 ∧ (k : Int) < 1000000 ∧ -1000000 < (k : Int) then some (Dat.str (List.replicate (k : Int).toNat [x]).flatten) else none) = _
  rw [if_pos h1, Int.toNat_natCast]
  congr 2
  clear h h1
  induction k with
  | zero => rfl
  | succ k ih => rw [List.replicate_succ, List.flatten_cons, ih]; rfl
theorem fau2 : Tells n 2 c S v σ (fun S' ws' => ¬ goodG S' ws') sub := by
  have hl := b.len
  have hlS := len_S S (le9 hl)
  obtain ⟨k, hk⟩ := Int.eq_ofNat_of_zero_le (show 0 ≤ 11 - (S.length : Int) + c % 30 by omega)
  have hm := mul_ch b hv htd 102 k (by omega)
  have e1 := b_adds S (List.replicate k 102) (by simp; omega)
  refine ⟨S ++ List.replicate k 102, ws, ⟨by simp; omega, b.small.2.1, b.small.2.2.1, fun y hy => ?_⟩, fun hg => by have := hg.1; simp at this; omega, call_ret (fn := fn_l_faulty) (σ' := σ) rfl rfl ?_ (by simp)⟩
  · rcases List.mem_append.mp hy with h | h
    · exact b.ch y h
    · have := (List.mem_replicate.mp h).2; omega
  · generalize hY : Dat.str S = Y at hlS e1
    show exs sub _ t_l_faulty_0 [some (.dat (.int 2)), some (.dat (.int c)), some (.dat Y), some v, none, none, none, none] σ = _; rw [skip0 rfl]; simp only [t_l_faulty_1, exs_nil, exs_cons, kSeq_next, kSeq_ret, ex_assign, kAsg_val, ex_newlst, kNew_val, ex_append, kApp0_ref, kApp_dat, ex_ret, kRet_dat, ex_ite, kIte_true, kIte_false, kIte_val, ex_for1, ex_for2, evI_enum, ev_lit, ev_con, ev_var, kVar_val, ev_bin, kBin1_val, kBin2_val, kD1_val, kD2a_val, kD2_val, ev_neg, negD, ev_prim, ev_prim2, ev_idx, kIdx_val, kNotX_val, kTruX_val, ev_slFrom, ev_slTo, ev_sorted, ev_listOf, ev_listRange, kTup_val, kLst_val, ev_tup, ev_lst, kNot_val, kBool_val, kTru_val, ev_not, evCmp_cons, evCmp_nil, kCmp1_val, kCmp2_nil, kCmp2_true, kCmp2_false, kCmp0_val, ev_cmp, evB_cmp, kCall_val, kDat_val, ev_call, kCons_val, kArgs_val, evArgs_nil, evArgs_cons, kToDat_dat, kEvs_val, evs_nil, evs_cons, ev_and, ev_or, evAnd_one, Out.noX_val, evOr_one, evAnd_cons, evOr_cons, kAnd_true, kAnd_false, kOr_true, kOr_false, kAnd_val, kOr_val, evAll_nil, evAny_nil, evIfs_nil, evAll_cons, evAny_cons, evIfs_cons, kAll_val, kAny_val, kIfs_val, evB_and, evB_or, evB_not, evB_var, evB_call, evB_prim, ev_isinst, evB_isinst, evB_idx, ev_comp, evI_of', kOf_lst, kOf_tup, kOf_str, evI_range1, evI_range2, kRange2_val, d1_dat, d2_dat, c2_dat, look_dat, bodyF, List.map_cons, List.map_nil, List.cons_append, List.nil_append, List.append_nil, List.replicate_succ, List.replicate_zero, List.getElem?_cons_zero, List.getElem?_cons_succ, List.set_cons_zero, List.set_cons_succ, List.length_cons, List.length_nil, Nat.sub_self, Nat.zero_add, Nat.reduceAdd, Nat.reduceSub, Nat.add_sub_cancel, if_true, if_false, Bool.false_eq_true, Int.reduceLT, Int.reduceLE, Int.reduceNeg, Int.reduceAdd, Int.reduceSub, Int.reduceMul, Int.reduceToNat, Nat.reduceLT, Nat.reduceLeDiff, and_self, and_true, true_and, decide_true, decide_false, Bool.not_true, Bool.not_false, Option.map_some, Option.bind_some, b_add, b_sub, b_mul1, b_mod, b_fdiv, cmp_eq_int, cmp_eq_bool, cmp_lt, cmp_le, cmp_gt, cmp_ge, Int.reduceGT, gt_iff_lt, ge_iff_le, isTy, show ((2 : Int) == 2) = true from rfl, hlS, hk, hm, e1, htd]

omit b hv htd in
theorem nils (k : Nat) {C : Oracle} {ρ : Loc} {τ : Sto} (h : k ≤ 900) : kComp sub C 7 .nil (.lst .nil) ρ (.val ⟨(List.range k).map (fun i : Nat => Dat.int i), none⟩ τ) = .val (.dat (wsD (List.replicate k []))) τ := by
  rw [kComp_map (em := fun i : Nat => Dat.int i) (fun _ => wD []) (by simp; omega) (fun a ha => by simp only [exs_nil, exs_cons, kSeq_next, kSeq_ret, ex_assign, kAsg_val, ex_newlst, kNew_val, ex_append, kApp0_ref, kApp_dat, ex_ret, kRet_dat, ex_ite, kIte_true, kIte_false, kIte_val, ex_for1, ex_for2, evI_enum, ev_lit, ev_con, ev_var, kVar_val, ev_bin, kBin1_val, kBin2_val, kD1_val, kD2a_val, kD2_val, ev_neg, negD, ev_prim, ev_prim2, ev_idx, kIdx_val, kNotX_val, kTruX_val, ev_slFrom, ev_slTo, ev_sorted, ev_listOf, ev_listRange, kTup_val, kLst_val, ev_tup, ev_lst, kNot_val, kBool_val, kTru_val, ev_not, evCmp_cons, evCmp_nil, kCmp1_val, kCmp2_nil, kCmp2_true, kCmp2_false, kCmp0_val, ev_cmp, evB_cmp, kCall_val, kDat_val, ev_call, kCons_val, kArgs_val, evArgs_nil, evArgs_cons, kToDat_dat, kEvs_val, evs_nil, evs_cons, ev_and, ev_or, evAnd_one, Out.noX_val, evOr_one, evAnd_cons, evOr_cons, kAnd_true, kAnd_false, kOr_true, kOr_false, kAnd_val, kOr_val, evAll_nil, evAny_nil, evIfs_nil, evAll_cons, evAny_cons, evIfs_cons, kAll_val, kAny_val, kIfs_val, evB_and, evB_or, evB_not, evB_var, evB_call, evB_prim, ev_isinst, evB_isinst, evB_idx, ev_comp, evI_of', kOf_lst, kOf_tup, kOf_str, evI_range1, evI_range2, kRange2_val, d1_dat, d2_dat, c2_dat, look_dat, bodyF, List.map_cons, List.map_nil, List.cons_append, List.nil_append, List.append_nil, List.replicate_succ, List.replicate_zero, List.getElem?_cons_zero, List.getElem?_cons_succ, List.set_cons_zero, List.set_cons_succ, List.length_cons, List.length_nil, Nat.sub_self, Nat.zero_add, Nat.reduceAdd, Nat.reduceSub, Nat.add_sub_cancel, if_true, if_false, Bool.false_eq_true, Int.reduceLT, Int.reduceLE, Int.reduceNeg, Int.reduceAdd, Int.reduceSub, Int.reduceMul, Int.reduceToNat, Nat.reduceLT, Nat.reduceLeDiff, and_self, and_true, true_and, decide_true, decide_false, Bool.not_true, Bool.not_false, Option.map_some, Option.bind_some, b_add, b_sub, b_mul1, b_mod, b_fdiv, cmp_eq_int, cmp_eq_bool, cmp_lt, cmp_le, cmp_gt, cmp_ge, Int.reduceGT, gt_iff_lt, ge_iff_le, isTy]; rfl)]
  congr 2
  simp [List.map_const']
theorem fau3 : Tells n 3 c S v σ (fun S' ws' => ¬ goodG S' ws') sub := by
  have hl := b.len
  have hn := b.many
  have hlW : d1 (prim1 .len) v σ = .val (.dat (.int ws.length)) σ := d1_look hv (len_ws ws (le9 hn))
  obtain ⟨k, hk⟩ := Int.eq_ofNat_of_zero_le (show 0 ≤ 21 - (ws.length : Int) + c % 30 by omega)
  have hr : (k : Int) ≤ 1000000 ∧ -1000000 ≤ (k : Int) := by omega
  have hc := fun (C : Oracle) (ρ : Loc) => nils (sub := sub) (C := C) (ρ := ρ) (τ := σ) k (by omega)
  have ha : d2 (bin2 .add) (.dat (wsD (List.replicate k []))) v σ = .val (.dat (wsD (List.replicate k [] ++ ws))) σ := d2_lookR hv (by rw [add_lst _ _ (by simp; omega), ← List.map_append])
  refine ⟨S, List.replicate k [] ++ ws, ⟨by omega, by simp; omega, fun w hw => ?_, b.ch⟩, fun hg => by have := hg.2.1; simp at this; omega, call_ret (fn := fn_l_faulty) (σ' := σ) rfl rfl ?_ (by simp)⟩
  · rcases List.mem_append.mp hw with h | h
    · rw [(List.mem_replicate.mp h).2]; simp
    · exact b.small.2.2.1 w h
  · generalize wsD (List.replicate k []) = Z at hc ha
    show exs sub _ t_l_faulty_0 [some (.dat (.int 3)), some (.dat (.int c)), some (.dat (.str S)), some v, none, none, none, none] σ = _; rw [skip0 rfl]; rw [skip1 rfl]; simp only [t_l_faulty_2, exs_nil, exs_cons, kSeq_next, kSeq_ret, ex_assign, kAsg_val, ex_newlst, kNew_val, ex_append, kApp0_ref, kApp_dat, ex_ret, kRet_dat, ex_ite, kIte_true, kIte_false, kIte_val, ex_for1, ex_for2, evI_enum, ev_lit, ev_con, ev_var, kVar_val, ev_bin, kBin1_val, kBin2_val, kD1_val, kD2a_val, kD2_val, ev_neg, negD, ev_prim, ev_prim2, ev_idx, kIdx_val, kNotX_val, kTruX_val, ev_slFrom, ev_slTo, ev_sorted, ev_listOf, ev_listRange, kTup_val, kLst_val, ev_tup, ev_lst, kNot_val, kBool_val, kTru_val, ev_not, evCmp_cons, evCmp_nil, kCmp1_val, kCmp2_nil, kCmp2_true, kCmp2_false, kCmp0_val, ev_cmp, evB_cmp, kCall_val, kDat_val, ev_call, kCons_val, kArgs_val, evArgs_nil, evArgs_cons, kToDat_dat, kEvs_val, evs_nil, evs_cons, ev_and, ev_or, evAnd_one, Out.noX_val, evOr_one, evAnd_cons, evOr_cons, kAnd_true, kAnd_false, kOr_true, kOr_false, kAnd_val, kOr_val, evAll_nil, evAny_nil, evIfs_nil, evAll_cons, evAny_cons, evIfs_cons, kAll_val, kAny_val, kIfs_val, evB_and, evB_or, evB_not, evB_var, evB_call, evB_prim, ev_isinst, evB_isinst, evB_idx, ev_comp, evI_of', kOf_lst, kOf_tup, kOf_str, evI_range1, evI_range2, kRange2_val, d1_dat, d2_dat, c2_dat, look_dat, bodyF, List.map_cons, List.map_nil, List.cons_append, List.nil_append, List.append_nil, List.replicate_succ, List.replicate_zero, List.getElem?_cons_zero, List.getElem?_cons_succ, List.set_cons_zero, List.set_cons_succ, List.length_cons, List.length_nil, Nat.sub_self, Nat.zero_add, Nat.reduceAdd, Nat.reduceSub, Nat.add_sub_cancel, if_true, if_false, Bool.false_eq_true, Int.reduceLT, Int.reduceLE, Int.reduceNeg, Int.reduceAdd, Int.reduceSub, Int.reduceMul, Int.reduceToNat, Nat.reduceLT, Nat.reduceLeDiff, and_self, and_true, true_and, decide_true, decide_false, Bool.not_true, Bool.not_false, Option.map_some, Option.bind_some, b_add, b_sub, b_mul1, b_mod, b_fdiv, cmp_eq_int, cmp_eq_bool, cmp_lt, cmp_le, cmp_gt, cmp_ge, Int.reduceGT, gt_iff_lt, ge_iff_le, isTy, show ((3 : Int) == 3) = true from rfl, hlW, hk, kRange1_val _ _ hr, rangeD_map, hc, ha]
omit b hv htd in
theorem put_small {S : List Nat} {ws : List (List Int)} {w : List Int} {a : Nat} (h1 : S.length ≤ 900) (h2 : ∀ x ∈ S, x < 1000) (h3 : ws.length ≤ 3) (h4 : ∀ w ∈ ws, w.length ≤ 900) (h5 : w.length ≤ 900) : Small S (ws.take a ++ [w] ++ ws.drop a) := by
  refine ⟨h1, by simp; omega, fun u hu => ?_, h2⟩
  simp only [List.mem_append, List.mem_singleton] at hu
  rcases hu with (h | h) | h
  · exact h4 u (List.mem_of_mem_take h)
  · rw [h]; exact h5
  · exact h4 u (List.mem_of_mem_drop h)
omit b hv htd in
theorem put_map (ws : List (List Int)) (w : List Int) (a : Nat) : Dat.lst ((ws.map wD).take a ++ [wD w] ++ (ws.map wD).drop a) = wsD (ws.take a ++ [w] ++ ws.drop a) := by simp [wsD, List.map_take, List.map_drop]
theorem fau4 : Tells n 4 c S v σ (fun S' ws' => ¬ goodG S' ws') sub := by
  have hl := b.len
  have hn := b.many
  obtain ⟨k, hk⟩ := Int.eq_ofNat_of_zero_le (show 0 ≤ 11 + c / 5 % 30 by omega)
  have hmu : bin2 .mul (.lst [.int 1]) (.int k) = some (wD (List.replicate k 1)) := by
    have h1 : [Dat.int 1].length * (k : Int).toNat ≤ 1000000 ∧ (k : Int) < 1000000 ∧ -1000000 < (k : Int) := by simp; omega
    show (if [Dat.int 1].length * (k : Int).toNat ≤ 1000000 ∧ (k : Int) < 1000000 ∧ -1000000 < (k : Int) then some (Dat.lst (List.replicate (k : Int).toNat [Dat.int 1]).flatten) else none) = _
    rw [if_pos h1, Int.toNat_natCast]
    unfold wD
    congr 2
    clear h1 hk
    induction k with
    | zero => rfl
    | succ k ih => rw [List.replicate_succ, List.flatten_cons, ih]; rfl
  obtain ⟨a, ha, hp⟩ := c_put (sub := sub) (n := n) (c := c) (d := wD (List.replicate k 1)) hv (by simp; omega)
  rw [put_map] at hp
  have e1 := b_adds S [102] (by simp; omega)
  refine ⟨S ++ [102], ws.take a ++ [List.replicate k 1] ++ ws.drop a, put_small (by simp; omega) (fun y hy => ?_) hn b.small.2.2.1 (by simp; omega), fun hg => ?_, call_ret (fn := fn_l_faulty) (σ' := σ) rfl rfl ?_ (by simp)⟩
  · rcases List.mem_append.mp hy with h | h
    · exact b.ch y h
    · simp at h; omega
  · have := (hg.2.2.2 (List.replicate k 1) (by simp)).1
    simp at this; omega
  · generalize wsD (ws.take a ++ [List.replicate k 1] ++ ws.drop a) = Z at hp
    show exs sub _ t_l_faulty_0 [some (.dat (.int 4)), some (.dat (.int c)), some (.dat (.str S)), some v, none, none, none, none] σ = _; rw [skip0 rfl]; rw [skip1 rfl]; rw [skip2 rfl]; simp only [t_l_faulty_3, exs_nil, exs_cons, kSeq_next, kSeq_ret, ex_assign, kAsg_val, ex_newlst, kNew_val, ex_append, kApp0_ref, kApp_dat, ex_ret, kRet_dat, ex_ite, kIte_true, kIte_false, kIte_val, ex_for1, ex_for2, evI_enum, ev_lit, ev_con, ev_var, kVar_val, ev_bin, kBin1_val, kBin2_val, kD1_val, kD2a_val, kD2_val, ev_neg, negD, ev_prim, ev_prim2, ev_idx, kIdx_val, kNotX_val, kTruX_val, ev_slFrom, ev_slTo, ev_sorted, ev_listOf, ev_listRange, kTup_val, kLst_val, ev_tup, ev_lst, kNot_val, kBool_val, kTru_val, ev_not, evCmp_cons, evCmp_nil, kCmp1_val, kCmp2_nil, kCmp2_true, kCmp2_false, kCmp0_val, ev_cmp, evB_cmp, kCall_val, kDat_val, ev_call, kCons_val, kArgs_val, evArgs_nil, evArgs_cons, kToDat_dat, kEvs_val, evs_nil, evs_cons, ev_and, ev_or, evAnd_one, Out.noX_val, evOr_one, evAnd_cons, evOr_cons, kAnd_true, kAnd_false, kOr_true, kOr_false, kAnd_val, kOr_val, evAll_nil, evAny_nil, evIfs_nil, evAll_cons, evAny_cons, evIfs_cons, kAll_val, kAny_val, kIfs_val, evB_and, evB_or, evB_not, evB_var, evB_call, evB_prim, ev_isinst, evB_isinst, evB_idx, ev_comp, evI_of', kOf_lst, kOf_tup, kOf_str, evI_range1, evI_range2, kRange2_val, d1_dat, d2_dat, c2_dat, look_dat, bodyF, List.map_cons, List.map_nil, List.cons_append, List.nil_append, List.append_nil, List.replicate_succ, List.replicate_zero, List.getElem?_cons_zero, List.getElem?_cons_succ, List.set_cons_zero, List.set_cons_succ, List.length_cons, List.length_nil, Nat.sub_self, Nat.zero_add, Nat.reduceAdd, Nat.reduceSub, Nat.add_sub_cancel, if_true, if_false, Bool.false_eq_true, Int.reduceLT, Int.reduceLE, Int.reduceNeg, Int.reduceAdd, Int.reduceSub, Int.reduceMul, Int.reduceToNat, Nat.reduceLT, Nat.reduceLeDiff, and_self, and_true, true_and, decide_true, decide_false, Bool.not_true, Bool.not_false, Option.map_some, Option.bind_some, b_add, b_sub, b_mul1, b_mod, b_fdiv, cmp_eq_int, cmp_eq_bool, cmp_lt, cmp_le, cmp_gt, cmp_ge, Int.reduceGT, gt_iff_lt, ge_iff_le, isTy, show ((4 : Int) == 4) = true from rfl, hk, hmu, hp, e1]
theorem fau5 : Tells n 5 c S v σ (fun S' ws' => ¬ goodG S' ws') sub := by
  have hl := b.len
  have hn := b.many
  have hlS := len_S S (le9 hl)
  obtain ⟨k, hk⟩ := Int.eq_ofNat_of_zero_le (show 0 ≤ c % 4 by omega)
  obtain ⟨w, w1, w2, hw⟩ := c_wish (sub := sub) (n := n) (c := c / 8) (k := k) (m := S.length) (σ := σ) (by omega) (by omega)
  obtain ⟨z, hz, hst⟩ := c_stranger (sub := sub) (n := n) (c := c / 7) (m := S.length) (σ := σ) (by omega)
  obtain ⟨a, ha, hp⟩ := c_put (sub := sub) (n := n) (v := .dat (wD w)) (l := w.map .int) (c := c) (d := .int z) (σ := σ) rfl (by simp; omega)
  have hpe : Dat.lst ((w.map Dat.int).take a ++ [Dat.int z] ++ (w.map Dat.int).drop a) = wD (w.take a ++ [z] ++ w.drop a) := by simp [wD, List.map_take, List.map_drop]
  rw [hpe] at hp
  obtain ⟨a2, ha2, hp2⟩ := c_put (sub := sub) (n := n) (c := c / 3) (d := wD (w.take a ++ [z] ++ w.drop a)) hv (by simp; omega)
  rw [put_map] at hp2
  refine ⟨S, ws.take a2 ++ [w.take a ++ [z] ++ w.drop a] ++ ws.drop a2, put_small (le9 hl) b.ch hn b.small.2.2.1 (by simp; omega), fun hg => hz ((hg.2.2.2 (w.take a ++ [z] ++ w.drop a) (by simp)).2 z (by simp)), call_ret (fn := fn_l_faulty) (σ' := σ) rfl rfl ?_ (by simp)⟩
  generalize wsD (ws.take a2 ++ [w.take a ++ [z] ++ w.drop a] ++ ws.drop a2) = Z at hp2
  generalize wD (w.take a ++ [z] ++ w.drop a) = Y at hp hp2
  generalize wD w = X at hw hp
  generalize Dat.str S = T at hlS
  show exs sub _ t_l_faulty_0 [some (.dat (.int 5)), some (.dat (.int c)), some (.dat T), some v, none, none, none, none] σ = _; rw [skip0 rfl]; rw [skip1 rfl]; rw [skip2 rfl]; rw [skip3 rfl]; simp only [t_l_faulty_4, exs_nil, exs_cons, kSeq_next, kSeq_ret, ex_assign, kAsg_val, ex_newlst, kNew_val, ex_append, kApp0_ref, kApp_dat, ex_ret, kRet_dat, ex_ite, kIte_true, kIte_false, kIte_val, ex_for1, ex_for2, evI_enum, ev_lit, ev_con, ev_var, kVar_val, ev_bin, kBin1_val, kBin2_val, kD1_val, kD2a_val, kD2_val, ev_neg, negD, ev_prim, ev_prim2, ev_idx, kIdx_val, kNotX_val, kTruX_val, ev_slFrom, ev_slTo, ev_sorted, ev_listOf, ev_listRange, kTup_val, kLst_val, ev_tup, ev_lst, kNot_val, kBool_val, kTru_val, ev_not, evCmp_cons, evCmp_nil, kCmp1_val, kCmp2_nil, kCmp2_true, kCmp2_false, kCmp0_val, ev_cmp, evB_cmp, kCall_val, kDat_val, ev_call, kCons_val, kArgs_val, evArgs_nil, evArgs_cons, kToDat_dat, kEvs_val, evs_nil, evs_cons, ev_and, ev_or, evAnd_one, Out.noX_val, evOr_one, evAnd_cons, evOr_cons, kAnd_true, kAnd_false, kOr_true, kOr_false, kAnd_val, kOr_val, evAll_nil, evAny_nil, evIfs_nil, evAll_cons, evAny_cons, evIfs_cons, kAll_val, kAny_val, kIfs_val, evB_and, evB_or, evB_not, evB_var, evB_call, evB_prim, ev_isinst, evB_isinst, evB_idx, ev_comp, evI_of', kOf_lst, kOf_tup, kOf_str, evI_range1, evI_range2, kRange2_val, d1_dat, d2_dat, c2_dat, look_dat, bodyF, List.map_cons, List.map_nil, List.cons_append, List.nil_append, List.append_nil, List.replicate_succ, List.replicate_zero, List.getElem?_cons_zero, List.getElem?_cons_succ, List.set_cons_zero, List.set_cons_succ, List.length_cons, List.length_nil, Nat.sub_self, Nat.zero_add, Nat.reduceAdd, Nat.reduceSub, Nat.add_sub_cancel, if_true, if_false, Bool.false_eq_true, Int.reduceLT, Int.reduceLE, Int.reduceNeg, Int.reduceAdd, Int.reduceSub, Int.reduceMul, Int.reduceToNat, Nat.reduceLT, Nat.reduceLeDiff, and_self, and_true, true_and, decide_true, decide_false, Bool.not_true, Bool.not_false, Option.map_some, Option.bind_some, b_add, b_sub, b_mul1, b_mod, b_fdiv, cmp_eq_int, cmp_eq_bool, cmp_lt, cmp_le, cmp_gt, cmp_ge, Int.reduceGT, gt_iff_lt, ge_iff_le, isTy, show ((5 : Int) == 5) = true from rfl, hlS, hk, hw, hst, hp, hp2]
theorem fau6 : Tells n 6 c S v σ goodG sub := by
  have hl := b.len
  have hn := b.many
  have hlS := len_S S (le9 hl)
  have hlW : d1 (prim1 .len) v σ = .val (.dat (.int ws.length)) σ := d1_look hv (len_ws ws (le9 hn))
  obtain ⟨k, hk⟩ := Int.eq_ofNat_of_zero_le (show 0 ≤ 10 - (S.length : Int) by omega)
  obtain ⟨j, hj⟩ := Int.eq_ofNat_of_zero_le (show 0 ≤ 20 - (ws.length : Int) by omega)
  have hr : (j : Int) ≤ 1000000 ∧ -1000000 ≤ (j : Int) := by omega
  have hm := mul_ch b hv htd 111 k (by omega)
  have e1 := b_adds S (List.replicate k 111) (by simp; omega)
  have hc := fun (C : Oracle) (ρ : Loc) => nils (sub := sub) (C := C) (ρ := ρ) (τ := σ) j (by omega)
  have ha : d2 (bin2 .add) v (.dat (wsD (List.replicate j []))) σ = .val (.dat (wsD (ws ++ List.replicate j []))) σ := d2_look hv (by rw [add_lst _ _ (by simp; omega), ← List.map_append])
  have hG : goodG (S ++ List.replicate k 111) (ws ++ List.replicate j []) := by
    refine ⟨by simp; omega, by simp; omega, fun y hy => ?_, fun w hw => ?_⟩
    · rcases List.mem_append.mp hy with h | h
      · exact b.ok y h
      · exact .inr (List.mem_replicate.mp h).2
    · rcases List.mem_append.mp hw with h | h
      · obtain ⟨q1, q2⟩ := b.good w h
        exact ⟨by omega, fun z hz => ⟨(q2 z hz).1, by have := (q2 z hz).2; simp; omega⟩⟩
      · rw [(List.mem_replicate.mp h).2]; exact ⟨by simp, fun z hz => (nomatch hz)⟩
  refine ⟨S ++ List.replicate k 111, ws ++ List.replicate j [], good_small hG, hG, call_ret (fn := fn_l_faulty) (σ' := σ) rfl rfl ?_ (by simp)⟩
  generalize wsD (List.replicate j []) = Z at hc ha
  generalize hY : Dat.str S = Y at hlS e1
  show exs sub _ t_l_faulty_0 [some (.dat (.int 6)), some (.dat (.int c)), some (.dat Y), some v, none, none, none, none] σ = _; rw [skip0 rfl]; rw [skip1 rfl]; rw [skip2 rfl]; rw [skip3 rfl]; rw [skip4 rfl]; simp only [t_l_faulty_5, exs_nil, exs_cons, kSeq_next, kSeq_ret, ex_assign, kAsg_val, ex_newlst, kNew_val, ex_append, kApp0_ref, kApp_dat, ex_ret, kRet_dat, ex_ite, kIte_true, kIte_false, kIte_val, ex_for1, ex_for2, evI_enum, ev_lit, ev_con, ev_var, kVar_val, ev_bin, kBin1_val, kBin2_val, kD1_val, kD2a_val, kD2_val, ev_neg, negD, ev_prim, ev_prim2, ev_idx, kIdx_val, kNotX_val, kTruX_val, ev_slFrom, ev_slTo, ev_sorted, ev_listOf, ev_listRange, kTup_val, kLst_val, ev_tup, ev_lst, kNot_val, kBool_val, kTru_val, ev_not, evCmp_cons, evCmp_nil, kCmp1_val, kCmp2_nil, kCmp2_true, kCmp2_false, kCmp0_val, ev_cmp, evB_cmp, kCall_val, kDat_val, ev_call, kCons_val, kArgs_val, evArgs_nil, evArgs_cons, kToDat_dat, kEvs_val, evs_nil, evs_cons, ev_and, ev_or, evAnd_one, Out.noX_val, evOr_one, evAnd_cons, evOr_cons, kAnd_true, kAnd_false, kOr_true, kOr_false, kAnd_val, kOr_val, evAll_nil, evAny_nil, evIfs_nil, evAll_cons, evAny_cons, evIfs_cons, kAll_val, kAny_val, kIfs_val, evB_and, evB_or, evB_not, evB_var, evB_call, evB_prim, ev_isinst, evB_isinst, evB_idx, ev_comp, evI_of', kOf_lst, kOf_tup, kOf_str, evI_range1, evI_range2, kRange2_val, d1_dat, d2_dat, c2_dat, look_dat, bodyF, List.map_cons, List.map_nil, List.cons_append, List.nil_append, List.append_nil, List.replicate_succ, List.replicate_zero, List.getElem?_cons_zero, List.getElem?_cons_succ, List.set_cons_zero, List.set_cons_succ, List.length_cons, List.length_nil, Nat.sub_self, Nat.zero_add, Nat.reduceAdd, Nat.reduceSub, Nat.add_sub_cancel, if_true, if_false, Bool.false_eq_true, Int.reduceLT, Int.reduceLE, Int.reduceNeg, Int.reduceAdd, Int.reduceSub, Int.reduceMul, Int.reduceToNat, Nat.reduceLT, Nat.reduceLeDiff, and_self, and_true, true_and, decide_true, decide_false, Bool.not_true, Bool.not_false, Option.map_some, Option.bind_some, b_add, b_sub, b_mul1, b_mod, b_fdiv, cmp_eq_int, cmp_eq_bool, cmp_lt, cmp_le, cmp_gt, cmp_ge, Int.reduceGT, gt_iff_lt, ge_iff_le, isTy, show ((6 : Int) == 6) = true from rfl, hlS, hk, hm, e1, hlW, hj, kRange1_val _ _ hr, rangeD_map, hc, ha]

theorem fau7 : Tells n 7 c S v σ goodG sub := by
  have hl := b.len
  have hn := b.many
  have e1 := b_adds S [102] (by simp; omega)
  have hmu : bin2 .mul (.lst [.int 1, .int (-1)]) (.int 5) = some (wD [1, -1, 1, -1, 1, -1, 1, -1, 1, -1]) := rfl
  have ha : d2 (bin2 .add) v (.dat (.lst [wD [1, -1, 1, -1, 1, -1, 1, -1, 1, -1]])) σ = .val (.dat (wsD (ws ++ [[1, -1, 1, -1, 1, -1, 1, -1, 1, -1]]))) σ := d2_look hv (by rw [add_lst _ _ (by simp; omega)]; simp)
  have hG : goodG (S ++ [102]) (ws ++ [[1, -1, 1, -1, 1, -1, 1, -1, 1, -1]]) := by
    refine ⟨by simp; omega, by simp; omega, fun y hy => ?_, fun w hw => ?_⟩
    · rcases List.mem_append.mp hy with h | h
      · exact b.ok y h
      · exact .inl (List.mem_singleton.mp h)
    · rcases List.mem_append.mp hw with h | h
      · obtain ⟨q1, q2⟩ := b.good w h
        exact ⟨by omega, fun z hz => ⟨(q2 z hz).1, by have := (q2 z hz).2; simp; omega⟩⟩
      · rw [List.mem_singleton.mp h]
        refine ⟨by decide, fun z hz => ?_⟩
        simp only [List.mem_cons, List.not_mem_nil, or_false] at hz
        have hz' : z = 1 ∨ z = -1 := by rcases hz with h | h | h | h | h | h | h | h | h | h <;> simp [h]
        rcases hz' with rfl | rfl <;> simp
  refine ⟨_, _, good_small hG, hG, call_ret (fn := fn_l_faulty) (σ' := σ) rfl rfl ?_ (by simp)⟩
  generalize wsD (ws ++ [[1, -1, 1, -1, 1, -1, 1, -1, 1, -1]]) = Z at ha
  generalize hW : wD [1, -1, 1, -1, 1, -1, 1, -1, 1, -1] = W at hmu ha
  generalize hY : Dat.str S = Y at e1
  show exs sub _ t_l_faulty_0 [some (.dat (.int 7)), some (.dat (.int c)), some (.dat Y), some v, none, none, none, none] σ = _; rw [skip0 rfl]; rw [skip1 rfl]; rw [skip2 rfl]; rw [skip3 rfl]; rw [skip4 rfl]; rw [skip5 rfl]; simp only [t_l_faulty_6, exs_nil, exs_cons, kSeq_next, kSeq_ret, ex_assign, kAsg_val, ex_newlst, kNew_val, ex_append, kApp0_ref, kApp_dat, ex_ret, kRet_dat, ex_ite, kIte_true, kIte_false, kIte_val, ex_for1, ex_for2, evI_enum, ev_lit, ev_con, ev_var, kVar_val, ev_bin, kBin1_val, kBin2_val, kD1_val, kD2a_val, kD2_val, ev_neg, negD, ev_prim, ev_prim2, ev_idx, kIdx_val, kNotX_val, kTruX_val, ev_slFrom, ev_slTo, ev_sorted, ev_listOf, ev_listRange, kTup_val, kLst_val, ev_tup, ev_lst, kNot_val, kBool_val, kTru_val, ev_not, evCmp_cons, evCmp_nil, kCmp1_val, kCmp2_nil, kCmp2_true, kCmp2_false, kCmp0_val, ev_cmp, evB_cmp, kCall_val, kDat_val, ev_call, kCons_val, kArgs_val, evArgs_nil, evArgs_cons, kToDat_dat, kEvs_val, evs_nil, evs_cons, ev_and, ev_or, evAnd_one, Out.noX_val, evOr_one, evAnd_cons, evOr_cons, kAnd_true, kAnd_false, kOr_true, kOr_false, kAnd_val, kOr_val, evAll_nil, evAny_nil, evIfs_nil, evAll_cons, evAny_cons, evIfs_cons, kAll_val, kAny_val, kIfs_val, evB_and, evB_or, evB_not, evB_var, evB_call, evB_prim, ev_isinst, evB_isinst, evB_idx, ev_comp, evI_of', kOf_lst, kOf_tup, kOf_str, evI_range1, evI_range2, kRange2_val, d1_dat, d2_dat, c2_dat, look_dat, bodyF, List.map_cons, List.map_nil, List.cons_append, List.nil_append, List.append_nil, List.replicate_succ, List.replicate_zero, List.getElem?_cons_zero, List.getElem?_cons_succ, List.set_cons_zero, List.set_cons_succ, List.length_cons, List.length_nil, Nat.sub_self, Nat.zero_add, Nat.reduceAdd, Nat.reduceSub, Nat.add_sub_cancel, if_true, if_false, Bool.false_eq_true, Int.reduceLT, Int.reduceLE, Int.reduceNeg, Int.reduceAdd, Int.reduceSub, Int.reduceMul, Int.reduceToNat, Nat.reduceLT, Nat.reduceLeDiff, and_self, and_true, true_and, decide_true, decide_false, Bool.not_true, Bool.not_false, Option.map_some, Option.bind_some, b_add, b_sub, b_mul1, b_mod, b_fdiv, cmp_eq_int, cmp_eq_bool, cmp_lt, cmp_le, cmp_gt, cmp_ge, Int.reduceGT, gt_iff_lt, ge_iff_le, isTy, e1, hmu, ha]
end

/-! the law -/
theorem ok_ws (ws : List (List Int)) : okD (wsD ws) = true := by
  have h1 : fineDs (ws.map wD) = true := by induction ws with | nil => rfl | cons w ws ih => simp [fineDs, wD, fineD, fine_ints] at ih ⊢; exact ih
  have h2 : ∀ ws : List (List Int), depthDs (ws.map wD) ≤ 1 := fun ws => by
    induction ws with
    | nil => simp [depthDs]
    | cons w ws ih =>
      have e : depthD (wD w) = 1 := by simp [wD, depthD, depth_ints]
      simp only [List.map_cons, depthDs, e]
      omega
  have h2 := h2 ws
  simp [okD, fineD, depthD, h1]; omega
theorem copy_ws {C : Oracle} {ρ : Loc} {x : Nat} {S : List Nat} {ws : List (List Int)} {σ : Sto} (hx : x < ρ.length) (hg : Small S ws) : kComp sub C x .nil (.listOf (.var x)) ρ (.val ⟨ws.map wD, none⟩ σ) = .val (.dat (wsD ws)) σ := by
  have hlen := hg.2.1
  exact kComp_map (sub := sub) (C := C) (x := x) (elt := .listOf (.var x)) (ρ := ρ) (σ := σ) (em := wD) wD (l := ws) (by omega) (fun w hw => by
    have h10 := hg.2.2.1 w hw
    have hsq : seqD (wD w) = some (wD w) := by
      have : w.length ≤ 1000000 := by omega
      simp [seqD, wD, this]
    have : (ρ.set x (some (Val.dat (wD w))))[x]? = some (some (.dat (wD w))) := by simp [hx]
    simp only [exs_nil, exs_cons, kSeq_next, kSeq_ret, ex_assign, kAsg_val, ex_newlst, kNew_val, ex_append, kApp0_ref, kApp_dat, ex_ret, kRet_dat, ex_ite, kIte_true, kIte_false, kIte_val, ex_for1, ex_for2, evI_enum, ev_lit, ev_con, ev_var, kVar_val, ev_bin, kBin1_val, kBin2_val, kD1_val, kD2a_val, kD2_val, ev_neg, negD, ev_prim, ev_prim2, ev_idx, kIdx_val, kNotX_val, kTruX_val, ev_slFrom, ev_slTo, ev_sorted, ev_listOf, ev_listRange, kTup_val, kLst_val, ev_tup, ev_lst, kNot_val, kBool_val, kTru_val, ev_not, evCmp_cons, evCmp_nil, kCmp1_val, kCmp2_nil, kCmp2_true, kCmp2_false, kCmp0_val, ev_cmp, evB_cmp, kCall_val, kDat_val, ev_call, kCons_val, kArgs_val, evArgs_nil, evArgs_cons, kToDat_dat, kEvs_val, evs_nil, evs_cons, ev_and, ev_or, evAnd_one, Out.noX_val, evOr_one, evAnd_cons, evOr_cons, kAnd_true, kAnd_false, kOr_true, kOr_false, kAnd_val, kOr_val, evAll_nil, evAny_nil, evIfs_nil, evAll_cons, evAny_cons, evIfs_cons, kAll_val, kAny_val, kIfs_val, evB_and, evB_or, evB_not, evB_var, evB_call, evB_prim, ev_isinst, evB_isinst, evB_idx, ev_comp, evI_of', kOf_lst, kOf_tup, kOf_str, evI_range1, evI_range2, kRange2_val, d1_dat, d2_dat, c2_dat, look_dat, bodyF, List.map_cons, List.map_nil, List.cons_append, List.nil_append, List.append_nil, List.replicate_succ, List.replicate_zero, List.getElem?_cons_zero, List.getElem?_cons_succ, List.set_cons_zero, List.set_cons_succ, List.length_cons, List.length_nil, Nat.sub_self, Nat.zero_add, Nat.reduceAdd, Nat.reduceSub, Nat.add_sub_cancel, if_true, if_false, Bool.false_eq_true, Int.reduceLT, Int.reduceLE, Int.reduceNeg, Int.reduceAdd, Int.reduceSub, Int.reduceMul, Int.reduceToNat, Nat.reduceLT, Nat.reduceLeDiff, and_self, and_true, true_and, decide_true, decide_false, Bool.not_true, Bool.not_false, Option.map_some, Option.bind_some, b_add, b_sub, b_mul1, b_mod, b_fdiv, cmp_eq_int, cmp_eq_bool, cmp_lt, cmp_le, cmp_gt, cmp_ge, Int.reduceGT, gt_iff_lt, ge_iff_le, isTy, this, hsq])
theorem c_faulty {n : Nat} {c : Int} {k : Nat} {S : List Nat} {ws : List (List Int)} {v : Val} {σ : Sto} (b : Base S ws) (hv : look σ v = some (wsD ws)) (htd : kToDat (.val v σ) = .val (wsD ws) σ) (h0 : 0 < k) (h7 : k ≤ 7) :
    ∃ S' ws', Small S' ws' ∧ (k ≤ 5 → ¬ goodG S' ws') ∧ (5 < k → goodG S' ws') ∧ callF sub tab.Δ (n + 2) 105 [.dat (.int k), .dat (.int c), .dat (.str S), v] σ = .val (.tup [.str S', wsD ws']) σ := by
  match k, h0, h7 with
  | 1, _, _ =>
    obtain ⟨S', ws', q1, q2, q3⟩ := fau1 (sub := sub) (n := n) (c := c) b hv htd
    exact ⟨S', ws', q1, fun _ => q2, fun h => absurd h (by decide), q3⟩
  | 2, _, _ =>
    obtain ⟨S', ws', q1, q2, q3⟩ := fau2 (sub := sub) (n := n) (c := c) b hv htd
    exact ⟨S', ws', q1, fun _ => q2, fun h => absurd h (by decide), q3⟩
  | 3, _, _ =>
    obtain ⟨S', ws', q1, q2, q3⟩ := fau3 (sub := sub) (n := n) (c := c) b hv htd
    exact ⟨S', ws', q1, fun _ => q2, fun h => absurd h (by decide), q3⟩
  | 4, _, _ =>
    obtain ⟨S', ws', q1, q2, q3⟩ := fau4 (sub := sub) (n := n) (c := c) b hv htd
    exact ⟨S', ws', q1, fun _ => q2, fun h => absurd h (by decide), q3⟩
  | 5, _, _ =>
    obtain ⟨S', ws', q1, q2, q3⟩ := fau5 (sub := sub) (n := n) (c := c) b hv htd
    exact ⟨S', ws', q1, fun _ => q2, fun h => absurd h (by decide), q3⟩
  | 6, _, _ =>
    obtain ⟨S', ws', q1, q2, q3⟩ := fau6 (sub := sub) (n := n) (c := c) b hv htd
    exact ⟨S', ws', q1, fun h => absurd h (by decide), fun _ => q2, q3⟩
  | 7, _, _ =>
    obtain ⟨S', ws', q1, q2, q3⟩ := fau7 (sub := sub) (n := n) (c := c) b hv htd
    exact ⟨S', ws', q1, fun h => absurd h (by decide), fun _ => q2, q3⟩
theorem lawA (script : List Int) (hs : script.length ≤ 63) : ∃ (m : Nat) (S : List Nat) (ws : List (List Int)) (sz : Int) (y5 : Option Val), Base S ws ∧
    exs sub (callF sub tab.Δ 49) t_law_0 [some (.dat (.lst (script.map .int))), none, none, none, none, none, none, none, none, none, none, none, none] [] = exs sub (callF sub tab.Δ 49) t_law_6 [some (.dat (.lst (script.map .int))), some (.dat (.int m)), some (.dat (.str S)), some (.dat (.int sz)), some (.ref 0), y5, none, none, none, none, none, none, none] [(true, ws.map wD)] := by
  have hc := fun (k : Int) (hk : 0 ≤ k) τ => c_cell_at (sub := sub) (n := 48) (s := script) (k := k) (σ := τ) hs hk
  obtain ⟨m, hm⟩ := Int.eq_ofNat_of_zero_le (show 0 ≤ cellAt script 0 % 5 by omega)
  obtain ⟨S, hl, hS, hse⟩ := c_setters (sub := sub) (n := 48) (c := cellAt script 1) (m := m) (σ := []) (by omega)
  obtain ⟨j, hj⟩ := Int.eq_ofNat_of_zero_le (show 0 ≤ cellAt script 2 % 4 by omega)
  obtain ⟨k, hk⟩ := Int.eq_ofNat_of_zero_le (show 0 ≤ cellAt script 2 / 4 % 4 by omega)
  have hr : (j : Int) ≤ 1000000 ∧ -1000000 ≤ (j : Int) := by omega
  obtain ⟨ρ', σ', h1, ws, y5, q1, q2, rfl, rfl⟩ := kFor_all (sub := sub) (C := callF sub tab.Δ 49) (x := 5) (body := b_law_2) (em := fun i : Nat => Dat.int i) (l := List.range j)
    (ρ := [some (.dat (.lst (script.map .int))), some (.dat (.int m)), some (.dat (.str S)), some (.dat (.int (cellAt script 2))), some (.ref 0), none, none, none, none, none, none, none, none]) (σ := [(true, [])])
    (fun pre ρ τ => ∃ (ws : List (List Int)) (y5 : Option Val), ws.length = pre.length ∧ (∀ w ∈ ws, w.length ≤ 3 ∧ ∀ z ∈ w, z ≠ 0 ∧ z.natAbs ≤ m) ∧ ρ = [some (.dat (.lst (script.map .int))), some (.dat (.int m)), some (.dat (.str S)), some (.dat (.int (cellAt script 2))), some (.ref 0), y5, none, none, none, none, none, none, none] ∧ τ = [(true, ws.map wD)])
    (by simp; omega) (fun pre a post ρ τ he hP => by
      obtain ⟨ws, y5, q1, q2, rfl, rfl⟩ := hP
      have hlt := (pre_lt he).1
      have hca := hc (5 + (a : Int)) (by omega)
      obtain ⟨w, w1, w2, hw⟩ := c_wish (sub := sub) (n := 48) (c := cellAt script (5 + (a : Int))) (k := k) (m := m) (σ := [(true, ws.map wD)]) (by omega) (by omega)
      have hl' : (ws.map wD).length < 1000000 := by simp at hlt ⊢; omega
      have hge : ([(true, ws.map wD)] : Sto)[0]? = some (true, ws.map wD) := rfl
      refine ⟨_, _, ?_, ws ++ [w], some (.dat (.int a)), by simp [q1], fun u hu => ?_, rfl, rfl⟩
      · simp only [b_law_2, exs_nil, exs_cons, kSeq_next, kSeq_ret, ex_assign, kAsg_val, ex_newlst, kNew_val, ex_append, kApp0_ref, kApp_dat, ex_ret, kRet_dat, ex_ite, kIte_true, kIte_false, kIte_val, ex_for1, ex_for2, evI_enum, ev_lit, ev_con, ev_var, kVar_val, ev_bin, kBin1_val, kBin2_val, kD1_val, kD2a_val, kD2_val, ev_neg, negD, ev_prim, ev_prim2, ev_idx, kIdx_val, kNotX_val, kTruX_val, ev_slFrom, ev_slTo, ev_sorted, ev_listOf, ev_listRange, kTup_val, kLst_val, ev_tup, ev_lst, kNot_val, kBool_val, kTru_val, ev_not, evCmp_cons, evCmp_nil, kCmp1_val, kCmp2_nil, kCmp2_true, kCmp2_false, kCmp0_val, ev_cmp, evB_cmp, kCall_val, kDat_val, ev_call, kCons_val, kArgs_val, evArgs_nil, evArgs_cons, kToDat_dat, kEvs_val, evs_nil, evs_cons, ev_and, ev_or, evAnd_one, Out.noX_val, evOr_one, evAnd_cons, evOr_cons, kAnd_true, kAnd_false, kOr_true, kOr_false, kAnd_val, kOr_val, evAll_nil, evAny_nil, evIfs_nil, evAll_cons, evAny_cons, evIfs_cons, kAll_val, kAny_val, kIfs_val, evB_and, evB_or, evB_not, evB_var, evB_call, evB_prim, ev_isinst, evB_isinst, evB_idx, ev_comp, evI_of', kOf_lst, kOf_tup, kOf_str, evI_range1, evI_range2, kRange2_val, d1_dat, d2_dat, c2_dat, look_dat, bodyF, List.map_cons, List.map_nil, List.cons_append, List.nil_append, List.append_nil, List.replicate_succ, List.replicate_zero, List.getElem?_cons_zero, List.getElem?_cons_succ, List.set_cons_zero, List.set_cons_succ, List.length_cons, List.length_nil, Nat.sub_self, Nat.zero_add, Nat.reduceAdd, Nat.reduceSub, Nat.add_sub_cancel, if_true, if_false, Bool.false_eq_true, Int.reduceLT, Int.reduceLE, Int.reduceNeg, Int.reduceAdd, Int.reduceSub, Int.reduceMul, Int.reduceToNat, Nat.reduceLT, Nat.reduceLeDiff, and_self, and_true, true_and, decide_true, decide_false, Bool.not_true, Bool.not_false, Option.map_some, Option.bind_some, b_add, b_sub, b_mul1, b_mod, b_fdiv, cmp_eq_int, cmp_eq_bool, cmp_lt, cmp_le, cmp_gt, cmp_ge, Int.reduceGT, gt_iff_lt, ge_iff_le, isTy, hca, hk, hw, hge, kApp2_some _ _ _ _ _ hl', List.map_append]
      · rcases List.mem_append.mp hu with h | h
        · exact q2 u h
        · rw [List.mem_singleton.mp h]; exact ⟨by omega, w2⟩) ⟨[], none, rfl, fun w hw => (nomatch hw), rfl, rfl⟩
  simp only [List.length_range] at q1
  refine ⟨m, S, ws, cellAt script 2, y5, ⟨by omega, hS, by omega, fun w hw => by rw [hl]; exact q2 w hw⟩, ?_⟩
  have n10 : cmp2 .ne (.int 10) (.int 10) = some false := rfl
  have n20 : cmp2 .ne (.int 20) (.int 20) = some false := rfl
  have hc0 := hc 0 (by decide)
  have hc1 := hc 1 (by decide)
  have hc2 := hc 2 (by decide)
  simp only [t_law_0, t_law_1, t_law_2, t_law_3, t_law_4, t_law_5, exs_nil, exs_cons, kSeq_next, kSeq_ret, ex_assign, kAsg_val, ex_newlst, kNew_val, ex_append, kApp0_ref, kApp_dat, ex_ret, kRet_dat, ex_ite, kIte_true, kIte_false, kIte_val, ex_for1, ex_for2, evI_enum, ev_lit, ev_con, ev_var, kVar_val, ev_bin, kBin1_val, kBin2_val, kD1_val, kD2a_val, kD2_val, ev_neg, negD, ev_prim, ev_prim2, ev_idx, kIdx_val, kNotX_val, kTruX_val, ev_slFrom, ev_slTo, ev_sorted, ev_listOf, ev_listRange, kTup_val, kLst_val, ev_tup, ev_lst, kNot_val, kBool_val, kTru_val, ev_not, evCmp_cons, evCmp_nil, kCmp1_val, kCmp2_nil, kCmp2_true, kCmp2_false, kCmp0_val, ev_cmp, evB_cmp, kCall_val, kDat_val, ev_call, kCons_val, kArgs_val, evArgs_nil, evArgs_cons, kToDat_dat, kEvs_val, evs_nil, evs_cons, ev_and, ev_or, evAnd_one, Out.noX_val, evOr_one, evAnd_cons, evOr_cons, kAnd_true, kAnd_false, kOr_true, kOr_false, kAnd_val, kOr_val, evAll_nil, evAny_nil, evIfs_nil, evAll_cons, evAny_cons, evIfs_cons, kAll_val, kAny_val, kIfs_val, evB_and, evB_or, evB_not, evB_var, evB_call, evB_prim, ev_isinst, evB_isinst, evB_idx, ev_comp, evI_of', kOf_lst, kOf_tup, kOf_str, evI_range1, evI_range2, kRange2_val, d1_dat, d2_dat, c2_dat, look_dat, bodyF, List.map_cons, List.map_nil, List.cons_append, List.nil_append, List.append_nil, List.replicate_succ, List.replicate_zero, List.getElem?_cons_zero, List.getElem?_cons_succ, List.set_cons_zero, List.set_cons_succ, List.length_cons, List.length_nil, Nat.sub_self, Nat.zero_add, Nat.reduceAdd, Nat.reduceSub, Nat.add_sub_cancel, if_true, if_false, Bool.false_eq_true, Int.reduceLT, Int.reduceLE, Int.reduceNeg, Int.reduceAdd, Int.reduceSub, Int.reduceMul, Int.reduceToNat, Nat.reduceLT, Nat.reduceLeDiff, and_self, and_true, true_and, decide_true, decide_false, Bool.not_true, Bool.not_false, Option.map_some, Option.bind_some, b_add, b_sub, b_mul1, b_mod, b_fdiv, cmp_eq_int, cmp_eq_bool, cmp_lt, cmp_le, cmp_gt, cmp_ge, Int.reduceGT, gt_iff_lt, ge_iff_le, isTy, n10, n20, hc0, hc1, hc2, hm, hse, hj, kRange1_val _ _ hr, rangeD_map, h1]
theorem lawB (script : List Int) (hs : script.length ≤ 63) {m : Nat} {S : List Nat} {ws : List (List Int)} {sz : Int} {y5 : Option Val} (b : Base S ws) : ∃ (k : Nat) (c : Int) (S' : List Nat) (ws' : List (List Int)), Small S' ws' ∧ (0 < k ∧ k ≤ 5 → ¬ goodG S' ws') ∧ (k = 0 ∨ 5 < k → goodG S' ws') ∧
    exs sub (callF sub tab.Δ 49) t_law_6 [some (.dat (.lst (script.map .int))), some (.dat (.int m)), some (.dat (.str S)), some (.dat (.int sz)), some (.ref 0), y5, none, none, none, none, none, none, none] [(true, ws.map wD)] = exs sub (callF sub tab.Δ 49) t_law_10 [some (.dat (.lst (script.map .int))), some (.dat (.int m)), some (.dat (.str S)), some (.dat (.int sz)), some (.ref 0), y5, some (.dat (.int k)), some (.dat (.int c)), some (.dat (.tup [.str S', wsD ws'])), none, none, none, none] [(false, ws.map wD)] := by
  have hc3 := fun τ => c_cell_at (sub := sub) (n := 48) (s := script) (k := 3) (σ := τ) hs (by decide)
  have hc4 := fun τ => c_cell_at (sub := sub) (n := 48) (s := script) (k := 4) (σ := τ) hs (by decide)
  obtain ⟨k, hk⟩ := Int.eq_ofNat_of_zero_le (show 0 ≤ cellAt script 3 % 8 by omega)
  have hge : ([(true, ws.map wD)] : Sto)[0]? = some (true, ws.map wD) := rfl
  have htd : kToDat (.val (.ref 0) [(true, ws.map wD)]) = .val (wsD ws) [(false, ws.map wD)] := kToDat_ref 0 _ true _ hge
  by_cases h0 : k = 0
  · subst h0
    refine ⟨0, cellAt script 4, S, ws, b.small, fun h => by omega, fun _ => b.goodG, ?_⟩
    have g0 : ¬ ((0 : Int) < ((0 : Nat) : Int)) := by decide
    simp only [t_law_6, t_law_7, t_law_8, t_law_9, exs_nil, exs_cons, kSeq_next, kSeq_ret, ex_assign, kAsg_val, ex_newlst, kNew_val, ex_append, kApp0_ref, kApp_dat, ex_ret, kRet_dat, ex_ite, kIte_true, kIte_false, kIte_val, ex_for1, ex_for2, evI_enum, ev_lit, ev_con, ev_var, kVar_val, ev_bin, kBin1_val, kBin2_val, kD1_val, kD2a_val, kD2_val, ev_neg, negD, ev_prim, ev_prim2, ev_idx, kIdx_val, kNotX_val, kTruX_val, ev_slFrom, ev_slTo, ev_sorted, ev_listOf, ev_listRange, kTup_val, kLst_val, ev_tup, ev_lst, kNot_val, kBool_val, kTru_val, ev_not, evCmp_cons, evCmp_nil, kCmp1_val, kCmp2_nil, kCmp2_true, kCmp2_false, kCmp0_val, ev_cmp, evB_cmp, kCall_val, kDat_val, ev_call, kCons_val, kArgs_val, evArgs_nil, evArgs_cons, kToDat_dat, kEvs_val, evs_nil, evs_cons, ev_and, ev_or, evAnd_one, Out.noX_val, evOr_one, evAnd_cons, evOr_cons, kAnd_true, kAnd_false, kOr_true, kOr_false, kAnd_val, kOr_val, evAll_nil, evAny_nil, evIfs_nil, evAll_cons, evAny_cons, evIfs_cons, kAll_val, kAny_val, kIfs_val, evB_and, evB_or, evB_not, evB_var, evB_call, evB_prim, ev_isinst, evB_isinst, evB_idx, ev_comp, evI_of', kOf_lst, kOf_tup, kOf_str, evI_range1, evI_range2, kRange2_val, d1_dat, d2_dat, c2_dat, look_dat, bodyF, List.map_cons, List.map_nil, List.cons_append, List.nil_append, List.append_nil, List.replicate_succ, List.replicate_zero, List.getElem?_cons_zero, List.getElem?_cons_succ, List.set_cons_zero, List.set_cons_succ, List.length_cons, List.length_nil, Nat.sub_self, Nat.zero_add, Nat.reduceAdd, Nat.reduceSub, Nat.add_sub_cancel, if_true, if_false, Bool.false_eq_true, Int.reduceLT, Int.reduceLE, Int.reduceNeg, Int.reduceAdd, Int.reduceSub, Int.reduceMul, Int.reduceToNat, Nat.reduceLT, Nat.reduceLeDiff, and_self, and_true, true_and, decide_true, decide_false, Bool.not_true, Bool.not_false, Option.map_some, Option.bind_some, b_add, b_sub, b_mul1, b_mod, b_fdiv, cmp_eq_int, cmp_eq_bool, cmp_lt, cmp_le, cmp_gt, cmp_ge, Int.reduceGT, gt_iff_lt, ge_iff_le, isTy, hc3, hc4, hk, htd, g0]
  · obtain ⟨S', ws', q1, q2, q3, q4⟩ := c_faulty (sub := sub) (n := 47) (c := cellAt script 4) (k := k) (v := .ref 0) (σ := [(false, ws.map wD)]) b rfl (kToDat_ref 0 _ false _ rfl) (by omega) (by omega)
    refine ⟨k, cellAt script 4, S', ws', q1, fun h => q2 h.2, fun h => q3 (by omega), ?_⟩
    have g0 : (0 : Int) < (k : Int) := by omega
    simp only [t_law_6, t_law_7, t_law_8, t_law_9, exs_nil, exs_cons, kSeq_next, kSeq_ret, ex_assign, kAsg_val, ex_newlst, kNew_val, ex_append, kApp0_ref, kApp_dat, ex_ret, kRet_dat, ex_ite, kIte_true, kIte_false, kIte_val, ex_for1, ex_for2, evI_enum, ev_lit, ev_con, ev_var, kVar_val, ev_bin, kBin1_val, kBin2_val, kD1_val, kD2a_val, kD2_val, ev_neg, negD, ev_prim, ev_prim2, ev_idx, kIdx_val, kNotX_val, kTruX_val, ev_slFrom, ev_slTo, ev_sorted, ev_listOf, ev_listRange, kTup_val, kLst_val, ev_tup, ev_lst, kNot_val, kBool_val, kTru_val, ev_not, evCmp_cons, evCmp_nil, kCmp1_val, kCmp2_nil, kCmp2_true, kCmp2_false, kCmp0_val, ev_cmp, evB_cmp, kCall_val, kDat_val, ev_call, kCons_val, kArgs_val, evArgs_nil, evArgs_cons, kToDat_dat, kEvs_val, evs_nil, evs_cons, ev_and, ev_or, evAnd_one, Out.noX_val, evOr_one, evAnd_cons, evOr_cons, kAnd_true, kAnd_false, kOr_true, kOr_false, kAnd_val, kOr_val, evAll_nil, evAny_nil, evIfs_nil, evAll_cons, evAny_cons, evIfs_cons, kAll_val, kAny_val, kIfs_val, evB_and, evB_or, evB_not, evB_var, evB_call, evB_prim, ev_isinst, evB_isinst, evB_idx, ev_comp, evI_of', kOf_lst, kOf_tup, kOf_str, evI_range1, evI_range2, kRange2_val, d1_dat, d2_dat, c2_dat, look_dat, bodyF, List.map_cons, List.map_nil, List.cons_append, List.nil_append, List.append_nil, List.replicate_succ, List.replicate_zero, List.getElem?_cons_zero, List.getElem?_cons_succ, List.set_cons_zero, List.set_cons_succ, List.length_cons, List.length_nil, Nat.sub_self, Nat.zero_add, Nat.reduceAdd, Nat.reduceSub, Nat.add_sub_cancel, if_true, if_false, Bool.false_eq_true, Int.reduceLT, Int.reduceLE, Int.reduceNeg, Int.reduceAdd, Int.reduceSub, Int.reduceMul, Int.reduceToNat, Nat.reduceLT, Nat.reduceLeDiff, and_self, and_true, true_and, decide_true, decide_false, Bool.not_true, Bool.not_false, Option.map_some, Option.bind_some, b_add, b_sub, b_mul1, b_mod, b_fdiv, cmp_eq_int, cmp_eq_bool, cmp_lt, cmp_le, cmp_gt, cmp_ge, Int.reduceGT, gt_iff_lt, ge_iff_le, isTy, hc3, hc4, hk, htd, g0, q4]

theorem lawC (script : List Int) (hs : script.length ≤ 63) {m : Nat} {S : List Nat} {ws : List (List Int)} {sz : Int} {y5 : Option Val} {k : Nat} {c : Int} {S' : List Nat} {ws' : List (List Int)} (h1 : Small S' ws') (h2 : 0 < k ∧ k ≤ 5 → ¬ goodG S' ws') (h3 : k = 0 ∨ 5 < k → goodG S' ws') :
    exs sub (callF sub tab.Δ 49) t_law_10 [some (.dat (.lst (script.map .int))), some (.dat (.int m)), some (.dat (.str S)), some (.dat (.int sz)), some (.ref 0), y5, some (.dat (.int k)), some (.dat (.int c)), some (.dat (.tup [.str S', wsD ws'])), none, none, none, none] [(false, ws.map wD)] = .ret (.bool true) [(false, ws.map wD)] := by
  have hc3 := fun τ => c_cell_at (sub := sub) (n := 48) (s := script) (k := 3) (σ := τ) hs (by decide)
  have j0 : idx2 (.tup [.str S', wsD ws']) (.int 0) = some (.str S') := rfl
  have j1 : idx2 (.tup [.str S', wsD ws']) (.int 1) = some (wsD ws') := rfl
  have hof : ∀ τ : Sto, kOf (.val (.dat (wsD ws')) τ) = .val ⟨ws'.map wD, none⟩ τ := fun _ => rfl
  have heq := cmp_eq_self (wsD ws') (ok_ws ws')
  have hcp := copy_ws (sub := sub) (C := callF sub tab.Δ 49) (x := 12) (ρ := [some (.dat (.lst (script.map .int))), some (.dat (.int m)), some (.dat (.str S)), some (.dat (.int sz)), some (.ref 0), y5, some (.dat (.int k)), some (.dat (.int c)), some (.dat (.tup [.str S', wsD ws'])), none, none, none, none]) (σ := [(false, ws.map wD)]) (show 12 < 13 by decide) h1
  have e10 : exs sub (callF sub tab.Δ 49) t_law_10 [some (.dat (.lst (script.map .int))), some (.dat (.int m)), some (.dat (.str S)), some (.dat (.int sz)), some (.ref 0), y5, some (.dat (.int k)), some (.dat (.int c)), some (.dat (.tup [.str S', wsD ws'])), none, none, none, none] [(false, ws.map wD)] = exs sub (callF sub tab.Δ 49) t_law_11 [some (.dat (.lst (script.map .int))), some (.dat (.int m)), some (.dat (.str S)), some (.dat (.int sz)), some (.ref 0), y5, some (.dat (.int k)), some (.dat (.int c)), some (.dat (.tup [.str S', wsD ws'])), some (.dat (wsD ws')), none, none, none] [(false, ws.map wD)] := by
    simp only [t_law_10, exs_nil, exs_cons, kSeq_next, kSeq_ret, ex_assign, kAsg_val, ex_newlst, kNew_val, ex_append, kApp0_ref, kApp_dat, ex_ret, kRet_dat, ex_ite, kIte_true, kIte_false, kIte_val, ex_for1, ex_for2, evI_enum, ev_lit, ev_con, ev_var, kVar_val, ev_bin, kBin1_val, kBin2_val, kD1_val, kD2a_val, kD2_val, ev_neg, negD, ev_prim, ev_prim2, ev_idx, kIdx_val, kNotX_val, kTruX_val, ev_slFrom, ev_slTo, ev_sorted, ev_listOf, ev_listRange, kTup_val, kLst_val, ev_tup, ev_lst, kNot_val, kBool_val, kTru_val, ev_not, evCmp_cons, evCmp_nil, kCmp1_val, kCmp2_nil, kCmp2_true, kCmp2_false, kCmp0_val, ev_cmp, evB_cmp, kCall_val, kDat_val, ev_call, kCons_val, kArgs_val, evArgs_nil, evArgs_cons, kToDat_dat, kEvs_val, evs_nil, evs_cons, ev_and, ev_or, evAnd_one, Out.noX_val, evOr_one, evAnd_cons, evOr_cons, kAnd_true, kAnd_false, kOr_true, kOr_false, kAnd_val, kOr_val, evAll_nil, evAny_nil, evIfs_nil, evAll_cons, evAny_cons, evIfs_cons, kAll_val, kAny_val, kIfs_val, evB_and, evB_or, evB_not, evB_var, evB_call, evB_prim, ev_isinst, evB_isinst, evB_idx, ev_comp, evI_of', kOf_lst, kOf_tup, kOf_str, evI_range1, evI_range2, kRange2_val, d1_dat, d2_dat, c2_dat, look_dat, bodyF, List.map_cons, List.map_nil, List.cons_append, List.nil_append, List.append_nil, List.replicate_succ, List.replicate_zero, List.getElem?_cons_zero, List.getElem?_cons_succ, List.set_cons_zero, List.set_cons_succ, List.length_cons, List.length_nil, Nat.sub_self, Nat.zero_add, Nat.reduceAdd, Nat.reduceSub, Nat.add_sub_cancel, if_true, if_false, Bool.false_eq_true, Int.reduceLT, Int.reduceLE, Int.reduceNeg, Int.reduceAdd, Int.reduceSub, Int.reduceMul, Int.reduceToNat, Nat.reduceLT, Nat.reduceLeDiff, and_self, and_true, true_and, decide_true, decide_false, Bool.not_true, Bool.not_false, Option.map_some, Option.bind_some, b_add, b_sub, b_mul1, b_mod, b_fdiv, cmp_eq_int, cmp_eq_bool, cmp_lt, cmp_le, cmp_gt, cmp_ge, Int.reduceGT, gt_iff_lt, ge_iff_le, isTy, j1, hof, hcp]
  rw [e10]
  by_cases hk : k = 0 ∨ 5 < k
  · have hck := (c_check (sub := sub) (n := 48) (σ := [(false, ws.map wD)]) h1).1 (h3 hk)
    have hin : cmp2 .is .none .none = some true := rfl
    have hcond : evB sub (callF sub tab.Δ 49) (.or (.cons (.cmp (.var 6) (.cons .eq (.lit (.int 0)) .nil)) (.cons (.cmp (.var 6) (.cons .gt (.lit (.int 5)) .nil)) .nil))) [some (.dat (.lst (script.map .int))), some (.dat (.int m)), some (.dat (.str S)), some (.dat (.int sz)), some (.ref 0), y5, some (.dat (.int k)), some (.dat (.int c)), some (.dat (.tup [.str S', wsD ws'])), some (.dat (wsD ws')), none, none, none] [(false, ws.map wD)] = .val true [(false, ws.map wD)] := by
      by_cases hk0 : k = 0
      · subst hk0
        simp only [exs_nil, exs_cons, kSeq_next, kSeq_ret, ex_assign, kAsg_val, ex_newlst, kNew_val, ex_append, kApp0_ref, kApp_dat, ex_ret, kRet_dat, ex_ite, kIte_true, kIte_false, kIte_val, ex_for1, ex_for2, evI_enum, ev_lit, ev_con, ev_var, kVar_val, ev_bin, kBin1_val, kBin2_val, kD1_val, kD2a_val, kD2_val, ev_neg, negD, ev_prim, ev_prim2, ev_idx, kIdx_val, kNotX_val, kTruX_val, ev_slFrom, ev_slTo, ev_sorted, ev_listOf, ev_listRange, kTup_val, kLst_val, ev_tup, ev_lst, kNot_val, kBool_val, kTru_val, ev_not, evCmp_cons, evCmp_nil, kCmp1_val, kCmp2_nil, kCmp2_true, kCmp2_false, kCmp0_val, ev_cmp, evB_cmp, kCall_val, kDat_val, ev_call, kCons_val, kArgs_val, evArgs_nil, evArgs_cons, kToDat_dat, kEvs_val, evs_nil, evs_cons, ev_and, ev_or, evAnd_one, Out.noX_val, evOr_one, evAnd_cons, evOr_cons, kAnd_true, kAnd_false, kOr_true, kOr_false, kAnd_val, kOr_val, evAll_nil, evAny_nil, evIfs_nil, evAll_cons, evAny_cons, evIfs_cons, kAll_val, kAny_val, kIfs_val, evB_and, evB_or, evB_not, evB_var, evB_call, evB_prim, ev_isinst, evB_isinst, evB_idx, ev_comp, evI_of', kOf_lst, kOf_tup, kOf_str, evI_range1, evI_range2, kRange2_val, d1_dat, d2_dat, c2_dat, look_dat, bodyF, List.map_cons, List.map_nil, List.cons_append, List.nil_append, List.append_nil, List.replicate_succ, List.replicate_zero, List.getElem?_cons_zero, List.getElem?_cons_succ, List.set_cons_zero, List.set_cons_succ, List.length_cons, List.length_nil, Nat.sub_self, Nat.zero_add, Nat.reduceAdd, Nat.reduceSub, Nat.add_sub_cancel, if_true, if_false, Bool.false_eq_true, Int.reduceLT, Int.reduceLE, Int.reduceNeg, Int.reduceAdd, Int.reduceSub, Int.reduceMul, Int.reduceToNat, Nat.reduceLT, Nat.reduceLeDiff, and_self, and_true, true_and, decide_true, decide_false, Bool.not_true, Bool.not_false, Option.map_some, Option.bind_some, b_add, b_sub, b_mul1, b_mod, b_fdiv, cmp_eq_int, cmp_eq_bool, cmp_lt, cmp_le, cmp_gt, cmp_ge, Int.reduceGT, gt_iff_lt, ge_iff_le, isTy, show (((0 : Nat) : Int) == 0) = true from rfl]
      · have e0 : ((k : Int) == 0) = false := by simp; omega
        have e5 : (5 : Int) < k := by omega
        simp only [exs_nil, exs_cons, kSeq_next, kSeq_ret, ex_assign, kAsg_val, ex_newlst, kNew_val, ex_append, kApp0_ref, kApp_dat, ex_ret, kRet_dat, ex_ite, kIte_true, kIte_false, kIte_val, ex_for1, ex_for2, evI_enum, ev_lit, ev_con, ev_var, kVar_val, ev_bin, kBin1_val, kBin2_val, kD1_val, kD2a_val, kD2_val, ev_neg, negD, ev_prim, ev_prim2, ev_idx, kIdx_val, kNotX_val, kTruX_val, ev_slFrom, ev_slTo, ev_sorted, ev_listOf, ev_listRange, kTup_val, kLst_val, ev_tup, ev_lst, kNot_val, kBool_val, kTru_val, ev_not, evCmp_cons, evCmp_nil, kCmp1_val, kCmp2_nil, kCmp2_true, kCmp2_false, kCmp0_val, ev_cmp, evB_cmp, kCall_val, kDat_val, ev_call, kCons_val, kArgs_val, evArgs_nil, evArgs_cons, kToDat_dat, kEvs_val, evs_nil, evs_cons, ev_and, ev_or, evAnd_one, Out.noX_val, evOr_one, evAnd_cons, evOr_cons, kAnd_true, kAnd_false, kOr_true, kOr_false, kAnd_val, kOr_val, evAll_nil, evAny_nil, evIfs_nil, evAll_cons, evAny_cons, evIfs_cons, kAll_val, kAny_val, kIfs_val, evB_and, evB_or, evB_not, evB_var, evB_call, evB_prim, ev_isinst, evB_isinst, evB_idx, ev_comp, evI_of', kOf_lst, kOf_tup, kOf_str, evI_range1, evI_range2, kRange2_val, d1_dat, d2_dat, c2_dat, look_dat, bodyF, List.map_cons, List.map_nil, List.cons_append, List.nil_append, List.append_nil, List.replicate_succ, List.replicate_zero, List.getElem?_cons_zero, List.getElem?_cons_succ, List.set_cons_zero, List.set_cons_succ, List.length_cons, List.length_nil, Nat.sub_self, Nat.zero_add, Nat.reduceAdd, Nat.reduceSub, Nat.add_sub_cancel, if_true, if_false, Bool.false_eq_true, Int.reduceLT, Int.reduceLE, Int.reduceNeg, Int.reduceAdd, Int.reduceSub, Int.reduceMul, Int.reduceToNat, Nat.reduceLT, Nat.reduceLeDiff, and_self, and_true, true_and, decide_true, decide_false, Bool.not_true, Bool.not_false, Option.map_some, Option.bind_some, b_add, b_sub, b_mul1, b_mod, b_fdiv, cmp_eq_int, cmp_eq_bool, cmp_lt, cmp_le, cmp_gt, cmp_ge, Int.reduceGT, gt_iff_lt, ge_iff_le, isTy, e0, e5]
    generalize wsD ws' = Z at j0 j1 heq hck hcond
    generalize hSS : Dat.str S' = Y at j0 j1 hck hcond
    simp only [t_law_11, exs_cons, ex_ite, hcond, kIte_true]
    simp only [exs_nil, exs_cons, kSeq_next, kSeq_ret, ex_assign, kAsg_val, ex_newlst, kNew_val, ex_append, kApp0_ref, kApp_dat, ex_ret, kRet_dat, ex_ite, kIte_true, kIte_false, kIte_val, ex_for1, ex_for2, evI_enum, ev_lit, ev_con, ev_var, kVar_val, ev_bin, kBin1_val, kBin2_val, kD1_val, kD2a_val, kD2_val, ev_neg, negD, ev_prim, ev_prim2, ev_idx, kIdx_val, kNotX_val, kTruX_val, ev_slFrom, ev_slTo, ev_sorted, ev_listOf, ev_listRange, kTup_val, kLst_val, ev_tup, ev_lst, kNot_val, kBool_val, kTru_val, ev_not, evCmp_cons, evCmp_nil, kCmp1_val, kCmp2_nil, kCmp2_true, kCmp2_false, kCmp0_val, ev_cmp, evB_cmp, kCall_val, kDat_val, ev_call, kCons_val, kArgs_val, evArgs_nil, evArgs_cons, kToDat_dat, kEvs_val, evs_nil, evs_cons, ev_and, ev_or, evAnd_one, Out.noX_val, evOr_one, evAnd_cons, evOr_cons, kAnd_true, kAnd_false, kOr_true, kOr_false, kAnd_val, kOr_val, evAll_nil, evAny_nil, evIfs_nil, evAll_cons, evAny_cons, evIfs_cons, kAll_val, kAny_val, kIfs_val, evB_and, evB_or, evB_not, evB_var, evB_call, evB_prim, ev_isinst, evB_isinst, evB_idx, ev_comp, evI_of', kOf_lst, kOf_tup, kOf_str, evI_range1, evI_range2, kRange2_val, d1_dat, d2_dat, c2_dat, look_dat, bodyF, List.map_cons, List.map_nil, List.cons_append, List.nil_append, List.append_nil, List.replicate_succ, List.replicate_zero, List.getElem?_cons_zero, List.getElem?_cons_succ, List.set_cons_zero, List.set_cons_succ, List.length_cons, List.length_nil, Nat.sub_self, Nat.zero_add, Nat.reduceAdd, Nat.reduceSub, Nat.add_sub_cancel, if_true, if_false, Bool.false_eq_true, Int.reduceLT, Int.reduceLE, Int.reduceNeg, Int.reduceAdd, Int.reduceSub, Int.reduceMul, Int.reduceToNat, Nat.reduceLT, Nat.reduceLeDiff, and_self, and_true, true_and, decide_true, decide_false, Bool.not_true, Bool.not_false, Option.map_some, Option.bind_some, b_add, b_sub, b_mul1, b_mod, b_fdiv, cmp_eq_int, cmp_eq_bool, cmp_lt, cmp_le, cmp_gt, cmp_ge, Int.reduceGT, gt_iff_lt, ge_iff_le, isTy, j0, j1, hck, hin, heq]
  · have e0 : ((k : Int) == 0) = false := by simp; omega
    have e5 : ¬ ((5 : Int) < k) := by omega
    have hre := fun (w : Int) (b : Bool) => c_refused (sub := sub) (n := 44) (k := w) (b := b) (σ := [(false, ws.map wD)]) rfl h1 (h2 (by omega))
    have hofB : ∀ τ : Sto, kOf (.val (.dat (.tup [.bool false, .bool true])) τ) = .val ⟨[false, true].map .bool, none⟩ τ := fun _ => rfl
    obtain ⟨ρ', σ', q1, ⟨y, rfl⟩, rfl⟩ := kFor_all (sub := sub) (C := callF sub tab.Δ 49) (x := 11) (body := b_law_1) (em := Dat.bool) (l := [false, true]) (ρ := [some (.dat (.lst (script.map .int))), some (.dat (.int m)), some (.dat (.str S)), some (.dat (.int sz)), some (.ref 0), y5, some (.dat (.int k)), some (.dat (.int c)), some (.dat (.tup [.str S', wsD ws'])), some (.dat (wsD ws')), some (.dat (.int (cellAt script 3 / 8 % 4))), none, none]) (σ := [(false, ws.map wD)])
      (fun pre ρ τ => (∃ y, ρ = [some (.dat (.lst (script.map .int))), some (.dat (.int m)), some (.dat (.str S)), some (.dat (.int sz)), some (.ref 0), y5, some (.dat (.int k)), some (.dat (.int c)), some (.dat (.tup [.str S', wsD ws'])), some (.dat (wsD ws')), some (.dat (.int (cellAt script 3 / 8 % 4))), y, none]) ∧ τ = [(false, ws.map wD)]) (by decide) (fun pre a post ρ τ he hP => by
        obtain ⟨⟨y, rfl⟩, rfl⟩ := hP
        refine ⟨_, _, ?_, ⟨some (.dat (.bool a)), rfl⟩, rfl⟩
        have := hre (cellAt script 3 / 8 % 4) a
        generalize wsD ws' = Z at j0 j1 this
        generalize Dat.str S' = Y at j0 j1 this
        simp only [b_law_1, exs_nil, exs_cons, kSeq_next, kSeq_ret, ex_assign, kAsg_val, ex_newlst, kNew_val, ex_append, kApp0_ref, kApp_dat, ex_ret, kRet_dat, ex_ite, kIte_true, kIte_false, kIte_val, ex_for1, ex_for2, evI_enum, ev_lit, ev_con, ev_var, kVar_val, ev_bin, kBin1_val, kBin2_val, kD1_val, kD2a_val, kD2_val, ev_neg, negD, ev_prim, ev_prim2, ev_idx, kIdx_val, kNotX_val, kTruX_val, ev_slFrom, ev_slTo, ev_sorted, ev_listOf, ev_listRange, kTup_val, kLst_val, ev_tup, ev_lst, kNot_val, kBool_val, kTru_val, ev_not, evCmp_cons, evCmp_nil, kCmp1_val, kCmp2_nil, kCmp2_true, kCmp2_false, kCmp0_val, ev_cmp, evB_cmp, kCall_val, kDat_val, ev_call, kCons_val, kArgs_val, evArgs_nil, evArgs_cons, kToDat_dat, kEvs_val, evs_nil, evs_cons, ev_and, ev_or, evAnd_one, Out.noX_val, evOr_one, evAnd_cons, evOr_cons, kAnd_true, kAnd_false, kOr_true, kOr_false, kAnd_val, kOr_val, evAll_nil, evAny_nil, evIfs_nil, evAll_cons, evAny_cons, evIfs_cons, kAll_val, kAny_val, kIfs_val, evB_and, evB_or, evB_not, evB_var, evB_call, evB_prim, ev_isinst, evB_isinst, evB_idx, ev_comp, evI_of', kOf_lst, kOf_tup, kOf_str, evI_range1, evI_range2, kRange2_val, d1_dat, d2_dat, c2_dat, look_dat, bodyF, List.map_cons, List.map_nil, List.cons_append, List.nil_append, List.append_nil, List.replicate_succ, List.replicate_zero, List.getElem?_cons_zero, List.getElem?_cons_succ, List.set_cons_zero, List.set_cons_succ, List.length_cons, List.length_nil, Nat.sub_self, Nat.zero_add, Nat.reduceAdd, Nat.reduceSub, Nat.add_sub_cancel, if_true, if_false, Bool.false_eq_true, Int.reduceLT, Int.reduceLE, Int.reduceNeg, Int.reduceAdd, Int.reduceSub, Int.reduceMul, Int.reduceToNat, Nat.reduceLT, Nat.reduceLeDiff, and_self, and_true, true_and, decide_true, decide_false, Bool.not_true, Bool.not_false, Option.map_some, Option.bind_some, b_add, b_sub, b_mul1, b_mod, b_fdiv, cmp_eq_int, cmp_eq_bool, cmp_lt, cmp_le, cmp_gt, cmp_ge, Int.reduceGT, gt_iff_lt, ge_iff_le, isTy, j0, this]) ⟨⟨none, rfl⟩, rfl⟩
    simp only [List.map_cons, List.map_nil] at q1
    generalize wsD ws' = Z at j0 j1 heq q1
    simp only [t_law_11, t_law_12, t_law_13, t_law_14, exs_nil, exs_cons, kSeq_next, kSeq_ret, ex_assign, kAsg_val, ex_newlst, kNew_val, ex_append, kApp0_ref, kApp_dat, ex_ret, kRet_dat, ex_ite, kIte_true, kIte_false, kIte_val, ex_for1, ex_for2, evI_enum, ev_lit, ev_con, ev_var, kVar_val, ev_bin, kBin1_val, kBin2_val, kD1_val, kD2a_val, kD2_val, ev_neg, negD, ev_prim, ev_prim2, ev_idx, kIdx_val, kNotX_val, kTruX_val, ev_slFrom, ev_slTo, ev_sorted, ev_listOf, ev_listRange, kTup_val, kLst_val, ev_tup, ev_lst, kNot_val, kBool_val, kTru_val, ev_not, evCmp_cons, evCmp_nil, kCmp1_val, kCmp2_nil, kCmp2_true, kCmp2_false, kCmp0_val, ev_cmp, evB_cmp, kCall_val, kDat_val, ev_call, kCons_val, kArgs_val, evArgs_nil, evArgs_cons, kToDat_dat, kEvs_val, evs_nil, evs_cons, ev_and, ev_or, evAnd_one, Out.noX_val, evOr_one, evAnd_cons, evOr_cons, kAnd_true, kAnd_false, kOr_true, kOr_false, kAnd_val, kOr_val, evAll_nil, evAny_nil, evIfs_nil, evAll_cons, evAny_cons, evIfs_cons, kAll_val, kAny_val, kIfs_val, evB_and, evB_or, evB_not, evB_var, evB_call, evB_prim, ev_isinst, evB_isinst, evB_idx, ev_comp, evI_of', kOf_lst, kOf_tup, kOf_str, evI_range1, evI_range2, kRange2_val, d1_dat, d2_dat, c2_dat, look_dat, bodyF, List.map_cons, List.map_nil, List.cons_append, List.nil_append, List.append_nil, List.replicate_succ, List.replicate_zero, List.getElem?_cons_zero, List.getElem?_cons_succ, List.set_cons_zero, List.set_cons_succ, List.length_cons, List.length_nil, Nat.sub_self, Nat.zero_add, Nat.reduceAdd, Nat.reduceSub, Nat.add_sub_cancel, if_true, if_false, Bool.false_eq_true, Int.reduceLT, Int.reduceLE, Int.reduceNeg, Int.reduceAdd, Int.reduceSub, Int.reduceMul, Int.reduceToNat, Nat.reduceLT, Nat.reduceLeDiff, and_self, and_true, true_and, decide_true, decide_false, Bool.not_true, Bool.not_false, Option.map_some, Option.bind_some, b_add, b_sub, b_mul1, b_mod, b_fdiv, cmp_eq_int, cmp_eq_bool, cmp_lt, cmp_le, cmp_gt, cmp_ge, Int.reduceGT, gt_iff_lt, ge_iff_le, isTy, e0, e5, hc3, hofB, q1, j1, heq]
theorem law_true (script : List Int) (hs : script.length ≤ 63) : callF sub tab.Δ 50 lawNo [.dat (.lst (script.map .int))] [] = .val (.bool true) [] := by
  obtain ⟨m, S, ws, sz, y5, b, hA⟩ := lawA (sub := sub) script hs
  obtain ⟨k, c, S', ws', h1, h2, h3, hB⟩ := lawB (sub := sub) script hs (m := m) (sz := sz) (y5 := y5) b
  exact call_ret (fn := fn_law) (σ' := [(false, ws.map wD)]) rfl rfl (hA.trans (hB.trans (lawC script hs h1 h2 h3))) (by simp)
end
end Mine

namespace Mine
open PySem PySem.W PyProof.Rows
/-- the head: the top of the text, run once -/
noncomputable def keepSt : Stmt → Bool
  | .Assign [.Name n _] _ _ => !(n == ("__name__" : PySem.Str))
  | _ => true
abbrev theRow : OpenRow := OpenLaw.row PySem.Challenge.rw_uf060010_05
noncomputable def view : Program := { theRow.prog with main := { theRow.prog.main with body := theRow.prog.main.body.filter keepSt } }
set_option maxRecDepth 100000 in
theorem left : LeftO theRow.prog view [] (fun s => clsAll s.heap && recOk (RowW.records theRow.toRowW) s) (Hook.obs Hook.none) (Hook.val Hook.none) 3000 := fun w => by kernel_rfl
end Mine
open PySem PySem.W PyProof.Rows
set_option maxRecDepth 100000 in
set_option maxHeartbeats 8000000 in
theorem PySem.Challenge.cw_uf060010_05_holds : PySem.Challenge.rw_uf060010_05.Holds := by
  w_on
  refine holds_law (by decide +kernel) fun said => ?_
  change OpenRow.Holds Mine.theRow
  refine PySem.W.holds_open (q := Mine.view) (loose := []) (XP := fun mg h => Mine.ClsOk h mg) (YP := Hook.says Hook.none) Mine.left (Hook.of Hook.none) (Hook.keeps Hook.none) (fun s e => Mine.cls_ok (Bool.and_eq_true_iff.mp e).1) (fun mg h h' x hk => x.keeps hk) (by rfl) (by rfl) (by rfl) (fun s e => recFacts_of (Bool.and_eq_true_iff.mp e).2) (by rfl) (by first | assumption | decide +kernel) (by decide +kernel) ⟨rfl, rfl, rfl, rfl, rfl, by decide +kernel⟩ ?hw ?hc
  case hw => w_witness2
  intro w s₀ s₁ mg mb G Y fa o pm cd doc dV kV ho hd hcd hD hmg hg args vals as hpre hlay hrd hwl hlo
  have TT := G.T
  have KK := G.X
  clear Y ho hd hcd hD
  wrow_args hpre hlay hrd hwl hlo
  rename_i script hs1 hlay1 hL1 hr1 hl21 as1 as2 la vs as3 hL2 ra1 w1 r01 hI hr2 hcond hcond2
  refine Mine.law_glue (sub := fun _ _ => false) (f := Mine.lawNo) (n := 50) (Mine.wd_of TT Mine.tab [("MOST_LAMPS", .int 10), ("MOST_WISHES", .int 20), ("MOST_NUMBERS", .int 10)] (by decide +kernel) (by decide +kernel) (Mine.con_ok (by intro e he; simp only [List.mem_cons, List.not_mem_nil, or_false] at he; rcases he with rfl | rfl | rfl <;> exact ⟨_, rfl, by kernel_rfl⟩))) KK rfl rfl hmg hL2 hI (by decide) (Mine.law_true script (by omega)) fun h' tk hk => ?_
  exact ⟨.inl ⟨_, _, [], rfl, fun _ => rfl, ReadsW.bool true, by first | rfl | wrow_post, fun _ => ⟨List.nodup_nil, fun _ hm => (nomatch hm)⟩⟩, .of_keep hk, rfl, .of_eq hg⟩
