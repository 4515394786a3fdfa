import PyProof.Rows.All
import Wide.All
import OpenK.AllK
import Wide.FinOn
import HandS.ForMost
import HandS.Wide
import HandS.WideMore
import HandS.TupAny
import HandS.TupLe
import HandS.Style
import HandS.Flow
import HandS.Rev
import HandS.IsInst
import HandS.RaiseMore
import HandS.Deep
import HandS.Gcd
import HandS.Iter
import HandS.Conv
import KE.DatumOrd
import KE.KDictKeyed
import KE.KDictCopyH
import KE.KDictWalk
import HandS.DictComp
import HandS.TupLen
import HandS.SetKeys
import HandS.More
import HandS.TupMul
import HandS.Exc
import HandS.ExcInit
import HandS.ExcField
import HandS.ExcIs
import HandS.ExcOwn
import HandS.WordsExc
import KE.KExcIs
import HandS.TryOnly
import PySem.Challenge.RW_chartspec_k39_errors_stand_apart
set_option Elab.async false
set_option linter.all false
set_option maxRecDepth 100000

/-! DL: values as data (D), a store of lists (Sto), and what is asked of each construct over them: no program, no machine in sight. -/
namespace DL
open PySem

inductive D where
  | non
  | bl (b : Bool)
  | int (i : Int)
  | str (x : Str)
  | tup (xs : List D)
  | ref (a : Addr)
  /-- a list that nobody changes (the script) -/
  | frz (xs : List D)
  | ty (n : String)
  /-- a caught exception: it stands at a, its dict at d, with the one field f -/
  | exc (a d : Addr) (f : Str) (v : D)

/-- an object of the store: a list that may change; the law's tape, over the list at q -/
inductive LO where
  | lst (xs : List D)
  | tape (q : Addr)
  /-- a dict: the object as it stands, its keys and values -/
  | dic (o : Obj) (kvs : List (D × D))

/-! ### keys of dicts -/
mutual
def nkD : D → NestedKey
  | .non => .none
  | .bl b => .num (if b = true then 1 else 0)
  | .int i => .num i
  | .str x => .text x
  | .tup xs => .tup (nkDs xs)
  | .ref _ | .frz _ | .ty _ | .exc _ _ _ _ => .none
def nkDs : List D → List NestedKey
  | [] => []
  | x :: xs => nkD x :: nkDs xs
end
mutual
/-- what may stand in a key -/
def kyD : D → Bool
  | .non | .bl _ | .int _ | .str _ => true
  | .tup xs => kyDs xs
  | .ref _ | .frz _ | .ty _ | .exc _ _ _ _ => false
def kyDs : List D → Bool
  | [] => true
  | x :: xs => kyD x && kyDs xs
end
/-- a key that is a tuple; one that is none -/
def keyT (d : D) : Bool := match d with
  | .tup xs => kyDs xs && decide ((nkD d).depth ≤ 8)
  | _ => false
def keyL : D → Bool
  | .non | .int _ | .str _ => true
  | _ => false
def leafD : D → Leaf
  | .int i => .num i
  | .str x => .text x
  | _ => .none
/-- a key that fits a dict's keys -/
def keyOk (kvs : List (D × D)) (k : D) : Bool := (keyT k && kvs.all fun kv => keyT kv.1) || (keyL k && kvs.all fun kv => keyL kv.1)
def dicGet (kvs : List (D × D)) (k : D) : Option D := (kvs.find? fun kv => decide (nkD kv.1 = nkD k)).map (·.2)
def dicPut (kvs : List (D × D)) (k v : D) : List (D × D) :=
  if (dicGet kvs k).isSome then kvs.map fun kv => if nkD kv.1 = nkD k then (kv.1, v) else kv else kvs ++ [(k, v)]

abbrev Sto := List (Addr × LO)
def sget : Sto → Addr → Option LO
  | [], _ => none
  | (p, o) :: r, a => if a = p then some o else sget r a
def sset : Sto → Addr → LO → Sto
  | [], _, _ => []
  | (p, o') :: r, a, o => if a = p then (p, o) :: r else (p, o') :: sset r a o

theorem sget_nil (a : Addr) : sget [] a = none := rfl
theorem sget_cons (p : Addr) (o : LO) (r : Sto) (a : Addr) : sget ((p, o) :: r) a = if a = p then some o else sget r a := rfl
theorem sget_self (p : Addr) (o : LO) (r : Sto) : sget ((p, o) :: r) p = some o := by rw [sget_cons, if_pos rfl]
theorem sget_ne {p a : Addr} {o : LO} {r : Sto} (h : a ≠ p) : sget ((p, o) :: r) a = sget r a := by rw [sget_cons, if_neg h]
theorem sset_self (p : Addr) (o o' : LO) (r : Sto) : sset ((p, o') :: r) p o = (p, o) :: r := by
  show (if p = p then _ else _) = _
  rw [if_pos rfl]
theorem sset_ne {p a : Addr} {o o' : LO} {r : Sto} (h : a ≠ p) : sset ((p, o') :: r) a o = (p, o') :: sset r a o := by
  show (if a = p then _ else _) = _
  rw [if_neg h]
theorem sset_cons (p : Addr) (o' : LO) (r : Sto) (a : Addr) (o : LO) : sset ((p, o') :: r) a o = if a = p then (p, o) :: r else (p, o') :: sset r a o := rfl
theorem sget_sset : ∀ (S : Sto) (a b : Addr) (o : LO), (sget S a).isSome = true → sget (sset S a o) b = if b = a then some o else sget S b
  | [], a, b, o, h => by cases h
  | (p, u) :: r, a, b, o, h => by
    by_cases hp : a = p
    · subst hp
      rw [sset_self, sget_cons, sget_cons]
      by_cases hb : b = a
      · rw [if_pos hb, if_pos hb]
      · rw [if_neg hb, if_neg hb, if_neg hb]
    · rw [sset_ne hp, sget_cons]
      rw [sget_ne hp] at h
      by_cases hb : b = p
      · subst hb
        rw [if_pos rfl, if_neg (Ne.symm hp), sget_self]
      · rw [if_neg hb, sget_sset r a b o h, sget_ne hb]

/-- with the list at a -/
def onL (S : Sto) (a : Addr) (k : List D → Prop) : Prop := match sget S a with
  | some (.lst xs) => k xs
  | _ => False
theorem onL_iff {S : Sto} {a : Addr} {k : List D → Prop} : onL S a k ↔ ∃ xs, sget S a = some (.lst xs) ∧ k xs := by
  unfold onL
  constructor
  · intro h
    split at h
    · exact ⟨_, ‹_›, h⟩
    · exact h.elim
  · rintro ⟨xs, e, h⟩
    rw [e]
    exact h
theorem onL_in {S : Sto} {a : Addr} {k : List D → Prop} {xs : List D} (e : sget S a = some (.lst xs)) (h : k xs) : onL S a k := onL_iff.mpr ⟨xs, e, h⟩
/-- all that S0 names, S1 names alike -/
def Sub (S0 S1 : Sto) : Prop := ∀ a o, sget S0 a = some o → sget S1 a = some o
theorem Sub.refl (S : Sto) : Sub S S := fun _ _ h => h
theorem Sub.trans {S0 S1 S2 : Sto} (a : Sub S0 S1) (b : Sub S1 S2) : Sub S0 S2 := fun c o h => b c o (a c o h)
theorem Sub.new {S : Sto} {p : Addr} {o : LO} (h : sget S p = none) : Sub S ((p, o) :: S) := fun a u e => by
  rw [sget_ne (fun z => by subst z; rw [h] at e; cases e)]
  exact e
/-- P holds once some of the store is forgotten -/
structure UpS (P : Sto → Prop) (S' : Sto) : Prop where
  ex : ∃ S0, Sub S0 S' ∧ P S0
theorem UpS.here {P : Sto → Prop} {S : Sto} (h : P S) : UpS P S := ⟨S, .refl S, h⟩
theorem UpS.new {P : Sto → Prop} {S : Sto} {p : Addr} {o : LO} (hp : sget S p = none) (h : UpS P S) : UpS P ((p, o) :: S) := by
  obtain ⟨S0, a, b⟩ := h.ex
  exact ⟨S0, a.trans (.new hp), b⟩
theorem UpS.sub {P : Sto → Prop} {S S' : Sto} (h : UpS P S) (s : Sub S S') : UpS P S' := by
  obtain ⟨S0, a, b⟩ := h.ex
  exact ⟨S0, a.trans s, b⟩
/-- one of two, by a truth value (it stays as it is until the value is known) -/
def ifB (b : Bool) (A B : Prop) : Prop := match b with
  | true => A
  | false => B
theorem ifB_in {b : Bool} {A B : Prop} (h1 : b = true → A) (h2 : b = false → B) : ifB b A B := by
  cases b with
  | true => exact h1 rfl
  | false => exact h2 rfl
theorem ifB_dec {c : Prop} [Decidable c] {A B : Prop} (h1 : c → A) (h2 : ¬ c → B) : ifB (decide c) A B := ifB_in (fun h => h1 (of_decide_eq_true h)) fun h => h2 (of_decide_eq_false h)
theorem ifB_ndec {c : Prop} [Decidable c] {A B : Prop} (h1 : ¬ c → A) (h2 : c → B) : ifB (!decide c) A B := ifB_in (fun h => h1 (by simpa using h)) fun h => h2 (by simpa using h)
theorem ifB_t {b : Bool} {A B : Prop} (e : b = true) (h : A) : ifB b A B := by rw [e]; exact h
theorem ifB_f {b : Bool} {A B : Prop} (e : b = false) (h : B) : ifB b A B := by rw [e]; exact h
abbrev EV := List (Option D)
abbrev WQ := D → Sto → Prop
abbrev WE := EV → Sto → WQ → Prop
abbrev WT := EV → Sto → (Bool → Sto → Prop) → Prop
abbrev WA := EV → Sto → (List D → Sto → Prop) → Prop
abbrev WO := EV → Sto → (Option Int → Sto → Prop) → Prop
structure En where
  nx : EV → Sto → Prop
  rt : WQ
  bk : EV → Sto → Prop := fun _ _ => False
  ct : EV → Sto → Prop := fun _ _ => False
abbrev WS := En → EV → Sto → Prop
abbrev WG := D → EV → Sto → (EV → Sto → Prop) → Prop
abbrev WGs := List D → EV → Sto → (EV → Sto → Prop) → Prop
/-- what a loop walks: its items, and what must stay so at each turn -/
structure It where
  xs : List D
  chk : Sto → Prop := fun _ => True
abbrev WI := EV → Sto → (It → Sto → Prop) → Prop
/-- what a def is asked: its arguments, the store, the wish -/
abbrev WF := List D → Sto → WQ → Prop

/-! ### names, constants -/
def eVar (i : Nat) : WE := fun env S Q => match env[i]? with
  | some (some d) => Q d S
  | _ => False
def eC (d : D) : WE := fun _ S Q => Q d S

/-! ### numbers, texts, tuples, lists under + - * // % -/
/-- the size that a product may have -/
def mulOk (i j : Int) : Prop := i.natAbs < 2 ^ 64 ∨ j.natAbs < 2 ^ 64 ∨ i.natAbs.log2 + j.natAbs.log2 ≤ 900000
def dAdd (x y : D) (S : Sto) (Q : WQ) : Prop := match x, y with
  | .int i, .int j => Q (.int (i + j)) S
  | .int i, .bl b => Q (.int (i + if b then 1 else 0)) S
  | .str a, .str b => a.length + b.length ≤ sizeLine ∧ Q (.str (a ++ b)) S
  | .tup a, .tup b => a.length + b.length ≤ sizeLine ∧ Q (.tup (a ++ b)) S
  | .ref a, .ref b => onL S a fun xs => onL S b fun ys => xs.length + ys.length ≤ sizeLine ∧ ∀ p, sget S p = none → Q (.ref p) ((p, .lst (xs ++ ys)) :: S)
  | _, _ => False
def dSub (x y : D) (S : Sto) (Q : WQ) : Prop := match x, y with
  | .int i, .int j => Q (.int (i - j)) S
  | _, _ => False
def dMul (x y : D) (S : Sto) (Q : WQ) : Prop := match x, y with
  | .int i, .int j => mulOk i j ∧ Q (.int (i * j)) S
  | .str z, .int k => (-(2 ^ 63) ≤ k ∧ k < 2 ^ 63 ∧ z.length * k.toNat ≤ sizeLine) ∧ Q (.str (Txt.mul z k)) S
  | .ref a, .int k => onL S a fun xs => (-(2 ^ 63) ≤ k ∧ k < 2 ^ 63 ∧ xs.length * k.toNat ≤ sizeLine) ∧ ∀ p, sget S p = none → Q (.ref p) ((p, .lst (List.replicate k.toNat xs).flatten) :: S)
  | .tup xs, .int k => (xs ≠ [] ∧ 2 ≤ k ∧ k ≤ 1000 ∧ xs.length ≤ 1000) ∧ Q (.tup (List.replicate k.toNat xs).flatten) S
  | _, _ => False
def dDiv (x y : D) (S : Sto) (Q : WQ) : Prop := match x, y with
  | .int i, .int j => (0 < j ∧ j.natAbs.log2 < 8000) ∧ Q (.int (i / j)) S
  | _, _ => False
/-- // by a divisor of either sign -/
def dFdiv (x y : D) (S : Sto) (Q : WQ) : Prop := match x, y with
  | .int i, .int j => (j ≠ 0 ∧ j.natAbs.log2 < 8000) ∧ Q (.int (i.fdiv j)) S
  | _, _ => False
def dMod (x y : D) (S : Sto) (Q : WQ) : Prop := match x, y with
  | .int i, .int j => 0 < j ∧ Q (.int (i % j)) S
  | _, _ => False
def dPow (x y : D) (S : Sto) (Q : WQ) : Prop := match x, y with
  | .int i, .int j => (0 ≤ j ∧ j ≤ 1000000 ∧ i.natAbs < 2 ^ 64) ∧ Q (.int (i ^ j.toNat)) S
  | _, _ => False
def eBin (r : D → D → Sto → WQ → Prop) (ta tb : WE) : WE := fun env S Q => ta env S fun x S1 => tb env S1 fun y S2 => r x y S2 Q
def eNeg (ta : WE) : WE := fun env S Q => ta env S fun x S1 => match x with
  | .int i => Q (.int (-i)) S1
  | _ => False

/-! ### comparisons -/
def dCmp (f : Int → Int → Bool) (x y : D) (S : Sto) (Q : WQ) : Prop := match x, y with
  | .int i, .int j => Q (.bl (f i j)) S
  | _, _ => False
mutual
/-- == of data (no lists): True equals 1 -/
def eqD : D → D → Bool
  | .non, .non => true
  | .bl a, .bl b => a == b
  | .bl a, .int j => (if a then 1 else 0) == j
  | .int i, .bl b => i == (if b then 1 else 0)
  | .int i, .int j => i == j
  | .str x, .str y => x == y
  | .tup xs, .tup ys => eqDs xs ys
  | _, _ => false
def eqDs : List D → List D → Bool
  | [], [] => true
  | x :: xs, y :: ys => eqD x y && eqDs xs ys
  | _, _ => false
end
mutual
/-- data that == may compare at any depth: no lists, texts that can be laid, not too deep -/
def cmpOk : D → Bool
  | .non | .bl _ | .int _ => true
  | .str x => PyData.strOk x
  | .tup xs => cmpOks xs
  | .ref _ | .frz _ | .ty _ | .exc _ _ _ _ => false
def cmpOks : List D → Bool
  | [] => true
  | x :: xs => cmpOk x && cmpOks xs
end
mutual
def depD : D → Nat
  | .tup xs => depDs xs + 1
  | _ => 0
def depDs : List D → Nat
  | [] => 0
  | x :: xs => max (depD x) (depDs xs)
end

/-- data without parts -/
def flatD : D → Bool
  | .non | .bl _ | .int _ | .str _ => true
  | _ => false
def memD (x : D) (ys : List D) : Bool := ys.any fun y => eqD y x
/-- in, not in (u: the truth value turned or not) -/
def dInB (u : Bool → Bool) (x y : D) (S : Sto) (Q : WQ) : Prop := match y with
  | .str z => ∃ c : Nat, x = .str ⟨#[c]⟩ ∧ Q (.bl (u (decide (c ∈ z.cps.toList)))) S
  | .tup ys => ((flatD x = true ∧ ys.all flatD = true) ∨ (cmpOk x = true ∧ depD x ≤ 50 ∧ cmpOks ys = true ∧ depDs ys ≤ 50)) ∧ Q (.bl (u (memD x ys))) S
  | .ref a => onL S a fun ys => ((flatD x = true ∧ ys.all flatD = true) ∨ (cmpOk x = true ∧ depD x ≤ 50 ∧ cmpOks ys = true ∧ depDs ys ≤ 50)) ∧ Q (.bl (u (memD x ys))) S
  | _ => False
abbrev dIn := dInB fun b => b
abbrev dNotIn := dInB fun b => !b
/-- == as a rule: scalars at once, else data of any depth -/
def dEq (x y : D) (S : Sto) (Q : WQ) : Prop := match x, y with
  | .int i, .int j => Q (.bl (decide (i = j))) S
  | .str a, .str b => Q (.bl (decide (a = b))) S
  | .bl a, .bl b => Q (.bl (decide (a = b))) S
  | .ref a, .ref b => onL S a fun xs => onL S b fun ys => (cmpOks xs = true ∧ depDs xs ≤ 50 ∧ cmpOks ys = true ∧ depDs ys ≤ 50) ∧ Q (.bl (eqDs xs ys)) S
  | x, y => (cmpOk x = true ∧ depD x ≤ 60 ∧ cmpOk y = true ∧ depD y ≤ 60) ∧ Q (.bl (eqD x y)) S
def dNe (x y : D) (S : Sto) (Q : WQ) : Prop := match x, y with
  | .int i, .int j => Q (.bl (!decide (i = j))) S
  | .str a, .str b => Q (.bl (!decide (a = b))) S
  | .bl a, .bl b => Q (.bl (!decide (a = b))) S
  | .ref a, .ref b => onL S a fun xs => onL S b fun ys => (cmpOks xs = true ∧ depDs xs ≤ 50 ∧ cmpOks ys = true ∧ depDs ys ≤ 50) ∧ Q (.bl (!eqDs xs ys)) S
  | x, y => (cmpOk x = true ∧ depD x ≤ 60 ∧ cmpOk y = true ∧ depD y ≤ 60) ∧ Q (.bl (!eqD x y)) S
abbrev dLt := dCmp fun i j => decide (i < j)
abbrev dLe := dCmp fun i j => decide (i ≤ j)
abbrev dGt := dCmp fun i j => decide (j < i)
abbrev dGe := dCmp fun i j => decide (j ≤ i)
def isNon : D → Bool
  | .non => true
  | _ => false
/-- x is None, x is not None -/
def eIsN (ta : WE) : WE := fun env S Q => ta env S fun x S1 => Q (.bl (isNon x)) S1
def eNotN (ta : WE) : WE := fun env S Q => ta env S fun x S1 => Q (.bl (!isNon x)) S1
/-- x is b for a written truth value: only asked of truth values -/
def eIsB (b : Bool) (ta : WE) : WE := fun env S Q => ta env S fun x S1 => match x with
  | .bl a => Q (.bl (decide (a = b))) S1
  | _ => False
def eNotB (b : Bool) (ta : WE) : WE := fun env S Q => ta env S fun x S1 => match x with
  | .bl a => Q (.bl (!decide (a = b))) S1
  | _ => False
/-- a < b < c -/
def eChain (r r' : D → D → Sto → WQ → Prop) (ta tb tc : WE) : WE := fun env S Q => ta env S fun x S1 => tb env S1 fun y S2 => r x y S2 fun z S3 => match z with
  | .bl k => ifB k (tc env S3 fun u S4 => r' y u S4 Q) (Q (.bl false) S3)
  | _ => False

/-! ### truth -/
def dTru (x : D) (S : Sto) (Q : Bool → Sto → Prop) : Prop := match x with
  | .non => Q false S
  | .bl b => Q b S
  | .int i => Q (i != 0) S
  | .str y => y.length ≤ sizeLine ∧ Q (y.length != 0) S
  | .tup xs => Q (!xs.isEmpty) S
  | .ref a => onL S a fun xs => Q (!xs.isEmpty) S
  | _ => False
def tTru (t : WE) : WT := fun env S Q => t env S fun x S1 => dTru x S1 Q
/-- a test whose value is a truth value -/
def tB (t : WE) : WT := fun env S Q => t env S fun x S1 => match x with
  | .bl b => Q b S1
  | _ => False
def tNot (t : WT) : WT := fun env S Q => t env S fun b S1 => Q (!b) S1
def tAnd (t u : WT) : WT := fun env S Q => t env S fun b S1 => ifB b (u env S1 Q) (Q false S1)
def tOr (t u : WT) : WT := fun env S Q => t env S fun b S1 => ifB b (Q true S1) (u env S1 Q)
def eNot (t : WE) : WE := fun env S Q => t env S fun x S1 => dTru x S1 fun b S2 => Q (.bl (!b)) S2
/-- a and b, a or b as values: the first one's value where it decides -/
def eAnd (ta tb : WE) : WE := fun env S Q => ta env S fun x S1 => dTru x S1 fun b S2 => ifB b (tb env S2 Q) (Q x S2)
def eOr (ta tb : WE) : WE := fun env S Q => ta env S fun x S1 => dTru x S1 fun b S2 => ifB b (Q x S2) (tb env S2 Q)
def eIf (t : WT) (ta tb : WE) : WE := fun env S Q => t env S fun b S1 => ifB b (ta env S1 Q) (tb env S1 Q)

/-! ### displays, places, slices -/
def aNil : WA := fun _ S Q => Q [] S
def aCons (t : WE) (u : WA) : WA := fun env S Q => t env S fun x S1 => u env S1 fun xs S2 => Q (x :: xs) S2
def eTup (t : WA) : WE := fun env S Q => t env S fun xs S1 => xs.length ≤ 1000 ∧ Q (.tup xs) S1
def eLst (t : WA) : WE := fun env S Q => t env S fun xs S1 => xs.length ≤ 1000 ∧ ∀ p, sget S1 p = none → Q (.ref p) ((p, .lst xs) :: S1)
/-- what is asked behind [..][_law_draw(tape, m)], the list (at a) still there -/
def pickK (i : Nat) (m : Int) (env : EV) (Q : WQ) (x : D) (S' : Sto) : Prop := match x with
  | .ref a => ∃ (p q : Addr) (ns : List Int) (xs : List D), env[i]? = some (some (.ref p)) ∧ sget S' p = some (.tape q) ∧ sget S' q = some (.lst (ns.map D.int)) ∧ sget S' a = some (.lst xs) ∧ 0 < m ∧ m.toNat ≤ xs.length ∧ m < 1000000 ∧ ∀ d ∈ xs, UpS (Q d) S'
  | _ => False
/-- [..][_law_draw(tape, m)]: the list is not kept -/
structure ePick (i : Nat) (m : Int) (t : WA) (env : EV) (S : Sto) (Q : WQ) : Prop where
  run : eLst t env S (pickK i m env Q)
theorem pick_in {i : Nat} {m : Int} {t : WA} {env : EV} {S : Sto} {Q : WQ} (h : t env S fun xs S1 => xs.length ≤ 1000 ∧ ∀ p, sget S1 p = none → pickK i m env Q (.ref p) ((p, .lst xs) :: S1)) : ePick i m t env S Q := ⟨h⟩
theorem pk_in {i : Nat} {m : Int} {env : EV} {Q : WQ} {S1 : Sto} {xs : List D} {p q : Addr} {ns : List Int} (hv : env[i]? = some (some (.ref p))) (hp : sget S1 p = some (.tape q)) (hq : sget S1 q = some (.lst (ns.map D.int)))
    (h0 : 0 < m) (h1 : m.toNat ≤ xs.length) (h2 : m < 1000000) (h : ∀ d ∈ xs, Q d S1) : ∀ a, sget S1 a = none → pickK i m env Q (.ref a) ((a, .lst xs) :: S1) := fun a ha =>
  ⟨p, q, ns, xs, hv, Sub.new ha _ _ hp, Sub.new ha _ _ hq, sget_self _ _ _, h0, h1, h2, fun d hd => .new ha (.here (h d hd))⟩
/-- the item at a place that may count from the end -/
def atD {α : Type} (xs : List α) (i : Int) : Option α := if 0 ≤ i then xs[i.toNat]? else if -(xs.length : Int) ≤ i then xs[(i + xs.length).toNat]? else none
def seqOf (S : Sto) : D → Option (List D)
  | .tup xs => some xs
  | .frz xs => some xs
  | .ref a => match sget S a with
    | some (.lst xs) => some xs
    | _ => none
  | _ => none
/-- with the items of a list or tuple -/
def onSeq (S : Sto) (x : D) (k : List D → Prop) : Prop := match x with
  | .tup xs => k xs
  | .frz xs => k xs
  | .ref a => onL S a k
  | _ => False
theorem onSeq_iff {S : Sto} {x : D} {k : List D → Prop} : onSeq S x k ↔ ∃ xs, seqOf S x = some xs ∧ k xs := by
  cases x with
  | tup xs => exact ⟨fun h => ⟨xs, rfl, h⟩, fun ⟨_, e, h⟩ => by cases e; exact h⟩
  | frz xs => exact ⟨fun h => ⟨xs, rfl, h⟩, fun ⟨_, e, h⟩ => by cases e; exact h⟩
  | ref a =>
    refine onL_iff.trans ⟨fun ⟨xs, e, h⟩ => ⟨xs, by show (match sget S a with | some (.lst xs) => some xs | _ => none) = _; rw [e], h⟩, fun ⟨xs, e, h⟩ => ⟨xs, ?_, h⟩⟩
    have e : (match sget S a with | some (.lst xs) => some xs | _ => none) = some xs := e
    split at e
    · cases e
      assumption
    · cases e
  | _ => exact ⟨fun h => h.elim, fun ⟨_, e, _⟩ => by cases e⟩
/-- with the item at a place -/
def onAt {α : Type} (xs : List α) (i : Int) (k : α → Prop) : Prop := match atD xs i with
  | some d => k d
  | none => False
theorem onAt_iff {α : Type} {xs : List α} {i : Int} {k : α → Prop} : onAt xs i k ↔ ∃ d, atD xs i = some d ∧ k d := by
  unfold onAt
  constructor
  · intro h
    split at h
    · exact ⟨_, ‹_›, h⟩
    · exact h.elim
  · rintro ⟨d, e, h⟩
    rw [e]
    exact h
theorem onAt_in {α : Type} {xs : List α} {i : Int} {k : α → Prop} {d : α} (e : atD xs i = some d) (h : k d) : onAt xs i k := onAt_iff.mpr ⟨d, e, h⟩
theorem atD_nat {α : Type} {xs : List α} {j : Nat} {d : α} (h : xs[j]? = some d) : atD xs (j : Int) = some d := by
  unfold atD
  rw [if_pos (Int.natCast_nonneg j), Int.toNat_natCast]
  exact h
def dIx (x y : D) (S : Sto) (Q : WQ) : Prop := match y with
  | .int i => match x with
    | .str z => z.length ≤ sizeLine ∧ onAt z.cps.toList i fun c => Q (.str ⟨#[c]⟩) S
    | x => onSeq S x fun xs => onAt xs i fun d => Q d S
  | _ => False
def oNone : WO := fun _ S Q => Q none S
def oSome (t : WE) : WO := fun env S Q => t env S fun x S1 => match x with
  | .int i => Q (some i) S1
  | _ => False
/-- where a slice begins, ends -/
abbrev cutAt := HT.sIx
def cut {α : Type} (xs : List α) (lo hi : Option Int) : List α := (xs.drop (cutAt xs.length 0 lo)).take (cutAt xs.length xs.length hi - cutAt xs.length 0 lo)
def dSl (x : D) (lo hi : Option Int) (S : Sto) (Q : WQ) : Prop := match x with
  | .tup xs => Q (.tup (cut xs lo hi)) S
  | .ref a => onL S a fun xs => ∀ p, sget S p = none → Q (.ref p) ((p, .lst (cut xs lo hi)) :: S)
  | .str z => z.length ≤ sizeLine ∧ Q (.str ⟨(cut z.cps.toList lo hi).toArray⟩) S
  | _ => False
def eSl (te : WE) (tl th : WO) : WE := fun env S Q => te env S fun x S1 => tl env S1 fun l S2 => th env S2 fun u S3 => dSl x l u S3 Q

/-! ### calls -/
def eCall (F : WF) (t : WA) : WE := fun env S Q => t env S fun ds S1 => F ds S1 Q
abbrev WB := List D → Sto → WQ → Prop
def bAbs : WB := fun ds S Q => match ds with
  | [.int i] => Q (.int (if i < 0 then -i else i)) S
  | _ => False
def bInt : WB := fun ds S Q => match ds with
  | [.int i] => Q (.int i) S
  | [.bl k] => Q (.int (if k then 1 else 0)) S
  | _ => False
def bGcd : WB := fun ds S Q => match ds with
  | [.int i, .int j] => Q (.int ((Nat.gcd i.natAbs j.natAbs : Nat) : Int)) S
  | _ => False
def bMax2 : WB := fun ds S Q => match ds with
  | [.int i, .int j] => Q (.int (max i j)) S
  | _ => False
def bMin2 : WB := fun ds S Q => match ds with
  | [.int i, .int j] => Q (.int (min i j)) S
  | _ => False
def bLen : WB := fun ds S Q => match ds with
  | [.str z] => z.length ≤ sizeLine ∧ Q (.int z.length) S
  | [x] => onSeq S x fun xs => Q (.int xs.length) S
  | _ => False
def bTuple : WB := fun ds S Q => match ds with
  | [x] => onSeq S x fun xs => Q (.tup xs) S
  | _ => False
def bList : WB := fun ds S Q => match ds with
  | [x] => onSeq S x fun xs => ∀ p, sget S p = none → Q (.ref p) ((p, .lst xs) :: S)
  | _ => False
def dInt (ns : List Int) : List D := ns.map D.int
/-- the list or tuple in hand holds ints -/
def bFold (C : List Int → Prop) (m : List Int → Int → Prop) : WB := fun ds S Q => match ds with
  | [.ref a] => onL S a fun xs => ∃ ns, xs = dInt ns ∧ C ns ∧ ∀ r, m ns r → Q (.int r) S
  | _ => False
def bSum : WB := bFold (fun _ => True) fun ns r => r = ns.sum
def bFoldS (C : List Int → Prop) (m : List Int → Int → Prop) : WB := fun ds S Q => match ds with
  | [x] => onSeq S x fun xs => ∃ ns, xs = dInt ns ∧ C ns ∧ ∀ r, m ns r → Q (.int r) S
  | _ => False
def bMax : WB := bFoldS (fun ns => ns ≠ []) fun ns r => r ∈ ns ∧ ∀ y, y ∈ ns → y ≤ r
def bMin : WB := bFoldS (fun ns => ns ≠ []) fun ns r => r ∈ ns ∧ ∀ y, y ∈ ns → r ≤ y

/-! ### what is walked -/
/-- a list, a tuple or a text -/
def dWalk (x : D) (S : Sto) (R : It → Sto → Prop) : Prop := match x with
  | .tup xs => xs.length ≤ sizeLine → R ⟨xs, fun _ => True⟩ S
  | .frz xs => xs.length ≤ sizeLine → R ⟨xs, fun _ => True⟩ S
  | .ref a => onL S a fun xs => xs.length ≤ sizeLine → R ⟨xs, fun S => sget S a = some (.lst xs)⟩ S
  | .str z => z.length ≤ sizeLine ∧ R ⟨z.cps.toList.map fun c => .str ⟨#[c]⟩, fun _ => True⟩ S
  | _ => False
def iSeq (t : WE) : WI := fun env S R => t env S fun x S1 => dWalk x S1 R
/-- reversed(..) of a list or a tuple -/
def iRev (t : WE) : WI := fun env S R => t env S fun x S1 => match x with
  | .tup xs => xs.length ≤ sizeLine → R ⟨xs.reverse, fun _ => True⟩ S1
  | .ref a => onL S1 a fun xs => xs.length ≤ sizeLine → R ⟨xs.reverse, fun S => sget S a = some (.lst xs)⟩ S1
  | _ => False
def rngD (lo : Int) (n : Nat) : List D := (List.range n).map fun i : Nat => D.int (lo + (i : Int))
def iRng (t : WA) : WI := fun env S R => t env S fun ds S1 => match ds with
  | [.int j] => (-1000000 ≤ j ∧ j ≤ 1000000) ∧ R ⟨rngD 0 j.toNat, fun _ => True⟩ S1
  | _ => False
def rngC (lo c : Int) (n : Nat) : List D := (List.range n).map fun k : Nat => D.int (lo + (k : Int) * c)
/-- the number of turns of range(i, j, c) -/
def cntC (i j c : Int) : Nat := if i < j then ((j - i - 1) / c + 1).toNat else 0
/-- range(i, j, c) with c a whole number above 0 -/
def iRng3 (t : WA) : WI := fun env S R => t env S fun ds S1 => match ds with
  | [.int i, .int j, .int c] => (0 < c ∧ c < 1000 ∧ -(2 ^ 62) ≤ i ∧ i < 2 ^ 62 ∧ -(2 ^ 62) ≤ j ∧ j < 2 ^ 62 ∧ j - i ≤ 1000000) ∧ R ⟨rngC i c (cntC i j c), fun _ => True⟩ S1
  | _ => False
def iRng2 (t : WA) : WI := fun env S R => t env S fun ds S1 => match ds with
  | [.int i, .int j] => (-(2 ^ 62) ≤ i ∧ i < 2 ^ 62 ∧ -(2 ^ 62) ≤ j ∧ j < 2 ^ 62 ∧ j - i ≤ 1000000) ∧ R ⟨rngD i (j - i).toNat, fun _ => True⟩ S1
  | _ => False

/-! ### targets -/
def gName (i : Nat) : WG := fun d env S Q => Q (env.set i (some d)) S
def gsNil : WGs := fun ds env S Q => ds = [] ∧ Q env S
def gsCons (g : WG) (u : WGs) : WGs := fun ds env S Q => match ds with
  | d :: r => g d env S fun env1 S1 => u r env1 S1 Q
  | [] => False
def gTup (n : Nat) (u : WGs) : WG := fun d env S Q => match d with
  | .tup xs => xs.length = n ∧ u xs env S Q
  | _ => False
/-- a[i] = .. -/
def gSub (ta ti : WE) : WG := fun d env S Q => ta env S fun x S1 => ti env S1 fun y S2 => match x, y with
  | .ref a, .int i => onL S2 a fun xs => match L2.ixN xs.length i with
    | some k => Q env (sset S2 a (.lst (xs.set k d)))
    | none => False
  | _, _ => False

/-! ### comprehensions -/
def wipe (env : EV) : List Nat → EV
  | [] => env
  | v :: vs => (wipe env vs).set v none
/-- [elt for .. in .. if ..]; vs: the slots of its own names -/
@[irreducible] def eComp (it : WI) (g : WG) (c : WT) (elt : WE) (vs : List Nat) : WE := fun env S Q => it env S fun J S0 =>
  ∃ W : Nat → List D → Sto → Prop, W 0 [] S0 ∧
    (∀ i x acc S, J.xs[i]? = some x → W i acc S → J.chk S ∧ g x (wipe env vs) S fun env2 S2 => c env2 S2 fun b S3 =>
      ifB b (elt env2 S3 fun y S4 => UpS (W (i + 1) (acc ++ [y])) S4) (UpS (W (i + 1) acc) S3)) ∧
    ∀ acc S, W J.xs.length acc S → J.chk S ∧ ∀ p, sget S p = none → Q (.ref p) ((p, .lst acc) :: S)
def tYes : WT := fun _ S Q => Q true S

/-! ### methods of lists -/
def mAppend (x : D) (ds : List D) (S : Sto) (Q : WQ) : Prop := match x, ds with
  | .ref a, [y] => onL S a fun xs => xs.length < sizeLine ∧ Q .non (sset S a (.lst (xs ++ [y])))
  | _, _ => False
/-- with what is found -/
def onFound (o : Option Nat) (k : Nat → Prop) : Prop := match o with
  | some j => k j
  | none => False
theorem onFound_in {o : Option Nat} {k : Nat → Prop} {j : Nat} (e : o = some j) (h : k j) : onFound o k := by rw [e]; exact h
def mIndex (x : D) (ds : List D) (S : Sto) (Q : WQ) : Prop := match x, ds with
  | .ref a, [y] => onL S a fun xs => ((flatD y = true ∧ xs.all flatD = true) ∨ (cmpOk y = true ∧ depD y ≤ 50 ∧ cmpOks xs = true ∧ depDs xs ≤ 50)) ∧ onFound (xs.findIdx? fun z => eqD z y) fun j => Q (.int (j : Int)) S
  | _, _ => False
/-- a method of a list -/
def eMethL (m : D → List D → Sto → WQ → Prop) (to : WE) (t : WA) : WE := fun env S Q => to env S fun x S1 => match x with
  | .ref a => onL S1 a fun _ => t env S1 fun ds S2 => m (.ref a) ds S2 Q
  | _ => False
/-- a method of a text -/
def eMethS (m : D → List D → Sto → WQ → Prop) (to : WE) (t : WA) : WE := fun env S Q => to env S fun x S1 => match x with
  | .str z => t env S1 fun ds S2 => m (.str z) ds S2 Q
  | _ => False

/-! ### statements -/
def sNil : WS := fun D env S => D.nx env S
/-- t, then what P says of its end (and no more) -/
@[irreducible] def sJoin (t : WS) : WS := fun D env S => ∃ P : EV → Sto → Prop, t { D with nx := fun env S => UpS (P env) S } env S ∧ ∀ env S, P env S → D.nx env S
def sSeq (t u : WS) : WS := fun D env S => t { D with nx := u D } env S
def sDrop (t : WE) : WS := fun D env S => t env S fun _ S1 => D.nx env S1
def sRet (t : WE) : WS := fun D env S => t env S D.rt
def sRetN : WS := fun D _ S => D.rt .non S
def sAsg (t : WE) (g : WG) : WS := fun D env S => t env S fun x S1 => g x env S1 D.nx
def sIf (c : WT) (t u : WS) : WS := fun D env S => c env S fun b S1 => ifB b (t D env S1) (u D env S1)
def sBrk : WS := fun D env S => D.bk env S
def sCnt : WS := fun D env S => D.ct env S
def sPar (i j : Nat) (t : WA) : WS := fun D env S => t env S fun ds S1 => match ds with
  | [x, y] => D.nx ((env.set i (some x)).set j (some y)) S1
  | _ => False
def sAug (i : Nat) (r : D → D → Sto → WQ → Prop) (t : WE) : WS := fun D env S => match env[i]? with
  | some (some x) => t env S fun y S1 => r x y S1 fun z S2 => D.nx (env.set i (some z)) S2
  | _ => False
@[irreducible] def sWhile (c : WT) (b : WS) : WS := fun D env S => ∃ W : Nat → EV → Sto → Prop, (∃ m, W m env S) ∧ ∀ m env S, W m env S →
  c env S fun k S1 => ifB k (b { D with nx := fun env' S' => UpS (fun S' => ∃ m', m' < m ∧ W m' env' S') S', ct := fun env' S' => UpS (fun S' => ∃ m', m' < m ∧ W m' env' S') S', bk := D.nx } env S1) (D.nx env S1)
@[irreducible] def sFor (it : WI) (g : WG) (b : WS) : WS := fun D env S => it env S fun J S0 => ∃ W : Nat → EV → Sto → Prop, W 0 env S0 ∧
  (∀ i x env S, J.xs[i]? = some x → W i env S → J.chk S ∧ g x env S fun env2 S2 => b { D with nx := fun env S => UpS (W (i + 1) env) S, ct := fun env S => UpS (W (i + 1) env) S, bk := D.nx } env2 S2) ∧
  ∀ env S, W J.xs.length env S → J.chk S ∧ D.nx env S

/-! ### list(range(..)), tuple(range(..)) -/
abbrev WR := EV → Sto → (Int → Int → Sto → Prop) → Prop
def rRg1 (ta : WE) : WR := fun env S Q => ta env S fun x S1 => match x with
  | .int n => Q 0 n S1
  | _ => False
def rRg2 (ta tb : WE) : WR := fun env S Q => ta env S fun x S1 => tb env S1 fun y S2 => match x, y with
  | .int i, .int j => Q i j S2
  | _, _ => False
def rgOk (a b : Int) : Prop := -(2 ^ 62) ≤ a ∧ a < 2 ^ 62 ∧ -(2 ^ 62) ≤ b ∧ b < 2 ^ 62 ∧ b - a ≤ 1000000
def eLstRg (t : WR) : WE := fun env S Q => t env S fun a b S1 => rgOk a b ∧ ∀ p, sget S1 p = none → Q (.ref p) ((p, .lst (rngD a (b - a).toNat)) :: S1)
def eTupRg (t : WR) : WE := fun env S Q => t env S fun a b S1 => rgOk a b ∧ Q (.tup (rngD a (b - a).toNat)) S1

/-! ### repr, isinstance -/
mutual
/-- x is the data pd, its lists as they stand in S -/
inductive PyR (S : Sto) : D → PyData → Prop
  | non : PyR S .non .none
  | bl (b : Bool) : PyR S (.bl b) (.bool b)
  | int (i : Int) : PyR S (.int i) (.int i)
  | str (x : Str) : PyR S (.str x) (.str x)
  | tup {xs : List D} {ps : List PyData} : PyRs S xs ps → PyR S (.tup xs) (.tuple ps)
  | lst {a : Addr} {xs : List D} {ps : List PyData} : sget S a = some (.lst xs) → PyRs S xs ps → PyR S (.ref a) (.list ps)
inductive PyRs (S : Sto) : List D → List PyData → Prop
  | nil : PyRs S [] []
  | cons {x : D} {xs : List D} {p : PyData} {ps : List PyData} : PyR S x p → PyRs S xs ps → PyRs S (x :: xs) (p :: ps)
end
/-- it can be shown -/
def rpOk (p : PyData) : Prop := p.showable = true ∧ p.shown.length ≤ sizeLine ∧ p.depth ≤ 60
/-- a datum's text: it stays closed -/
@[irreducible] def shw (p : PyData) : Str := p.shown
def bRepr : WB := fun ds S Q => match ds with
  | [x] => ∃ p, PyR S x p ∧ rpOk p ∧ Q (.str (shw p)) S
  | _ => False
def bStr : WB := fun ds S Q => match ds with
  | [.int i] => i.natAbs.log2 < 1920 ∧ Q (.str (toString i)) S
  | [.str a] => Q (.str a) S
  | _ => False
/-- is a value of the type a one of the type b -/
def tyIs (a b : String) : Option Bool :=
  if a = b then some true
  else if a = "bool" ∧ b = "int" then some true
  else if (a = "NoneType" ∨ a = "bool" ∨ a = "int" ∨ a = "str" ∨ a = "tuple" ∨ a = "list") ∧ (b = "bool" ∨ b = "int" ∨ b = "str" ∨ b = "tuple" ∨ b = "list") then some false
  else none
def tyOf (S : Sto) : D → String
  | .non => "NoneType"
  | .bl _ => "bool"
  | .int _ => "int"
  | .str _ => "str"
  | .tup _ => "tuple"
  | .frz _ => "list"
  | .ref a => match sget S a with
    | some (.lst _) => "list"
    | _ => "?"
  | .ty _ | .exc _ _ _ _ => "?"
/-- isinstance(e, n) -/
def eIsi (n : String) (t : WE) : WE := fun env S Q => t env S fun x S1 => match tyIs (tyOf S1 x) n with
  | some b => Q (.bl b) S1
  | none => False
/-- tuple(reversed(e)) -/
def eTupRev (t : WE) : WE := fun env S Q => t env S fun x S1 => match x with
  | .ref a => onL S1 a fun xs => Q (.tup xs.reverse) S1
  | _ => False

/-- a def's slots at its entry -/
def start (n : Nat) (ds : List D) : EV := ds.map some ++ List.replicate (n - ds.length) none
def enOf (Q : WQ) : En := { nx := fun _ S => UpS (Q .non) S, rt := fun d S => UpS (Q d) S }
end DL

namespace DL
open PySem PySem.Spec PyProof.Rows L2

/-- what is known, and the program and world that it is known of -/
structure Kw where
  K : PySem.W.Frag
  P : Program
  w : World
instance : Coe Kw PySem.W.Frag := ⟨Kw.K⟩
abbrev _root_.L2.Cx.kw (X : Cx) : Kw := ⟨X.K, X.prog, X.w⟩
/-! ### values read as data -/
/-- a list that is known to the object, or the module's -/
def FxL (K : Kw) (H : Hp) (a : Addr) (xs : List V) : Prop := (∃ o, H a = some (.frz o (.lst xs))) ∨
    ∃ (o : Obj) (its : Array Value) (n : Nat), K.K.lookup a = some o ∧ o.cls = .type "list" ∧ o.dict = none ∧ o.data = .seq its n ∧ its.size ≤ sizeLine ∧ Vals xs its.toList
theorem FxL.sq {K : Kw} {H : Hp} {a : Addr} {xs : List V} (h : FxL K H a xs) : SqL K H a xs := h.imp .inr id
mutual
inductive Rp (K : Kw) (H : Hp) : V → D → Prop
  | non : Rp K H .non .non
  | bl (b : Bool) : Rp K H (.bl b) (.bl b)
  | int (i : Int) : Rp K H (.int i) (.int i)
  | str (x : Str) : Rp K H (.str x) (.str x)
  | tup {a : Addr} {xs : List V} {ds : List D} : SqT K H a xs → RpAll K H xs ds → ds.length ≤ sizeLine → Rp K H (.ref a) (.tup ds)
  | ref (a : Addr) : Rp K H (.ref a) (.ref a)
  | frz {a : Addr} {xs : List V} {ds : List D} : FxL K H a xs → RpAll K H xs ds → ds.length ≤ sizeLine → Rp K H (.ref a) (.frz ds)
  | ty (n : String) : Rp K H (.ty n) (.ty n)
  | exc {a d : Addr} {f : Str} {u : V} {v : D} : H d = some (.xd [(f, u)]) → Rp K H u v → Rp K H (.ref a) (.exc a d f v)
inductive RpAll (K : Kw) (H : Hp) : List V → List D → Prop
  | nil : RpAll K H [] []
  | cons {v : V} {vs : List V} {d : D} {ds : List D} : Rp K H v d → RpAll K H vs ds → RpAll K H (v :: vs) (d :: ds)
end
/-- the tuples stay, and what is known -/
structure Tk (H H' : Hp) : Prop where
  tup : ∀ a xs, Rd H a (.tup xs) → Rd H' a (.tup xs)
  frz : ∀ a o u, H a = some (.frz o u) → H' a = some (.frz o u)
  xds : ∀ a fs, H a = some (.xd fs) → H' a = some (.xd fs)
theorem Tk.refl (H : Hp) : Tk H H := ⟨fun _ _ h => h, fun _ _ _ h => h, fun _ _ h => h⟩
theorem Tk.trans {H H1 H2 : Hp} (a : Tk H H1) (b : Tk H1 H2) : Tk H H2 := ⟨fun c xs h => b.tup c xs (a.tup c xs h), fun c o u h => b.frz c o u (a.frz c o u h), fun c fs h => b.xds c fs (a.xds c fs h)⟩
theorem Tk.sq {K : Kw} {H H' : Hp} {a : Addr} {xs : List V} (t : Tk H H') (h : SqT K H a xs) : SqT K H' a xs := h.imp (t.tup a xs) id
theorem Tk.fx {K : Kw} {H H' : Hp} {a : Addr} {xs : List V} (t : Tk H H') (h : FxL K H a xs) : FxL K H' a xs := h.imp (fun ⟨o, e⟩ => ⟨o, t.frz _ _ _ e⟩) id
mutual
theorem Rp.mono {K : Kw} {H H' : Hp} (t : Tk H H') : ∀ {v : V} {d : D}, Rp K H v d → Rp K H' v d
  | _, _, .non => .non
  | _, _, .bl b => .bl b
  | _, _, .int i => .int i
  | _, _, .str x => .str x
  | _, _, .tup h hs hz => .tup (t.sq h) (RpAll.mono t hs) hz
  | _, _, .ref a => .ref a
  | _, _, .frz h hs hz => .frz (t.fx h) (RpAll.mono t hs) hz
  | _, _, .ty n => .ty n
  | _, _, .exc h r => .exc (t.xds _ _ h) (Rp.mono t r)
theorem RpAll.mono {K : Kw} {H H' : Hp} (t : Tk H H') : ∀ {vs : List V} {ds : List D}, RpAll K H vs ds → RpAll K H' vs ds
  | _, _, .nil => .nil
  | _, _, .cons h hs => .cons (Rp.mono t h) (RpAll.mono t hs)
end
section
variable {K : Kw} {H : Hp}
theorem RpAll.length : ∀ {vs : List V} {ds : List D}, RpAll K H vs ds → vs.length = ds.length
  | _, _, .nil => rfl
  | _, _, .cons _ t => congrArg (· + 1) t.length
theorem RpAll.get : ∀ {vs : List V} {ds : List D} {i : Nat} {d : D}, RpAll K H vs ds → ds[i]? = some d → ∃ v, vs[i]? = some v ∧ Rp K H v d
  | _, _, _, _, .nil, e => by simp at e
  | _, _, 0, _, .cons r _, e => by simp at e; subst e; exact ⟨_, rfl, r⟩
  | _, _, i + 1, d, .cons _ t, e => by
    obtain ⟨u, h1, h2⟩ := RpAll.get (i := i) (d := d) t (by simpa using e)
    exact ⟨u, by simpa using h1, h2⟩
theorem RpAll.getV : ∀ {vs : List V} {ds : List D} {i : Nat} {v : V}, RpAll K H vs ds → vs[i]? = some v → ∃ d, ds[i]? = some d ∧ Rp K H v d
  | _, _, _, _, .nil, e => by simp at e
  | _, _, 0, _, .cons r _, e => by simp at e; subst e; exact ⟨_, rfl, r⟩
  | _, _, i + 1, d, .cons _ t, e => by
    obtain ⟨u, h1, h2⟩ := RpAll.getV (i := i) (v := d) t (by simpa using e)
    exact ⟨u, by simpa using h1, h2⟩
theorem RpAll.append : ∀ {xs : List V} {ds : List D} {ys : List V} {es : List D}, RpAll K H xs ds → RpAll K H ys es → RpAll K H (xs ++ ys) (ds ++ es)
  | _, _, _, _, .nil, s => s
  | _, _, _, _, .cons r t, s => .cons r (t.append s)
theorem RpAll.rep {xs : List V} {ds : List D} (r : RpAll K H xs ds) : ∀ n : Nat, RpAll K H (List.replicate n xs).flatten (List.replicate n ds).flatten
  | 0 => .nil
  | n + 1 => by
    rw [List.replicate_succ, List.flatten_cons, List.replicate_succ, List.flatten_cons]
    exact r.append (RpAll.rep r n)
theorem RpAll.take : ∀ {xs : List V} {ds : List D} (n : Nat), RpAll K H xs ds → RpAll K H (xs.take n) (ds.take n)
  | _, _, 0, _ => .nil
  | _, _, _ + 1, .nil => .nil
  | _, _, n + 1, .cons r t => .cons r (t.take n)
theorem RpAll.drop : ∀ {xs : List V} {ds : List D} (n : Nat), RpAll K H xs ds → RpAll K H (xs.drop n) (ds.drop n)
  | _, _, 0, r => r
  | _, _, _ + 1, .nil => .nil
  | _, _, n + 1, .cons _ t => t.drop n
theorem RpAll.set {v : V} {d : D} (r : Rp K H v d) : ∀ {xs : List V} {ds : List D} (i : Nat), RpAll K H xs ds → RpAll K H (xs.set i v) (ds.set i d)
  | _, _, _, .nil => .nil
  | _, _, 0, .cons _ t => .cons r t
  | _, _, i + 1, .cons q t => .cons q (t.set r i)
theorem RpAll.ints : ∀ {ns : List Int} {vs : List V}, RpAll K H vs (dInt ns) → vs = ns.map V.int
  | [], _, h => by cases h; rfl
  | n :: ns, _, h => by
    cases h with
    | cons h1 h2 =>
      cases h1
      rw [RpAll.ints h2]
      rfl
theorem RpAll.ofInts : ∀ (ns : List Int), RpAll K H (ns.map V.int) (dInt ns)
  | [] => .nil
  | n :: ns => .cons (.int n) (RpAll.ofInts ns)
end

/-! ### the store -/
/-- keys that are no tuples and no truth values -/
def noB : Value → Bool
  | .bool _ => false
  | _ => true
def k3 (P : Program) (w : World) : KeyKind P w Leaf where
  is := fun k v => (leafKind P w).is k v && noB v
  hash := (leafKind P w).hash
  inj := fun v a b ha hb => (leafKind P w).inj v a b (Bool.and_eq_true_iff.mp ha).1 (Bool.and_eq_true_iff.mp hb).1
  byValue := fun k v h => (leafKind P w).byValue k v (Bool.and_eq_true_iff.mp h).1
  pyHash := fun h q => (leafKind P w).pyHash (Bool.and_eq_true_iff.mp h).1 q
  eqBool := fun ha hb q => (leafKind P w).eqBool (Bool.and_eq_true_iff.mp ha).1 (Bool.and_eq_true_iff.mp hb).1 q
  «strs» := fun k x t v h => by
    have e := (leafKind P w).strs k x t v (Bool.and_eq_true_iff.mp h).1
    rw [e]
    cases v <;> first | exact Bool.and_true _ | rfl
/-- the object at a is o -/
def DicO (a : Addr) (o : Obj) : HO := .ext fun h => h.get? a = some o
structure KvT (K : Kw) (H : Hp) (kv : D × D) (x : NestedKey × Addr × Value) : Prop where
  ok : keyT kv.1 = true
  eq : x.1 = nkD kv.1
  key : Rp K H (.ref x.2.1) kv.1
  val : ∃ v, RelV v x.2.2 ∧ Rp K H v kv.2
structure KvL (K : Kw) (H : Hp) (kv : D × D) (y : Leaf × Value) : Prop where
  ok : keyL kv.1 = true
  eq : y.1 = leafD kv.1
  val : ∃ v, RelV v y.2 ∧ Rp K H v kv.2
/-- a dict's object, read -/
def DicR (K : Kw) (H : Hp) (o : Obj) (kvs : List (D × D)) : Prop := ∃ es ep, o.ExactDict ∧ o.data = .dict es ep ∧
  ((∃ xs, es.toList = xs.map (entryOfKey (nestedKind K.P K.w)) ∧ (xs.map (·.1)).Nodup ∧ Paired (KvT K H) kvs xs) ∨
   ∃ ys, KeysOf (k3 K.P K.w) es ∧ Pairs (k3 K.P K.w) es.toList ys ∧ (ys.map (·.1)).Nodup ∧ Paired (KvL K H) kvs ys)
theorem KvT.mono {K : Kw} {H H' : Hp} (t : Tk H H') {kv : D × D} {x : NestedKey × Addr × Value} (h : KvT K H kv x) : KvT K H' kv x := ⟨h.ok, h.eq, h.key.mono t, let ⟨v, a, b⟩ := h.val; ⟨v, a, b.mono t⟩⟩
theorem KvL.mono {K : Kw} {H H' : Hp} (t : Tk H H') {kv : D × D} {x : Leaf × Value} (h : KvL K H kv x) : KvL K H' kv x := ⟨h.ok, h.eq, let ⟨v, a, b⟩ := h.val; ⟨v, a, b.mono t⟩⟩
theorem DicR.mono {K : Kw} {H H' : Hp} {o : Obj} {kvs : List (D × D)} (t : Tk H H') (h : DicR K H o kvs) : DicR K H' o kvs := by
  obtain ⟨es, ep, h1, h2, h3⟩ := h
  refine ⟨es, ep, h1, h2, h3.imp ?_ ?_⟩
  · rintro ⟨xs, a, b, c⟩
    exact ⟨xs, a, b, Paired.mapP c fun _ _ z => z.mono t⟩
  · rintro ⟨ys, a, b, c, d⟩
    exact ⟨ys, a, b, c, Paired.mapP d fun _ _ z => z.mono t⟩
def LR (K : Kw) (H : Hp) (a : Addr) : LO → Prop
  | .dic o kvs => H a = some (DicO a o) ∧ (a == sysModules) = false ∧ kvs.length ≤ sizeLine ∧ DicR K H o kvs
  | .lst xs => ∃ vs, H a = some (.lst vs) ∧ RpAll K H vs xs ∧ xs.length ≤ sizeLine
  | .tape q => ∃ (k b t : Int), H a = some (.lst [.ref q, .int k, .int b, .int t]) ∧ 0 ≤ k ∧ 0 ≤ b ∧ 0 ≤ t ∧ t < 2 ^ 31
def SOk (K : Kw) (H : Hp) (S : Sto) : Prop := ∀ a o, sget S a = some o → LR K H a o
theorem LR.there {K : Kw} {H : Hp} {a : Addr} {o : LO} (h : LR K H a o) : H a ≠ none := by
  cases o with
  | lst xs => obtain ⟨vs, e, _⟩ := h; rw [e]; intro z; cases z
  | tape q => obtain ⟨k, b, t, e, _⟩ := h; rw [e]; intro z; cases z
  | dic o kvs => rw [h.1]; intro z; cases z
theorem LR.notup {K : Kw} {H : Hp} {a : Addr} {o : LO} {ys : List V} (h : LR K H a o) : ¬ Rd H a (.tup ys) := by
  rintro (z | ⟨u, z⟩)
  · cases o with
    | lst xs => obtain ⟨vs, e, _⟩ := h; rw [e] at z; cases z
    | tape q => obtain ⟨k, b, t, e, _⟩ := h; rw [e] at z; cases z
    | dic o kvs => rw [h.1] at z; cases z
  · cases o with
    | lst xs => obtain ⟨vs, e, _⟩ := h; rw [e] at z; cases z
    | tape q => obtain ⟨k, b, t, e, _⟩ := h; rw [e] at z; cases z
    | dic o kvs => rw [h.1] at z; cases z
theorem SOk.none {K : Kw} {H : Hp} {S : Sto} (s : SOk K H S) {p : Addr} (h : H p = none) : sget S p = none := by
  cases e : sget S p with
  | none => rfl
  | some o => exact absurd h (s p o e).there
/-- the frame: what S does not name stays, and stays unnamed; the tuples stay -/
structure Fr (S S' : Sto) (H H' : Hp) : Prop where
  keep : ∀ a o, H a = some o → sget S a = none → H' a = some o ∧ sget S' a = none
  tk : Tk H H'
theorem Fr.refl (S : Sto) (H : Hp) : Fr S S H H := ⟨fun _ _ e n => ⟨e, n⟩, .refl H⟩
theorem Fr.trans {S S1 S2 : Sto} {H H1 H2 : Hp} (a : Fr S S1 H H1) (b : Fr S1 S2 H1 H2) : Fr S S2 H H2 :=
  ⟨fun c o e n => let ⟨e1, n1⟩ := a.keep c o e n; b.keep c o e1 n1, a.tk.trans b.tk⟩
theorem LR.mono {K : Kw} {H H' : Hp} {a : Addr} {o : LO} (t : Tk H H') (e : H' a = H a) (h : LR K H a o) : LR K H' a o := by
  cases o with
  | lst xs => obtain ⟨vs, h1, h2, hz⟩ := h; exact ⟨vs, e.trans h1, h2.mono t, hz⟩
  | tape q => obtain ⟨k, b, t', h1, h2⟩ := h; exact ⟨k, b, t', e.trans h1, h2⟩
  | dic ob kvs => exact ⟨e.trans h.1, h.2.1, h.2.2.1, h.2.2.2.mono t⟩
theorem SOk.sub {K : Kw} {H : Hp} {S0 S1 : Sto} (s : SOk K H S1) (b : Sub S0 S1) : SOk K H S0 := fun a o e => s a o (b a o e)
theorem Sub.none {S0 S1 : Sto} (b : Sub S0 S1) {a : Addr} (n1 : sget S1 a = none) : sget S0 a = none := by
  cases h : sget S0 a with
  | none => rfl
  | some u =>
    have := b a u h
    rw [n1] at this
    cases this
theorem Fr.sub {S S0 S1 : Sto} {H H' : Hp} (f : Fr S S1 H H') (b : Sub S0 S1) : Fr S S0 H H' := ⟨fun a o e n => ⟨(f.keep a o e n).1, b.none (f.keep a o e n).2⟩, f.tk⟩
section
variable {K : Kw} {H : Hp} {S : Sto} {p : Addr} {vs : List V} {xs : List D} {h : HO}
theorem Tk.new (hp : H p = Option.none) : Tk H (upd H p h) := ⟨fun b ys q => by
  rcases q with q | ⟨u, q⟩
  · exact .inl (by rw [upd_ne (ne_of_none q hp)]; exact q)
  · exact .inr ⟨u, by rw [upd_ne (ne_of_none q hp)]; exact q⟩, fun b o u q => by rw [upd_ne (ne_of_none q hp)]; exact q, fun b u q => by rw [upd_ne (ne_of_none q hp)]; exact q⟩
/-- a new object that the store does not name -/
theorem SOk.off (s : SOk K H S) (hp : H p = Option.none) : SOk K (upd H p h) S := fun b o e => by
  have nb : b ≠ p := fun z => (s b o e).there (by rw [z]; exact hp)
  exact (s b o e).mono (.new hp) (upd_ne nb)
theorem Fr.off (S : Sto) (hp : H p = Option.none) : Fr S S H (upd H p h) := ⟨fun a o e n => ⟨by rw [upd_ne (ne_of_none e hp)]; exact e, n⟩, .new hp⟩
/-- a new list, named -/
theorem SOk.new (s : SOk K H S) (hp : H p = Option.none) (r : RpAll K H vs xs) (hz : xs.length ≤ sizeLine) : SOk K (upd H p (.lst vs)) ((p, .lst xs) :: S) := fun b o e => by
  by_cases hb : b = p
  · subst hb
    rw [sget_self] at e
    cases e
    exact ⟨vs, upd_same, r.mono (.new hp), hz⟩
  · rw [sget_ne hb] at e
    exact (s b o e).mono (.new hp) (upd_ne hb)
theorem Fr.new {o : LO} (S : Sto) (hp : H p = Option.none) : Fr S ((p, o) :: S) H (upd H p h) :=
  ⟨fun a u e n => ⟨by rw [upd_ne (ne_of_none e hp)]; exact e, by rw [sget_ne (ne_of_none e hp)]; exact n⟩, .new hp⟩
theorem Tk.set {ws : List V} (hp : H p = some (.lst vs)) : Tk H (upd H p (.lst ws)) := ⟨fun b ys q => by
  have nb : b ≠ p := fun z => by
    subst z
    rcases q with q | ⟨u, q⟩
    · rw [hp] at q; cases q
    · rw [hp] at q; cases q
  rcases q with q | ⟨u, q⟩
  · exact .inl (by rw [upd_ne nb]; exact q)
  · exact .inr ⟨u, by rw [upd_ne nb]; exact q⟩, fun b o u q => by
  have nb : b ≠ p := fun z => by subst z; rw [hp] at q; cases q
  rw [upd_ne nb]; exact q, fun b u q => by
  have nb : b ≠ p := fun z => by subst z; rw [hp] at q; cases q
  rw [upd_ne nb]; exact q⟩
/-- anything new, named -/
theorem SOk.newO {o : LO} (s : SOk K H S) (hp : H p = Option.none) (r : LR K (upd H p h) p o) : SOk K (upd H p h) ((p, o) :: S) := fun b u e => by
  by_cases hb : b = p
  · subst hb
    rw [sget_self] at e
    cases e
    exact r
  · rw [sget_ne hb] at e
    exact (s b u e).mono (.new hp) (upd_ne hb)
theorem Tk.setX {g g' : HO} (hp : H p = some g) (h1 : ∀ ys, g ≠ .tup ys) (h2 : ∀ o u, g ≠ .frz o u) (h3 : ∀ fs, g ≠ .xd fs := by intro fs z; nomatch z) : Tk H (upd H p g') := ⟨fun b ys q => by
  have nb : b ≠ p := fun z => by
    subst z
    rcases q with q | ⟨u, q⟩
    · rw [hp] at q; cases q; exact h1 _ rfl
    · rw [hp] at q; cases q; exact h2 _ _ rfl
  rcases q with q | ⟨u, q⟩
  · exact .inl (by rw [upd_ne nb]; exact q)
  · exact .inr ⟨u, by rw [upd_ne nb]; exact q⟩, fun b o u q => by
  have nb : b ≠ p := fun z => by subst z; rw [hp] at q; cases q; exact h2 _ _ rfl
  rw [upd_ne nb]; exact q, fun b u q => by
  have nb : b ≠ p := fun z => by subst z; rw [hp] at q; cases q; exact h3 _ rfl
  rw [upd_ne nb]; exact q⟩
theorem SOk.setX {g' : HO} {o o' : LO} (s : SOk K H S) (hs : sget S p = some o) (t : Tk H (upd H p g')) (r : LR K (upd H p g') p o') : SOk K (upd H p g') (sset S p o') := fun b u e => by
  rw [sget_sset S p b _ (by rw [hs]; rfl)] at e
  by_cases hb : b = p
  · subst hb
    rw [if_pos rfl] at e
    cases e
    exact r
  · rw [if_neg hb] at e
    exact (s b u e).mono t (upd_ne hb)
theorem Fr.setX {g' : HO} {o o' : LO} (hs : sget S p = some o) (t : Tk H (upd H p g')) : Fr S (sset S p o') H (upd H p g') :=
  ⟨fun a u e n => by
    have na : a ≠ p := fun z => by subst z; rw [hs] at n; cases n
    exact ⟨by rw [upd_ne na]; exact e, by rw [sget_sset S p a _ (by rw [hs]; rfl), if_neg na]; exact n⟩, t⟩
/-- a list changed -/
theorem SOk.set {o : LO} {ws : List V} (s : SOk K H S) (hs : sget S p = some o) (hp : H p = some (.lst vs)) (r : RpAll K H ws xs) (hz : xs.length ≤ sizeLine) : SOk K (upd H p (.lst ws)) (sset S p (.lst xs)) := fun b u e => by
  rw [sget_sset S p b _ (by rw [hs]; rfl)] at e
  by_cases hb : b = p
  · subst hb
    rw [if_pos rfl] at e
    cases e
    exact ⟨ws, upd_same, r.mono (.set hp), hz⟩
  · rw [if_neg hb] at e
    exact (s b u e).mono (.set hp) (upd_ne hb)
theorem Fr.set {o o' : LO} {ws : List V} (hs : sget S p = some o) (hp : H p = some (.lst vs)) : Fr S (sset S p o') H (upd H p (.lst ws)) :=
  ⟨fun a u e n => by
    have na : a ≠ p := fun z => by subst z; rw [hs] at n; cases n
    exact ⟨by rw [upd_ne na]; exact e, by rw [sget_sset S p a _ (by rw [hs]; rfl), if_neg na]; exact n⟩, .set hp⟩
end

/-! ### slots -/
def RO (K : Kw) (H : Hp) (o : Option V) (e : Option D) : Prop := ∀ d, e = some d → ∃ v, o = some v ∧ Rp K H v d
def ER (K : Kw) (H : Hp) (σ : L2.St) (env : EV) : Prop := σ.length = env.length ∧ ∀ (i : Nat) d, env[i]? = some (some d) → ∃ v, σ[i]? = some (some v) ∧ Rp K H v d
section
variable {K : Kw} {H H' : Hp} {σ : L2.St} {env : EV}
theorem ER.mono (t : Tk H H') (e : ER K H σ env) : ER K H' σ env := ⟨e.1, fun i d h => let ⟨v, a, b⟩ := e.2 i d h; ⟨v, a, b.mono t⟩⟩
theorem ER.set (e : ER K H σ env) (i : Nat) {v : V} {d : D} (r : Rp K H v d) : ER K H (σ.set i (some v)) (env.set i (some d)) := by
  refine ⟨by simp [e.1], fun j d' h => ?_⟩
  by_cases hj : i = j
  · subst hj
    by_cases hi : i < env.length
    · rw [List.getElem?_set_self hi] at h
      cases h
      exact ⟨v, List.getElem?_set_self (by rw [e.1]; exact hi), r⟩
    · rw [List.getElem?_eq_none (by simpa using hi)] at h
      cases h
  · rw [List.getElem?_set_ne hj] at h ⊢
    exact e.2 j d' h
theorem ER.setN (e : ER K H σ env) (i : Nat) : ER K H (σ.set i none) (env.set i none) := by
  refine ⟨by simp [e.1], fun j d' h => ?_⟩
  by_cases hj : i = j
  · subst hj
    by_cases hi : i < env.length
    · rw [List.getElem?_set_self hi] at h
      cases h
    · rw [List.getElem?_eq_none (by simpa using hi)] at h
      cases h
  · rw [List.getElem?_set_ne hj] at h ⊢
    exact e.2 j d' h
theorem ER.wipe (e : ER K H σ env) : ∀ vs : List Nat, ER K H (L2.wipe σ vs) (DL.wipe env vs)
  | [] => e
  | v :: vs => (e.wipe vs).setN v
end

/-! ### what is asked over data, as what is asked over values -/
/-- what follows a value -/
def PostE (K : Kw) (S : Sto) (H : Hp) (Q0 : WQ) (Q : VK) : Prop := ∀ d S', Q0 d S' → ∀ v H', Rp K H' v d → SOk K H' S' → Fr S S' H H' → Q v H'
def lE (K : Kw) (t : WE) : TE := fun σ H Q => ∃ env S Q0, ER K H σ env ∧ SOk K H S ∧ t env S Q0 ∧ PostE K S H Q0 Q
def lT (K : Kw) (t : WT) : TT := fun σ H Q => ∃ env S Q0, ER K H σ env ∧ SOk K H S ∧ t env S Q0 ∧ ∀ b S', Q0 b S' → ∀ H', SOk K H' S' → Fr S S' H H' → Q b H'
def lA (K : Kw) (t : WA) : TA := fun σ H Q => ∃ env S Q0, ER K H σ env ∧ SOk K H S ∧ t env S Q0 ∧ ∀ ds S', Q0 ds S' → ∀ vs H', RpAll K H' vs ds → SOk K H' S' → Fr S S' H H' → Q vs H'
def lO (K : Kw) (t : WO) : TO := fun σ H Q => ∃ env S Q0, ER K H σ env ∧ SOk K H S ∧ t env S Q0 ∧ ∀ o S', Q0 o S' → ∀ H', SOk K H' S' → Fr S S' H H' → Q o H'
structure PostS (K : Kw) (S : Sto) (H : Hp) (D0 : En) (D : L2.Ends) : Prop where
  nx : ∀ env' S', D0.nx env' S' → ∀ σ' H', ER K H' σ' env' → SOk K H' S' → Fr S S' H H' → D.nx σ' H'
  rt : PostE K S H D0.rt D.rt
  bk : ∀ env' S', D0.bk env' S' → ∀ σ' H', ER K H' σ' env' → SOk K H' S' → Fr S S' H H' → D.bk σ' H'
  ct : ∀ env' S', D0.ct env' S' → ∀ σ' H', ER K H' σ' env' → SOk K H' S' → Fr S S' H H' → D.ct σ' H'
def lS (K : Kw) (t : WS) : TS := fun D σ H => ∃ env S D0, ER K H σ env ∧ SOk K H S ∧ t D0 env S ∧ PostS K S H D0 D
def lG (K : Kw) (g : WG) : TG := fun v σ H Q => ∃ d env S Q0, Rp K H v d ∧ ER K H σ env ∧ SOk K H S ∧ g d env S Q0 ∧ ∀ env' S', Q0 env' S' → ∀ σ' H', ER K H' σ' env' → SOk K H' S' → Fr S S' H H' → Q σ' H'
def lGs (K : Kw) (g : WGs) : TGs := fun vs σ H Q => ∃ ds env S Q0, RpAll K H vs ds ∧ ER K H σ env ∧ SOk K H S ∧ g ds env S Q0 ∧ ∀ env' S', Q0 env' S' → ∀ σ' H', ER K H' σ' env' → SOk K H' S' → Fr S S' H H' → Q σ' H'
theorem PostE.trans {K : Kw} {S S1 : Sto} {H H1 : Hp} {Q0 : WQ} {Q : VK} (p : PostE K S H Q0 Q) (f : Fr S S1 H H1) : PostE K S1 H1 Q0 Q := fun d S' h v H' r s g => p d S' h v H' r s (f.trans g)
theorem PostS.trans {K : Kw} {S S1 : Sto} {H H1 : Hp} {D0 : En} {D : L2.Ends} (p : PostS K S H D0 D) (f : Fr S S1 H H1) : PostS K S1 H1 D0 D :=
  ⟨fun e S' h σ' H' r s g => p.nx e S' h σ' H' r s (f.trans g), p.rt.trans f, fun e S' h σ' H' r s g => p.bk e S' h σ' H' r s (f.trans g), fun e S' h σ' H' r s g => p.ct e S' h σ' H' r s (f.trans g)⟩

abbrev QE (X : Cx) (e : Expr) (t : WE) : Prop := PE X e (lE X.kw t)
abbrev QT (X : Cx) (e : Expr) (t : WT) : Prop := PT X e (lT X.kw t)
abbrev QA (X : Cx) (es : List Expr) (t : WA) : Prop := PA X es (lA X.kw t)
abbrev QO (X : Cx) (e : Option Expr) (t : WO) : Prop := PO X e (lO X.kw t)
abbrev QS (X : Cx) (s : Stmt) (t : WS) : Prop := PS X s (lS X.kw t)
abbrev QSs (X : Cx) (s : List Stmt) (t : WS) : Prop := PSs X s (lS X.kw t)
abbrev QG (X : Cx) (e : Expr) (g : WG) : Prop := PG X e (lG X.kw g)
abbrev QGs (X : Cx) (es : List Expr) (g : WGs) : Prop := PGs X es (lGs X.kw g)

theorem _root_.L2.PE.imp' {X : Cx} {e : Expr} {t u : TE} (h : PE X e t) (i : ∀ σ H Q, u σ H Q → t σ H Q) : PE X e u := ⟨fun pins s σ H Q I q => h.run pins s σ H Q I (i σ H Q q)⟩
theorem _root_.L2.PT.imp' {X : Cx} {e : Expr} {t u : TT} (h : PT X e t) (i : ∀ σ H Q, u σ H Q → t σ H Q) : PT X e u := ⟨fun pins s σ H Q I q => h.run pins s σ H Q I (i σ H Q q)⟩
theorem _root_.L2.PW.imp' {X : Cx} {e : Expr} {t u : TT} (h : PW X e t) (i : ∀ σ H Q, u σ H Q → t σ H Q) : PW X e u := ⟨fun wh pins s σ H Q I q => h.run wh pins s σ H Q I (i σ H Q q)⟩
theorem _root_.L2.PA.imp' {X : Cx} {e : List Expr} {t u : TA} (h : PA X e t) (i : ∀ σ H Q, u σ H Q → t σ H Q) : PA X e u := ⟨fun ps pins s σ H Q I q => h.run ps pins s σ H Q I (i σ H Q q)⟩
theorem _root_.L2.PO.imp' {X : Cx} {e : Option Expr} {t u : TO} (h : PO X e t) (i : ∀ σ H Q, u σ H Q → t σ H Q) : PO X e u := by
  first
    | exact ⟨fun pins s σ H Q I q => h.run pins s σ H Q I (i σ H Q q)⟩
    | (cases e <;> exact ⟨fun pins s σ H Q I q => h.run pins s σ H Q I (i σ H Q q)⟩)
theorem _root_.L2.PS.imp' {X : Cx} {e : Stmt} {t u : TS} (h : PS X e t) (i : ∀ D σ H, u D σ H → t D σ H) : PS X e u := ⟨fun pins s σ H D I q => h.run pins s σ H D I (i D σ H q)⟩
theorem _root_.L2.PSs.imp' {X : Cx} {e : List Stmt} {t u : TS} (h : PSs X e t) (i : ∀ D σ H, u D σ H → t D σ H) : PSs X e u := ⟨fun pins s σ H D I q => h.run pins s σ H D I (i D σ H q)⟩
theorem _root_.L2.PG.imp' {X : Cx} {e : Expr} {t u : TG} (h : PG X e t) (i : ∀ v σ H Q, u v σ H Q → t v σ H Q) : PG X e u := ⟨fun pins s σ H v w Q I r q => h.run pins s σ H v w Q I r (i v σ H Q q)⟩
theorem _root_.L2.PGs.imp' {X : Cx} {e : List Expr} {t u : TGs} (h : PGs X e t) (i : ∀ v σ H Q, u v σ H Q → t v σ H Q) : PGs X e u := ⟨fun pins s σ H v w Q I r q => h.run pins s σ H v w Q I r (i v σ H Q q)⟩
end DL

namespace DL
open PySem PySem.Spec PyProof.Rows L2
section
variable {K : Kw} {σ : L2.St} {H : Hp}
/-! ### plumbing -/
theorem lE_un {ta : WE} {Q : VK} {R : D → Sto → WQ → Prop} {RR : V → Hp → Prop}
    (h : lE K (fun env S Q => ta env S fun x S1 => R x S1 Q) σ H Q)
    (hR : ∀ x S1 Q0 v H1, R x S1 Q0 → Rp K H1 v x → SOk K H1 S1 → PostE K S1 H1 Q0 Q → RR v H1) : lE K ta σ H RR := by
  obtain ⟨env, S, Q0, er, so, q, ps⟩ := h
  exact ⟨env, S, fun x S1 => R x S1 Q0, er, so, q, fun x S1 h1 v H1 rv s1 f1 => hR x S1 Q0 v H1 h1 rv s1 (ps.trans f1)⟩
theorem lE_bin {ta tb : WE} {Q : VK} {R : D → D → Sto → WQ → Prop} {RR : V → V → Hp → Prop}
    (h : lE K (eBin R ta tb) σ H Q)
    (hR : ∀ x y S2 Q0 v u H2, R x y S2 Q0 → Rp K H2 v x → Rp K H2 u y → SOk K H2 S2 → PostE K S2 H2 Q0 Q → RR v u H2) :
    lE K ta σ H fun v H1 => lE K tb σ H1 fun u H2 => RR v u H2 := by
  obtain ⟨env, S, Q0, er, so, q, ps⟩ := h
  refine ⟨env, S, fun x S1 => tb env S1 fun y S2 => R x y S2 Q0, er, so, q, fun x S1 h1 v H1 rv s1 f1 => ?_⟩
  refine ⟨env, S1, fun y S2 => R x y S2 Q0, er.mono f1.tk, s1, h1, fun y S2 h2 u H2 ru s2 f2 => ?_⟩
  exact hR x y S2 Q0 v u H2 h2 (rv.mono f2.tk) ru s2 (ps.trans (f1.trans f2))
/-- what is handed on without a change of the store -/
theorem PostE.here {S : Sto} {Q0 : WQ} {Q : VK} {d : D} {v : V} (ps : PostE K S H Q0 Q) (so : SOk K H S) (q : Q0 d S) (r : Rp K H v d) : Q v H := ps d S q v H r so (.refl S H)
/-- a list made, handed on -/
theorem PostE.made {S : Sto} {Q0 : WQ} {Q : VK} {vs : List V} {xs : List D} (ps : PostE K S H Q0 Q) (so : SOk K H S) (r : RpAll K H vs xs) (hz : xs.length ≤ sizeLine)
    (q : ∀ p, sget S p = Option.none → Q0 (.ref p) ((p, .lst xs) :: S)) : ∀ p, H p = Option.none → Q (.ref p) (upd H p (.lst vs)) := fun p hp =>
  ps _ _ (q p (so.none hp)) _ _ (.ref p) (so.new hp r hz) (.new S hp)
/-- a tuple made, handed on -/
theorem PostE.tup {S : Sto} {Q0 : WQ} {Q : VK} {vs : List V} {xs : List D} (ps : PostE K S H Q0 Q) (so : SOk K H S) (r : RpAll K H vs xs) (hz : xs.length ≤ sizeLine) (q : Q0 (.tup xs) S) :
    ∀ p, H p = Option.none → Q (.ref p) (upd H p (.tup vs)) := fun p hp =>
  ps _ _ q _ _ (.tup (SqT.of upd_same) (r.mono (.new hp)) hz) (so.off hp) (.off S hp)
end

section
variable {X : Cx} {a b c : Expr} {ta tb tc : WE} {pos : Pos}
/-! ### names, constants -/
theorem q_var (i : Nat) {x : Str} {pos : Pos} (hN : X.N[i]? = some x := by rfl) (hv : Vis X.env.scope x := by first | exact Or.inl rfl | exact Or.inr (Or.inl rfl) | exact Or.inr (Or.inr rfl)) (hd : (x == ("__debug__" : Str)) = false := by decide)
    (hcd : (x == ("__classdict__" : Str)) = false := by decide) : QE X (.Name x pos) (eVar i) := (pe_var hN hv hd hcd).imp' fun σ H Q ⟨env, S, Q0, er, so, q, ps⟩ => by
  unfold eVar at q
  split at q
  · rename_i d e
    obtain ⟨v, e', r⟩ := er.2 i d e
    exact ⟨v, e', ps.here so q r⟩
  · exact q.elim
theorem lE_C {K : Kw} {σ : L2.St} {H : Hp} {Q : VK} {d : D} {v : V} (r : ∀ H, Rp K H v d) (h : lE K (eC d) σ H Q) : Q v H := by
  obtain ⟨env, S, Q0, er, so, q, ps⟩ := h
  exact ps.here so q (r H)
theorem q_int {i j pos} : QE X (.Constant (.int i) j pos) (eC (.int i)) := pe_int.imp' fun _ _ _ h => lE_C (fun _ => .int i) h
theorem q_bl {b j pos} : QE X (.Constant (.bool b) j pos) (eC (.bl b)) := pe_bl.imp' fun _ _ _ h => lE_C (fun _ => .bl b) h
theorem q_non {j pos} : QE X (.Constant .none j pos) (eC .non) := pe_non.imp' fun _ _ _ h => lE_C (fun _ => .non) h
theorem q_str {x j pos} : QE X (.Constant (.str x) j pos) (eC (.str x)) := pe_str.imp' fun _ _ _ h => lE_C (fun _ => .str x) h
/-- a module's constant -/
theorem q_glob {x : Str} {d : D} {v : V} {u : Value} {pos : Pos} (hg : Gl X x) (hm : X.mg x = some u) (r : RelV v u) (rp : ∀ H, Rp X.kw H v d) (hd : (x == ("__debug__" : Str)) = false := by decide) : QE X (.Name x pos) (eC d) :=
  (pe_glob hg hm r hd).imp' fun _ _ _ h => lE_C rp h

theorem q_globI {x : Str} {i : Int} {t : Tok} {pos : Pos} (hg : Gl X x) (hm : X.mg x = some (.int i t)) (hd : (x == ("__debug__" : Str)) = false := by decide) : QE X (.Name x pos) (eC (.int i)) := q_glob (v := .int i) hg hm ⟨t, rfl⟩ (fun _ => .int _) hd
theorem q_globS {x : Str} {z : Str} {t : Tok} {pos : Pos} (hg : Gl X x) (hm : X.mg x = some (.str z t)) (hd : (x == ("__debug__" : Str)) = false := by decide) : QE X (.Name x pos) (eC (.str z)) := q_glob (v := .str z) hg hm ⟨t, rfl⟩ (fun _ => .str _) hd

theorem q_globT {x : Str} {a : Addr} {ds : List D} {pos : Pos} (hg : Gl X x) (hm : X.mg x = some (.ref a)) (r : ∀ H, Rp X.kw H (.ref a) (.tup ds)) (hd : (x == ("__debug__" : Str)) = false := by decide) : QE X (.Name x pos) (eC (.tup ds)) := q_glob (v := .ref a) hg hm rfl r hd
/-- an item of a tuple that K knows -/
inductive Kt (K : Kw) : Value → D → Prop
  | int (i : Int) (t : Tok) : Kt K (.int i t) (.int i)
  | str (x : Str) (t : Tok) : Kt K (.str x t) (.str x)
  | bl (b : Bool) : Kt K (.bool b) (.bl b)
  | non : Kt K .none .non
  | ref {b : Addr} {d : D} (h : ∀ H, Rp K H (.ref b) d) : Kt K (.ref b) d
inductive KtAll (K : Kw) : List Value → List D → Prop
  | nil : KtAll K [] []
  | cons {v : Value} {vs : List Value} {d : D} {ds : List D} : Kt K v d → KtAll K vs ds → KtAll K (v :: vs) (d :: ds)
theorem KtAll.vals {K : Kw} (H : Hp) : ∀ {us : List Value} {ds : List D}, KtAll K us ds → ∃ vs, Vals vs us ∧ RpAll K H vs ds
  | _, _, .nil => ⟨[], .nil, .nil⟩
  | _, _, .cons h t => by
    obtain ⟨vs, a, b⟩ := KtAll.vals H t
    cases h with
    | int i t => exact ⟨.int i :: vs, .cons ⟨_, rfl⟩ a, .cons (.int i) b⟩
    | str x t => exact ⟨.str x :: vs, .cons ⟨_, rfl⟩ a, .cons (.str x) b⟩
    | bl k => exact ⟨.bl k :: vs, .cons rfl a, .cons (.bl k) b⟩
    | non => exact ⟨.non :: vs, .cons rfl a, .cons .non b⟩
    | ref h => exact ⟨V.ref _ :: vs, .cons rfl a, .cons (h H) b⟩
theorem rp_kt {K : Kw} {a : Addr} {o : Obj} {us : List Value} {n : Nat} {ds : List D} (lk : K.K.lookup a = some o) (hc : o.cls = .type "tuple") (hd : o.data = .seq us.toArray n) (hz : us.length ≤ 1000) (h : KtAll K us ds) : ∀ H, Rp K H (.ref a) (.tup ds) := fun H => by
  obtain ⟨vs, h1, h2⟩ := h.vals H
  have e1 := h1.length
  have e2 := h2.length
  have big : 1000 ≤ sizeLine := by decide
  exact .tup (.inr ⟨o, us.toArray, n, lk, hc, hd, by rw [List.size_toArray]; omega, by simpa using h1⟩) h2 (by omega)

/-! ### + - * // % ** -/
/-- an operator: its rule over values follows from its rule over data -/
def Opr (X : Cx) (r : R2) (R : D → D → Sto → WQ → Prop) : Prop := ∀ x y S Q0 v u H Q, R x y S Q0 → Rp X.kw H v x → Rp X.kw H u y → SOk X.kw H S → PostE X.kw S H Q0 Q → r v u H Q
theorem q_bin {op : Operator} {r : R2} {R : D → D → Sto → WQ → Prop} (ho : OpR X (binaryOp op) r) (hr : Opr X r R) (ha : QE X a ta) (hb : QE X b tb) : QE X (.BinOp a op b pos) (eBin R ta tb) :=
  (pe_op ho ha hb).imp' fun σ H Q h => lE_bin h fun x y S2 Q0 v u H2 => hr x y S2 Q0 v u H2 Q
theorem opr_sub : Opr X (rI0 fun i j => .int (i - j)) dSub := fun x y S Q0 v u H Q h rv ru so ps => by
  unfold dSub at h
  split at h
  · cases rv; cases ru
    exact ⟨_, _, rfl, rfl, ps.here so h (.int _)⟩
  · exact h.elim
theorem opr_mod : Opr X (rI (fun _ j => 0 < j) fun i j => .int (i % j)) dMod := fun x y S Q0 v u H Q h rv ru so ps => by
  unfold dMod at h
  split at h
  · cases rv; cases ru
    exact ⟨_, _, rfl, rfl, h.1, ps.here so h.2 (.int _)⟩
  · exact h.elim
theorem opr_pow : Opr X (rI CPow fun i j => .int (i ^ j.toNat)) dPow := fun x y S Q0 v u H Q h rv ru so ps => by
  unfold dPow at h
  split at h
  · cases rv; cases ru
    exact ⟨_, _, rfl, rfl, h.1, ps.here so h.2 (.int _)⟩
  · exact h.elim

theorem op_rep_str : OpR X (binaryOp .Mult) (fun x y H Q => ∃ z k, x = .str z ∧ y = .int k ∧ (-(2 ^ 63) ≤ k ∧ k < 2 ^ 63 ∧ z.length * k.toNat ≤ sizeLine) ∧ Q (.str (Txt.mul z k)) H) := by
  intro pins s σ H x y v u Q I rx ry h
  obtain ⟨z, k, rfl, rfl, ⟨h1, h2, hz⟩, q⟩ := h
  obtain ⟨t, rfl⟩ := rx
  obtain ⟨t', rfl⟩ := ry
  refine SB.mul ⟨?_, fun h _ => ?_, fun h _ => ?_⟩ fun t' tk => ⟨.str _, H, I.tok _, ⟨_, rfl⟩, q⟩
  · rw [decide_eq_false (by omega), decide_eq_false (by omega)]; rfl
  · have e : (z.length : Int) * k = (z.length * k.toNat : Nat) := by
      rw [Int.natCast_mul, Int.toNat_of_nonneg (by omega)]
    have hs : (sizeLine : Int) ≤ 2 ^ 63 - 1 := by decide
    have := Int.le_ediv_of_mul_le (a := (z.length : Int)) (b := 2 ^ 63 - 1) (c := k) (by omega) (by omega)
    omega
  · unfold Builtin.Str.tooLong
    exact decide_eq_false (by omega)
theorem opr_mul : Opr X (fun x y H Q => (rI CMul (fun i j => .int (i * j)) x y H Q ∨ rI CMulW (fun i j => .int (i * j)) x y H Q) ∨ ((∃ z k, x = V.str z ∧ y = V.int k ∧ (-(2 ^ 63) ≤ k ∧ k < 2 ^ 63 ∧ z.length * k.toNat ≤ sizeLine) ∧ Q (.str (Txt.mul z k)) H) ∨ (L2.rRep x y H Q ∨ rRepT X.K x y H Q))) dMul := fun x y S Q0 v u H Q h rv ru so ps => by
  unfold dMul at h
  split at h
  · cases rv; cases ru
    rcases h with ⟨h | h | h, q⟩
    · exact .inl <| .inl ⟨_, _, rfl, rfl, .inl (by omega), ps.here so q (.int _)⟩
    · exact .inl <| .inl ⟨_, _, rfl, rfl, .inr (by omega), ps.here so q (.int _)⟩
    · exact .inl <| .inr ⟨_, _, rfl, rfl, Nat.lt_of_le_of_lt h (by decide), ps.here so q (.int _)⟩
  · cases rv; cases ru
    exact .inr <| .inl ⟨_, _, rfl, rfl, h.1, ps.here so h.2 (.str _)⟩
  · cases rv; cases ru
    obtain ⟨xs, e1, h3, h⟩ := onL_iff.mp h
    obtain ⟨vs, h1, r1, _⟩ := so _ _ e1
    exact .inr <| .inr <| .inl ⟨_, _, _, rfl, rfl, h1, h3.1, h3.2.1, by rw [r1.length]; exact h3.2.2, ps.made so (r1.rep _) (by rw [List.length_flatten]; simpa using by rw [Nat.mul_comm]; exact h3.2.2) h⟩
  · cases ru
    cases rv with
    | tup h1 r1 hz =>
      obtain ⟨⟨h2, h3, h4, h5⟩, q⟩ := h
      refine .inr <| .inr <| .inr ⟨_, _, _, rfl, rfl, h1, fun e => h2 (by rw [e] at r1; cases r1; rfl), h3, h4, by rw [r1.length]; exact h5, ps.tup so (r1.rep _) ?_ q⟩
      rw [List.length_flatten]
      rename_i xs k _ _
      have : k.toNat * xs.length ≤ 1000 * 1000 := Nat.mul_le_mul (by omega) h5
      have hb : 1000 * 1000 ≤ sizeLine := by decide
      simp
      omega
  · exact h.elim
theorem opr_div : Opr X (rI CDivW fun i j => .int (i / j)) dDiv := fun x y S Q0 v u H Q h rv ru so ps => by
  unfold dDiv at h
  split at h
  · cases rv; cases ru
    exact ⟨_, _, rfl, rfl, ⟨h.1.1, Nat.lt_trans h.1.2 (by decide)⟩, ps.here so h.2 (.int _)⟩
  · exact h.elim
theorem op_fdivX : OpR X (binaryOp .FloorDiv) (rI (fun _ j => j ≠ 0 ∧ j.natAbs.log2 < 9000) fun i j => .int (i.fdiv j)) := opI fun i j _ _ _ _ _ hc q =>
  floordiv_int hc.1 q (.inl (PyProof.noPylong_of_log2 hc.2))
theorem opr_fdiv : Opr X (rI (fun _ j => j ≠ 0 ∧ j.natAbs.log2 < 9000) fun i j => .int (i.fdiv j)) dFdiv := fun x y S Q0 v u H Q h rv ru so ps => by
  unfold dFdiv at h
  split at h
  · cases rv; cases ru
    exact ⟨_, _, rfl, rfl, ⟨h.1.1, Nat.lt_trans h.1.2 (by decide)⟩, ps.here so h.2 (.int _)⟩
  · exact h.elim
/-- + by what is added -/
def rAddAny (X : Cx) : R2 := fun x y H Q => (rI0 (fun i j => .int (i + j)) x y H Q ∨ (∃ i k, x = V.int i ∧ y = V.bl k ∧ Q (.int (i + b2i k)) H)) ∨
  (∃ i j, x = V.str i ∧ y = V.str j ∧ i.length + j.length ≤ sizeLine ∧ Q (.str (i ++ j)) H) ∨ L2.rCat x y H Q ∨ rCatA X.K x y H Q
theorem op_addAny : OpR X (binaryOp .Add) (rAddAny X) := ((op_add.or op_add_ib).or (op_add_str.or (op_cat.or op_catA)))
theorem SOk.lst {K : Kw} {H : Hp} {S : Sto} {a : Addr} {xs : List D} (so : SOk K H S) (e : sget S a = some (.lst xs)) : ∃ vs, H a = some (.lst vs) ∧ RpAll K H vs xs ∧ xs.length ≤ sizeLine := so a _ e
theorem opr_add : Opr X (rAddAny X) dAdd := fun x y S Q0 v u H Q h rv ru so ps => by
  unfold dAdd at h
  split at h
  · cases rv; cases ru
    exact .inl (.inl ⟨_, _, rfl, rfl, ps.here so h (.int _)⟩)
  · cases rv; cases ru
    rename_i b
    refine .inl (.inr ⟨_, b, rfl, rfl, ps.here so h ?_⟩)
    cases b <;> exact .int _
  · cases rv; cases ru
    exact .inr (.inl ⟨_, _, rfl, rfl, h.1, ps.here so h.2 (.str _)⟩)
  · rename_i a b
    cases rv with
    | tup h1 r1 z1 =>
      cases ru with
      | tup h2 r2 z2 =>
        refine .inr (.inr (.inr ⟨_, _, _, _, rfl, rfl, h1, h2, by rw [r1.length, r2.length]; exact h.1, fun e => ?_, fun _ e => ?_, fun _ _ => ?_⟩))
        · subst e
          cases r1
          exact ps.here so h.2 (.tup h2 r2 z2)
        · subst e
          cases r2
          refine ps.here so h.2 ?_
          rw [List.append_nil]
          exact .tup h1 r1 z1
        · exact ps.tup so (r1.append r2) (by rw [List.length_append]; exact h.1) h.2
  · cases rv; cases ru
    · obtain ⟨xs, e1, h⟩ := onL_iff.mp h
      obtain ⟨ys, e2, h⟩ := onL_iff.mp h
      obtain ⟨vs, h1, r1, _⟩ := so.lst e1
      obtain ⟨ws, h2, r2, _⟩ := so.lst e2
      exact .inr (.inr (.inl ⟨_, _, _, _, rfl, rfl, h1, h2, by rw [r1.length, r2.length]; exact h.1, ps.made so (r1.append r2) (by rw [List.length_append]; exact h.1) h.2⟩))
  · exact h.elim
theorem q_add (ha : QE X a ta) (hb : QE X b tb) : QE X (.BinOp a .Add b pos) (eBin dAdd ta tb) := q_bin op_addAny opr_add ha hb
theorem q_sub (ha : QE X a ta) (hb : QE X b tb) : QE X (.BinOp a .Sub b pos) (eBin dSub ta tb) := q_bin op_sub opr_sub ha hb
theorem q_mul (ha : QE X a ta) (hb : QE X b tb) : QE X (.BinOp a .Mult b pos) (eBin dMul ta tb) := q_bin ((op_mul.or op_mulW).or (op_rep_str.or (op_rep.or op_repT))) opr_mul ha hb
theorem q_div (ha : QE X a ta) (hb : QE X b tb) : QE X (.BinOp a .FloorDiv b pos) (eBin dDiv ta tb) := q_bin op_fdivW opr_div ha hb
theorem q_fdiv (ha : QE X a ta) (hb : QE X b tb) : QE X (.BinOp a .FloorDiv b pos) (eBin dFdiv ta tb) := q_bin op_fdivX opr_fdiv ha hb
theorem q_mod (ha : QE X a ta) (hb : QE X b tb) : QE X (.BinOp a .Mod b pos) (eBin dMod ta tb) := q_bin op_mod opr_mod ha hb
theorem q_pow (ha : QE X a ta) (hb : QE X b tb) : QE X (.BinOp a .Pow b pos) (eBin dPow ta tb) := q_bin op_pow opr_pow ha hb
theorem q_neg (ha : QE X a ta) : QE X (.UnaryOp .USub a pos) (eNeg ta) := (pe_un un_neg ha).imp' fun σ H Q h => lE_un (R := fun x S1 Q => match x with | .int i => Q (.int (-i)) S1 | _ => False) h fun x S1 Q0 v H1 h rv so ps => by
  split at h
  · cases rv
    exact ⟨_, rfl, ps.here so h (.int _)⟩
  · exact h.elim

/-! ### comparisons -/
theorem opr_cmp {f : Int → Int → Bool} : Opr X (rI0 fun i j => .bl (f i j)) (dCmp f) := fun x y S Q0 v u H Q h rv ru so ps => by
  unfold dCmp at h
  split at h
  · cases rv; cases ru
    exact ⟨_, _, rfl, rfl, ps.here so h (.bl _)⟩
  · exact h.elim
theorem q_cmp {op : CmpOp} {r : R2} {R : D → D → Sto → WQ → Prop} (ho : OpR X (compareOp op) r) (hr : Opr X r R) (ha : QE X a ta) (hb : QE X b tb) (hm : behindInMarks op b = false) : QE X (.Compare a [op] [b] pos) (eBin R ta tb) :=
  (pe_cmpR ho ha hb hm).imp' fun σ H Q h => lE_bin h fun x y S2 Q0 v u H2 => hr x y S2 Q0 v u H2 Q
theorem q_lt (ha : QE X a ta) (hb : QE X b tb) : QE X (.Compare a [.Lt] [b] pos) (eBin dLt ta tb) := q_cmp op_lt opr_cmp ha hb (nomark _)
theorem q_le (ha : QE X a ta) (hb : QE X b tb) : QE X (.Compare a [.LtE] [b] pos) (eBin dLe ta tb) := q_cmp op_le opr_cmp ha hb (nomark _)
theorem q_gt (ha : QE X a ta) (hb : QE X b tb) : QE X (.Compare a [.Gt] [b] pos) (eBin dGt ta tb) := q_cmp op_gt opr_cmp ha hb (nomark _)
theorem q_ge (ha : QE X a ta) (hb : QE X b tb) : QE X (.Compare a [.GtE] [b] pos) (eBin dGe ta tb) := q_cmp op_ge opr_cmp ha hb (nomark _)
/-! == over data of any depth -/
mutual
def pyD : D → PyData
  | .non => .none
  | .bl b => .bool b
  | .int i => .int i
  | .str x => .str x
  | .tup xs => .tuple (pyDs xs)
  | .ref _ | .frz _ | .ty _ | .exc _ _ _ _ => .none
def pyDs : List D → List PyData
  | [] => []
  | x :: xs => pyD x :: pyDs xs
end
mutual
theorem Rp.dp {K : Kw} {H : Hp} : ∀ {v : V} {d : D}, Rp K H v d → cmpOk d = true → Dp K H v (pyD d)
  | _, _, .non, _ => by unfold pyD; exact .non
  | _, _, .bl b, _ => by unfold pyD; exact .bl b
  | _, _, .int i, _ => by unfold pyD; exact .int i
  | _, _, .str x, _ => by unfold pyD; exact .str x
  | _, _, .tup h hs _, c => by unfold cmpOk at c; unfold pyD; exact .tup h (RpAll.dp hs c)
  | _, _, .ref a, c => by unfold cmpOk at c; cases c
  | _, _, .frz _ _ _, c => by unfold cmpOk at c; cases c
  | _, _, .ty _, c => by unfold cmpOk at c; cases c
  | _, _, .exc _ _, c => by unfold cmpOk at c; cases c
theorem RpAll.dp {K : Kw} {H : Hp} : ∀ {vs : List V} {ds : List D}, RpAll K H vs ds → cmpOks ds = true → DpAll K H vs (pyDs ds)
  | _, _, .nil, _ => by unfold pyDs; exact .nil
  | _, _, .cons h hs, c => by
    unfold cmpOks at c
    rw [Bool.and_eq_true] at c
    unfold pyDs
    exact .cons (Rp.dp h c.1) (RpAll.dp hs c.2)
end
mutual
theorem cmp_lay : ∀ (d : D), cmpOk d = true → (pyD d).canLay0 = true
  | .non, _ => by simp [pyD, PyData.canLay0]
  | .bl b, _ => by simp [pyD, PyData.canLay0]
  | .int i, _ => by simp [pyD, PyData.canLay0]
  | .str x, c => by unfold cmpOk at c; simp [pyD, PyData.canLay0, c]
  | .tup xs, c => by unfold cmpOk at c; simp [pyD, PyData.canLay0, cmps_lay xs c]
  | .ref a, c => by unfold cmpOk at c; cases c
  | .frz _, c => by unfold cmpOk at c; cases c
  | .ty _, c => by unfold cmpOk at c; cases c
  | .exc _ _ _ _, c => by unfold cmpOk at c; cases c
theorem cmps_lay : ∀ (ds : List D), cmpOks ds = true → PyData.canLayAll0 (pyDs ds) = true
  | [], _ => by simp [pyDs, PyData.canLayAll0]
  | d :: ds, c => by
    unfold cmpOks at c
    rw [Bool.and_eq_true] at c
    simp [pyDs, PyData.canLayAll0, cmp_lay d c.1, cmps_lay ds c.2]
end
mutual
theorem pyD_depth : ∀ (d : D), (pyD d).depth = depD d
  | .non => by simp [pyD, PyData.depth, depD]
  | .bl b => by simp [pyD, PyData.depth, depD]
  | .int i => by simp [pyD, PyData.depth, depD]
  | .str x => by simp [pyD, PyData.depth, depD]
  | .tup xs => by simp [pyD, PyData.depth, depD, pyDs_depth xs]
  | .ref a => by simp [pyD, PyData.depth, depD]
  | .frz _ => by simp [pyD, PyData.depth, depD]
  | .ty _ => by simp [pyD, PyData.depth, depD]
  | .exc _ _ _ _ => by simp [pyD, PyData.depth, depD]
theorem pyDs_depth : ∀ (ds : List D), PyData.depthAll (pyDs ds) = depDs ds
  | [] => by simp [pyDs, PyData.depthAll, depDs]
  | d :: ds => by simp [pyDs, PyData.depthAll, depDs, pyD_depth d, pyDs_depth ds]
end
mutual
theorem pyD_eqv : ∀ (d e : D), cmpOk d = true → cmpOk e = true → PyData.eqv (pyD d) (pyD e) = eqD d e
  | d, e, hd, he => by
    cases d <;> cases e <;> first
      | (simp only [pyD, PyData.eqv, eqD]; done)
      | (unfold cmpOk at hd he; simp only [pyD, PyData.eqv, eqD]; exact pyDs_eqv _ _ hd he)
      | (exfalso; simp [cmpOk] at hd; done)
      | (exfalso; simp [cmpOk] at he; done)
theorem pyDs_eqv : ∀ (ds es : List D), cmpOks ds = true → cmpOks es = true → PyData.eqvAll (pyDs ds) (pyDs es) = eqDs ds es
  | [], [], _, _ => by simp only [pyDs, PyData.eqvAll, eqDs]
  | [], _ :: _, _, _ => by simp only [pyDs, PyData.eqvAll, eqDs]
  | _ :: _, [], _, _ => by simp only [pyDs, PyData.eqvAll, eqDs]
  | d :: ds, e :: es, hd, he => by
    unfold cmpOks at hd he
    rw [Bool.and_eq_true] at hd he
    simp only [pyDs, PyData.eqvAll, eqDs, pyD_eqv d e hd.1 he.1, pyDs_eqv ds es hd.2 he.2]
end
theorem cmp_shaped {d : D} (h : cmpOk d = true) (hd : depD d ≤ 60) : SeqAt.shaped (pyD d) = true := by
  unfold SeqAt.shaped
  rw [cmp_lay d h, pyD_depth, Bool.true_and, decide_eq_true_eq]
  omega
theorem cmps_shaped {ds : List D} (h : cmpOks ds = true) (hd : depDs ds ≤ 50) : SeqAt.shaped (.list (pyDs ds)) = true := by
  unfold SeqAt.shaped
  rw [Bool.and_eq_true, decide_eq_true_eq]
  refine ⟨by simp only [PyData.canLay0]; exact cmps_lay ds h, ?_⟩
  simp only [PyData.depth]
  rw [pyDs_depth]
  omega
def rEqAny (X : Cx) : R2 := fun x y H Q => rEq x y H Q ∨ rEqD X.K x y H Q
def rNeAny (X : Cx) : R2 := fun x y H Q => rNe x y H Q ∨ rNeD X.K x y H Q
theorem opr_eqD : Opr X (rEqD X.K) fun x y S Q => (cmpOk x = true ∧ depD x ≤ 60 ∧ cmpOk y = true ∧ depD y ≤ 60) ∧ Q (.bl (eqD x y)) S := fun x y S Q0 v u H Q h rv ru so ps => by
  obtain ⟨⟨h1, h2, h3, h4⟩, q⟩ := h
  refine ⟨_, _, rv.dp h1, ru.dp h3, cmp_shaped h1 h2, cmp_shaped h3 h4, ?_⟩
  rw [pyD_eqv _ _ h1 h3]
  exact ps.here so q (.bl _)
theorem opr_neD : Opr X (rNeD X.K) fun x y S Q => (cmpOk x = true ∧ depD x ≤ 60 ∧ cmpOk y = true ∧ depD y ≤ 60) ∧ Q (.bl (!eqD x y)) S := fun x y S Q0 v u H Q h rv ru so ps => by
  obtain ⟨⟨h1, h2, h3, h4⟩, q⟩ := h
  refine ⟨_, _, rv.dp h1, ru.dp h3, cmp_shaped h1 h2, cmp_shaped h3 h4, ?_⟩
  rw [pyD_eqv _ _ h1 h3]
  exact ps.here so q (.bl _)
theorem opr_eq : Opr X (rEqAny X) dEq := fun x y S Q0 v u H Q h rv ru so ps => by
  unfold dEq at h
  split at h
  · cases rv; cases ru
    refine .inl ⟨rfl, ?_⟩
    rw [dec_int, Bool.beq_eq_decide_eq]
    exact ps.here so h (.bl _)
  · cases rv; cases ru
    refine .inl ⟨rfl, ?_⟩
    rw [dec_str, Bool.beq_eq_decide_eq]
    exact ps.here so h (.bl _)
  · cases rv; cases ru
    refine .inl ⟨rfl, ?_⟩
    rw [dec_bl, Bool.beq_eq_decide_eq]
    exact ps.here so h (.bl _)
  · cases rv; cases ru
    obtain ⟨xs, e1, h⟩ := onL_iff.mp h
    obtain ⟨ys, e2, ⟨h1, h2, h3, h4⟩, q⟩ := onL_iff.mp h
    obtain ⟨vs, g1, r1, _⟩ := so _ _ e1
    obtain ⟨ws, g2, r2, _⟩ := so _ _ e2
    refine .inr ⟨_, _, .lst (SqL.of g1) (r1.dp h1), .lst (SqL.of g2) (r2.dp h3), cmps_shaped h1 h2, cmps_shaped h3 h4, ?_⟩
    have e : PyData.eqv (.list (pyDs xs)) (.list (pyDs ys)) = eqDs xs ys := by simp only [PyData.eqv, pyDs_eqv xs ys h1 h3]
    rw [e]
    exact ps.here so q (.bl _)
  · exact .inr (opr_eqD x y S Q0 v u H Q h rv ru so ps)
theorem opr_ne : Opr X (rNeAny X) dNe := fun x y S Q0 v u H Q h rv ru so ps => by
  unfold dNe at h
  split at h
  · cases rv; cases ru
    refine .inl ⟨rfl, ?_⟩
    rw [dec_int, Bool.beq_eq_decide_eq]
    exact ps.here so h (.bl _)
  · cases rv; cases ru
    refine .inl ⟨rfl, ?_⟩
    rw [dec_str, Bool.beq_eq_decide_eq]
    exact ps.here so h (.bl _)
  · cases rv; cases ru
    refine .inl ⟨rfl, ?_⟩
    rw [dec_bl, Bool.beq_eq_decide_eq]
    exact ps.here so h (.bl _)
  · cases rv; cases ru
    obtain ⟨xs, e1, h⟩ := onL_iff.mp h
    obtain ⟨ys, e2, ⟨h1, h2, h3, h4⟩, q⟩ := onL_iff.mp h
    obtain ⟨vs, g1, r1, _⟩ := so _ _ e1
    obtain ⟨ws, g2, r2, _⟩ := so _ _ e2
    refine .inr ⟨_, _, .lst (SqL.of g1) (r1.dp h1), .lst (SqL.of g2) (r2.dp h3), cmps_shaped h1 h2, cmps_shaped h3 h4, ?_⟩
    have e : PyData.eqv (.list (pyDs xs)) (.list (pyDs ys)) = eqDs xs ys := by simp only [PyData.eqv, pyDs_eqv xs ys h1 h3]
    rw [e]
    exact ps.here so q (.bl _)
  · exact .inr (opr_neD x y S Q0 v u H Q h rv ru so ps)
theorem q_eq {k : Nat} (hr : Room k X.A) (ha : QE X a ta) (hb : QE X b tb) : QE X (.Compare a [.Eq] [b] pos) (eBin dEq ta tb) := q_cmp (op_eq.or (op_eqD hr.units)) opr_eq ha hb (nomark _)
theorem q_ne {k : Nat} (hr : Room k X.A) (ha : QE X a ta) (hb : QE X b tb) : QE X (.Compare a [.NotEq] [b] pos) (eBin dNe ta tb) := q_cmp (op_ne.or (op_neD hr.units)) opr_ne ha hb (nomark _)
/-! in, not in -/
theorem flat_V {K : Kw} {H : Hp} {v : V} {d : D} (r : Rp K H v d) (h : flatD d = true) : flatV v = true := by
  cases r <;> first | rfl | cases h
theorem flats_V {K : Kw} {H : Hp} : ∀ {vs : List V} {ds : List D}, RpAll K H vs ds → ds.all flatD = true → vs.all flatV = true
  | _, _, .nil, _ => rfl
  | _, _, .cons r t, h => by
    rw [List.all_cons, Bool.and_eq_true] at h ⊢
    exact ⟨flat_V r h.1, flats_V t h.2⟩
theorem eqV_D {K : Kw} {H : Hp} {v u : V} {d e : D} (r : Rp K H v d) (s : Rp K H u e) (h1 : flatD d = true) (h2 : flatD e = true) : eqV v u = eqD d e := by
  cases r <;> cases s <;> first | (simp only [eqV, eqD]; done) | cases h1 | cases h2
theorem inV_D {K : Kw} {H : Hp} {u : V} {e : D} (s : Rp K H u e) (h2 : flatD e = true) : ∀ {vs : List V} {ds : List D}, RpAll K H vs ds → ds.all flatD = true → inV u vs = memD e ds
  | _, _, .nil, _ => rfl
  | _, _, .cons r t, h => by
    rw [List.all_cons, Bool.and_eq_true] at h
    have := inV_D s h2 t h.2
    unfold inV memD at this ⊢
    rw [List.any_cons, List.any_cons, eqV_D r s h.1 h2, this]
theorem memD_py {e : D} (he : cmpOk e = true) : ∀ {ds : List D}, cmpOks ds = true → ((pyDs ds).any fun z => PyData.eqv z (pyD e)) = memD e ds
  | [], _ => rfl
  | d :: ds, h => by
    unfold cmpOks at h
    rw [Bool.and_eq_true] at h
    have := memD_py he h.2
    unfold memD at this ⊢
    unfold pyDs
    rw [List.any_cons, List.any_cons, pyD_eqv d e h.1 he, this]
def rInT (K : PySem.W.Frag) (f : Bool → Bool) : R2 := fun x y H Q => ∃ d ds, Dp K H x d ∧ Dp K H y (.tuple ds) ∧ SeqAt.shaped d = true ∧ PyData.canLayAll0 ds = true ∧ Q (.bl (f (ds.any fun z => PyData.eqv z d))) H
theorem op_inT (hu : X.A.units + 65 < cLine) : OpR X (compareOp .In) (rInT X.K id) := by
  intro pins s σ H x y v u Q I rx ry h
  obtain ⟨d, ds, hd, he, sd, se, q⟩ := h
  obtain ⟨as, r1⟩ := Dp.reads I d x v hd rx
  obtain ⟨bs, r2⟩ := Dp.reads I (.tuple ds) y u he ry
  exact SeqAt.in_tuple_reads r2 r1 se (SeqAt.canLay_of_shaped sd) (room_in_shaped sd hu) ⟨.bl _, H, I, rfl, q⟩
theorem op_notInT (hu : X.A.units + 65 < cLine) : OpR X (compareOp .NotIn) (rInT X.K (!·)) := by
  intro pins s σ H x y v u Q I rx ry h
  obtain ⟨d, ds, hd, he, sd, se, q⟩ := h
  obtain ⟨as, r1⟩ := Dp.reads I d x v hd rx
  obtain ⟨bs, r2⟩ := Dp.reads I (.tuple ds) y u he ry
  exact SeqAt.notIn_tuple_reads r2 r1 se (SeqAt.canLay_of_shaped sd) (room_in_shaped sd hu) ⟨.bl _, H, I, rfl, q⟩
def rInAny (X : Cx) : R2 := fun x y H Q => (∃ (c : Nat) (z : Str), x = V.str ⟨#[c]⟩ ∧ y = V.str z ∧ Q (.bl (decide (c ∈ z.cps.toList))) H) ∨ (rIn X.K false x y H Q ∨ (rInD X.K x y H Q ∨ rInT X.K id x y H Q))
def rNotInAny (X : Cx) : R2 := fun x y H Q => (∃ (c : Nat) (z : Str), x = V.str ⟨#[c]⟩ ∧ y = V.str z ∧ Q (.bl (!decide (c ∈ z.cps.toList))) H) ∨ (rIn X.K true x y H Q ∨ (rNotInD X.K x y H Q ∨ rInT X.K (!·) x y H Q))
theorem opr_in : Opr X (rInAny X) dIn := fun x y S Q0 v u H Q h rv ru so ps => by
  unfold dIn dInB at h
  split at h
  · obtain ⟨c, rfl, q⟩ := h
    cases ru; cases rv
    exact .inl ⟨c, _, rfl, rfl, ps.here so q (.bl _)⟩
  · cases ru with
    | tup h1 r1 hz =>
      obtain ⟨hc, q⟩ := h
      rcases hc with ⟨h2, h3⟩ | ⟨h2, h3, h4, h5⟩
      · exact .inr (.inl ⟨_, _, rfl, .inr h1, flat_V rv h2, flats_V r1 h3, by rw [inV_D rv h2 r1 h3]; exact ps.here so q (.bl _)⟩)
      · exact .inr (.inr (.inr ⟨_, _, rv.dp h2, .tup h1 (r1.dp h4), cmp_shaped h2 (by omega), cmps_lay _ h4, by rw [memD_py h2 h4]; exact ps.here so q (.bl _)⟩))
  · cases ru
    obtain ⟨ys, e, hc, q⟩ := onL_iff.mp h
    obtain ⟨vs, h1, r1, _⟩ := so _ _ e
    rcases hc with ⟨h2, h3⟩ | ⟨h2, h3, h4, h5⟩
    · exact .inr (.inl ⟨_, _, rfl, .inl (SqL.of h1), flat_V rv h2, flats_V r1 h3, by rw [inV_D rv h2 r1 h3]; exact ps.here so q (.bl _)⟩)
    · exact .inr (.inr (.inl ⟨_, _, rv.dp h2, .lst (SqL.of h1) (r1.dp h4), cmp_shaped h2 (by omega), cmps_shaped h4 h5, by rw [memD_py h2 h4]; exact ps.here so q (.bl _)⟩))
  · exact h.elim
theorem opr_notIn : Opr X (rNotInAny X) dNotIn := fun x y S Q0 v u H Q h rv ru so ps => by
  unfold dNotIn dInB at h
  split at h
  · obtain ⟨c, rfl, q⟩ := h
    cases ru; cases rv
    exact .inl ⟨c, _, rfl, rfl, ps.here so q (.bl _)⟩
  · cases ru with
    | tup h1 r1 hz =>
      obtain ⟨hc, q⟩ := h
      rcases hc with ⟨h2, h3⟩ | ⟨h2, h3, h4, h5⟩
      · exact .inr (.inl ⟨_, _, rfl, .inr h1, flat_V rv h2, flats_V r1 h3, by rw [inV_D rv h2 r1 h3]; exact ps.here so q (.bl _)⟩)
      · exact .inr (.inr (.inr ⟨_, _, rv.dp h2, .tup h1 (r1.dp h4), cmp_shaped h2 (by omega), cmps_lay _ h4, by rw [memD_py h2 h4]; exact ps.here so q (.bl _)⟩))
  · cases ru
    obtain ⟨ys, e, hc, q⟩ := onL_iff.mp h
    obtain ⟨vs, h1, r1, _⟩ := so _ _ e
    rcases hc with ⟨h2, h3⟩ | ⟨h2, h3, h4, h5⟩
    · exact .inr (.inl ⟨_, _, rfl, .inl (SqL.of h1), flat_V rv h2, flats_V r1 h3, by rw [inV_D rv h2 r1 h3]; exact ps.here so q (.bl _)⟩)
    · exact .inr (.inr (.inl ⟨_, _, rv.dp h2, .lst (SqL.of h1) (r1.dp h4), cmp_shaped h2 (by omega), cmps_shaped h4 h5, by rw [memD_py h2 h4]; exact ps.here so q (.bl _)⟩))
  · exact h.elim
theorem op_inAny {k : Nat} (hr : Room k X.A) : OpR X (compareOp .In) (rInAny X) := op_in_sign.or (op_in_seq.or ((op_inD (by have := hr.un; omega)).or (op_inT (by have := hr.un; omega))))
theorem op_notInAny {k : Nat} (hr : Room k X.A) : OpR X (compareOp .NotIn) (rNotInAny X) := op_notIn_sign.or (op_notIn_seq.or ((op_notInD (by have := hr.un; omega)).or (op_notInT (by have := hr.un; omega))))
theorem q_in {k : Nat} (hr : Room k X.A) (ha : QE X a ta) (hb : QE X b tb) (hm : behindInMarks .In b = false := by first | exact nomark _ | rfl) : QE X (.Compare a [.In] [b] pos) (eBin dIn ta tb) := q_cmp (op_inAny hr) opr_in ha hb hm
theorem q_notIn {k : Nat} (hr : Room k X.A) (ha : QE X a ta) (hb : QE X b tb) (hm : behindInMarks .NotIn b = false := by first | exact nomark _ | rfl) : QE X (.Compare a [.NotIn] [b] pos) (eBin dNotIn ta tb) := q_cmp (op_notInAny hr) opr_notIn ha hb hm
theorem isNon_of {K : Kw} {H : Hp} {v : V} {d : D} (r : Rp K H v d) : decide (v = .non) = isNon d := by
  cases r <;> first | rfl | (exact decide_eq_false (by intro z; cases z))
theorem q_isN {j p} (ha : QE X a ta) : QE X (.Compare a [.Is] [.Constant .none j p] pos) (eIsN ta) := (pe_cmpR op_isN ha (pe_non (X := X)) (nomark _)).imp' fun σ H Q h => lE_un (R := fun x S1 Q => Q (.bl (isNon x)) S1) h fun x S1 Q0 v H1 h rv so ps =>
  ⟨rfl, by rw [isNon_of rv]; exact ps.here so h (.bl _)⟩
theorem q_notN {j p} (ha : QE X a ta) : QE X (.Compare a [.IsNot] [.Constant .none j p] pos) (eNotN ta) := (pe_cmpR op_notN ha (pe_non (X := X)) (nomark _)).imp' fun σ H Q h => lE_un (R := fun x S1 Q => Q (.bl (!isNon x)) S1) h fun x S1 Q0 v H1 h rv so ps =>
  ⟨rfl, by rw [isNon_of rv]; exact ps.here so h (.bl _)⟩
theorem q_isB {j p b} (ha : QE X a ta) : QE X (.Compare a [.Is] [.Constant (.bool b) j p] pos) (eIsB b ta) := (pe_cmpR op_isBl ha (pe_bl (X := X)) (nomark _)).imp' fun σ H Q h => lE_un (R := fun x S1 Q => match x with | .bl a => Q (.bl (decide (a = b))) S1 | _ => False) h fun x S1 Q0 v H1 h rv so ps => by
  split at h
  · cases rv
    exact ⟨_, _, rfl, rfl, ps.here so h (.bl _)⟩
  · exact h.elim
theorem q_notB {j p b} (ha : QE X a ta) : QE X (.Compare a [.IsNot] [.Constant (.bool b) j p] pos) (eNotB b ta) := (pe_cmpR op_notBl ha (pe_bl (X := X)) (nomark _)).imp' fun σ H Q h => lE_un (R := fun x S1 Q => match x with | .bl a => Q (.bl (!decide (a = b))) S1 | _ => False) h fun x S1 Q0 v H1 h rv so ps => by
  split at h
  · cases rv
    exact ⟨_, _, rfl, rfl, ps.here so h (.bl _)⟩
  · exact h.elim
end
end DL

namespace DL
open PySem PySem.Spec PyProof.Rows L2
section
variable {K : Kw} {σ : L2.St} {H : Hp}
theorem lT_B {t : WE} {Q : Bool → Hp → Prop} (h : lT K (DL.tB t) σ H Q) : lE K t σ H fun x H' => ∃ k, x = .bl k ∧ Q k H' := by
  obtain ⟨env, S, Q0, er, so, q, ps⟩ := h
  refine ⟨env, S, _, er, so, q, fun d S' h v H' r s f => ?_⟩
  split at h
  · cases r
    exact ⟨_, rfl, ps _ _ h _ s f⟩
  · exact h.elim
theorem Rp.tru {S : Sto} {v : V} {d : D} {Q : Bool → Sto → Prop} (r : Rp K H v d) (so : SOk K H S) (h : dTru d S Q) : ∃ k, TruV K v H k ∧ Q k S := by
  cases r with
  | non => exact ⟨false, rfl, h⟩
  | bl b => exact ⟨b, rfl, h⟩
  | int i => exact ⟨_, rfl, h⟩
  | str x =>
    refine ⟨_, ⟨h.1, rfl⟩, ?_⟩
    have e : ((x.length : Int) != 0) = (x.length != 0) := by
      rw [Bool.eq_iff_iff]
      simp only [bne_iff_ne, ne_eq]
      omega
    rw [e]
    exact h.2
  | tup hs hr hz =>
    refine ⟨_, .inr (.inl ⟨_, hs, rfl⟩), ?_⟩
    rename_i a xs ds
    have e : xs.isEmpty = ds.isEmpty := by cases hr <;> rfl
    rw [e]
    exact h
  | ref a =>
    obtain ⟨xs, e, h⟩ := onL_iff.mp (show onL S a _ from h)
    obtain ⟨vs, h1, r1, _⟩ := so.lst e
    refine ⟨_, .inl ⟨_, SqL.of h1, rfl⟩, ?_⟩
    have e : vs.isEmpty = xs.isEmpty := by cases r1 <;> rfl
    rw [e]
    exact h
  | frz h1 r1 hz => exact h.elim
  | ty n => exact h.elim
  | exc _ _ => exact h.elim
end
section
variable {X : Cx} {a b c : Expr} {ta tb tc : WE} {pos : Pos} {rest : List Expr}
/-! ### tests -/
theorem qt_cmp {op : CmpOp} {r : R2} {R : D → D → Sto → WQ → Prop} (ho : OpR X (compareOp op) r) (hr : Opr X r R) (ha : QE X a ta) (hb : QE X b tb) (hm : behindInMarks op b = false) : QT X (.Compare a [op] [b] pos) (DL.tB (eBin R ta tb)) :=
  (pt_cmpR ho ha hb hm).imp' fun σ H Q h => lE_bin (lT_B h) fun x y S2 Q0 v u H2 => hr x y S2 Q0 v u H2 _
theorem qt_lt (ha : QE X a ta) (hb : QE X b tb) : QT X (.Compare a [.Lt] [b] pos) (DL.tB (eBin dLt ta tb)) := qt_cmp op_lt opr_cmp ha hb (nomark _)
theorem qt_le (ha : QE X a ta) (hb : QE X b tb) : QT X (.Compare a [.LtE] [b] pos) (DL.tB (eBin dLe ta tb)) := qt_cmp op_le opr_cmp ha hb (nomark _)
theorem qt_gt (ha : QE X a ta) (hb : QE X b tb) : QT X (.Compare a [.Gt] [b] pos) (DL.tB (eBin dGt ta tb)) := qt_cmp op_gt opr_cmp ha hb (nomark _)
theorem qt_ge (ha : QE X a ta) (hb : QE X b tb) : QT X (.Compare a [.GtE] [b] pos) (DL.tB (eBin dGe ta tb)) := qt_cmp op_ge opr_cmp ha hb (nomark _)
theorem qt_eq {k : Nat} (hr : Room k X.A) (ha : QE X a ta) (hb : QE X b tb) : QT X (.Compare a [.Eq] [b] pos) (DL.tB (eBin dEq ta tb)) := qt_cmp (op_eq.or (op_eqD hr.units)) opr_eq ha hb (nomark _)
theorem qt_ne {k : Nat} (hr : Room k X.A) (ha : QE X a ta) (hb : QE X b tb) : QT X (.Compare a [.NotEq] [b] pos) (DL.tB (eBin dNe ta tb)) := qt_cmp (op_ne.or (op_neD hr.units)) opr_ne ha hb (nomark _)
theorem qt_in {k : Nat} (hr : Room k X.A) (ha : QE X a ta) (hb : QE X b tb) (hm : behindInMarks .In b = false := by first | exact nomark _ | rfl) : QT X (.Compare a [.In] [b] pos) (DL.tB (eBin dIn ta tb)) := qt_cmp (op_inAny hr) opr_in ha hb hm
theorem qt_notIn {k : Nat} (hr : Room k X.A) (ha : QE X a ta) (hb : QE X b tb) (hm : behindInMarks .NotIn b = false := by first | exact nomark _ | rfl) : QT X (.Compare a [.NotIn] [b] pos) (DL.tB (eBin dNotIn ta tb)) := qt_cmp (op_notInAny hr) opr_notIn ha hb hm
theorem qt_isN {j p} (ha : QE X a ta) : QT X (.Compare a [.Is] [.Constant .none j p] pos) (DL.tB (eIsN ta)) := (pt_cmpR op_isN ha (pe_non (X := X)) (nomark _)).imp' fun σ H Q h => lE_un (R := fun x S1 Q => Q (.bl (isNon x)) S1) (lT_B h) fun x S1 Q0 v H1 h rv so ps =>
  ⟨rfl, by rw [isNon_of rv]; exact ps.here so h (.bl _)⟩
theorem qt_notN {j p} (ha : QE X a ta) : QT X (.Compare a [.IsNot] [.Constant .none j p] pos) (DL.tB (eNotN ta)) := (pt_cmpR op_notN ha (pe_non (X := X)) (nomark _)).imp' fun σ H Q h => lE_un (R := fun x S1 Q => Q (.bl (!isNon x)) S1) (lT_B h) fun x S1 Q0 v H1 h rv so ps =>
  ⟨rfl, by rw [isNon_of rv]; exact ps.here so h (.bl _)⟩
theorem qt_isB {j p b} (ha : QE X a ta) : QT X (.Compare a [.Is] [.Constant (.bool b) j p] pos) (DL.tB (eIsB b ta)) := (pt_cmpR op_isBl ha (pe_bl (X := X)) (nomark _)).imp' fun σ H Q h => lE_un (R := fun x S1 Q => match x with | .bl a => Q (.bl (decide (a = b))) S1 | _ => False) (lT_B h) fun x S1 Q0 v H1 h rv so ps => by
  split at h
  · cases rv
    exact ⟨_, _, rfl, rfl, ps.here so h (.bl _)⟩
  · exact h.elim
theorem qt_notB {j p b} (ha : QE X a ta) : QT X (.Compare a [.IsNot] [.Constant (.bool b) j p] pos) (DL.tB (eNotB b ta)) := (pt_cmpR op_notBl ha (pe_bl (X := X)) (nomark _)).imp' fun σ H Q h => lE_un (R := fun x S1 Q => match x with | .bl a => Q (.bl (!decide (a = b))) S1 | _ => False) (lT_B h) fun x S1 Q0 v H1 h rv so ps => by
  split at h
  · cases rv
    exact ⟨_, _, rfl, rfl, ps.here so h (.bl _)⟩
  · exact h.elim
/-- a value's truth -/
theorem qt_tru (ha : QE X a ta) (he : ∀ whole, isTrue a X.env whole = (do let v ← whole; standAt a.pos; holding [v] (truthy v)) := by intro _; rfl) : QT X a (tTru ta) := (pt_truth ha he).imp' fun σ H Q h => by
  obtain ⟨env, S, Q0, er, so, q, ps⟩ := h
  refine ⟨env, S, _, er, so, q, fun d S' h v H' r s f => ?_⟩
  obtain ⟨k, h1, h2⟩ := r.tru s h
  exact ⟨k, h1, ps _ _ h2 _ s f⟩
theorem lE_chain {K : Kw} {σ : L2.St} {H : Hp} {Q : VK} {r r' : R2} {R R' : D → D → Sto → WQ → Prop} (hr : ∀ x y S Q0 v u H Q, R x y S Q0 → Rp K H v x → Rp K H u y → SOk K H S → PostE K S H Q0 Q → r v u H Q)
    (hr' : ∀ x y S Q0 v u H Q, R' x y S Q0 → Rp K H v x → Rp K H u y → SOk K H S → PostE K S H Q0 Q → r' v u H Q) (h : lE K (eChain R R' ta tb tc) σ H Q) : L2.tChain r r' (lE K ta) (lE K tb) (lE K tc) σ H Q := by
  obtain ⟨env, S, Q0, er, so, q, ps⟩ := h
  refine ⟨env, S, _, er, so, q, fun x S1 h1 v H1 rv s1 f1 => ?_⟩
  refine ⟨env, S1, _, er.mono f1.tk, s1, h1, fun y S2 h2 u H2 ru s2 f2 => ?_⟩
  refine hr x y S2 _ v u H2 _ h2 (rv.mono f2.tk) ru s2 fun z S3 h3 w H3 rw' s3 f3 => ?_
  split at h3
  · cases rw'
    rename_i k
    refine ⟨k, rfl, ?_⟩
    cases k with
    | true =>
      have h3 : tc env S3 fun u S4 => R' y u S4 Q0 := h3
      refine ⟨env, S3, _, er.mono ((f1.trans f2).trans f3).tk, s3, h3, fun z S4 h4 w H4 rw4 s4 f4 => ?_⟩
      exact hr' y z S4 Q0 u w H4 Q h4 (ru.mono (f3.trans f4).tk) rw4 s4 (ps.trans (((f1.trans f2).trans f3).trans f4))
    | false =>
      have h3 : Q0 (.bl false) S3 := h3
      exact (ps.trans ((f1.trans f2).trans f3)).here s3 h3 (.bl _)
  · exact h3.elim
theorem q_chain {op op' : CmpOp} {r r' : R2} {R R' : D → D → Sto → WQ → Prop} (ho : OpR X (compareOp op) r) (ho' : OpR X (compareOp op') r') (hr : Opr X r R) (hr' : Opr X r' R') (ha : QE X a ta) (hb : QE X b tb) (hc : QE X c tc)
    (hm : lastMarks [op, op'] [b, c] = false := by with_unfolding_all rfl) : QE X (.Compare a [op, op'] [b, c] pos) (eChain R R' ta tb tc) := (pe_chain ho ho' ha hb hc hm).imp' fun σ H Q h => lE_chain hr hr' h
theorem qt_chain {op op' : CmpOp} {r r' : R2} {R R' : D → D → Sto → WQ → Prop} (ho : OpR X (compareOp op) r) (ho' : OpR X (compareOp op') r') (hr : Opr X r R) (hr' : Opr X r' R') (ha : QE X a ta) (hb : QE X b tb) (hc : QE X c tc)
    (hm : lastMarks [op, op'] [b, c] = false := by with_unfolding_all rfl) : QT X (.Compare a [op, op'] [b, c] pos) (DL.tB (eChain R R' ta tb tc)) := (pt_chain ho ho' ha hb hc hm).imp' fun σ H Q h => lE_chain hr hr' (lT_B h)
/-! ### and, or, not -/
abbrev QW (X : Cx) (e : Expr) (t : WT) : Prop := PW X e (lT X.kw t)
variable {uA uB : WT}
theorem qw_and1 (ha : QT X a uA) : QW X (.BoolOp .And [a] pos) uA := pw_and1 ha
theorem qw_or1 (ha : QT X a uA) : QW X (.BoolOp .Or [a] pos) uA := pw_or1 ha
theorem qw_and (ha : QT X a uA) (hb : QW X (.BoolOp .And (b :: rest) pos) uB) : QW X (.BoolOp .And (a :: b :: rest) pos) (DL.tAnd uA uB) := (pw_and ha hb).imp' fun σ H Q h => by
  obtain ⟨env, S, Q0, er, so, q, ps⟩ := h
  refine ⟨env, S, _, er, so, q, fun k S1 h1 H1 s1 f1 => ?_⟩
  cases k with
  | true => exact ⟨env, S1, Q0, er.mono f1.tk, s1, h1, fun k S2 h2 H2 s2 f2 => ps k S2 h2 H2 s2 (f1.trans f2)⟩
  | false => exact ps _ _ h1 _ s1 f1
theorem qw_or (ha : QT X a uA) (hb : QW X (.BoolOp .Or (b :: rest) pos) uB) : QW X (.BoolOp .Or (a :: b :: rest) pos) (DL.tOr uA uB) := (pw_or ha hb).imp' fun σ H Q h => by
  obtain ⟨env, S, Q0, er, so, q, ps⟩ := h
  refine ⟨env, S, _, er, so, q, fun k S1 h1 H1 s1 f1 => ?_⟩
  cases k with
  | false => exact ⟨env, S1, Q0, er.mono f1.tk, s1, h1, fun k S2 h2 H2 s2 f2 => ps k S2 h2 H2 s2 (f1.trans f2)⟩
  | true => exact ps _ _ h1 _ s1 f1
theorem qt_w (h : QW X a uA) : QT X a uA := h.pt
theorem qt_not (ha : QT X a uA) : QT X (.UnaryOp .Not a pos) (DL.tNot uA) := (pt_not ha).imp' fun σ H Q ⟨env, S, Q0, er, so, q, ps⟩ => ⟨env, S, _, er, so, q, fun k S1 h1 H1 s1 f1 => ps _ _ h1 _ s1 f1⟩
theorem q_one {op} {t : WE} (h : QE X a t) : QE X (.BoolOp op [a] pos) t := pe_one h
theorem q_and (ha : QE X a ta) (hb : QE X (.BoolOp .And (b :: rest) pos) tb) : QE X (.BoolOp .And (a :: b :: rest) pos) (eAnd ta tb) := (pe_andT ha hb).imp' fun σ H Q ⟨env, S, Q0, er, so, q, ps⟩ => by
  refine ⟨env, S, _, er, so, q, fun d S1 h1 v H1 rv s1 f1 => ?_⟩
  obtain ⟨k, e, h⟩ := rv.tru s1 h1
  refine ⟨k, e, ?_⟩
  cases k with
  | true => exact ⟨env, S1, Q0, er.mono f1.tk, s1, h, ps.trans f1⟩
  | false => exact (ps.trans f1).here s1 h rv
theorem q_or (ha : QE X a ta) (hb : QE X (.BoolOp .Or (b :: rest) pos) tb) : QE X (.BoolOp .Or (a :: b :: rest) pos) (eOr ta tb) := (pe_orT ha hb).imp' fun σ H Q ⟨env, S, Q0, er, so, q, ps⟩ => by
  refine ⟨env, S, _, er, so, q, fun d S1 h1 v H1 rv s1 f1 => ?_⟩
  obtain ⟨k, e, h⟩ := rv.tru s1 h1
  refine ⟨k, e, ?_⟩
  cases k with
  | false => exact ⟨env, S1, Q0, er.mono f1.tk, s1, h, ps.trans f1⟩
  | true => exact (ps.trans f1).here s1 h rv
theorem q_not (ha : QE X a ta) : QE X (.UnaryOp .Not a pos) (eNot ta) := (pe_notT ha).imp' fun σ H Q ⟨env, S, Q0, er, so, q, ps⟩ => by
  refine ⟨env, S, _, er, so, q, fun d S1 h1 v H1 rv s1 f1 => ?_⟩
  obtain ⟨k, e, h⟩ := rv.tru s1 h1
  exact ⟨k, e, (ps.trans f1).here s1 h (.bl _)⟩
theorem q_ifx {uC : WT} (hc : QT X c uC) (ha : QE X a ta) (hb : QE X b tb) : QE X (.IfExp c a b pos) (eIf uC ta tb) := (pe_ifExp hc ha hb).imp' fun σ H Q ⟨env, S, Q0, er, so, q, ps⟩ => by
  refine ⟨env, S, _, er, so, q, fun k S1 h1 H1 s1 f1 => ?_⟩
  cases k with
  | true => exact ⟨env, S1, Q0, er.mono f1.tk, s1, h1, ps.trans f1⟩
  | false => exact ⟨env, S1, Q0, er.mono f1.tk, s1, h1, ps.trans f1⟩
/-! ### argument lists, displays -/
variable {es : List Expr} {tA : WA}
theorem qa_nil : QA X [] aNil := pa_nil.imp' fun σ H Q ⟨env, S, Q0, er, so, q, ps⟩ => ps _ _ q _ H .nil so (.refl S H)
theorem qa_cons (ha : QE X a ta) (hr : QA X es tA) (hs : starEach (a :: es) X.env = (false, eval a X.env) :: starEach es X.env := by rfl) : QA X (a :: es) (aCons ta tA) := (pa_cons ha hr hs).imp' fun σ H Q ⟨env, S, Q0, er, so, q, ps⟩ => by
  refine ⟨env, S, _, er, so, q, fun d S1 h1 v H1 rv s1 f1 => ?_⟩
  refine ⟨env, S1, _, er.mono f1.tk, s1, h1, fun ds S2 h2 vs H2 rs s2 f2 => ?_⟩
  exact ps _ _ h2 _ _ (.cons (rv.mono f2.tk) rs) s2 (f1.trans f2)
theorem q_tup {x1} (h : QA X es tA) : QE X (.Tuple es x1 pos) (eTup tA) := (pe_tup h).imp' fun σ H Q ⟨env, S, Q0, er, so, q, ps⟩ => by
  refine ⟨env, S, _, er, so, q, fun ds S1 h1 vs H1 rs s1 f1 => ?_⟩
  have hz : ds.length ≤ sizeLine := Nat.le_trans h1.1 (by decide)
  exact ⟨by rw [rs.length]; exact hz, (ps.trans f1).tup s1 rs hz h1.2⟩
theorem q_lst (h : QA X es tA) : QE X (.List es pos) (eLst tA) := (pe_lst h).imp' fun σ H Q ⟨env, S, Q0, er, so, q, ps⟩ => by
  refine ⟨env, S, _, er, so, q, fun ds S1 h1 vs H1 rs s1 f1 => ?_⟩
  have hz : ds.length ≤ sizeLine := Nat.le_trans h1.1 (by decide)
  exact ⟨by rw [rs.length]; exact hz, (ps.trans f1).made s1 rs hz h1.2⟩
/-! ### places -/
theorem atD_eq {α : Type} (xs : List α) (i : Int) : atD xs i = atI xs i := by
  unfold atD atI ixN
  by_cases h : 0 ≤ i
  · rw [if_pos h, if_pos h]
    by_cases h2 : i < xs.length
    · rw [if_pos h2]
      rfl
    · rw [if_neg h2]
      exact List.getElem?_eq_none (by omega)
  · rw [if_neg h, if_neg h]
    by_cases h2 : -(xs.length : Int) ≤ i
    · rw [if_pos h2, if_pos h2]
      rfl
    · rw [if_neg h2, if_neg h2]
      rfl
theorem RpAll.at {K : Kw} {H : Hp} {vs : List V} {ds : List D} {i : Int} {d : D} (r : RpAll K H vs ds) (h : atD ds i = some d) : ∃ v, atI vs i = some v ∧ Rp K H v d := by
  rw [← atD_eq]
  unfold atD at h ⊢
  rw [r.length]
  split at h
  · rw [if_pos ‹_›]
    exact r.get h
  · rw [if_neg ‹_›]
    split at h
    · rw [if_pos ‹_›]
      exact r.get h
    · cases h
theorem seqOf_sq {K : Kw} {H : Hp} {S : Sto} {v : V} {x : D} {xs : List D} (r : Rp K H v x) (so : SOk K H S) (h : seqOf S x = some xs) :
    xs.length ≤ sizeLine ∧ ∃ a vs, v = .ref a ∧ RpAll K H vs xs ∧ ((SqL K H a vs ∧ (x = .ref a ∨ x = .frz xs)) ∨ (SqT K H a vs ∧ x = .tup xs)) := by
  cases r with
  | tup h1 r1 hz =>
    cases h
    exact ⟨hz, _, _, rfl, r1, .inr ⟨h1, rfl⟩⟩
  | ref a =>
    unfold seqOf at h
    dsimp only at h
    split at h
    · rename_i e
      cases h
      obtain ⟨vs, h1, r1, hz⟩ := so a _ e
      exact ⟨hz, a, vs, rfl, r1, .inl ⟨SqL.of h1, .inl rfl⟩⟩
    · cases h
  | frz h1 r1 hz =>
    cases h
    exact ⟨hz, _, _, rfl, r1, .inl ⟨h1.sq, .inr rfl⟩⟩
  | _ => cases h
theorem opr_ix : Opr X (L2.rIx X.K) dIx := fun x y S Q0 v u H Q h rv ru so ps => by
  unfold dIx at h
  split at h
  · cases ru
    split at h
    · cases rv
      obtain ⟨hz, h⟩ := h
      obtain ⟨c, hc, q⟩ := onAt_iff.mp h
      rw [atD_eq] at hc
      exact .inr (.inr ⟨_, _, c, rfl, rfl, hz, hc, ps.here so q (.str _)⟩)
    · obtain ⟨xs, hx, h⟩ := onSeq_iff.mp h
      obtain ⟨d, hd, q⟩ := onAt_iff.mp h
      obtain ⟨_, a, vs, rfl, r1, h1⟩ := seqOf_sq rv so hx
      obtain ⟨w, hw, rw'⟩ := r1.at hd
      rcases h1 with ⟨h1, _⟩ | ⟨h1, _⟩
      · exact .inl ⟨_, _, _, w, rfl, rfl, h1, hw, ps.here so q rw'⟩
      · exact .inr (.inl ⟨_, _, _, w, rfl, rfl, h1, hw, ps.here so q rw'⟩)
  · exact h.elim
theorem q_ix (ha : QE X a ta) (hb : QE X b tb) (hs : PlainIx b := by exact fun _ _ => rfl) : QE X (.Subscript a b pos) (eBin dIx ta tb) := (pe_ix ix_seq ha hb hs).imp' fun σ H Q h => lE_bin h fun x y S2 Q0 v u H2 => opr_ix x y S2 Q0 v u H2 Q
/-! ### slices -/
variable {lo hi : Option Expr} {tl th : WO} {p2 : Pos}
theorem qo_none : QO X none oNone := po_none.imp' fun σ H Q ⟨env, S, Q0, er, so, q, ps⟩ => ps _ _ q H so (.refl S H)
theorem qo_some (h : QE X a ta) : QO X (some a) (oSome ta) := (po_some h).imp' fun σ H Q ⟨env, S, Q0, er, so, q, ps⟩ => by
  refine ⟨env, S, _, er, so, q, fun d S1 h1 v H1 rv s1 f1 => ?_⟩
  split at h1
  · cases rv
    exact ⟨_, rfl, ps _ _ h1 _ s1 f1⟩
  · exact h1.elim
theorem cut_RpAll {K : Kw} {H : Hp} {vs : List V} {ds : List D} (r : RpAll K H vs ds) (lo hi : Option Int) : RpAll K H (cutV vs lo hi) (DL.cut ds lo hi) := by
  unfold cutV DL.cut
  rw [r.length]
  exact (r.drop _).take _
theorem cut_len {α : Type} (xs : List α) (lo hi : Option Int) : (DL.cut xs lo hi).length ≤ xs.length := by
  unfold DL.cut
  rw [List.length_take, List.length_drop]
  omega
theorem cut_whole {α : Type} {xs : List α} {lo hi : Option Int} (e : HT.sIx xs.length 0 lo = 0 ∧ HT.sIx xs.length xs.length hi = xs.length) : DL.cut xs lo hi = xs := by
  unfold DL.cut cutAt
  rw [e.1, e.2, List.drop_zero, Nat.sub_zero]
  exact List.take_of_length_le (Nat.le_refl _)
def rSlAny (X : Cx) : V → Option Int → Option Int → Hp → VK → Prop := fun x lo hi H Q => rSlA X.K x lo hi H Q ∨ L2.rSlL X.K x lo hi H Q ∨ rSlS x lo hi H Q
theorem sl_any : SlR X (rSlAny X) := sl_tupA.or (sl_list.or sl_str)
theorem q_sl (he : QE X a ta) (hl : QO X lo tl) (hu : QO X hi th) : QE X (.Subscript a (.Slice lo hi none p2) pos) (eSl ta tl th) := (pe_slice sl_any he hl hu).imp' fun σ H Q ⟨env, S, Q0, er, so, q, ps⟩ => by
  refine ⟨env, S, _, er, so, q, fun x S1 h1 v H1 rv s1 f1 => ?_⟩
  refine ⟨env, S1, _, er.mono f1.tk, s1, h1, fun l S2 h2 H2 s2 f2 => ?_⟩
  refine ⟨env, S2, _, er.mono (f1.trans f2).tk, s2, h2, fun u S3 h3 H3 s3 f3 => ?_⟩
  have rv3 := rv.mono (f2.trans f3).tk
  have ps3 := ps.trans ((f1.trans f2).trans f3)
  unfold dSl at h3
  split at h3
  · cases rv3 with
    | tup h1 r1 hz =>
      refine .inl ⟨_, _, rfl, h1, fun e => ?_, fun _ => ps3.tup s3 (cut_RpAll r1 l u) (Nat.le_trans (cut_len _ _ _) hz) h3⟩
      rw [cut_whole (by rw [← r1.length]; exact e)] at h3
      exact ps3.here s3 h3 (.tup h1 r1 hz)
  · cases rv3
    obtain ⟨xs, e, h3⟩ := onL_iff.mp h3
    obtain ⟨vs, h1, r1, hz⟩ := s3.lst e
    exact .inr (.inl ⟨_, _, rfl, SqL.of h1, ps3.made s3 (cut_RpAll r1 l u) (Nat.le_trans (cut_len _ _ _) hz) h3⟩)
  · cases rv3
    refine .inr (.inr ⟨_, rfl, h3.1, ?_⟩)
    exact ps3.here s3 h3.2 (.str _)
  · exact h3.elim
end
end DL

namespace DL
open PySem PySem.Spec PyProof.Rows L2

/-! ### a def, where no repr is under way -/
structure FnG (P : Program) (w : World) (K : PySem.W.Frag) (mg : Str → Option Value) (base : Heap) (k : Nat) (f : Addr) (fd : FuncData) (ps : List Str) (sp : Sp) : Prop where
  len : ∀ vs H Q E, sp vs H Q E → vs.length = ps.length
  run : ∀ (A : Around) (outer : List Env) (s : Shared) (H : Hp) (args : Args) (us : List Value) (vs : List V) (Q : VK) (E : XK), Room k A → A.guards = some [] → Env0 P w K mg base A outer s H → BindsTo s fd args (ps.zip us) → Vals vs us → sp vs H Q E →
    codeAny (model P w) A (.call (.ref f) args) (CR CX0 outer P w H s Q E) s
section
variable {P : Program} {w : World} {K : PySem.W.Frag} {mg : Str → Option Value} {base : Heap} {k j : Nat} {f : Addr} {fd : FuncData} {ps : List Str} {sp sp' : Sp}
theorem FnG.mono (F : FnG P w K mg base j f fd ps sp) (h : j ≤ k) : FnG P w K mg base k f fd ps sp := ⟨F.len, fun A outer s H args us vs Q E hr => F.run A outer s H args us vs Q E (hr.mono h)⟩
theorem FnG.imp (F : FnG P w K mg base k f fd ps sp) (h : ∀ vs H Q E, sp' vs H Q E → sp vs H Q E) : FnG P w K mg base k f fd ps sp' :=
  ⟨fun vs H Q E q => F.len vs H Q E (h _ _ _ _ q), fun A outer s H args us vs Q E hr hg he hb hv hs => F.run A outer s H args us vs Q E hr hg he hb hv (h _ _ _ _ hs)⟩
theorem FnG.ok (F : FnOk P w K mg base CX0 k f fd ps sp) : FnG P w K mg base k f fd ps sp := ⟨F.len, fun A outer s H args us vs Q E hr _ => F.run A outer s H args us vs Q E hr⟩
/-- a def by its body -/
theorem fnG_of {name qual : Str} {params : Arguments} {body : List Stmt} {scope : Scope} {dV kV doc pm cdv ct oc : Value} {an od : Option Addr}
    {osl : Array (Option Value)} {N : List Str} (lk : K.lookup f = some ⟨oc, od, .func (PySem.W.fnOf name qual params body scope dV kV doc pm an cdv ct), osl⟩) (hcd : PySem.W.codeIn K cdv qual = true) (S : FnScope N ps scope)
    (len : ∀ vs H Q E, sp vs H Q E → vs.length = ps.length)
    (hbody : ∀ (A : Around) (outer : List Env) (s : Shared) (H : Hp) (vs : List V) (Q : VK) (E : XK), Room k (A.deeper (envOfC qual scope s.heap.objs.size f cdv)) → A.guards = some [] → sp vs H Q E →
      ∃ t, PSs (cxOf CX0 P w K mg base N qual scope f cdv A outer s H E) body t ∧ t { nx := fun _ H' => Q .non H', rt := Q } (L2.start N vs) H) :
    FnG P w K mg base (k + 1) f (PySem.W.fnOf name qual params body scope dV kV doc pm an cdv ct) ps sp := by
  refine ⟨len, fun A outer s H args us vs Q E hr hG e0 hb r hsp => ?_⟩
  have hl := len _ _ _ _ hsp
  have KX : K.In s.heap := e0.mod.kin.keeps fun b o e => (e0.bs b o e).1
  have lim : s.heap.NoLimit := e0.mod.nolimit.keeps fun b o e => (e0.bs b o e).1
  have hkind : ∀ y ∈ ps.zip us, scope.names.lookup y.1 = some .local ∨ (scope.names.lookup y.1 = some .cell ∧ ((cellsFrom (s.heap.objs.size + 1) scope.names []).lookup y.1).isSome = true) := fun ⟨n, v⟩ hy => by
    rcases S.par n (List.of_mem_zip hy).1 with q | q
    · exact .inl q
    · exact .inr ⟨q, PySem.W.cellsFrom_some _ _ _ (.inl q)⟩
  refine codeAny_call_function hr.depth (KX _ _ lk) rfl S.co S.gen rfl (PySem.W.codeRec_of KX hcd) (hb _ _ _ _ ?_)
  refine wpAny_newFunctionEnv_cells S.kind hkind fun env he s1 x => ?_
  subst he
  refine ⟨lim.keeps x.toInCall.keep, codeAny_func ?_⟩
  obtain ⟨t, ht, hq⟩ := hbody A outer s H vs Q E (hr.deeper _) hG hsp
  have I : Inv (cxOf CX0 P w K mg base N qual scope f cdv A outer s H E) [] (L2.start N vs) H s1 := inv_start S hr.hd e0 hl r x
  refine wpAny_mono (ht.run [] s1 (L2.start N vs) H _ I hq) (fun fl s' hs => ?_) fun e s' hs => hs
  have fin : ∀ {σ' : L2.St} {H' : Hp} {v : V} {u : Value}, Inv (cxOf CX0 P w K mg base N qual scope f cdv A outer s H E) [] σ' H' s' → RelV v u → Q v H' → CE outer P w H s Q u s' :=
    fun {σ' H' v u} J rv q => ⟨v, H', J.os, J.bare, J.base, J.hok, rv, q⟩
  cases fl with
  | ret u =>
    obtain ⟨v, σ', H', J, rv, q⟩ := hs
    exact fin J rv q
  | next =>
    obtain ⟨σ', H', J, q⟩ := hs
    exact fin (v := V.non) (u := Value.none) J rfl q
  | brk =>
    obtain ⟨_, _, _, q⟩ := hs
    exact False.elim q
  | cont =>
    obtain ⟨_, _, _, q⟩ := hs
    exact False.elim q
end

/-! ### a def's promise over data -/
def lF (K : Kw) (F : WF) : Sp := fun vs H Q _ => ∃ ds S Q0, RpAll K H vs ds ∧ SOk K H S ∧ F ds S Q0 ∧ PostE K S H Q0 Q
/-- a def that may be called: where it stands, what it promises -/
structure Cal (P : Program) (w : World) (K : PySem.W.Frag) (mg : Str → Option Value) (base : Heap) (x : Str) (k : Nat) (ps : List Str) (F : WF) : Prop where
  ex : ∃ f fd, FnG P w K mg base k f fd ps (lF ⟨K, P, w⟩ F) ∧ mg x = some (.ref f) ∧ PySem.W.keepIn K (.ref f) = true ∧ Binds K fd ps []
theorem Cal.mono {P : Program} {w : World} {K : PySem.W.Frag} {mg : Str → Option Value} {base : Heap} {x : Str} {k j : Nat} {ps : List Str} {F : WF} (C : Cal P w K mg base x j ps F) (h : j ≤ k) : Cal P w K mg base x k ps F := by
  obtain ⟨f, fd, a, b⟩ := C.ex
  exact ⟨f, fd, a.mono h, b⟩
theorem Cal.imp {P : Program} {w : World} {K : PySem.W.Frag} {mg : Str → Option Value} {base : Heap} {x : Str} {k : Nat} {ps : List Str} {F F' : WF} (C : Cal P w K mg base x k ps F) (h : ∀ ds S Q, F' ds S Q → F ds S Q) : Cal P w K mg base x k ps F' := by
  obtain ⟨f, fd, a, b⟩ := C.ex
  exact ⟨f, fd, a.imp fun vs H Q _ ⟨ds, S, Q0, h1, h2, h3, h4⟩ => ⟨ds, S, Q0, h1, h2, h _ _ _ h3, h4⟩, b⟩
/-- what a body leans on -/
structure Cok (X : Cx) (k : Nat) : Prop where
  room : Room k X.A
  gd : X.A.guards = some []
  calm : X.calm = true
  nd : X.N.Nodup
theorem Cok.blk {X : Cx} {k : Nat} (c : Cok X k) (s : Shared) (H : Hp) (scope : Scope) (cenv : Env) (fp : List Addr) : Cok (X.blk s H scope cenv fp) k := ⟨c.room, c.gd, c.calm, c.nd⟩
section
variable {X : Cx} {k j : Nat} {x : Str} {ps : List Str} {F : WF} {p pos : Pos} {e : Expr} {es : List Expr} {t : WA}
theorem run_fnG {f : Addr} {fd : FuncData} {sp : Sp} {pins : List (Addr × Obj)} {σ : L2.St} {H : Hp} {s : Shared} {Q : VK} {us : List Value} {vs : List V} (C : Cok X j) (hj : k ≤ j) (F : FnG X.prog X.w X.K X.mg X.base k f fd ps sp) (hb : Binds X.K fd ps [])
    (I : Inv X pins σ H s) (r : Vals vs us) (h : sp vs H Q E0) : wpAny (model X.prog X.w) X.A (call (.ref f) us) (EP X pins σ Q) X.xe s := by
  have hl : (us ++ []).length = ps.length := by rw [List.append_nil, ← r.length]; exact F.len _ _ _ _ h
  have hb' := hb s us I.kIn hl
  rw [List.append_nil] at hb'
  refine wpAny_call (codeAny_mono (F.run X.A X.stack s H ⟨us, []⟩ us vs Q E0 (C.room.mono hj) C.gd I.env0 hb' r h) fun r s' hq => ?_)
  cases r with
  | error e => exact False.elim hq
  | ok fl =>
    cases fl with
    | ret u => exact I.after hq
    | next => exact False.elim hq
    | brk => exact False.elim hq
    | cont => exact False.elim hq
theorem q_call (C : Cok X j) (c : Cal X.prog X.w X.K X.mg X.base x k ps F) (hj : k ≤ j) (hg : Gl X x) (ha : QA X (e :: es) t)
    (hdb : (x == ("__debug__" : Str)) = false := by decide) (he : starEach (e :: es) X.env = (false, eval e X.env) :: starEach es X.env := by rfl) (hpl : (backTo pos (starEach es X.env)).any (·.1) = false := by rfl) :
    QE X (.Call (.Name x p) (e :: es) [] pos) (eCall F t) := by
  obtain ⟨f, fd, G, hm, hk, hb⟩ := c.ex
  refine ⟨fun pins s σ H Q I ⟨env, S, Q0, er, so, q, ps⟩ => ?_⟩
  refine wpAny_Call_Name_kw (ld_glob I hg hm ?_ hdb)
  refine PySem.W.callWith_K (h₀ := X.base) I.ok.mod.kin hk (thn (ha.run pos pins s σ H (fun vs H1 => lF X.kw F vs H1 Q E0) I ⟨env, S, _, er, so, q, fun ds S1 h1 vs H1 rs s1 f1 => ⟨ds, S1, Q0, rs, s1, h1, ps.trans f1⟩⟩) fun us s1 ⟨vs, H1, I1, r, q⟩ => ⟨I1.kIn, ?_⟩) he hpl
  exact run_fnG C hj G hb I1 r q
theorem q_call0 (C : Cok X j) (c : Cal X.prog X.w X.K X.mg X.base x k ps F) (hj : k ≤ j) (hg : Gl X x)
    (hdb : (x == ("__debug__" : Str)) = false := by decide) : QE X (.Call (.Name x p) [] [] pos) (eCall F aNil) := by
  obtain ⟨f, fd, G, hm, hk, hb⟩ := c.ex
  refine ⟨fun pins s σ H Q I ⟨env, S, Q0, er, so, q, ps⟩ => ?_⟩
  refine wpAny_Call_Name_kw (ld_glob I hg hm ?_ hdb)
  exact PySem.W.callWith_K0 I.kIn hk (run_fnG (us := []) C hj G hb I .nil ⟨[], S, Q0, .nil, so, q, ps⟩)
end

/-! ### built-ins -/
def Bfr (X : Cx) (r : List V → Hp → VK → Prop) (B : WB) : Prop := ∀ ds S Q0 vs H Q, B ds S Q0 → RpAll X.kw H vs ds → SOk X.kw H S → PostE X.kw S H Q0 Q → r vs H Q
section
variable {X : Cx} {x : Str} {p pos : Pos} {e : Expr} {es : List Expr} {t : WA} {id T : String} {r : List V → Hp → VK → Prop} {B : WB}
theorem q_blt (hc : CallR X (.builtin id) r) (hb : Bfr X r B) (hg : Gl X x) (hm : X.mg x = none) (hv : bootBuiltins x = some (.builtin id)) (ha : QA X (e :: es) t) (hn : x ≠ "__name__" := by decide) (hdb : (x == ("__debug__" : Str)) = false := by decide)
    (he : starEach (e :: es) X.env = (false, eval e X.env) :: starEach es X.env := by rfl) (hpl : (backTo pos (starEach es X.env)).any (·.1) = false := by rfl) :
    QE X (.Call (.Name x p) (e :: es) [] pos) (eCall B t) :=
  (pe_callB hc hg hm hv ha hn hdb he hpl).imp' fun σ H Q ⟨env, S, Q0, er, so, q, ps⟩ => ⟨env, S, _, er, so, q, fun ds S1 h1 vs H1 rs s1 f1 => hb _ _ _ _ _ _ h1 rs s1 (ps.trans f1)⟩
theorem q_blTy (hc : CallR X (.type T) r) (hb : Bfr X r B) (hg : Gl X x) (hm : X.mg x = none) (hv : bootBuiltins x = some (.type T)) (ha : QA X (e :: es) t) (hn : x ≠ "__name__" := by decide) (hdb : (x == ("__debug__" : Str)) = false := by decide)
    (he : starEach (e :: es) X.env = (false, eval e X.env) :: starEach es X.env := by rfl) (hpl : (backTo pos (starEach es X.env)).any (·.1) = false := by rfl) :
    QE X (.Call (.Name x p) (e :: es) [] pos) (eCall B t) :=
  (pe_callTy hc hg hm hv ha hn hdb he hpl).imp' fun σ H Q ⟨env, S, Q0, er, so, q, ps⟩ => ⟨env, S, _, er, so, q, fun ds S1 h1 vs H1 rs s1 f1 => hb _ _ _ _ _ _ h1 rs s1 (ps.trans f1)⟩
theorem bf_abs : Bfr X (fun xs H Q => ∃ i, xs = [V.int i] ∧ Q (.int (if i < 0 then -i else i)) H) bAbs := fun ds S Q0 vs H Q h rs so ps => by
  unfold bAbs at h
  split at h
  · cases rs with
    | cons r1 r2 =>
      cases r1; cases r2
      exact ⟨_, rfl, ps.here so h (.int _)⟩
  · exact h.elim
theorem bf_int : Bfr X (fun xs H Q => (∃ i, xs = [V.int i] ∧ Q (.int i) H) ∨ ∃ k, xs = [V.bl k] ∧ Q (.int (if k then 1 else 0)) H) bInt := fun ds S Q0 vs H Q h rs so ps => by
  unfold bInt at h
  split at h
  · cases rs with
    | cons r1 r2 =>
      cases r1; cases r2
      exact .inl ⟨_, rfl, ps.here so h (.int _)⟩
  · cases rs with
    | cons r1 r2 =>
      cases r1; cases r2
      exact .inr ⟨_, rfl, ps.here so h (.int _)⟩
  · exact h.elim
theorem bf_max2 : Bfr X (fun xs H Q => ∃ i j, xs = [V.int i, V.int j] ∧ Q (.int (if j > i then j else i)) H) bMax2 := fun ds S Q0 vs H Q h rs so ps => by
  unfold bMax2 at h
  split at h
  · cases rs with
    | cons r1 r2 =>
      cases r1
      cases r2 with
      | cons r1 r2 =>
        cases r1; cases r2
        exact ⟨_, _, rfl, ps.here so h (by rw [show ∀ i j : Int, max i j = if j > i then j else i from fun i j => by split <;> omega]; exact .int _)⟩
  · exact h.elim
theorem bf_gcd : Bfr X L2.rGcd bGcd := fun ds S Q0 vs H Q h rs so ps => by
  unfold bGcd at h
  split at h
  · cases rs with
    | cons r1 r2 =>
      cases r1
      cases r2 with
      | cons r1 r2 =>
        cases r1; cases r2
        exact ⟨_, _, rfl, ps.here so h (.int _)⟩
  · exact h.elim
theorem q_gcd (hg : Gl X x) (hm : X.mg x = some (.builtin "math.gcd")) (ha : QA X (e :: es) t) (hdb : (x == ("__debug__" : Str)) = false := by decide)
    (he : starEach (e :: es) X.env = (false, eval e X.env) :: starEach es X.env := by rfl) (hpl : (backTo pos (starEach es X.env)).any (·.1) = false := by rfl) :
    QE X (.Call (.Name x p) (e :: es) [] pos) (eCall bGcd t) :=
  (pe_callBfun cr_gcd hg hm ha hdb he hpl).imp' fun σ H Q ⟨env, S, Q0, er, so, q, ps⟩ => ⟨env, S, _, er, so, q, fun ds S1 h1 vs H1 rs s1 f1 => bf_gcd _ _ _ _ _ _ h1 rs s1 (ps.trans f1)⟩
theorem bf_min2 : Bfr X (fun xs H Q => ∃ i j, xs = [V.int i, V.int j] ∧ Q (.int (if j < i then j else i)) H) bMin2 := fun ds S Q0 vs H Q h rs so ps => by
  unfold bMin2 at h
  split at h
  · cases rs with
    | cons r1 r2 =>
      cases r1
      cases r2 with
      | cons r1 r2 =>
        cases r1; cases r2
        exact ⟨_, _, rfl, ps.here so h (by rw [show ∀ i j : Int, min i j = if j < i then j else i from fun i j => by split <;> omega]; exact .int _)⟩
  · exact h.elim
theorem bf_len : Bfr X (fun xs H Q => ∃ x n, xs = [x] ∧ LenV X.K x H n ∧ Q (.int n) H) bLen := fun ds S Q0 vs H Q h rs so ps => by
  unfold bLen at h
  split at h
  · cases rs with
    | cons r1 r2 =>
      cases r1; cases r2
      exact ⟨_, _, rfl, ⟨h.1, rfl⟩, ps.here so h.2 (.int _)⟩
  · cases rs with
    | cons r1 r2 =>
      cases r2
      obtain ⟨xs, hx, q⟩ := onSeq_iff.mp h
      obtain ⟨_, a, ws, rfl, rr, h1⟩ := seqOf_sq r1 so hx
      refine ⟨_, ws.length, rfl, ?_, by rw [rr.length]; exact ps.here so q (.int _)⟩
      rcases h1 with ⟨h1, _⟩ | ⟨h1, _⟩
      · exact .inl ⟨_, h1, rfl⟩
      · exact .inr ⟨_, h1, rfl⟩
  · exact h.elim
theorem bf_tuple : Bfr X (fun xs H Q => ∃ p ys, xs = [V.ref p] ∧ ((SqL X.K H p ys ∧ ∀ l, H l = none → Q (.ref l) (upd H l (.tup ys))) ∨ (SqT X.K H p ys ∧ Q (.ref p) H))) bTuple := fun ds S Q0 vs H Q h rs so ps => by
  unfold bTuple at h
  split at h
  · cases rs with
    | cons r1 r2 =>
      cases r2
      obtain ⟨xs, hx, q⟩ := onSeq_iff.mp h
      obtain ⟨hz, a, ws, rfl, rr, h1⟩ := seqOf_sq r1 so hx
      refine ⟨_, ws, rfl, ?_⟩
      rcases h1 with ⟨h1, _⟩ | ⟨h1, _⟩
      · exact .inl ⟨h1, ps.tup so rr hz q⟩
      · exact .inr ⟨h1, ps.here so q (.tup h1 rr hz)⟩
  · exact h.elim
theorem bf_list : Bfr X (fun xs H Q => ∃ p ys, xs = [V.ref p] ∧ (SqL X.K H p ys ∨ SqT X.K H p ys) ∧ ∀ l, H l = none → Q (.ref l) (upd H l (.lst ys))) bList := fun ds S Q0 vs H Q h rs so ps => by
  unfold bList at h
  split at h
  · cases rs with
    | cons r1 r2 =>
      cases r2
      obtain ⟨xs, hx, q⟩ := onSeq_iff.mp h
      obtain ⟨hz, a, ws, rfl, rr, h1⟩ := seqOf_sq r1 so hx
      exact ⟨_, _, rfl, h1.imp (·.1) (·.1), ps.made so rr hz q⟩
  · exact h.elim
theorem bf_fold {r : List V → Hp → VK → Prop} {C : List Int → Prop} {m : List Int → Int → Prop} (hr : ∀ a ns H Q, SqL X.K H a (ns.map V.int) → C ns → (∀ r, m ns r → Q (V.int r) H) → r [V.ref a] H Q) : Bfr X r (bFold C m) := fun ds S Q0 vs H Q h rs so ps => by
  unfold bFold at h
  split at h
  · cases rs with
    | cons r1 r2 =>
      cases r1; cases r2
      obtain ⟨xs, hx, ns, rfl, hc, q⟩ := onL_iff.mp h
      obtain ⟨ws, h1, rr, _⟩ := so.lst hx
      rw [rr.ints] at h1
      exact hr _ ns H Q (SqL.of h1) hc fun r hm => ps.here so (q r hm) (.int _)
  · exact h.elim
theorem bf_sum : Bfr X (rSum X.K) bSum := bf_fold fun a ns H Q hs _ q => ⟨a, ns, rfl, hs, q _ rfl⟩
/-- max, min of a tuple of ints -/
def rMaxT (K : PySem.W.Frag) : List V → Hp → VK → Prop := fun vs H Q => ∃ (a : Addr) (ns : List Int), vs = [V.ref a] ∧ SqT K H a (ns.map V.int) ∧ 0 < ns.length ∧ ∀ m, m ∈ ns → (∀ y, y ∈ ns → y ≤ m) → Q (.int m) H
def rMinT (K : PySem.W.Frag) : List V → Hp → VK → Prop := fun vs H Q => ∃ (a : Addr) (ns : List Int), vs = [V.ref a] ∧ SqT K H a (ns.map V.int) ∧ 0 < ns.length ∧ ∀ m, m ∈ ns → (∀ y, y ∈ ns → m ≤ y) → Q (.int m) H
theorem hold_ints {h : Heap} : ∀ {us : List Value} {ns : List Int}, IntsAre us ns → PySem.W.HoldAll h us ns
  | _, _, .nil => .nil
  | _, _, .cons n t r => .cons ⟨[], .int n t⟩ (hold_ints r)
theorem holds_int {h : Heap} {v : Value} {n : Int} (x : PySem.W.Holds h v n) : ∃ t, v = .int n t := by
  obtain ⟨as, r⟩ := x
  have r : Reads h v (.int n) as := r
  cases r with
  | int i t => exact ⟨t, rfl⟩
theorem minOf_least (x : Int) : ∀ xs : List Int, PySem.W.minOf x xs ∈ x :: xs ∧ ∀ y ∈ x :: xs, PySem.W.minOf x xs ≤ y := by
  intro xs
  unfold PySem.W.minOf
  induction xs generalizing x with
  | nil => simp
  | cons z zs ih =>
    rw [List.foldl_cons]
    by_cases h : z < x
    · rw [if_pos (show PySem.W.DatumOrd.lt z x = true from decide_eq_true h)]
      obtain ⟨h1, h2⟩ := ih z
      refine ⟨List.mem_cons_of_mem _ h1, fun y hy => ?_⟩
      rcases List.mem_cons.mp hy with rfl | hy
      · exact Int.le_trans (h2 z List.mem_cons_self) (Int.le_of_lt h)
      · exact h2 y hy
    · rw [if_neg (show ¬ PySem.W.DatumOrd.lt z x = true from fun e => h (of_decide_eq_true e))]
      obtain ⟨h1, h2⟩ := ih x
      refine ⟨?_, fun y hy => ?_⟩
      · rcases List.mem_cons.mp h1 with e | h1
        · rw [e]; exact List.mem_cons_self
        · exact List.mem_cons_of_mem _ (List.mem_cons_of_mem _ h1)
      · rcases List.mem_cons.mp hy with rfl | hy
        · exact h2 _ List.mem_cons_self
        · rcases List.mem_cons.mp hy with rfl | hy
          · exact Int.le_trans (h2 x List.mem_cons_self) (by omega)
          · exact h2 y (List.mem_cons_of_mem _ hy)
theorem maxOf_most (x : Int) : ∀ xs : List Int, PySem.W.maxOf x xs ∈ x :: xs ∧ ∀ y ∈ x :: xs, y ≤ PySem.W.maxOf x xs := by
  intro xs
  unfold PySem.W.maxOf
  induction xs generalizing x with
  | nil => simp
  | cons z zs ih =>
    rw [List.foldl_cons]
    by_cases h : x < z
    · rw [if_pos (show PySem.W.DatumOrd.lt x z = true from decide_eq_true h)]
      obtain ⟨h1, h2⟩ := ih z
      refine ⟨List.mem_cons_of_mem _ h1, fun y hy => ?_⟩
      rcases List.mem_cons.mp hy with rfl | hy
      · exact Int.le_trans (Int.le_of_lt h) (h2 z List.mem_cons_self)
      · exact h2 y hy
    · rw [if_neg (show ¬ PySem.W.DatumOrd.lt x z = true from fun e => h (of_decide_eq_true e))]
      obtain ⟨h1, h2⟩ := ih x
      refine ⟨?_, fun y hy => ?_⟩
      · rcases List.mem_cons.mp h1 with e | h1
        · rw [e]; exact List.mem_cons_self
        · exact List.mem_cons_of_mem _ (List.mem_cons_of_mem _ h1)
      · rcases List.mem_cons.mp hy with rfl | hy
        · exact h2 _ List.mem_cons_self
        · rcases List.mem_cons.mp hy with rfl | hy
          · exact Int.le_trans (by omega) (h2 x List.mem_cons_self)
          · exact h2 y (List.mem_cons_of_mem _ hy)
theorem cr_minT {k : Nat} (C : Cok X k) : CallR X (.builtin "min") (rMinT X.K) := by
  intro pins s σ H vs us Q I r h
  obtain ⟨a, ns, rfl, hs, hn, q⟩ := h
  obtain ⟨its, rv, ht, _⟩ := I.tuple hs
  rw [Vals.ref1 r]
  have hi := rv.ints
  cases ns with
  | nil => exact absurd hn (by decide)
  | cons n ns =>
    have hu := C.room.units
    refine PySem.W.min_tuple_datum (I.ok.hd C.calm) ht (x := n) (xs := ns) (hold_ints (by simpa using hi)) (by show _ + 1 + 0 < _; omega) fun i v h' tk hv hm hk => ?_
    obtain ⟨t, rfl⟩ := holds_int hm
    obtain ⟨h1, h2⟩ := minOf_least n ns
    exact ⟨.int _, H, I.kept hk, ⟨_, rfl⟩, q _ h1 h2⟩
theorem cr_maxT {k : Nat} (C : Cok X k) : CallR X (.builtin "max") (rMaxT X.K) := by
  intro pins s σ H vs us Q I r h
  obtain ⟨a, ns, rfl, hs, hn, q⟩ := h
  obtain ⟨its, rv, ht, _⟩ := I.tuple hs
  rw [Vals.ref1 r]
  have hi := rv.ints
  cases ns with
  | nil => exact absurd hn (by decide)
  | cons n ns =>
    have hu := C.room.units
    refine PySem.W.max_tuple_datum (I.ok.hd C.calm) ht (x := n) (xs := ns) (hold_ints (by simpa using hi)) (by show _ + 1 + 0 < _; omega) fun i v h' tk hv hm hk => ?_
    obtain ⟨t, rfl⟩ := holds_int hm
    obtain ⟨h1, h2⟩ := maxOf_most n ns
    exact ⟨.int _, H, I.kept hk, ⟨_, rfl⟩, q _ h1 h2⟩
theorem bf_foldS {r : List V → Hp → VK → Prop} {C : List Int → Prop} {m : List Int → Int → Prop} (hr : ∀ a ns H Q, (SqL X.K H a (ns.map V.int) ∨ SqT X.K H a (ns.map V.int)) → C ns → (∀ r, m ns r → Q (V.int r) H) → r [V.ref a] H Q) : Bfr X r (bFoldS C m) := fun ds S Q0 vs H Q h rs so ps => by
  unfold bFoldS at h
  split at h
  · cases rs with
    | cons r1 r2 =>
      cases r2
      obtain ⟨xs, hx, ns, rfl, hc, q⟩ := onSeq_iff.mp h
      obtain ⟨_, a, ws, rfl, rr, h1⟩ := seqOf_sq r1 so hx
      rw [rr.ints] at h1
      exact hr _ ns H Q (h1.imp (·.1) (·.1)) hc fun r hm => ps.here so (q r hm) (.int _)
  · exact h.elim
theorem bf_max : Bfr X (fun xs H Q => rMax X.K xs H Q ∨ rMaxT X.K xs H Q) bMax := bf_foldS fun a ns H Q hs c q => hs.imp (fun hs => ⟨a, ns, rfl, hs, List.length_pos_iff.mpr c, fun m h1 h2 => q m ⟨h1, h2⟩⟩) fun hs => ⟨a, ns, rfl, hs, List.length_pos_iff.mpr c, fun m h1 h2 => q m ⟨h1, h2⟩⟩
theorem bf_min : Bfr X (fun xs H Q => rMin X.K xs H Q ∨ rMinT X.K xs H Q) bMin := bf_foldS fun a ns H Q hs c q => hs.imp (fun hs => ⟨a, ns, rfl, hs, List.length_pos_iff.mpr c, fun m h1 h2 => q m ⟨h1, h2⟩⟩) fun hs => ⟨a, ns, rfl, hs, List.length_pos_iff.mpr c, fun m h1 h2 => q m ⟨h1, h2⟩⟩
theorem Bfr.or {r r' : List V → Hp → VK → Prop} {B B' : WB} (h : Bfr X r B) (h' : Bfr X r' B') : Bfr X (fun xs H Q => r xs H Q ∨ r' xs H Q) fun ds S Q => B ds S Q ∨ B' ds S Q := fun ds S Q0 vs H Q q rs so ps =>
  q.imp (fun q => h ds S Q0 vs H Q q rs so ps) fun q => h' ds S Q0 vs H Q q rs so ps
end
end DL

namespace DL
open PySem PySem.Spec PyProof.Rows L2

/-! ### what is walked -/
/-- the items of J (over data) are those of J' (over values), as long as the tuples of H0 stay -/
structure ItR (K : Kw) (H0 : Hp) (J : DL.It) (J' : L2.It) : Prop where
  len : J.xs.length ≤ sizeLine
  go : ∀ i H S x, SOk K H S → Tk H0 H → J.chk S → J.xs[i]? = some x → J'.go i H ∧ ∀ v H', J'.yld i H v H' → Rp K H' v x ∧ SOk K H' S ∧ Fr S S H H'
  stop : ∀ i H S, SOk K H S → Tk H0 H → J.chk S → J.xs.length ≤ i → J'.stop i H
def lI (K : Kw) (t : WI) : TI := fun σ H R => ∃ env S R0, ER K H σ env ∧ SOk K H S ∧ t env S R0 ∧ ∀ J S', R0 J S' → ∀ J' H', ItR K H' J J' → SOk K H' S' → Fr S S' H H' → R J' H'
abbrev QI (X : Cx) (tg e : Expr) (t : WI) : Prop := PI X tg e (lI X.kw t)
theorem _root_.L2.PI.imp' {X : Cx} {tg e : Expr} {t u : TI} (h : PI X tg e t) (i : ∀ σ H Q, u σ H Q → t σ H Q) : PI X tg e u := ⟨fun pins s σ H Q I q => h.run pins s σ H Q I (i σ H Q q)⟩
section
variable {K : Kw} {H0 : Hp}
theorem itr_list {a : Addr} {xs : List D} {vs : List V} (hz : xs.length ≤ sizeLine) : ItR K H0 ⟨xs, fun S => sget S a = some (.lst xs)⟩ (Itl K a) :=
  ⟨hz, fun i H S x so tk chk hx => by
    obtain ⟨vs, h1, r1, _⟩ := so.lst chk
    obtain ⟨v, hv, rv⟩ := r1.get hx
    refine ⟨⟨vs, v, SqL.of h1, hv⟩, fun v' H' ⟨e, y⟩ => ?_⟩
    subst e
    have := y vs (SqL.of h1)
    rw [hv] at this
    cases this
    exact ⟨rv, so, .refl _ _⟩, fun i H S so tk chk hi => by
    obtain ⟨vs, h1, r1, _⟩ := so.lst chk
    exact ⟨vs, SqL.of h1, by rw [r1.length]; exact hi⟩⟩
theorem itr_frz {a : Addr} {xs : List D} {vs : List V} (hz : xs.length ≤ sizeLine) (h : FxL K H0 a vs) (r : RpAll K H0 vs xs) : ItR K H0 ⟨xs, fun _ => True⟩ (Itl K a) :=
  ⟨hz, fun i H S x so tk chk hx => by
    obtain ⟨v, hv, rv⟩ := r.get hx
    refine ⟨⟨vs, v, (tk.fx h).sq, hv⟩, fun v' H' ⟨e, y⟩ => ?_⟩
    subst e
    have := y vs (tk.fx h).sq
    rw [hv] at this
    cases this
    exact ⟨rv.mono tk, so, .refl _ _⟩, fun i H S so tk chk hi => ⟨vs, (tk.fx h).sq, by rw [r.length]; exact hi⟩⟩
theorem itr_tup {a : Addr} {xs : List D} {vs : List V} (hz : xs.length ≤ sizeLine) (h : SqT K H0 a vs) (r : RpAll K H0 vs xs) : ItR K H0 ⟨xs, fun _ => True⟩ (Itt K a) :=
  ⟨hz, fun i H S x so tk chk hx => by
    obtain ⟨v, hv, rv⟩ := r.get hx
    refine ⟨⟨vs, v, tk.sq h, hv⟩, fun v' H' ⟨e, y⟩ => ?_⟩
    subst e
    have := y vs (tk.sq h)
    rw [hv] at this
    cases this
    exact ⟨rv.mono tk, so, .refl _ _⟩, fun i H S so tk chk hi => ⟨vs, tk.sq h, by rw [r.length]; exact hi⟩⟩
theorem itr_rng (lo : Int) (n : Nat) (hz : n ≤ sizeLine) : ItR K H0 ⟨rngD lo n, fun _ => True⟩ (Itr lo n) where
  len := by simp [rngD]; exact hz
  go := fun i H S x so tk chk hx => by
    unfold rngD at hx
    simp only [List.getElem?_map] at hx
    by_cases hi : i < n
    · rw [List.getElem?_range hi] at hx
      cases hx
      refine ⟨hi, fun v H' ⟨e, y⟩ => ?_⟩
      subst e y
      exact ⟨.int _, so, .refl _ _⟩
    · rw [List.getElem?_eq_none (by simpa using hi)] at hx
      exact absurd hx (by simp)
  stop := fun i H S so tk chk hi => by
    have : (rngD lo n).length = n := by simp [rngD]
    exact (show n ≤ i from by simpa [this] using hi)
theorem itr_rngC (lo c : Int) (n : Nat) (hz : n ≤ sizeLine) : ItR K H0 ⟨rngC lo c n, fun _ => True⟩ (Itc lo c n) where
  len := by simp [rngC]; exact hz
  go := fun i H S x so tk chk hx => by
    unfold rngC at hx
    simp only [List.getElem?_map] at hx
    by_cases hi : i < n
    · rw [List.getElem?_range hi] at hx
      cases hx
      refine ⟨hi, fun v H' ⟨e, y⟩ => ?_⟩
      subst e y
      exact ⟨.int _, so, .refl _ _⟩
    · rw [List.getElem?_eq_none (by simpa using hi)] at hx
      exact absurd hx (by simp)
  stop := fun i H S so tk chk hi => by
    have : (rngC lo c n).length = n := by simp [rngC]
    exact (show n ≤ i from by simpa [this] using hi)
theorem itr_str (z : Str) (hz : z.length ≤ sizeLine) : ItR K H0 ⟨z.cps.toList.map fun c => .str ⟨#[c]⟩, fun _ => True⟩ (Its z) :=
  ⟨by simp only [List.length_map, Array.length_toList]; exact hz, fun i H S x so tk chk hx => by
    simp only [List.getElem?_map, Array.getElem?_toList, Option.map_eq_some_iff] at hx
    obtain ⟨c, hc, rfl⟩ := hx
    refine ⟨(Array.getElem?_eq_some_iff.mp hc).1, fun v H' ⟨e, c', hc', y⟩ => ?_⟩
    subst e y
    rw [hc] at hc'
    cases hc'
    exact ⟨.str _, so, .refl _ _⟩, fun i H S so tk chk hi => (show z.cps.size ≤ i from by simpa using hi)⟩
theorem itr_revl {a : Addr} {xs : List D} (n : Nat) (hn : n = xs.length) (hz : xs.length ≤ sizeLine) : ItR K H0 ⟨xs.reverse, fun S => sget S a = some (.lst xs)⟩ (Itv K a n) :=
  ⟨by simpa using hz, fun i H S x so tk chk hx => by
    subst hn
    obtain ⟨vs, h1, r1, _⟩ := so.lst chk
    have hi : i < xs.length := by
      have := (List.getElem?_eq_some_iff.mp hx).1
      simpa using this
    dsimp only at hx
    rw [List.getElem?_reverse hi] at hx
    obtain ⟨v, hv, rv⟩ := r1.get hx
    refine ⟨⟨hi, vs, v, SqL.of h1, hv⟩, fun v' H' ⟨e, y⟩ => ?_⟩
    subst e
    have := y vs (SqL.of h1)
    rw [hv] at this
    cases this
    exact ⟨rv, so, .refl _ _⟩, fun i H S so tk chk hi => (show n ≤ i from by subst hn; simpa using hi)⟩
theorem itr_revt {a : Addr} {xs : List D} {vs : List V} (n : Nat) (hn : n = xs.length) (hz : xs.length ≤ sizeLine) (h : SqT K H0 a vs) (r : RpAll K H0 vs xs) : ItR K H0 ⟨xs.reverse, fun _ => True⟩ (RT.ItvT K a n) :=
  ⟨by simpa using hz, fun i H S x so tk chk hx => by
    subst hn
    have hi : i < xs.length := by
      have := (List.getElem?_eq_some_iff.mp hx).1
      simpa using this
    dsimp only at hx
    rw [List.getElem?_reverse hi] at hx
    obtain ⟨v, hv, rv⟩ := r.get hx
    refine ⟨⟨hi, vs, v, tk.sq h, hv⟩, fun v' H' ⟨e, y⟩ => ?_⟩
    subst e
    have := y vs (tk.sq h)
    rw [hv] at this
    cases this
    exact ⟨rv.mono tk, so, .refl _ _⟩, fun i H S so tk chk hi => (show n ≤ i from by subst hn; simpa using hi)⟩
end
section
variable {X : Cx} {tg e : Expr} {te : WE} {ta : WA} {p pos : Pos}

/-- a list, a tuple, a text, walked -/
def iAny (K : PySem.W.Frag) (tl : TE) : TI := fun σ H R => tl σ H fun x H1 => (∃ a, x = .ref a ∧ (∃ xs, SqL K H1 a xs) ∧ R (Itl K a) H1) ∨ (∃ a, x = .ref a ∧ (∃ xs, SqT K H1 a xs) ∧ R (Itt K a) H1) ∨ ∃ z, x = .str z ∧ R (Its z) H1
theorem pi_any {tl : TE} (hl : PE X e tl) : PI X tg e (iAny X.K tl) := by
  refine ⟨fun pins s σ H R I h => ?_⟩
  refine thn (hl.run pins s σ H _ I h) fun v s1 ⟨x, H1, I1, r1, q1⟩ => ?_
  rcases q1 with ⟨a, e, ⟨xs, hq⟩, q⟩ | ⟨a, e, ⟨xs, hq⟩, q⟩ | ⟨z, e, q⟩
  · subst e
    cases r1
    obtain ⟨its, rv, p, hz⟩ := I1.list hq
    refine wpAny_pyIter_list p.isList ?_
    refine ⟨s1.heap.objs.size, [s1.heap.objs.size], _, _, H1, rfl, I1.kept (t' := s1.toks) fun b o e => Heap.get?_push_of_some _ e, turn_list a _, ⟨_, Heap.get?_push_size _ rfl, rfl, rfl⟩, fun b hb => ?_, q⟩
    have e : b = s1.heap.objs.size := by simpa using hb
    subst e
    exact I1.fpOk (Nat.le_refl _) (I1.hok.fresh (Nat.le_refl _))
  · subst e
    cases r1
    obtain ⟨its, rv, p, hz⟩ := I1.tuple hq
    refine wpAny_pyIter_tuple (show s1.heap.IsTuple a its.toArray from p) ?_
    refine ⟨s1.heap.objs.size, [s1.heap.objs.size], _, _, H1, rfl, I1.kept (t' := s1.toks) fun b o e => Heap.get?_push_of_some _ e, turn_tuple a _, ⟨_, Heap.get?_push_size _ rfl, rfl, rfl⟩, fun b hb => ?_, q⟩
    have e : b = s1.heap.objs.size := by simpa using hb
    subst e
    exact I1.fpOk (Nat.le_refl _) (I1.hok.fresh (Nat.le_refl _))
  · subst e
    obtain ⟨t, rfl⟩ := r1
    cases ha : z.cps.all (· < 128)
    · exact wpAny_pyIter_wide ha (pi_one (tk := s1.toks) I1 _ (turn_str _ z t "str_iterator" (.inr rfl)) ⟨_, Heap.get?_push_size _ rfl, rfl, rfl⟩ q)
    · exact wpAny_pyIter_ascii ha (pi_one (tk := s1.toks) I1 _ (turn_str _ z t "str_ascii_iterator" (.inl rfl)) ⟨_, Heap.get?_push_size _ rfl, rfl, rfl⟩ q)
theorem qi_seq (h : QE X e te) : QI X tg e (iSeq te) := (pi_any h).imp' fun σ H R ⟨env, S, R0, er, so, q, ps⟩ => by
  refine ⟨env, S, _, er, so, q, fun x S1 h1 v H1 rv s1 f1 => ?_⟩
  unfold dWalk at h1
  split at h1
  · cases rv with
    | tup h2 r2 hz => exact .inr (.inl ⟨_, rfl, ⟨_, h2⟩, ps _ _ (h1 hz) _ _ (itr_tup hz h2 r2) s1 f1⟩)
  · cases rv with
    | frz h2 r2 hz => exact .inl ⟨_, rfl, ⟨_, h2.sq⟩, ps _ _ (h1 hz) _ _ (itr_frz hz h2 r2) s1 f1⟩
  · cases rv
    obtain ⟨xs, e1, h1⟩ := onL_iff.mp h1
    obtain ⟨vs, h2, r2, hz⟩ := s1.lst e1
    exact .inl ⟨_, rfl, ⟨vs, SqL.of h2⟩, ps _ _ (h1 hz) _ _ (itr_list (vs := vs) hz) s1 f1⟩
  · cases rv
    exact .inr (.inr ⟨_, rfl, ps _ _ h1.2 _ _ (itr_str _ h1.1) s1 f1⟩)
  · exact h1.elim
theorem qi_rev {p pos : Pos} (hg : Gl X "reversed") (hm : X.mg "reversed" = none) (h : QE X e te) (hs : starEach [e] X.env = (false, eval e X.env) :: starEach [] X.env := by rfl) : QI X tg (.Call (.Name "reversed" p) [e] [] pos) (DL.iRev te) := (RT.pi_revA hg hm h hs).imp' fun σ H R ⟨env, S, R0, er, so, q, ps⟩ => by
  refine ⟨env, S, _, er, so, q, fun x S1 h1 v H1 rv s1 f1 => ?_⟩
  split at h1
  · cases rv with
    | tup h2 r2 hz => exact ⟨_, _, rfl, .inr ⟨h2, ps _ _ (h1 hz) _ _ (itr_revt _ r2.length hz h2 r2) s1 f1⟩⟩
  · cases rv
    obtain ⟨xs, e1, h1⟩ := onL_iff.mp h1
    obtain ⟨vs, h2, r2, hz⟩ := s1.lst e1
    exact ⟨_, _, rfl, .inl ⟨SqL.of h2, ps _ _ (h1 hz) _ _ (itr_revl _ r2.length hz) s1 f1⟩⟩
  · exact h1.elim
theorem rng_line : (1000000 : Int) ≤ (sizeLine : Nat) := by rw [sizeLine_eq]; decide
theorem qi_rng1 {a : Expr} (hg : Gl X "range") (hm : X.mg "range" = none) (ha : QA X [a] ta) (hs : starEach [a] X.env = [(false, eval a X.env)] := by rfl) : QI X tg (.Call (.Name "range" p) [a] [] pos) (iRng ta) := (pi_range1 hg hm ha hs).imp' fun σ H R ⟨env, S, R0, er, so, q, ps⟩ => by
  refine ⟨env, S, _, er, so, q, fun ds S1 h1 vs H1 rs s1 f1 => ?_⟩
  have := rng_line
  split at h1
  · cases rs with
    | cons r1 r2 =>
      cases r1; cases r2
      exact ⟨_, rfl, by omega, by omega, ps _ _ h1.2 _ _ (itr_rng 0 _ (by omega)) s1 f1⟩
  · exact h1.elim
theorem qi_rng2 {a b : Expr} (hg : Gl X "range") (hm : X.mg "range" = none) (ha : QA X [a, b] ta) (hs : starEach [a, b] X.env = [(false, eval a X.env), (false, eval b X.env)] := by rfl) (hs2 : starEach [b] X.env = [(false, eval b X.env)] := by rfl) :
    QI X tg (.Call (.Name "range" p) [a, b] [] pos) (iRng2 ta) := (pi_range2 hg hm ha hs hs2).imp' fun σ H R ⟨env, S, R0, er, so, q, ps⟩ => by
  refine ⟨env, S, _, er, so, q, fun ds S1 h1 vs H1 rs s1 f1 => ?_⟩
  have := rng_line
  split at h1
  · cases rs with
    | cons r1 r2 =>
      cases r2 with
      | cons r2 r3 =>
        cases r1; cases r2; cases r3
        exact ⟨_, _, rfl, ⟨h1.1.1, h1.1.2.1, h1.1.2.2.1, h1.1.2.2.2.1⟩, ps _ _ h1.2 _ _ (itr_rng _ _ (by omega)) s1 f1⟩
  · exact h1.elim
theorem cnt_size {i j c : Int} (hc : 0 < c) (h : j - i ≤ 1000000) : Builtin.Range.rangeSize i j c = (cntC i j c : Nat) ∧ cntC i j c ≤ 1000000 := by
  unfold Builtin.Range.rangeSize cntC
  rw [if_pos hc]
  split
  · have h0 : 0 ≤ (j - i - 1) / c := Int.ediv_nonneg (by omega) (by omega)
    have h1 : (j - i - 1) / c ≤ j - i - 1 := Int.ediv_le_self _ (by omega)
    exact ⟨by omega, by omega⟩
  · exact ⟨rfl, by decide⟩
theorem qi_rng3 {a b c : Expr} (hg : Gl X "range") (hm : X.mg "range" = none) (ha : QA X [a, b, c] ta) (hs : starEach [a, b, c] X.env = (false, eval a X.env) :: starEach [b, c] X.env := by rfl) (hpl : (backTo pos (starEach [b, c] X.env)).any (·.1) = false := by rfl) :
    QI X tg (.Call (.Name "range" p) [a, b, c] [] pos) (iRng3 ta) := (pi_range3 hg hm ha hs hpl).imp' fun σ H R ⟨env, S, R0, er, so, q, ps⟩ => by
  refine ⟨env, S, _, er, so, q, fun ds S1 h1 vs H1 rs s1 f1 => ?_⟩
  have := rng_line
  split at h1
  · cases rs with
    | cons r1 r2 =>
      cases r2 with
      | cons r2 r3 =>
        cases r3 with
        | cons r3 r4 =>
          cases r1; cases r2; cases r3; cases r4
          obtain ⟨⟨c1, c2, b1, b2, b3, b4, b5⟩, q1⟩ := h1
          obtain ⟨e1, e2⟩ := cnt_size c1 b5
          refine ⟨_, _, _, _, rfl, ⟨by omega, by omega, ?_, e1⟩, ps _ _ q1 _ _ (itr_rngC _ _ _ (by omega)) s1 f1⟩
          unfold Builtin.Range.small
          rw [e1]
          simp only [Builtin.Range.rangeFitsLong, Bool.and_eq_true, Bool.or_eq_true, decide_eq_true_eq, beq_iff_eq, gt_iff_lt, c1, if_true]
          repeat' split
          all_goals omega
  · exact h1.elim
end
end DL

namespace DL
open PySem PySem.Spec PyProof.Rows L2
section
variable {X : Cx} {e : Expr} {es : List Expr} {te : WE} {pos : Pos}
/-! ### targets -/
theorem qg_name {i : Nat} {x : Str} (hN : X.N.Nodup) (hi : X.N[i]? = some x) (hx : Loc X.env.scope x) (hf : X.fn x = true ∨ X.env.scope.names.lookup x = some .local := by first | exact .inl rfl | exact .inr rfl | assumption) : QG X (.Name x pos) (DL.gName i) :=
  (pg_name hN hi hx hf).imp' fun v σ H Q ⟨d, env, S, Q0, rv, er, so, q, ps⟩ => ps _ _ q _ H (er.set i rv) so (.refl S H)
theorem qgs_nil : QGs X [] DL.gsNil := pgs_nil.imp' fun vs σ H Q ⟨ds, env, S, Q0, rv, er, so, q, ps⟩ => by
  obtain ⟨e, q⟩ := q
  subst e
  cases rv
  exact ⟨rfl, ps _ _ q _ H er so (.refl S H)⟩

theorem qgs_cons {g : WG} {u : WGs} (h1 : QG X e g) (h2 : QGs X es u) (hs : (assignEach (e :: es) X.env).map (·.2) = assign e X.env :: (assignEach es X.env).map (·.2) := by rfl) : QGs X (e :: es) (DL.gsCons g u) :=
  (pgs_cons h1 h2 hs).imp' fun vs σ H Q ⟨ds, env, S, Q0, rv, er, so, q, ps⟩ => by
  unfold DL.gsCons at q
  split at q
  · cases rv with
    | cons r1 r2 =>
      refine ⟨_, _, rfl, _, env, S, _, r1, er, so, q, fun env1 S1 h1 σ1 H1 er1 s1 f1 => ?_⟩
      exact ⟨_, env1, S1, Q0, r2.mono f1.tk, er1, s1, h1, fun env2 S2 h2 σ2 H2 er2 s2 f2 => ps _ _ h2 _ _ er2 s2 (f1.trans f2)⟩
  · exact q.elim
theorem qg_tup {k : Nat} {u : WGs} {n : Nat} (hc : X.calm = true) (h : QGs X es u) (hn : (assignEach es X.env).length = n := by rfl) (hst : (assignEach es X.env).findIdx? (·.1) = none := by rfl) : QG X (.Tuple es k pos) (DL.gTup n u) :=
  (pg_tup hc h hn hst).imp' fun v σ H Q ⟨d, env, S, Q0, rv, er, so, q, ps⟩ => by
  unfold DL.gTup at q
  split at q
  · cases rv with
    | tup h1 r1 hz => exact ⟨_, _, rfl, h1, by rw [r1.length]; exact q.1, _, env, S, Q0, r1, er, so, q.2, ps⟩
  · exact q.elim
theorem qg_sub {o i : Expr} {ta ti : WE} (ho : QE X o ta) (hi : QE X i ti)
    (ha : ∀ v, assign (.Subscript o i pos) X.env v = (do
      let ov ← holding [v] (eval o X.env)
      let iv ← holding [v, ov] (eval i X.env)
      standAt pos
      holding [v, ov, iv] (setItem ov iv v)
      release [v, ov, iv] []) := by intro _; rfl) : QG X (.Subscript o i pos) (DL.gSub ta ti) :=
  (pg_sub ho hi set_list ha).imp' fun v σ H Q ⟨d, env, S, Q0, rv, er, so, q, ps⟩ => by
  refine ⟨env, S, _, er, so, q, fun x S1 h1 w H1 rw' s1 f1 => ?_⟩
  refine ⟨env, S1, _, er.mono f1.tk, s1, h1, fun y S2 h2 u H2 ru s2 f2 => ?_⟩
  split at h2
  · cases ru
    cases rw'
    obtain ⟨xs, e1, h2⟩ := onL_iff.mp h2
    split at h2
    · rename_i j hj
      have q2 := h2
      obtain ⟨vs, h3, r3, hz⟩ := s2.lst e1
      refine ⟨_, vs, _, j, rfl, rfl, h3, by rw [r3.length]; exact hj, ?_⟩
      have f3 := (f1.trans f2).trans (Fr.set (ws := vs.set j v) (o' := .lst (xs.set j d)) e1 h3)
      refine ps _ _ q2 _ _ (er.mono f3.tk) (s2.set e1 h3 (r3.set (rv.mono (f1.trans f2).tk) j) (by rw [List.length_set]; exact hz)) f3
    · exact h2.elim
  · exact h2.elim
end

section
variable {X : Cx} {e : Expr} {te : WE} {st : Stmt} {rest : List Stmt} {t u : WS} {pos : Pos}
/-! ### statements -/
theorem qs_nil : QSs X [] sNil := pss_nil.imp' fun D σ H ⟨env, S, D0, er, so, q, ps⟩ => ps.nx _ _ q _ _ er so (.refl S H)
theorem seq_ok {K : Kw} {D : L2.Ends} {σ : L2.St} {H : Hp} (h : lS K (sSeq t u) D σ H) : L2.tSeq (lS K t) (lS K u) D σ H := by
  obtain ⟨env, S, D0, er, so, q, ps⟩ := h
  exact ⟨env, S, { D0 with nx := u D0 }, er, so, q, ⟨fun env' S' h σ' H' er' s' f => ⟨env', S', D0, er', s', h, ps.trans f⟩, ps.rt, ps.bk, ps.ct⟩⟩
theorem qs_cons (h1 : QS X st t) (h2 : QSs X rest u) : QSs X (st :: rest) (sSeq t u) := (pss_cons h1 h2).imp' fun D σ H h => seq_ok h
theorem qs_one (h1 : QS X st t) : QSs X [st] t := pss_one h1
theorem q_brk : QS X (.Break pos) sBrk := ps_break.imp' fun D σ H ⟨env, S, D0, er, so, q, ps⟩ => ps.bk _ _ q _ _ er so (.refl S H)
theorem q_cnt : QS X (.Continue pos) sCnt := ps_continue.imp' fun D σ H ⟨env, S, D0, er, so, q, ps⟩ => ps.ct _ _ q _ _ er so (.refl S H)
theorem q_pass : QS X (.Pass pos) sNil := ps_pass.imp' fun D σ H ⟨env, S, D0, er, so, q, ps⟩ => ps.nx _ _ q _ _ er so (.refl S H)
theorem q_doc {x j p2} : QS X (.Expr (.Constant (.str x) j pos) p2) sNil := ps_doc.imp' fun D σ H ⟨env, S, D0, er, so, q, ps⟩ => ps.nx _ _ q _ _ er so (.refl S H)
theorem q_expr (he : QE X e te) (hs : swapsWith e none pos.line X.env = pure false := by rfl) : QS X (.Expr e pos) (sDrop te) := (ps_expr he hs).imp' fun D σ H ⟨env, S, D0, er, so, q, ps⟩ =>
  ⟨env, S, _, er, so, q, fun d S1 h1 v H1 rv s1 f1 => ps.nx _ _ h1 _ _ (er.mono f1.tk) s1 f1⟩
theorem q_ret (he : QE X e te) : QS X (.Return (some e) pos) (sRet te) := (ps_ret he).imp' fun D σ H ⟨env, S, D0, er, so, q, ps⟩ => ⟨env, S, _, er, so, q, ps.rt⟩
theorem q_retN : QS X (.Return none pos) sRetN := ps_retN.imp' fun D σ H ⟨env, S, D0, er, so, q, ps⟩ => ps.rt.here so q .non
theorem asg_ok {K : Kw} {D : L2.Ends} {σ : L2.St} {H : Hp} {g : WG} (h : lS K (sAsg te g) D σ H) : L2.tAsg (lE K te) (lG K g) D σ H := by
  obtain ⟨env, S, D0, er, so, q, ps⟩ := h
  exact ⟨env, S, _, er, so, q, fun d S1 h1 v H1 rv s1 f1 => ⟨d, env, S1, _, rv, er.mono f1.tk, s1, h1, fun env2 S2 h2 σ2 H2 er2 s2 f2 => ps.nx _ _ h2 _ _ er2 s2 (f1.trans f2)⟩⟩
theorem q_asg {tg : Expr} {g : WG} (he : QE X e te) (hg : QG X tg g) (hs : swapsWithSole [tg] e pos.line X.env = pure false := by rfl) (hw : swappedStores [tg] e X.env = pure none := by rfl)
    (h1 : (assignEach [tg] X.env).map (·.2) = [assign tg X.env] := by rfl) : QS X (.Assign [tg] e pos) (sAsg te g) := (ps_asg he hg hs hw h1).imp' fun D σ H h => asg_ok h
theorem q_set {i : Nat} {x : Str} {p2 : Pos} (hN : X.N.Nodup) (hi : X.N[i]? = some x) (hx : Loc X.env.scope x) (he : QE X e te) (hs : swapsWith e (some (.Name x p2)) pos.line X.env = pure false := by rfl) (hf : X.fn x = true ∨ X.env.scope.names.lookup x = some .local := by first | exact .inl rfl | exact .inr rfl | assumption) :
    QS X (.Assign [.Name x p2] e pos) (sAsg te (DL.gName i)) := (ps_set hN hi hx he hs hf).imp' fun D σ H ⟨env, S, D0, er, so, q, ps⟩ =>
  ⟨env, S, _, er, so, q, fun d S1 h1 v H1 rv s1 f1 => ps.nx _ _ h1 _ _ ((er.mono f1.tk).set i rv) s1 f1⟩
theorem q_if {c : Expr} {a b : List Stmt} {tc : WT} (hc : QT X c tc) (ha : QSs X a t) (hb : QSs X b u) : QS X (.If c a b pos) (sIf tc t u) := (ps_if hc ha hb).imp' fun D σ H ⟨env, S, D0, er, so, q, ps⟩ => by
  refine ⟨env, S, _, er, so, q, fun k S1 h1 H1 s1 f1 => ?_⟩
  cases k with
  | true => exact ⟨env, S1, D0, er.mono f1.tk, s1, h1, ps.trans f1⟩
  | false => exact ⟨env, S1, D0, er.mono f1.tk, s1, h1, ps.trans f1⟩
theorem q_join (h : QS X st t) : QS X st (sJoin t) := h.imp' fun D σ H ⟨env, S, D0, er, so, q, ps⟩ => by
  unfold sJoin at q
  obtain ⟨P, h1, h2⟩ := q
  refine ⟨env, S, _, er, so, h1, ⟨fun env' S' h σ' H' er' s' f => ?_, ps.rt, ps.bk, ps.ct⟩⟩
  obtain ⟨S0, sb, h⟩ := (show UpS (P env') S' from h).ex
  exact ps.nx _ _ (h2 _ _ h) _ _ er' (s'.sub sb) (f.sub sb)
theorem q_while {c : Expr} {body : List Stmt} {tc : WT} (hp : PassesOwn (model X.prog X.w) X.A X.env X.xe) (hc : QT X c tc) (hb : QSs X body t) : QS X (.While c body [] pos) (sWhile tc t) := (ps_while hp hc hb).imp' fun D σ H ⟨env, S, D0, er, so, q, ps⟩ => by
  unfold sWhile at q
  obtain ⟨W, ⟨m0, w0⟩, turn⟩ := q
  refine ⟨fun m σ' H' => ∃ env' S', ER X.kw H' σ' env' ∧ SOk X.kw H' S' ∧ Fr S S' H H' ∧ W m env' S', ⟨m0, env, S, er, so, .refl S H, w0⟩, ?_⟩
  rintro m σ1 H1 ⟨env1, S1, er1, s1, f1, w1⟩
  refine ⟨env1, S1, _, er1, s1, turn m env1 S1 w1, fun k S2 h2 H2 s2 f2 => ?_⟩
  cases k with
  | false => exact (ps.trans (f1.trans f2)).nx _ _ h2 _ _ (er1.mono f2.tk) s2 (.refl _ _)
  | true =>
    refine ⟨fun σ' H' => ∃ env' S', ER X.kw H' σ' env' ∧ SOk X.kw H' S' ∧ Fr S S' H H' ∧ ∃ m', m' < m ∧ W m' env' S', fun σ' H' ⟨env', S', a, b, c, m', hm, w'⟩ => ⟨m', hm, env', S', a, b, c, w'⟩, ?_⟩
    have h2 : t _ env1 S2 := h2
    have up : ∀ env' S', UpS (fun S' => ∃ m', m' < m ∧ W m' env' S') S' → ∀ σ' H', ER X.kw H' σ' env' → SOk X.kw H' S' → Fr S2 S' H2 H' → ∃ env' S', ER X.kw H' σ' env' ∧ SOk X.kw H' S' ∧ Fr S S' H H' ∧ ∃ m', m' < m ∧ W m' env' S' := fun env' S' h σ' H' er' s' f => by
      obtain ⟨S0, sb, h⟩ := h.ex
      exact ⟨env', S0, er', s'.sub sb, ((f1.trans f2).trans f).sub sb, h⟩
    exact ⟨env1, S2, _, er1.mono f2.tk, s2, h2, ⟨up, ps.rt.trans (f1.trans f2),
      fun env' S' h σ' H' er' s' f => ps.nx _ _ h _ _ er' s' ((f1.trans f2).trans f), up⟩⟩
theorem drop_get {α : Type} {xs : List α} {i : Nat} {x : α} {r : List α} (h : xs.drop i = x :: r) : xs[i]? = some x ∧ xs.drop (i + 1) = r ∧ i < xs.length := by
  have hi : i < xs.length := by
    rcases Nat.lt_or_ge i xs.length with hi | hi
    · exact hi
    · rw [List.drop_eq_nil_of_le hi] at h
      cases h
  rw [List.drop_eq_getElem_cons hi] at h
  injection h with h1 h2
  exact ⟨by rw [List.getElem?_eq_getElem hi, h1], h2, hi⟩
theorem q_for {tg iter : Expr} {body : List Stmt} {wi : WI} {g : WG} (hp : PassesOwn (model X.prog X.w) X.A X.env X.xe) (hc : X.calm = true) (hi : QI X tg iter wi) (hg : QG X tg g) (hb : QSs X body t)
    (hs : ∀ x, foldedSetIterable iter X.env x = pure x := by intro _; rfl) : QS X (.For tg iter body [] pos) (sFor wi g t) := (ps_for hp hc hi hg hb hs).imp' fun D σ H ⟨env, S, D0, er, so, q, ps⟩ => by
  unfold sFor at q
  refine ⟨env, S, _, er, so, q, fun J S1 h1 J' H1 jr s1 f1 => ?_⟩
  obtain ⟨W, w0, turn, done⟩ := h1
  refine ⟨fun i m σ' H' => ∃ env' S', ER X.kw H' σ' env' ∧ SOk X.kw H' S' ∧ Fr S1 S' H1 H' ∧ W i env' S' ∧ m = J.xs.length - i ∧ i ≤ J.xs.length, ⟨J.xs.length, env, S1, er.mono f1.tk, s1, .refl _ _, w0, by omega, Nat.zero_le _⟩, ?_⟩
  rintro i m σ2 H2 ⟨env2, S2, er2, s2, f2, w2, rfl, hi2⟩
  cases hd : J.xs[i]? with
  | none =>
    have hl : J.xs.length ≤ i := List.getElem?_eq_none_iff.mp hd
    have e : i = J.xs.length := Nat.le_antisymm hi2 hl
    rw [e] at w2
    obtain ⟨chk, q2⟩ := done env2 S2 w2
    exact .inl ⟨jr.stop i H2 S2 s2 f2.tk chk hl, ps.nx _ _ q2 _ _ er2 s2 (f1.trans f2)⟩
  | some x =>
    have hlt : i < J.xs.length := (List.getElem?_eq_some_iff.mp hd).1
    obtain ⟨chk, q2⟩ := turn i x env2 S2 hd w2
    obtain ⟨go, yld⟩ := jr.go i H2 S2 x s2 f2.tk chk hd
    refine .inr ⟨go, fun σ' H' => ∃ env' S', ER X.kw H' σ' env' ∧ SOk X.kw H' S' ∧ Fr S1 S' H1 H' ∧ W (i + 1) env' S', fun σ' H' ⟨env', S', a, b, c, w'⟩ => ⟨J.xs.length - (i + 1), by omega, env', S', a, b, c, w', rfl, hlt⟩, fun v H3 y3 => ?_⟩
    obtain ⟨rv, s3, f3⟩ := yld v H3 y3
    refine ⟨x, env2, S2, _, rv, er2.mono f3.tk, s3, q2, fun env4 S4 h4 σ4 H4 er4 s4 f4 => ?_⟩
    have f := (f2.trans f3).trans f4
    have up : ∀ env' S', UpS (W (i + 1) env') S' → ∀ σ' H', ER X.kw H' σ' env' → SOk X.kw H' S' → Fr S4 S' H4 H' → ∃ env' S', ER X.kw H' σ' env' ∧ SOk X.kw H' S' ∧ Fr S1 S' H1 H' ∧ W (i + 1) env' S' := fun env' S' h σ' H' er' s' g => by
      obtain ⟨S0, sb, h⟩ := h.ex
      exact ⟨env', S0, er', s'.sub sb, (f.trans g).sub sb, h⟩
    exact ⟨env4, S4, _, er4, s4, h4, ⟨up, ps.rt.trans (f1.trans f), fun env' S' h σ' H' er' s' g => ps.nx _ _ h _ _ er' s' ((f1.trans f).trans g), up⟩⟩
theorem q_par {i j : Nat} {x y : Str} {a b : Expr} {ta : WA} {px py pt : Pos} {kt k2 pt2} (hc : X.calm = true) (hN : X.N.Nodup) (hi : X.N[i]? = some x) (hj : X.N[j]? = some y) (hij : i ≠ j)
    (hx : X.env.scope.names.lookup x = some .local) (hy : X.env.scope.names.lookup y = some .local) (ha : QA X [a, b] ta)
    (hw : swappedStores [.Tuple [.Name x px, .Name y py] kt pt] (.Tuple [a, b] k2 pt2) X.env = pure (some [x, y]))
    (hs : swapsWithSole [.Tuple [.Name x px, .Name y py] kt pt] (.Tuple [a, b] k2 pt2) pos.line X.env = pure false := by rfl) :
    QS X (.Assign [.Tuple [.Name x px, .Name y py] kt pt] (.Tuple [a, b] k2 pt2) pos) (sPar i j ta) := (ps_par hc hN hi hj hij hx hy ha hw hs).imp' fun D σ H ⟨env, S, D0, er, so, q, ps⟩ => by
  refine ⟨env, S, _, er, so, q, fun ds S1 h1 vs H1 rs s1 f1 => ?_⟩
  split at h1
  · cases rs with
    | cons r1 r2 =>
      cases r2 with
      | cons r2 r3 =>
        cases r3
        exact ⟨_, _, rfl, ps.nx _ _ h1 _ _ (((er.mono f1.tk).set i r1).set j r2) s1 f1⟩
  · exact h1.elim
/-- x op= e for ints and texts: as the operator -/
def ipAdd : TIp := fun x y H Q => rI0 (fun i j => .int (i + j)) x y H Q ∨ ∃ i j, x = V.str i ∧ y = V.str j ∧ i.length + j.length ≤ sizeLine ∧ Q (.str (i ++ j)) H
def dIAdd (x y : D) (S : Sto) (Q : WQ) : Prop := match x, y with
  | .int i, .int j => Q (.int (i + j)) S
  | .str a, .str b => a.length + b.length ≤ sizeLine ∧ Q (.str (a ++ b)) S
  | _, _ => False
theorem q_aug {i : Nat} {x : Str} {op : Operator} {r : R2} {R : D → D → Sto → WQ → Prop} {p2 : Pos} (hN : X.N.Nodup) (hi : X.N[i]? = some x) (hx : Loc X.env.scope x) (he : QE X e te) (ho : OpR X (inplaceOp op) r) (hr : Opr X r R)
    (hf : X.fn x = true ∨ X.env.scope.names.lookup x = some .local := by first | exact .inl rfl | exact .inr rfl | assumption) : QS X (.AugAssign (.Name x p2) op e pos) (sAug i R te) :=
  (ps_aug (ti := r) hN hi hx he (fun pins s σ H x y v u Q I rv ru h => ho pins s σ H x y v u Q I rv ru h) hf).imp' fun D σ H ⟨env, S, D0, er, so, q, ps⟩ => by
  unfold sAug at q
  split at q
  · rename_i d e1
    obtain ⟨v, hv, rv⟩ := er.2 i d e1
    refine ⟨v, hv, env, S, _, er, so, q, fun y S1 h1 w H1 rw' s1 f1 => ?_⟩
    exact hr _ _ _ _ _ _ _ _ h1 (rv.mono f1.tk) rw' s1 fun z S2 h2 v2 H2 rv2 s2 f2 => ps.nx _ _ h2 _ _ ((er.mono (f1.trans f2).tk).set i rv2) s2 (f1.trans f2)
  · exact q.elim
theorem opr_iadd : Opr X (fun x y H Q => rI0 (fun i j => .int (i + j)) x y H Q ∨ ∃ i j, x = V.str i ∧ y = V.str j ∧ i.length + j.length ≤ sizeLine ∧ Q (.str (i ++ j)) H) dIAdd := fun x y S Q0 v u H Q h rv ru so ps => by
  unfold dIAdd at h
  split at h
  · cases rv; cases ru
    exact .inl ⟨_, _, rfl, rfl, ps.here so h (.int _)⟩
  · cases rv; cases ru
    exact .inr ⟨_, _, rfl, rfl, h.1, ps.here so h.2 (.str _)⟩
  · exact h.elim
theorem q_iadd {i : Nat} {x : Str} {p2 : Pos} (hN : X.N.Nodup) (hi : X.N[i]? = some x) (hx : Loc X.env.scope x) (he : QE X e te)
    (hf : X.fn x = true ∨ X.env.scope.names.lookup x = some .local := by first | exact .inl rfl | exact .inr rfl | assumption) : QS X (.AugAssign (.Name x p2) .Add e pos) (sAug i dIAdd te) := q_aug hN hi hx he (iop_add.or iop_add_str) opr_iadd hf
theorem q_isub {i : Nat} {x : Str} {p2 : Pos} (hN : X.N.Nodup) (hi : X.N[i]? = some x) (hx : Loc X.env.scope x) (he : QE X e te)
    (hf : X.fn x = true ∨ X.env.scope.names.lookup x = some .local := by first | exact .inl rfl | exact .inr rfl | assumption) : QS X (.AugAssign (.Name x p2) .Sub e pos) (sAug i dSub te) := q_aug hN hi hx he iop_sub opr_sub hf
end

/-! ### comprehensions -/
section
variable {X : Cx} {tg iter elt : Expr} {ifs : List Expr} {scope : Scope} {own : List (Str × Nat)} {pos : Pos} {wi : WI} {g : WG} {c : WT} {te : WE} {vs : List Nat}
abbrev QTs (X : Cx) (ifs : List Expr) (t : WT) : Prop := PTs X ifs (lT X.kw t)
theorem qts_nil : QTs X [] DL.tYes := ⟨fun pins s σ H Q I ⟨env, S, Q0, er, so, q, ps⟩ => pts_nil.run pins s σ H Q I (ps _ _ q _ so (.refl S H))⟩
theorem qts_one {e : Expr} {t : WT} (h : QT X e t) : QTs X [e] t := pts_one h
/-- a comprehension's own target -/
structure GV (K : Kw) (gV : TG) (g : WG) (vs : List Nat) : Prop where
  run : ∀ v d σ env S H (Q0 : EV → Sto → Prop) Q, Rp K H v d → ER K H σ env → SOk K H S → g d env S Q0 → (∀ σ' env', L2.wipe σ' vs = L2.wipe σ vs → ER K H σ' env' → Q0 env' S → Q σ' H) → gV v σ H Q
structure GVs (K : Kw) (gV : TGs) (g : WGs) (vs : List Nat) : Prop where
  run : ∀ v d σ env S H (Q0 : EV → Sto → Prop) Q, RpAll K H v d → ER K H σ env → SOk K H S → g d env S Q0 → (∀ σ' env', L2.wipe σ' vs = L2.wipe σ vs → ER K H σ' env' → Q0 env' S → Q σ' H) → gV v σ H Q
theorem wipe_get (σ : L2.St) : ∀ (vs : List Nat) (j : Nat), (L2.wipe σ vs)[j]? = if j ∈ vs ∧ j < σ.length then some none else σ[j]?
  | [], j => by
    show σ[j]? = _
    rw [if_neg (by simp)]
  | v :: vs, j => by
    show ((L2.wipe σ vs).set v none)[j]? = _
    have hl := wipe_length σ vs
    by_cases hj : v = j
    · subst hj
      by_cases hv : v < σ.length
      · rw [List.getElem?_set_self (by rw [hl]; exact hv), if_pos ⟨List.mem_cons_self, hv⟩]
      · rw [List.getElem?_eq_none (by rw [List.length_set, hl]; omega), if_neg (by omega)]
        exact (List.getElem?_eq_none (by omega)).symm
    · rw [List.getElem?_set_ne hj, wipe_get σ vs j]
      have : (j ∈ v :: vs ∧ j < σ.length) ↔ (j ∈ vs ∧ j < σ.length) := by
        rw [List.mem_cons]
        constructor
        · rintro ⟨h | h, h2⟩
          · exact absurd h.symm hj
          · exact ⟨h, h2⟩
        · rintro ⟨h, h2⟩
          exact ⟨.inr h, h2⟩
      by_cases h : j ∈ vs ∧ j < σ.length
      · rw [if_pos h, if_pos (this.mpr h)]
      · rw [if_neg h, if_neg (fun z => h (this.mp z))]
theorem wipe_set {σ : L2.St} {i : Nat} {x : Option V} (hi : i ∈ vs) : L2.wipe (σ.set i x) vs = L2.wipe σ vs := by
  refine List.ext_getElem? fun j => ?_
  rw [wipe_get, wipe_get, List.length_set]
  by_cases h : j ∈ vs ∧ j < σ.length
  · rw [if_pos h, if_pos h]
  · rw [if_neg h, if_neg h]
    by_cases hj : i = j
    · subst hj
      have : ¬ i < σ.length := fun z => h ⟨hi, z⟩
      rw [List.getElem?_eq_none (by simpa using this), List.getElem?_eq_none (by omega)]
    · rw [List.getElem?_set_ne hj]
theorem gv_name {K : Kw} {i : Nat} (hi : i ∈ vs) : GV K (L2.gName i) (DL.gName i) vs := ⟨fun v d σ env S H Q0 Q rv er so q ps => ps _ _ (wipe_set hi) (er.set i rv) q⟩
theorem gvs_nil {K : Kw} : GVs K L2.gNil DL.gsNil vs := ⟨fun v d σ env S H Q0 Q rv er so q ps => by
  obtain ⟨e, q⟩ := q
  subst e
  cases rv
  exact ⟨rfl, ps _ _ rfl er q⟩⟩
theorem gvs_cons {K : Kw} {gV : TG} {uV : TGs} {u : WGs} (h1 : GV K gV g vs) (h2 : GVs K uV u vs) : GVs K (L2.gCons gV uV) (DL.gsCons g u) vs := ⟨fun v d σ env S H Q0 Q rv er so q ps => by
  unfold DL.gsCons at q
  split at q
  · cases rv with
    | cons r1 r2 =>
      exact ⟨_, _, rfl, h1.run _ _ _ _ _ _ _ _ r1 er so q fun σ1 env1 w1 er1 q1 => h2.run _ _ _ _ _ _ _ _ r2 er1 so q1 fun σ2 env2 w2 er2 q2 => ps _ _ (w2.trans w1) er2 q2⟩
  · exact q.elim⟩
theorem gv_tup {K : Kw} {uV : TGs} {u : WGs} {n : Nat} (h : GVs K uV u vs) : GV K (L2.gTup K n uV) (DL.gTup n u) vs := ⟨fun v d σ env S H Q0 Q rv er so q ps => by
  unfold DL.gTup at q
  split at q
  · cases rv with
    | tup h1 r1 hz => exact ⟨_, _, rfl, h1, by rw [r1.length]; exact q.1, h.run _ _ _ _ _ _ _ _ r1 er so q.2 ps⟩
  · exact q.elim⟩
theorem comp_ok {K : Kw} {σ : L2.St} {H : Hp} {Q : VK} {vs : List Nat} {gV : TG} (hG : GV K gV g vs) (h : lE K (eComp wi g c te vs) σ H Q) : L2.tLc (lI K wi) gV (lT K c) (lE K te) vs σ H Q := by
  obtain ⟨env, S, Q0, er, so, q, ps⟩ := h
  unfold eComp at q
  refine ⟨env, S, _, er, so, q, fun J S1 h1 J' H1 jr s1 f1 => ?_⟩
  obtain ⟨W, w0, turn, done⟩ := h1
  intro A hA
  have hA1 := s1.none hA
  refine ⟨fun i m H' => ∃ S' acc ws, SOk K H' S' ∧ Fr S1 S' H1 H' ∧ H' A = some (.lst ws) ∧ sget S' A = none ∧ RpAll K H' ws acc ∧ acc.length ≤ i ∧ W i acc S' ∧ m = J.xs.length - i ∧ i ≤ J.xs.length,
    ⟨J.xs.length, S1, [], [], s1.off hA, .off S1 hA, upd_same, hA1, .nil, Nat.le_refl _, w0, by omega, Nat.zero_le _⟩, ?_⟩
  rintro i m H2 ⟨S2, acc, ws, s2, f2, hA2, hn2, ra, hl, w2, rfl, hi2⟩
  have er2 : ER K H2 σ env := er.mono (f1.trans f2).tk
  cases hd : J.xs[i]? with
  | none =>
    have hli : J.xs.length ≤ i := List.getElem?_eq_none_iff.mp hd
    have e : i = J.xs.length := Nat.le_antisymm hi2 hli
    rw [e] at w2
    obtain ⟨chk, q2⟩ := done acc S2 w2
    refine .inl ⟨jr.stop i H2 S2 s2 f2.tk chk hli, ?_⟩
    have hz : acc.length ≤ sizeLine := Nat.le_trans hl (Nat.le_trans hi2 jr.len)
    have fA : Fr S1 ((A, .lst acc) :: S2) H1 H2 := ⟨fun a o e n => by
      obtain ⟨e2, n2⟩ := f2.keep a o e n
      exact ⟨e2, by rw [sget_ne (ne_of_none e hA)]; exact n2⟩, f2.tk⟩
    refine ps _ _ (q2 A hn2) _ _ (.ref A) (fun b o e => ?_) (f1.trans fA)
    by_cases hb : b = A
    · subst hb
      rw [sget_self] at e
      cases e
      exact ⟨ws, hA2, ra, hz⟩
    · rw [sget_ne hb] at e
      exact s2 b o e
  | some x =>
    have hlt : i < J.xs.length := (List.getElem?_eq_some_iff.mp hd).1
    obtain ⟨chk, q2⟩ := turn i x acc S2 hd w2
    obtain ⟨go, yld⟩ := jr.go i H2 S2 x s2 f2.tk chk hd
    refine .inr ⟨go, fun H' => ∃ S' acc' ws', SOk K H' S' ∧ Fr S1 S' H1 H' ∧ H' A = some (.lst ws') ∧ sget S' A = none ∧ RpAll K H' ws' acc' ∧ acc'.length ≤ i + 1 ∧ W (i + 1) acc' S',
      fun H' ⟨S', acc', ws', a, b, c, d, e, f, w'⟩ => ⟨J.xs.length - (i + 1), by omega, S', acc', ws', a, b, c, d, e, f, w', rfl, hlt⟩, fun v H3 y3 => ?_⟩
    obtain ⟨rv, s3, f3⟩ := yld v H3 y3
    obtain ⟨hA3, hn3⟩ := f3.keep A _ hA2 hn2
    refine hG.run v x _ (DL.wipe env vs) S2 H3 _ _ rv ((er2.mono f3.tk).wipe vs) s3 q2 fun σ4 env4 w4 er4 q4 => ⟨?_, env4, S2, _, er4, s3, q4, fun b S5 h5 H5 s5 f5 => ?_⟩
    · rw [w4]
      refine List.ext_getElem? fun j => ?_
      rw [wipe_get, wipe_length, wipe_get]
      by_cases h : j ∈ vs ∧ j < σ.length
      · rw [if_pos h, if_pos h]
      · rw [if_neg h]
        try rw [wipe_get, if_neg h]
    · obtain ⟨hA5, hn5⟩ := f5.keep A _ hA3 hn3
      have f25 := f2.trans (f3.trans f5)
      cases b with
      | false =>
        obtain ⟨S0, sb, h5⟩ := (show UpS (W (i + 1) acc) S5 from h5).ex
        exact ⟨S0, acc, ws, s5.sub sb, f25.sub sb, hA5, sb.none hn5, ra.mono (f3.trans f5).tk, Nat.le_succ_of_le hl, h5⟩
      | true =>
        have h5 : te env4 S5 fun y S4 => UpS (W (i + 1) (acc ++ [y])) S4 := h5
        refine ⟨env4, S5, _, er4.mono f5.tk, s5, h5, fun y S6 h6 u H6 ru s6 f6 => ?_⟩
        obtain ⟨S7, sb, h6⟩ := h6.ex
        obtain ⟨hA6, hn6⟩ := (f6.sub sb).keep A _ hA5 hn5
        have f6 := f6.sub sb
        have s6 := s6.sub sb
        have tk6 : Tk H6 (upd H6 A (.lst (ws ++ [u]))) := .set hA6
        have rr : RpAll K H6 ws acc := ra.mono ((f3.trans f5).trans f6).tk
        refine ⟨ws, hA6, ?_, S7, acc ++ [y], ws ++ [u], ?_, ?_, upd_same, hn6, (rr.append (.cons ru .nil)).mono tk6, by rw [List.length_append]; exact Nat.succ_le_succ hl, h6⟩
        · rw [rr.length]
          exact Nat.lt_of_le_of_lt hl (Nat.lt_of_lt_of_le hlt jr.len)
        · intro b o e
          have nb : b ≠ A := fun z => by subst z; rw [hn6] at e; cases e
          exact (s6 b o e).mono tk6 (upd_ne nb)
        · refine ⟨fun a o e n => ?_, (f25.trans f6).tk.trans tk6⟩
          obtain ⟨e2, n2⟩ := (f25.trans f6).keep a o e n
          exact ⟨by rw [upd_ne (ne_of_none e hA)]; exact e2, n2⟩
theorem q_comp {k : Nat} {gV : TG} (C : Cok X k) (hi : QI X tg iter wi) (ok : BlkOk X.N X.env.scope scope own) (hG : GV X.kw gV g (own.map (·.2)))
    (hg : ∀ (s : Shared) (H : Hp) (C : Addr) (cl : List (Str × Addr)) (fp : List Addr), PG (X.blk s H scope (compEnvC scope cl C X.env) fp) tg gV) (ht : ∀ (s : Shared) (H : Hp) (C : Addr) (cl : List (Str × Addr)) (fp : List Addr), QTs (X.blk s H scope (compEnvC scope cl C X.env) fp) ifs c)
    (he : ∀ (s : Shared) (H : Hp) (C : Addr) (cl : List (Str × Addr)) (fp : List Addr), QE (X.blk s H scope (compEnvC scope cl C X.env) fp) elt te) (hs : ∀ x, foldedSetIterable iter X.env x = pure x := by intro _; rfl) :
    QE X (.ListComp elt [⟨tg, iter, ifs, 0⟩] scope pos) (eComp wi g c te (own.map (·.2))) := (pe_lc C.calm C.nd hi ok hg ht he hs).imp' fun σ H Q h => comp_ok hG h
theorem q_setComp {k : Nat} {gV : TG} {i : Nat} {y : Str} {py spos : Pos} (C : Cok X k) (hy : X.N[i]? = some y) (hyl : X.env.scope.names.lookup y = some .local) (hsw : swapsWith (.ListComp elt [⟨tg, iter, ifs, 0⟩] scope pos) (some (.Name y py)) spos.line X.env = pure true)
    (hi : QI X tg iter wi) (ok : BlkOk X.N X.env.scope scope own) (hG : GV X.kw gV g (own.map (·.2)))
    (hg : ∀ (s : Shared) (H : Hp) (C : Addr) (cl : List (Str × Addr)) (fp : List Addr), PG (X.blk s H scope (compEnvC scope cl C X.env) fp) tg gV) (ht : ∀ (s : Shared) (H : Hp) (C : Addr) (cl : List (Str × Addr)) (fp : List Addr), QTs (X.blk s H scope (compEnvC scope cl C X.env) fp) ifs c)
    (he : ∀ (s : Shared) (H : Hp) (C : Addr) (cl : List (Str × Addr)) (fp : List Addr), QE (X.blk s H scope (compEnvC scope cl C X.env) fp) elt te) (hs : ∀ x, foldedSetIterable iter X.env x = pure x := by intro _; rfl) :
    QS X (.Assign [.Name y py] (.ListComp elt [⟨tg, iter, ifs, 0⟩] scope pos) spos) (sAsg (eComp wi g c te (own.map (·.2))) (DL.gName i)) := (ps_setLc C.calm C.nd hy hyl hsw hi ok hg ht he hs).imp' fun D σ H ⟨env, S, D0, er, so, q, ps⟩ =>
  comp_ok hG ⟨env, S, _, er, so, q, fun d S1 h1 v H1 rv s1 f1 => ps.nx _ _ h1 _ _ ((er.mono f1.tk).set i rv) s1 f1⟩
end
end DL

namespace DL
open PySem PySem.Spec PyProof.Rows L2

/-! ### repr -/
mutual
theorem PyR.dp {K : Kw} {H : Hp} {S : Sto} (so : SOk K H S) : ∀ {d : D} {p : PyData} {v : V}, PyR S d p → Rp K H v d → Dp K H v p
  | _, _, _, .non, r => by cases r; exact .non
  | _, _, _, .bl b, r => by cases r; exact .bl b
  | _, _, _, .int i, r => by cases r; exact .int i
  | _, _, _, .str x, r => by cases r; exact .str x
  | _, _, _, .tup hs, r => by
    cases r with
    | tup h1 r1 _ => exact .tup h1 (PyRs.dp so hs r1)
  | _, _, _, .lst e hs, r => by
    cases r
    obtain ⟨vs, h1, r1, _⟩ := so.lst e
    exact .lst (SqL.of h1) (PyRs.dp so hs r1)
theorem PyRs.dp {K : Kw} {H : Hp} {S : Sto} (so : SOk K H S) : ∀ {ds : List D} {ps : List PyData} {vs : List V}, PyRs S ds ps → RpAll K H vs ds → DpAll K H vs ps
  | _, _, _, .nil, r => by cases r; exact .nil
  | _, _, _, .cons h hs, r => by
    cases r with
    | cons r1 r2 => exact .cons (PyR.dp so h r1) (PyRs.dp so hs r2)
end
mutual
theorem PyR.nodict {S : Sto} : ∀ {d : D} {p : PyData}, PyR S d p → p.hasDict = false
  | _, _, .non => by simp [PyData.hasDict]
  | _, _, .bl b => by simp [PyData.hasDict]
  | _, _, .int i => by simp [PyData.hasDict]
  | _, _, .str x => by simp [PyData.hasDict]
  | _, _, .tup hs => by simp [PyData.hasDict, PyRs.nodict hs]
  | _, _, .lst e hs => by simp [PyData.hasDict, PyRs.nodict hs]
theorem PyRs.nodict {S : Sto} : ∀ {ds : List D} {ps : List PyData}, PyRs S ds ps → PyData.hasDictAll ps = false
  | _, _, .nil => by simp [PyData.hasDictAll]
  | _, _, .cons h hs => by simp [PyData.hasDictAll, PyR.nodict h, PyRs.nodict hs]
end
section
variable {X : Cx} {e : Expr} {es : List Expr} {te : WE} {t : WA} {p pos : Pos} {k : Nat}
def rRepr (K : PySem.W.Frag) : List V → Hp → VK → Prop := fun xs H Q => ∃ x d, xs = [x] ∧ Dp K H x d ∧ d.hasDict = false ∧ rpOk d ∧ Q (.str d.shown) H
theorem call_repr (C : Cok X k) : CallR X (.builtin "repr") (rRepr X.K) := by
  intro pins s σ H xs us Q I r h
  obtain ⟨x, d, rfl, hd, nd, ⟨h1, h2, h3⟩, q⟩ := h
  obtain ⟨u, rfl, rx⟩ := vals1 r
  have fin : ∀ {tk : Tok} {tk' : Nat} {w : Str}, w = d.shown → EP X pins σ Q (.str w tk) { s with toks := tk' } := fun {tk tk' w} e => ⟨.str _, H, I.tok _, ⟨_, rfl⟩, by rw [e]; exact q⟩
  have big : ∀ {a : Addr}, u = .ref a → wpAny (model X.prog X.w) X.A (call (.builtin "repr") [u]) (EP X pins σ Q) X.xe s := fun {a} e => by
    obtain ⟨as, rd⟩ := Dp.reads I d x u hd rx
    subst e
    have := C.room.units
    exact repr_of_reads' rd h1 (PyData.noDict_hsm nd) C.gd (by omega) (fun _ _ e => e) (fun h' u tk hk => ⟨.str _, H, I.kept hk, ⟨_, rfl⟩, q⟩) h2
  cases hd with
  | non => cases rx; exact PySem.P.repr_of_none (fin (by simp [PyData.shown]))
  | bl b => cases rx; exact PySem.P.repr_of_bool (fin (by simp [PyData.shown]))
  | int i =>
    obtain ⟨t, rfl⟩ := rx
    refine PySem.P.repr_of_int (by simpa [PyData.showable] using h1) (fin (by simp [PyData.shown]))
  | str y =>
    obtain ⟨t, rfl⟩ := rx
    exact PySem.P.repr_of_str (fin (by simp [PyData.shown])) (by simpa [PyData.shown] using h2)
  | lst _ _ => exact big rx
  | tup _ _ => exact big rx
theorem bf_repr : Bfr X (rRepr X.K) bRepr := fun ds S Q0 vs H Q h rs so ps => by
  unfold bRepr at h
  split at h
  · cases rs with
    | cons r1 r2 =>
      cases r2
      obtain ⟨d, hd, ok, q⟩ := h
      unfold shw at q
      exact ⟨_, d, rfl, hd.dp so r1, hd.nodict, ok, ps.here so q (.str _)⟩
  · exact h.elim
theorem bf_str : Bfr X (fun xs H Q => (∃ i, xs = [V.int i] ∧ i.natAbs.log2 < 1920 ∧ Q (.str (toString i)) H) ∨ ∃ a, xs = [V.str a] ∧ Q (.str a) H) bStr := fun ds S Q0 vs H Q h rs so ps => by
  unfold bStr at h
  split at h
  · cases rs with
    | cons r1 r2 =>
      cases r1; cases r2
      exact .inl ⟨_, rfl, h.1, ps.here so h.2 (.str _)⟩
  · cases rs with
    | cons r1 r2 =>
      cases r1; cases r2
      exact .inr ⟨_, rfl, ps.here so h (.str _)⟩
  · exact h.elim
/-! ### isinstance -/
theorem tyIs_ok {a b : String} {r : Bool} (h : tyIs a b = some r) (hb : b = "bool" ∨ b = "int" ∨ b = "str" ∨ b = "tuple" ∨ b = "list") (ha : a = "NoneType" ∨ a = "bool" ∨ a = "int" ∨ a = "str" ∨ a = "tuple" ∨ a = "list") : kitB a b = some r := by
  rcases ha with rfl | rfl | rfl | rfl | rfl | rfl <;> rcases hb with rfl | rfl | rfl | rfl | rfl <;> (simp [tyIs] at h; subst h; decide +kernel)
theorem tyIs_q {n : String} (hn : n = "bool" ∨ n = "int" ∨ n = "str" ∨ n = "tuple" ∨ n = "list") : tyIs "?" n = none := by
  rcases hn with rfl | rfl | rfl | rfl | rfl <;> decide
theorem q_isi {n : String} {x : Str} {p2 : Pos} (hn : n = "bool" ∨ n = "int" ∨ n = "str" ∨ n = "tuple" ∨ n = "list") (hg0 : Gl X "isinstance") (hm0 : X.mg "isinstance" = none) (ha : QE X e te)
    (hg : Gl X x) (hm : X.mg x = none) (hv : bootBuiltins x = some (.type n)) (hx : x ≠ "__name__" := by decide) (hxd : (x == ("__debug__" : Str)) = false := by decide)
    (he : starEach [e, .Name x p2] X.env = (false, eval e X.env) :: starEach [.Name x p2] X.env := by rfl) (hpl : (backTo pos (starEach [.Name x p2] X.env)).any (·.1) = false := by rfl)
    (he2 : starEach [.Name x p2] X.env = (false, eval (.Name x p2) X.env) :: starEach [] X.env := by rfl) :
    QE X (.Call (.Name "isinstance" p) [e, .Name x p2] [] pos) (eIsi n te) :=
  (pe_callB call_isi hg0 hm0 boot_isinstance (pa_cons ha (pa_cons (pe_bltn hg hm hv (v := V.ty n) rfl hx hxd) pa_nil he2) he) (by decide) (by decide) he hpl).imp' fun σ H Q ⟨env, S, Q0, er, so, q, ps⟩ => by
  refine ⟨env, S, _, er, so, q, fun d S1 h1 v H1 rv s1 f1 => ?_⟩
  split at h1
  · rename_i b hb
    have q' : Q (.bl b) H1 := (ps.trans f1).here s1 h1 (.bl _)
    have go : ∀ {t : String}, TyX X.K H1 v (.type t) → tyOf S1 d = t → (t = "NoneType" ∨ t = "bool" ∨ t = "int" ∨ t = "str" ∨ t = "tuple" ∨ t = "list") → rIsi X.K [v, .ty n] H1 Q := fun {t} ty e ht =>
      ⟨v, .ty n, .type t, .type n, b, rfl, .ty n, ty, kit_ty (tyIs_ok (by rw [← e]; exact hb) hn ht), q'⟩
    show rIsi X.K [v, .ty n] H1 Q
    cases rv with
    | non => exact go (.base .non) rfl (by simp)
    | bl b => exact go (.base (.bl b)) rfl (by simp)
    | int i => exact go (.base (.int i)) rfl (by simp)
    | str x => exact go (.base (.str x)) rfl (by simp)
    | tup h2 _ _ =>
      rcases h2 with (h2 | ⟨o, h2⟩) | ⟨o, its, m, h2, h3, _⟩
      · exact go (.base (.tup h2)) rfl (by simp)
      · exact go (.fTuple h2) rfl (by simp)
      · exact go (.kTuple h2 h3) rfl (by simp)
    | frz h2 _ _ =>
      rcases h2 with ⟨o, h2⟩ | ⟨o, its, m, h2, h3, _⟩
      · exact go (.base (.frz h2)) rfl (by simp)
      · exact go (.kList h2 h3) rfl (by simp)
    | ref a =>
      cases ea : sget S1 a with
      | none =>
        rw [show tyOf S1 (.ref a) = "?" by simp [tyOf, ea], tyIs_q hn] at hb
        cases hb
      | some o =>
        cases o with
        | lst xs =>
          obtain ⟨vs, h2, _⟩ := s1.lst ea
          exact go (.base (.lst h2)) (by simp [tyOf, ea]) (by simp)
        | tape q =>
          rw [show tyOf S1 (.ref a) = "?" by simp [tyOf, ea], tyIs_q hn] at hb
          cases hb
        | dic o kvs =>
          rw [show tyOf S1 (.ref a) = "?" by simp [tyOf, ea], tyIs_q hn] at hb
          cases hb
    | ty m =>
      rw [show tyOf S1 (.ty m) = "?" from rfl, tyIs_q hn] at hb
      cases hb
    | exc _ _ =>
      rw [show ∀ a d f v, tyOf S1 (.exc a d f v) = "?" from fun _ _ _ _ => rfl, tyIs_q hn] at hb
      cases hb
  · exact h1.elim
/-! ### tuple(reversed(..)), methods of lists -/
theorem q_tupRev {p2 pos2 : Pos} (hc : X.calm = true) (hg : Gl X "tuple") (hm : X.mg "tuple" = none) (hg2 : Gl X "reversed") (hm2 : X.mg "reversed" = none) (he : QE X e te)
    (h : ∀ t, PE X e t → PE X (.Call (.Name "tuple" p) [.Call (.Name "reversed" p2) [e] [] pos2] [] pos) (RT.tTupRev X.K t)) :
    QE X (.Call (.Name "tuple" p) [.Call (.Name "reversed" p2) [e] [] pos2] [] pos) (eTupRev te) := (h _ he).imp' fun σ H Q ⟨env, S, Q0, er, so, q, ps⟩ => by
  refine ⟨env, S, _, er, so, q, fun d S1 h1 v H1 rv s1 f1 => ?_⟩
  split at h1
  · cases rv
    · obtain ⟨xs, e1, h1⟩ := onL_iff.mp h1
      obtain ⟨vs, h2, r2, hz⟩ := s1.lst e1
      have rr : RpAll X.kw H1 vs.reverse xs.reverse := by
        clear h1 e1 hz h2
        induction r2 using RpAll.rec (motive_1 := fun _ _ _ => True) with
        | nil => exact .nil
        | cons h t _ ih => 
          rw [List.reverse_cons, List.reverse_cons]
          exact ih.append (.cons h .nil)
        | _ => trivial
      exact ⟨_, _, rfl, SqL.of h2, (ps.trans f1).tup s1 rr (by rw [List.length_reverse]; exact hz) h1⟩
  · exact h1.elim
theorem q_methL {o : Expr} {to : WE} {name : Str} {id : String} {apos cpos : Pos} {r : V → List V → Hp → VK → Prop} {m : D → List D → Sto → WQ → Prop} (slot : Slot "list" name id) (hty : typeOf (.builtin id) = pure (.type "method_descriptor")) (hm : MtR X id r)
    (hr : ∀ a ds S Q0 vs H Q, m (.ref a) ds S Q0 → RpAll X.kw H vs ds → SOk X.kw H S → PostE X.kw S H Q0 Q → r (.ref a) vs H Q) (ho : QE X o to) (ha : QA X (e :: es) t)
    (hbase : attributeBase o name X.env (eval o X.env) = eval o X.env := by rfl)
    (hfew : ((backTo cpos (starEach (e :: es) X.env)).all (fun x => !x.1) && (backToKw cpos (keywordEach [] X.env)).all (fun x => x.1.isSome)
      && decide ((e :: es).length + ([] : List Keyword).length + (if ([] : List Keyword).isEmpty then 0 else 1) < 30)) = true := by rfl)
    (hline : (apos.endLine == cpos.line) = true := by rfl) (hs : starEach (e :: es) X.env = (false, eval e X.env) :: starEach es X.env := by rfl) (hplain : (backTo cpos (starEach es X.env)).any (·.1) = false := by rfl) :
    QE X (.Call (.Attribute o name apos) (e :: es) [] cpos) (eMethL m to t) := (pe_bm PySem.F.plainAttrs_list slot hty hm ho ha hbase hfew hline hs hplain).imp' fun σ H Q ⟨env, S, Q0, er, so, q, ps⟩ => by
  refine ⟨env, S, _, er, so, q, fun d S1 h1 v H1 rv s1 f1 => ?_⟩
  split at h1
  · cases rv
    · obtain ⟨xs, e1, h1⟩ := onL_iff.mp h1
      obtain ⟨vs, h2, r2, hz⟩ := s1.lst e1
      exact ⟨.inl ⟨rfl, _, SqL.of h2⟩, env, S1, _, er.mono f1.tk, s1, h1, fun ds S2 h3 ws H2 rs s2 f2 => hr _ _ _ _ _ _ _ h3 rs s2 (ps.trans (f1.trans f2))⟩
  · exact h1.elim
theorem mt_indexB (hu : X.A.units + 65 < cLine) : MtR X "list.index" (fun x xs H Q => rIndex X.K x xs H Q ∨ rIndexD X.K x xs H Q) := fun pins s σ H x xs v us Q I rx rxs h => h.elim (mt_index pins s σ H x xs v us Q I rx rxs) (mt_indexD hu pins s σ H x xs v us Q I rx rxs)
theorem pyDs_get : ∀ (ds : List D) (i : Nat), (pyDs ds)[i]? = (ds[i]?).map pyD
  | [], i => by simp [pyDs]
  | d :: ds, 0 => by simp [pyDs]
  | d :: ds, i + 1 => by simp [pyDs, pyDs_get ds i]
theorem cmps_get : ∀ {ds : List D}, cmpOks ds = true → ∀ {i : Nat} {d : D}, ds[i]? = some d → cmpOk d = true
  | [], _, i, d, e => by simp at e
  | x :: xs, h, i, d, e => by
    unfold cmpOks at h
    rw [Bool.and_eq_true] at h
    cases i with
    | zero =>
      have e : x = d := by simpa using e
      rw [← e]
      exact h.1
    | succ i => exact cmps_get h.2 (i := i) (by simpa using e)
theorem q_index (C : Cok X k) {o : Expr} {to : WE} {apos cpos : Pos} (ho : QE X o to) (ha : QA X (e :: es) t)
    (hbase : attributeBase o "index" X.env (eval o X.env) = eval o X.env := by rfl)
    (hfew : ((backTo cpos (starEach (e :: es) X.env)).all (fun x => !x.1) && (backToKw cpos (keywordEach [] X.env)).all (fun x => x.1.isSome)
      && decide ((e :: es).length + ([] : List Keyword).length + (if ([] : List Keyword).isEmpty then 0 else 1) < 30)) = true := by rfl)
    (hline : (apos.endLine == cpos.line) = true := by rfl) (hs : starEach (e :: es) X.env = (false, eval e X.env) :: starEach es X.env := by rfl) (hplain : (backTo cpos (starEach es X.env)).any (·.1) = false := by rfl) :
    QE X (.Call (.Attribute o "index" apos) (e :: es) [] cpos) (eMethL mIndex to t) :=
  q_methL PySem.F.slot_list_index PySem.F.type_list_index (mt_indexB (by have := C.room.un; omega)) (fun a ds S Q0 vs H Q h rs so ps => by
    unfold mIndex at h
    split at h
    · rename_i a' y he
      cases he
      cases rs with
      | cons r1 r2 =>
        cases r2
        obtain ⟨xs, e1, hc, h⟩ := onL_iff.mp h
        obtain ⟨ws, h2, r3, hz⟩ := so.lst e1
        unfold onFound at h
        split at h
        · rename_i j hj
          obtain ⟨hl, hp, hn⟩ := List.findIdx?_eq_some_iff_getElem.mp hj
          obtain ⟨z, hz1, hz2⟩ := r3.get (List.getElem?_eq_getElem hl)
          rcases hc with ⟨fy, fx⟩ | ⟨cy, dy, cx, dx⟩
          · have flat : ∀ m (hm : m < xs.length), flatD xs[m] = true := fun m hm => List.all_eq_true.mp fx _ (List.getElem_mem hm)
            refine .inl ⟨_, ws, _, j, z, rfl, rfl, SqL.of h2, flat_V r1 fy, flats_V r3 fx, hz1, ?_, fun m z' hm hz' => ?_, ps.here so h (.int _)⟩
            · rw [eqV_D hz2 r1 (flat j hl) fy]
              exact hp
            · have hml : m < xs.length := by omega
              obtain ⟨z2, h4, h5⟩ := r3.get (List.getElem?_eq_getElem hml)
              rw [h4] at hz'
              cases hz'
              rw [eqV_D h5 r1 (flat m hml) fy]
              have := hn m hm
              simpa using this
          · have cm : ∀ m (hm : m < xs.length), cmpOk xs[m] = true := fun m hm => cmps_get cx (List.getElem?_eq_getElem hm)
            refine .inr ⟨_, _, pyD y, pyDs xs, j, pyD xs[j], rfl, rfl, .lst (SqL.of h2) (r3.dp cx), r1.dp cy, cmps_shaped cx dx, cmp_shaped cy (by omega), by rw [pyDs_get, List.getElem?_eq_getElem hl]; rfl, ?_, fun m z' hm hz' => ?_, ps.here so h (.int _)⟩
            · rw [pyD_eqv _ _ (cm j hl) cy]
              exact hp
            · have hml : m < xs.length := by omega
              rw [pyDs_get, List.getElem?_eq_getElem hml] at hz'
              cases hz'
              rw [pyD_eqv _ _ (cm m hml) cy]
              have := hn m hm
              simpa using this
        · exact h.elim
    · exact h.elim) ho ha hbase hfew hline hs hplain
theorem q_append {o : Expr} {to : WE} {apos cpos : Pos} (ho : QE X o to) (ha : QA X (e :: es) t)
    (hbase : attributeBase o "append" X.env (eval o X.env) = eval o X.env := by rfl)
    (hfew : ((backTo cpos (starEach (e :: es) X.env)).all (fun x => !x.1) && (backToKw cpos (keywordEach [] X.env)).all (fun x => x.1.isSome)
      && decide ((e :: es).length + ([] : List Keyword).length + (if ([] : List Keyword).isEmpty then 0 else 1) < 30)) = true := by rfl)
    (hline : (apos.endLine == cpos.line) = true := by rfl) (hs : starEach (e :: es) X.env = (false, eval e X.env) :: starEach es X.env := by rfl) (hplain : (backTo cpos (starEach es X.env)).any (·.1) = false := by rfl) :
    QE X (.Call (.Attribute o "append" apos) (e :: es) [] cpos) (eMethL mAppend to t) :=
  q_methL PySem.F.slot_list_append PySem.F.type_list_append mt_append (fun a ds S Q0 vs H Q h rs so ps => by
    unfold mAppend at h
    split at h
    · rename_i a' y he
      cases he
      cases rs with
      | cons r1 r2 =>
        cases r2
        obtain ⟨xs, e1, hl, q⟩ := onL_iff.mp h
        obtain ⟨ws, h2, r2, hz⟩ := so.lst e1
        exact ⟨_, ws, _, rfl, rfl, h2, by rw [r2.length]; exact hl, ps _ _ q _ _ .non (so.set e1 h2 (r2.append (.cons r1 .nil)) (by rw [List.length_append]; exact hl)) (.set e1 h2)⟩
    · exact h.elim) ho ha hbase hfew hline hs hplain
end

/-! ### a def by its body over data -/
section
variable {P : Program} {w : World} {K : PySem.W.Frag} {mg : Str → Option Value} {base : Heap}
theorem RpAll.start {K : Kw} {H : Hp} {N : List Str} {vs : List V} {ds : List D} (r : RpAll K H vs ds) (hl : vs.length ≤ N.length) : ER K H (L2.start N vs) (DL.start N.length ds) := by
  unfold L2.start DL.start
  refine ⟨by simp [r.length], fun i d h => ?_⟩
  by_cases hi : i < ds.length
  · rw [List.getElem?_append_left (by simpa using hi), List.getElem?_map] at h
    obtain ⟨d', hd', e⟩ := Option.map_eq_some_iff.mp h
    cases e
    obtain ⟨v, hv, rv⟩ := r.get hd'
    refine ⟨v, ?_, rv⟩
    rw [List.getElem?_append_left (by simp [r.length]; exact hi), List.getElem?_map, hv]
    rfl
  · rw [List.getElem?_append_right (by simpa using hi), List.getElem?_replicate] at h
    split at h <;> cases h
theorem fnd_of {name qual : Str} {st : Stmt} {f : Addr} {oc : Value} {od an : Option Addr} {sl : Array (Option Value)} {kV dc pm cdv ct : Value} {N ps : List Str} {k : Nat} {F : WF} {b : WS}
    (lk : K.lookup f = some ⟨oc, od, .func (PySem.W.fnOf name qual (defArgs st) (defBody st) (defScope st) .none kV dc pm an cdv ct), sl⟩) (hcd : PySem.W.codeIn K cdv qual = true) (S : FnScope N ps (defScope st)) (hN : ps.length ≤ N.length)
    (len : ∀ ds S Q, F ds S Q → ds.length = ps.length)
    (body : ∀ (A : Around) (outer : List Env) (s : Shared) (H : Hp) (E : XK), Cok (cxOf CX0 P w K mg base N qual (defScope st) f cdv A outer s H E).nox k → QSs (cxOf CX0 P w K mg base N qual (defScope st) f cdv A outer s H E).nox (defBody st) b)
    (pure : ∀ ds S Q, F ds S Q → b (enOf Q) (DL.start N.length ds) S) : FnG P w K mg base (k + 1) f (PySem.W.fnOf name qual (defArgs st) (defBody st) (defScope st) .none kV dc pm an cdv ct) ps (lF ⟨K, P, w⟩ F) := by
  have len' : ∀ vs H Q E, lF ⟨K, P, w⟩ F vs H Q E → vs.length = ps.length := fun vs H Q E ⟨ds, S, Q0, r, so, h, pst⟩ => by rw [r.length]; exact len _ _ _ h
  refine fnG_of lk hcd S len' fun A outer s H vs Q E hr hG hsp => ?_
  have hl := len' _ _ _ _ hsp
  obtain ⟨ds, S0, Q0, r, so, h, pst⟩ := hsp
  refine ⟨_, (body A outer s H E ⟨hr, hG, rfl, S.nd⟩).nox, ?_⟩
  refine ⟨DL.start N.length ds, S0, enOf Q0, r.start (by rw [hl]; exact hN), so, pure _ _ _ h, ⟨fun env' S' h σ' H' er' s' f => ?_, fun d S' h v H' rv s' f => ?_, fun _ _ h => h.elim, fun _ _ h => h.elim⟩⟩
  · obtain ⟨S1, sb, h⟩ := (show UpS (Q0 .non) S' from h).ex
    exact pst _ _ h _ _ .non (s'.sub sb) (f.sub sb)
  · obtain ⟨S1, sb, h⟩ := (show UpS (Q0 d) S' from h).ex
    exact pst _ _ h _ _ rv (s'.sub sb) (f.sub sb)
theorem cal_of {x qual : Str} {st : Stmt} {f : Addr} {fd : FuncData} {N ps : List Str} {k : Nat} {F : WF} {b : WS} (F0 : Fun K x qual st f fd) (hm : mg x = some (.ref f)) (hb : Binds K fd ps []) (S : FnScope N ps (defScope st)) (hN : ps.length ≤ N.length)
    (len : ∀ ds S Q, F ds S Q → ds.length = ps.length)
    (body : ∀ (cdv : Value) (A : Around) (outer : List Env) (s : Shared) (H : Hp) (E : XK), Cok (cxOf CX0 P w K mg base N qual (defScope st) f cdv A outer s H E).nox k → QSs (cxOf CX0 P w K mg base N qual (defScope st) f cdv A outer s H E).nox (defBody st) b)
    (pure : ∀ ds S Q, F ds S Q → b (enOf Q) (DL.start N.length ds) S) : Cal P w K mg base x (k + 1) ps F := by
  obtain ⟨oc, od, kV, doc, pm, an, cdv, ct, osl, rfl, lk, hcd⟩ := F0.ex
  exact ⟨f, _, fnd_of lk hcd S hN len (body cdv) pure, hm, F0.kp, hb⟩
end
section
variable {X : Cx} {a b e : Expr} {ta tb : WE} {p pos : Pos}
/-! ### list(range(..)), tuple(range(..)) -/
def lR (K : Kw) (t : WR) : L2.St → Hp → (Int → Int → Hp → Prop) → Prop := fun σ H Q => ∃ env S Q0, ER K H σ env ∧ SOk K H S ∧ t env S Q0 ∧ ∀ i j S', Q0 i j S' → ∀ H', SOk K H' S' → Fr S S' H H' → Q i j H'
theorem prg_imp {t u : L2.St → Hp → (Int → Int → Hp → Prop) → Prop} (h : PRg X e t) (i : ∀ σ H Q, u σ H Q → t σ H Q) : PRg X e u := fun pins s σ H Q I q => h pins s σ H Q I (i σ H Q q)
theorem q_rg1 (hg : Gl X "range") (hm : X.mg "range" = none) (ha : QE X a ta) (na : starEach [a] X.env = (false, eval a X.env) :: starEach [] X.env := by rfl) : PRg X (.Call (.Name "range" p) [a] [] pos) (lR X.kw (rRg1 ta)) :=
  prg_imp (prg_1 hg hm ha na) fun σ H Q ⟨env, S, Q0, er, so, q, ps⟩ => ⟨env, S, _, er, so, q, fun d S1 h1 v H1 rv s1 f1 => by
    split at h1
    · cases rv
      exact ⟨_, rfl, ps _ _ _ h1 _ s1 f1⟩
    · exact h1.elim⟩
theorem q_rg2 (hg : Gl X "range") (hm : X.mg "range" = none) (ha : QE X a ta) (hb : QE X b tb) (na : starEach [a, b] X.env = (false, eval a X.env) :: starEach [b] X.env := by rfl)
    (nb : starEach [b] X.env = (false, eval b X.env) :: starEach [] X.env := by rfl) (hp : (backTo pos (starEach [b] X.env)).any (·.1) = false := by rfl) : PRg X (.Call (.Name "range" p) [a, b] [] pos) (lR X.kw (rRg2 ta tb)) :=
  prg_imp (prg_2 hg hm ha hb na nb hp) fun σ H Q ⟨env, S, Q0, er, so, q, ps⟩ => ⟨env, S, _, er, so, q, fun d S1 h1 v H1 rv s1 f1 => ⟨env, S1, _, er.mono f1.tk, s1, h1, fun d2 S2 h2 v2 H2 rv2 s2 f2 => by
    split at h2
    · cases rv
      cases rv2
      exact ⟨_, _, rfl, rfl, ps _ _ _ h2 _ s2 (f1.trans f2)⟩
    · exact h2.elim⟩⟩
theorem rp_rng {K : Kw} {H : Hp} (lo : Int) : ∀ l : List Nat, RpAll K H (l.map fun i => V.int (lo + (i : Nat))) (l.map fun i : Nat => D.int (lo + (i : Int)))
  | [] => .nil
  | _ :: r => .cons (.int _) (rp_rng lo r)
theorem rgOk.ok {a b : Int} (h : rgOk a b) : RgOk a b := by
  obtain ⟨h1, h2, h3, h4, h5⟩ := h
  exact ⟨h1, h2, h3, h4, by omega⟩
theorem q_lstRg {t : WR} (hc : X.calm = true) (hg : Gl X "list") (hm : X.mg "list" = none) (he : PRg X e (lR X.kw t)) (na : starEach [e] X.env = (false, eval e X.env) :: starEach [] X.env := by rfl) : QE X (.Call (.Name "list" p) [e] [] pos) (eLstRg t) :=
  (pe_listRg hc hg hm he na).imp' fun σ H Q ⟨env, S, Q0, er, so, q, ps⟩ => ⟨env, S, _, er, so, q, fun i j S1 h1 H1 s1 f1 =>
    ⟨h1.1.ok, (ps.trans f1).made s1 (rp_rng _ _) (by
      have := h1.1.2.2.2.2
      have := rng_line
      have e : ∀ n : Nat, (rngD i n).length = n := fun n => by simp [rngD]
      exact (e _).symm ▸ (by omega)) h1.2⟩⟩
theorem q_tupRg {t : WR} (hc : X.calm = true) (hg : Gl X "tuple") (hm : X.mg "tuple" = none) (he : PRg X e (lR X.kw t)) (na : starEach [e] X.env = (false, eval e X.env) :: starEach [] X.env := by rfl) : QE X (.Call (.Name "tuple" p) [e] [] pos) (eTupRg t) :=
  (pe_tupRg hc hg hm he na).imp' fun σ H Q ⟨env, S, Q0, er, so, q, ps⟩ => ⟨env, S, _, er, so, q, fun i j S1 h1 H1 s1 f1 =>
    ⟨h1.1.ok, (ps.trans f1).tup s1 (rp_rng _ _) (by
      have := h1.1.2.2.2.2
      have := rng_line
      have e : ∀ n : Nat, (rngD i n).length = n := fun n => by simp [rngD]
      exact (e _).symm ▸ (by omega)) h1.2⟩⟩
end
end DL

namespace DL
open PySem PySem.Spec PyProof.Rows L2

/-- the built-in names that the text leaves alone -/
structure Blt (mg : Str → Option Value) : Prop where
  len : mg "len" = none
  int : mg "int" = none
  abs : mg "abs" = none
  min : mg "min" = none
  max : mg "max" = none
  sum : mg "sum" = none
  str : mg "str" = none
  repr : mg "repr" = none
  list : mg "list" = none
  tuple : mg "tuple" = none
  range : mg "range" = none
  bool : mg "bool" = none
  reversed : mg "reversed" = none
  enumerate : mg "enumerate" = none
  zip : mg "zip" = none
  sorted : mg "sorted" = none
  any : mg "any" = none
  all : mg "all" = none
  isinstance : mg "isinstance" = none

/-! ### promises by the number of arguments -/
def wf0 (f : Sto → WQ → Prop) : WF := fun ds S Q => match ds with
  | [] => f S Q
  | _ => False
def wf1 (f : D → Sto → WQ → Prop) : WF := fun ds S Q => match ds with
  | [a] => f a S Q
  | _ => False
def wf2 (f : D → D → Sto → WQ → Prop) : WF := fun ds S Q => match ds with
  | [a, b] => f a b S Q
  | _ => False
def wf3 (f : D → D → D → Sto → WQ → Prop) : WF := fun ds S Q => match ds with
  | [a, b, c] => f a b c S Q
  | _ => False
def wf4 (f : D → D → D → D → Sto → WQ → Prop) : WF := fun ds S Q => match ds with
  | [a, b, c, d] => f a b c d S Q
  | _ => False
def wf5 (f : D → D → D → D → D → Sto → WQ → Prop) : WF := fun ds S Q => match ds with
  | [a, b, c, d, e] => f a b c d e S Q
  | _ => False
def wf6 (f : D → D → D → D → D → D → Sto → WQ → Prop) : WF := fun ds S Q => match ds with
  | [a, b, c, d, e, g] => f a b c d e g S Q
  | _ => False
theorem len0 {f} : ∀ ds S Q, wf0 f ds S Q → ds.length = 0 := fun ds S Q h => by unfold wf0 at h; split at h; rfl; exact h.elim
theorem len1 {f} : ∀ ds S Q, wf1 f ds S Q → ds.length = 1 := fun ds S Q h => by unfold wf1 at h; split at h; rfl; exact h.elim
theorem len2 {f} : ∀ ds S Q, wf2 f ds S Q → ds.length = 2 := fun ds S Q h => by unfold wf2 at h; split at h; rfl; exact h.elim
theorem len3 {f} : ∀ ds S Q, wf3 f ds S Q → ds.length = 3 := fun ds S Q h => by unfold wf3 at h; split at h; rfl; exact h.elim
theorem len4 {f} : ∀ ds S Q, wf4 f ds S Q → ds.length = 4 := fun ds S Q h => by unfold wf4 at h; split at h; rfl; exact h.elim
theorem len5 {f} : ∀ ds S Q, wf5 f ds S Q → ds.length = 5 := fun ds S Q h => by unfold wf5 at h; split at h; rfl; exact h.elim
theorem len6 {f} : ∀ ds S Q, wf6 f ds S Q → ds.length = 6 := fun ds S Q h => by unfold wf6 at h; split at h; rfl; exact h.elim
theorem ok0 {f} {b : WS} {n : Nat} (h : ∀ S Q, f S Q → b (enOf Q) (DL.start n []) S) : ∀ ds S Q, wf0 f ds S Q → b (enOf Q) (DL.start n ds) S := fun ds S Q q => by unfold wf0 at q; split at q; exact h _ _ q; exact q.elim
theorem ok1 {f} {b : WS} {n : Nat} (h : ∀ a S Q, f a S Q → b (enOf Q) (DL.start n [a]) S) : ∀ ds S Q, wf1 f ds S Q → b (enOf Q) (DL.start n ds) S := fun ds S Q q => by unfold wf1 at q; split at q; exact h _ _ _ q; exact q.elim
theorem ok2 {f} {b : WS} {n : Nat} (h : ∀ a c S Q, f a c S Q → b (enOf Q) (DL.start n [a, c]) S) : ∀ ds S Q, wf2 f ds S Q → b (enOf Q) (DL.start n ds) S := fun ds S Q q => by unfold wf2 at q; split at q; exact h _ _ _ _ q; exact q.elim
theorem ok3 {f} {b : WS} {n : Nat} (h : ∀ a c d S Q, f a c d S Q → b (enOf Q) (DL.start n [a, c, d]) S) : ∀ ds S Q, wf3 f ds S Q → b (enOf Q) (DL.start n ds) S := fun ds S Q q => by unfold wf3 at q; split at q; exact h _ _ _ _ _ q; exact q.elim
theorem ok4 {f} {b : WS} {n : Nat} (h : ∀ a c d e S Q, f a c d e S Q → b (enOf Q) (DL.start n [a, c, d, e]) S) : ∀ ds S Q, wf4 f ds S Q → b (enOf Q) (DL.start n ds) S := fun ds S Q q => by unfold wf4 at q; split at q; exact h _ _ _ _ _ _ q; exact q.elim
theorem ok5 {f} {b : WS} {n : Nat} (h : ∀ a c d e g S Q, f a c d e g S Q → b (enOf Q) (DL.start n [a, c, d, e, g]) S) : ∀ ds S Q, wf5 f ds S Q → b (enOf Q) (DL.start n ds) S := fun ds S Q q => by unfold wf5 at q; split at q; exact h _ _ _ _ _ _ _ q; exact q.elim
theorem ok6 {f} {b : WS} {n : Nat} (h : ∀ a c d e g i S Q, f a c d e g i S Q → b (enOf Q) (DL.start n [a, c, d, e, g, i]) S) : ∀ ds S Q, wf6 f ds S Q → b (enOf Q) (DL.start n ds) S := fun ds S Q q => by unfold wf6 at q; split at q; exact h _ _ _ _ _ _ _ _ q; exact q.elim

/-! ### the law's draws -/
/-- _law_tape(script): a tape -/
@[irreducible] def F__law_tape : WF := wf1 fun d S Q => ∃ ns : List Int, d = .frz (dInt ns) ∧ ∀ p q, sget S p = none → sget S q = none → p ≠ q → Q (.ref p) ((p, .tape q) :: (q, .lst (dInt ns)) :: S)
/-- .. as its text makes it -/
def FC__law_tape : WF := wf1 fun d S Q => ∃ ns : List Int, d = .frz (dInt ns) ∧ ∀ p q (t : Int), sget S p = none → sget S q = none → p ≠ q → 0 ≤ t → t < 2 ^ 31 →
  Q (.ref p) ((p, .lst [.ref q, .int 0, .int 0, .int t]) :: (q, .lst (dInt ns)) :: S)
/-- _law_draw(tape, many): some number below many; the store as it was -/
@[irreducible] def F__law_draw : WF := wf2 fun d e S Q => ∃ p q many ns, d = .ref p ∧ e = .int many ∧ sget S p = some (.tape q) ∧ sget S q = some (.lst (dInt ns)) ∧ (many.natAbs < 2 ^ 250) ∧
  ∀ n : Int, 0 ≤ n → n < max many 1 → Q (.int n) S
def FC__law_draw : WF := wf2 fun d e S Q => ∃ p q many ns k b t, d = .ref p ∧ e = .int many ∧ sget S p = some (.lst [.ref q, .int k, .int b, .int t]) ∧ sget S q = some (.lst (dInt ns)) ∧ many.natAbs < 2 ^ 250 ∧
  p ≠ q ∧ 0 ≤ k ∧ 0 ≤ b ∧ 0 ≤ t ∧ t < 2 ^ 31 ∧
  ∀ n k' b' t' : Int, 0 ≤ n → n < max many 1 → 0 ≤ k' → 0 ≤ b' → 0 ≤ t' → t' < 2 ^ 31 → Q (.int n) (sset S p (.lst [.ref q, .int k', .int b', .int t']))
theorem four {K : Kw} {H : Hp} {vs : List V} {q : Addr} {k b t : Int} (r : RpAll K H vs [.ref q, .int k, .int b, .int t]) : vs = [.ref q, .int k, .int b, .int t] := by
  cases r with
  | cons r1 r =>
    cases r with
    | cons r2 r =>
      cases r with
      | cons r3 r =>
        cases r with
        | cons r4 r =>
          cases r1; cases r2; cases r3; cases r4; cases r
          rfl
theorem four_of {K : Kw} {H : Hp} (q : Addr) (k b t : Int) : RpAll K H [.ref q, .int k, .int b, .int t] [.ref q, .int k, .int b, .int t] := .cons (.ref q) (.cons (.int k) (.cons (.int b) (.cons (.int t) .nil)))
section
variable {P : Program} {w : World} {K : PySem.W.Frag} {mg : Str → Option Value} {base : Heap} {k : Nat} {ps : List Str}
theorem tape_abs (C : Cal P w K mg base "_law_tape" k ps FC__law_tape) : Cal P w K mg base "_law_tape" k ps F__law_tape := by
  obtain ⟨f, fd, G, rest⟩ := C.ex
  refine ⟨f, fd, G.imp fun vs H Q E h => ?_, rest⟩
  obtain ⟨ds, S, Q0, r, so, h, pst⟩ := h
  unfold F__law_tape wf1 at h
  split at h
  · obtain ⟨ns, rfl, h⟩ := h
    refine ⟨_, S, fun d S' => ∃ p q t, sget S p = none ∧ sget S q = none ∧ p ≠ q ∧ 0 ≤ t ∧ t < 2 ^ 31 ∧ d = .ref p ∧ S' = ((p, .lst [.ref q, .int 0, .int 0, .int t]) :: (q, .lst (dInt ns)) :: S), r, so, ⟨ns, rfl, fun p q t h1 h2 h3 h4 h5 => ⟨p, q, t, h1, h2, h3, h4, h5, rfl, rfl⟩⟩, ?_⟩
    rintro d S' ⟨p, q, t, h1, h2, h3, h4, h5, rfl, rfl⟩ v H' rv s' fr
    refine pst _ _ (h p q h1 h2 h3) v H' rv (fun a o e => ?_) ⟨fun a o e n => ?_, fr.tk⟩
    · by_cases ha : a = p
      · subst ha
        rw [sget_self] at e
        cases e
        obtain ⟨vs, e1, r1, _⟩ := s' a _ (sget_self _ _ _)
        rw [four r1] at e1
        exact ⟨0, 0, t, e1, by decide, by decide, h4, h5⟩
      · rw [sget_ne ha] at e
        exact s' a o (by rw [sget_ne ha]; exact e)
    · obtain ⟨e1, n1⟩ := fr.keep a o e n
      refine ⟨e1, ?_⟩
      by_cases ha : a = p
      · subst ha
        rw [sget_self] at n1
        cases n1
      · rw [sget_ne ha] at n1 ⊢
        exact n1
  · exact h.elim
theorem draw_abs (C : Cal P w K mg base "_law_draw" k ps FC__law_draw) : Cal P w K mg base "_law_draw" k ps F__law_draw := by
  obtain ⟨f, fd, G, rest⟩ := C.ex
  refine ⟨f, fd, G.imp fun vs H Q E h => ?_, rest⟩
  obtain ⟨ds, S, Q0, r, so, h, pst⟩ := h
  unfold F__law_draw wf2 at h
  split at h
  · obtain ⟨p, q, many, ns, rfl, rfl, hp, hq, hm, h⟩ := h
    obtain ⟨kk, b, t, e0, h0, h1, h2, h3⟩ := so p _ hp
    have npq : p ≠ q := fun z => by subst z; rw [hp] at hq; cases hq
    let o0 : LO := .lst [.ref q, .int kk, .int b, .int t]
    have s0 : SOk ⟨K, P, w⟩ H (sset S p o0) := fun a o e => by
      rw [sget_sset S p a _ (by rw [hp]; rfl)] at e
      by_cases ha : a = p
      · subst ha
        rw [if_pos rfl] at e
        cases e
        exact ⟨_, e0, four_of q kk b t, by show 4 ≤ sizeLine; decide⟩
      · rw [if_neg ha] at e
        exact so a o e
    have g0 : sget (sset S p o0) p = some o0 := by rw [sget_sset S p p _ (by rw [hp]; rfl), if_pos rfl]
    refine ⟨_, sset S p o0, fun d S' => ∃ n k' b' t' : Int, 0 ≤ n ∧ n < max many 1 ∧ 0 ≤ k' ∧ 0 ≤ b' ∧ 0 ≤ t' ∧ t' < 2 ^ 31 ∧ d = .int n ∧ S' = sset (sset S p o0) p (.lst [.ref q, .int k', .int b', .int t']), r, s0,
      ⟨p, q, many, ns, kk, b, t, rfl, rfl, g0, by rw [sget_sset S p q _ (by rw [hp]; rfl), if_neg (Ne.symm npq)]; exact hq, hm, npq, h0, h1, h2, h3, fun n k' b' t' a1 a2 a3 a4 a5 a6 => ⟨n, k', b', t', a1, a2, a3, a4, a5, a6, rfl, rfl⟩⟩, ?_⟩
    rintro d S' ⟨n, k', b', t', a1, a2, a3, a4, a5, a6, rfl, rfl⟩ v H' rv s' fr
    refine pst _ _ (h n a1 a2) v H' rv (fun a o e => ?_) ⟨fun a o e m => ?_, fr.tk⟩
    · by_cases ha : a = p
      · subst ha
        rw [hp] at e
        cases e
        obtain ⟨vs, e1, r1, _⟩ := s' a _ (by rw [sget_sset _ _ _ _ (by rw [g0]; rfl), if_pos rfl])
        rw [four r1] at e1
        exact ⟨k', b', t', e1, a3, a4, a5, a6⟩
      · exact s' a o (by rw [sget_sset _ _ _ _ (by rw [g0]; rfl), if_neg ha, sget_sset S p a _ (by rw [hp]; rfl), if_neg ha]; exact e)
    · have na : a ≠ p := fun z => by subst z; rw [hp] at m; cases m
      obtain ⟨e1, n1⟩ := fr.keep a o e (by rw [sget_sset S p a _ (by rw [hp]; rfl), if_neg na]; exact m)
      exact ⟨e1, m⟩
  · exact h.elim
end

/-! ### the law's end -/
/-- the law's promise: it gives True, at every list -/
def F_law : WF := wf1 fun d S Q => (∃ ns : List Int, d = .frz (dInt ns) ∧ S = []) ∧ ∀ S', Q (.bl true) S'
section
variable {P : Program} {w : World} {K : PySem.W.Frag} {mg mb : Str → Option Value}
theorem law_callG {k : Nat} {fa a : Addr} {fd : FuncData} {x : Str} {sp : Sp} {s₁ : Shared} {vs : List Value} {ns : List Int}
    (KX : K.In s₁.heap) (hns : s₁.heap.Ns mainGlobals mg) (hb : s₁.heap.Ns builtinsNs mb) (hbb : ∀ x : Str, x ≠ "__name__" → mb x = bootBuiltins x) (hlim : s₁.heap.NoLimit) (hg : s₁.gens = #[])
    (ha : s₁.heap.get? a = some { cls := .type "list", data := .seq vs.toArray }) (hi : IntsAre vs ns) (hl : ns.length ≤ sizeLine) (hr : Room k callerA)
    (F : ∀ base : Heap, K.In base → base.Ns mainGlobals mg → FnG P w K mg base k fa fd [x] sp) (hbind : ∀ (s : Shared) (u : Value), BindsTo s fd ⟨[u], []⟩ [(x, u)])
    (hsp : ∀ H : Hp, FxL ⟨K, P, w⟩ H a (ns.map V.int) → sp [.ref a] H (fun v _ => v = .bl true) E0) :
    codeAny (model P w) callerA (.call (.ref fa) ⟨[.ref a], []⟩) (fun r s' => r = .ok (.ret (.bool true)) ∧ OldK s₁.heap s'.heap ∧ s'.os = s₁.os ∧ AllBare s'.gens) s₁ := by
  have rv := vals_ints hi
  have lenV := hi.length
  have core : ∀ H : Hp, Only H → FxL ⟨K, P, w⟩ H a (ns.map V.int) → HOk P w H s₁.heap → (∀ b, H b ≠ none → b = a) → (H a ≠ none → K.lookup a = none) →
      codeAny (model P w) callerA (.call (.ref fa) ⟨[.ref a], []⟩) (fun r s' => r = .ok (.ret (.bool true)) ∧ OldK s₁.heap s'.heap ∧ s'.os = s₁.os ∧ AllBare s'.gens) s₁ := by
    intro H hO hS hok hA hK
    have base_of : ∀ {b : Addr} {o : Obj}, s₁.heap.get? b = some o → H b = none → (hidT s₁.heap H).get? b = some o := fun e n => hidT_get e n
    have noA : ∀ {b : Addr} {o : Obj} {es : Array DictEntry} {ep : Nat}, s₁.heap.get? b = some o → o.data = .dict es ep → H b = none := fun {b o es ep} e d => by
      cases q : H b with
      | none => rfl
      | some u =>
        have e' : b = a := hA b (by rw [q]; simp)
        subst e'
        rw [ha] at e; cases e
        have d' : Data.seq vs.toArray _ = Data.dict es ep := d
        cases d'
    have nsK : ∀ {b : Addr} {m : Str → Option Value}, s₁.heap.Ns b m → (hidT s₁.heap H).Ns b m := fun {b m} ⟨o, es, ep, e, d, r⟩ => ⟨o, es, ep, base_of e (noA e d), d, r⟩
    have hKb : K.In (hidT s₁.heap H) := fun b o e => base_of (KX b o e) (by
      cases q : H b with
      | none => rfl
      | some u =>
        have e' : b = a := hA b (by rw [q]; simp)
        subst e'
        rw [hK (by rw [q]; simp)] at e; cases e)
    have hM : Mod K mg (hidT s₁.heap H) := ⟨hKb, nsK hns, ⟨mb, nsK hb, hbb⟩, let ⟨mc, h1, h2⟩ := hlim; ⟨mc, nsK h1, h2⟩⟩
    have e0 : Env0 P w K mg (hidT s₁.heap H) callerA [] s₁ H := ⟨rfl, hM, fun b o e => of_hidT e, Nat.le_of_eq (hidT_size _ _), trivial, fun b hb => absurd (show b ∈ ([] : List Addr) from hb) (by simp), hok, .of_eq hg⟩
    refine codeAny_mono ((F _ hKb (nsK hns)).run callerA [] s₁ H ⟨[.ref a], []⟩ [.ref a] [.ref a] _ _ hr rfl e0 (hbind s₁ (.ref a)) (.cons rfl .nil) (hsp H hS)) fun r s' h => ?_
    cases r with
    | error e => exact h.elim
    | ok fl =>
      cases fl with
      | next => exact False.elim h
      | brk => exact False.elim h
      | cont => exact False.elim h
      | ret u =>
        obtain ⟨v, H', os, bare, un, hok', r', q⟩ := h
        have q' : v = .bl true := q
        subst q'
        obtain rfl : u = Value.bool true := r'
        refine ⟨rfl, OldK.of_keep fun b o e => ?_, os, bare⟩
        cases q : H b with
        | none => exact un.keep b o e q (by intro z; exact absurd (show b ∈ ([] : List Addr) from z) (by simp)) (by simp)
        | some u =>
          rcases hO b with z | ⟨ob, xs, z⟩
          · rw [q] at z; cases z
          · have z2 := un.frzs b ob _ z
            obtain ⟨e1, _⟩ := hok b _ z
            obtain ⟨e2, _⟩ := hok' b _ z2
            rw [e] at e1; cases e1
            exact e2
  cases hk : K.lookup a with
  | some o =>
    have e := KX a o hk
    rw [ha] at e
    cases e
    refine core (fun _ => none) (fun _ => .inl rfl) (.inr ⟨_, vs.toArray, _, hk, rfl, rfl, rfl, by rw [List.size_toArray, lenV]; exact hl, by simpa using rv⟩) (fun b u z => by have z' : (none : Option HO) = some u := z; cases z') (fun b z => absurd rfl z) fun z => absurd rfl z
  | none =>
    refine core (fun b => if b = a then some (.frz { cls := .type "list", data := .seq vs.toArray } (.lst (ns.map V.int))) else none) (fun b => ?_) (.inl ⟨{ cls := .type "list", data := .seq vs.toArray }, if_pos rfl⟩) (fun b u z => ?_) (fun b z => ?_) fun _ => hk
    · by_cases hb : b = a
      · exact .inr ⟨_, _, if_pos hb⟩
      · exact .inl (if_neg hb)
    · by_cases hb : b = a
      · have z' := (if_pos hb).symm.trans z
        cases z'
        subst hb
        exact ⟨ha, by rw [List.length_map]; exact hl, vs, _, rv, ha⟩
      · have z' := (if_neg hb).symm.trans z
        cases z'
    · by_cases hb : b = a
      · exact hb
      · exact absurd (if_neg hb) z
end
theorem walk_ofG {l : PySem.W.OpenLaw} {k : Nat} {q : Program} {loose : List Str} {XP : (Str → Option Value) → Heap → Prop} {YP : World → Heap → Prop} {d : DefRec} {K : Params → PySem.W.Frag} {x : Str}
    (hn : l.most = some 63) (hdf : d.params.defaults = []) (hr : Room k callerA)
    (hY : ∀ (w : World) (h : Heap), YP w h → (K w.params).In h)
    (F : ∀ (w : World) (mg : Str → Option Value) (fa : Addr) (h : Heap), (K w.params).In h → h.Ns mainGlobals mg → mg d.name = some (.ref fa) →
      ∃ fd : FuncData, (∀ (s : Shared) (u : Value), BindsTo s fd ⟨[u], []⟩ [(x, u)]) ∧
        ∀ base : Heap, (K w.params).In base → base.Ns mainGlobals mg → FnG l.prog w (K w.params) mg base k fa fd [x] (lF ⟨K w.params, l.prog, w⟩ F_law)) :
    PySem.W.WalkO q loose XP YP l.row.toRowW d [] (fun f vs => PySem.call f vs) := by
  refine Att.attach_call hn hdf fun w s₀ s₁ mg mb fa o pm cd doc a vs ns G Y ho hd hcd hmg hobj hints hlen hg => ?_
  have KX := hY w _ Y
  obtain ⟨fd, hb, hF⟩ := F w mg fa _ KX G.T.g hmg
  have hz : ns.length ≤ sizeLine := Nat.le_trans hlen (by decide)
  refine law_callG KX G.T.g G.T.b G.T.builtins G.T.nolimit hg hobj hints hz hr hF hb fun H hS => ?_
  refine ⟨[.frz (dInt ns)], [], fun d _ => d = .bl true, .cons (.frz hS (RpAll.ofInts ns) (by simpa [dInt] using hz)) .nil, (fun a o e => nomatch (show (none : Option LO) = some o from e)), ⟨⟨ns, rfl, rfl⟩, fun _ => rfl⟩, fun d S' e v H' r _ _ => ?_⟩
  subst e
  cases r
  rfl
/-- the room that the law's caller leaves -/
theorem room_law (k : Nat) (h : k ≤ 60) : Room k callerA := by
  refine Room.mono (k := 60) ⟨rfl, by decide, by decide⟩ h
section
variable {X : Cx} {es : List Expr} {b : Expr} {t : WA} {pos p1 : Pos}
theorem q_pick {i : Nat} {m : Int} (ha : QA X es t) (hb : QE X b (eCall F__law_draw (aCons (eVar i) (aCons (eC (.int m)) aNil)))) (hs : PlainIx b := by exact fun _ _ => rfl) : QE X (.Subscript (.List es p1) b pos) (ePick i m t) :=
  (pe_ix ix_seq (q_lst ha) hb hs).imp' fun σ H Q ⟨env, S, Q0, er, so, q, ps⟩ => by
  refine ⟨env, S, _, er, so, q.run, fun x S' h1 v H1 rv s1 f1 => ?_⟩
  unfold pickK at h1
  split at h1
  · obtain ⟨p, qq, ns, xs, hv, hp, hq, hl, h0, hm, hm2, hk⟩ := h1
    refine ⟨env, S', fun y S2 => ∃ n : Int, y = D.int n ∧ 0 ≤ n ∧ n < max m 1 ∧ S2 = S', er.mono f1.tk, s1, ?_, ?_⟩
    · show eVar i env S' _
      unfold eVar
      rw [hv]
      show F__law_draw [.ref p, .int m] S' _
      unfold F__law_draw
      exact ⟨p, qq, m, ns, rfl, rfl, hp, hq, by omega, fun n a1 a2 => ⟨n, rfl, a1, a2, rfl⟩⟩
    · rintro y S2 ⟨n, rfl, n0, n1, rfl⟩ u H2 ru s2 f2
      have hn : n.toNat < xs.length := by omega
      have hd := hk _ (List.getElem_mem hn)
      refine opr_ix (.ref _) (.int n) S2 (fun d S' => UpS (Q0 d) S') v u H2 Q ?_ (rv.mono f2.tk) ru s2 ?_
      · show onL S2 _ _
        refine onL_in hl (onAt_in (d := xs[n.toNat]) ?_ hd)
        unfold atD
        rw [if_pos n0, List.getElem?_eq_getElem hn]
      · intro d S3 h3 v3 H3 r3 s3 f3
        obtain ⟨S0, sb, h3⟩ := (show UpS (Q0 d) S3 from h3).ex
        exact ps d S0 h3 v3 H3 r3 (s3.sub sb) (((f1.trans f2).trans f3).sub sb)
  · exact h1.elim
end
end DL

/-! DM: loops and comprehensions over data, the forms one uses. -/
namespace DL
open PySem
section
variable {it : WI} {g : WG} {c : WT} {elt : WE} {vs : List Nat} {env : EV} {S : Sto} {Q : WQ} {α : Type}
theorem fresh_cons {p a : Addr} {o : LO} {S : Sto} (h : sget ((a, o) :: S) p = none) : p ≠ a ∧ a ≠ p ∧ sget S p = none := by
  have n : p ≠ a := fun z => by subst z; rw [sget_self] at h; cases h
  exact ⟨n, n.symm, by rw [sget_ne n] at h; exact h⟩
theorem fr_cons {p a : Addr} {o : LO} {S : Sto} : sget ((a, o) :: S) p = none ↔ (p ≠ a ∧ a ≠ p) ∧ sget S p = none :=
  ⟨fun h => ⟨⟨(fresh_cons h).1, (fresh_cons h).2.1⟩, (fresh_cons h).2.2⟩, fun h => by rw [sget_ne h.1.1]; exact h.2⟩
theorem Sub.cons {S0 S1 : Sto} {p : Addr} {o : LO} (h : Sub S0 S1) : Sub ((p, o) :: S0) ((p, o) :: S1) := fun a u e => by
  by_cases z : a = p
  · subst z
    rw [sget_self] at e ⊢
    exact e
  · rw [sget_ne z] at e ⊢
    exact h a u e
/-- the ints of a display lie between two bounds -/
theorem mem_rng (lo hi : Int) {xs : List D} (h : (xs.all fun d => match d with | .int n => decide (lo ≤ n ∧ n ≤ hi) | _ => false) = true) {d : D} (hd : d ∈ xs) : ∃ n : Int, d = .int n ∧ lo ≤ n ∧ n ≤ hi := by
  have := List.all_eq_true.mp h d hd
  split at this
  · exact ⟨_, rfl, of_decide_eq_true this⟩
  · cases this
theorem draw_in {p q : Addr} {m : Int} {ns : List Int} {S : Sto} {Q : WQ} (h1 : sget S p = some (.tape q)) (h2 : sget S q = some (.lst (dInt ns))) (hm : m.natAbs < 2 ^ 250) (h : ∀ n : Int, 0 ≤ n → n < max m 1 → Q (.int n) S) : F__law_draw [.ref p, .int m] S Q := by
  unfold F__law_draw
  exact ⟨p, q, m, ns, rfl, rfl, h1, h2, hm, h⟩
theorem tape_in {ns : List Int} {S : Sto} {Q : WQ} (h : ∀ p q, sget S p = none → sget S q = none → p ≠ q → q ≠ p → Q (.ref p) ((p, .tape q) :: (q, .lst (dInt ns)) :: S)) : F__law_tape [.frz (dInt ns)] S Q := by
  unfold F__law_tape
  exact ⟨ns, rfl, fun p q h1 h2 h3 => h p q h1 h2 h3 h3.symm⟩
theorem onAt_all {α : Type} {xs : List α} {i : Int} {k : α → Prop} (h0 : 0 ≤ i) (h1 : i < (xs.length : Nat)) (h : ∀ d ∈ xs, k d) : onAt xs i k := by
  have hk : i.toNat < xs.length := by omega
  refine onAt_in (d := xs[i.toNat]) ?_ (h _ (List.getElem_mem hk))
  unfold atD
  rw [if_pos h0, List.getElem?_eq_getElem hk]
theorem onAt_map {α β : Type} {xs : List α} {f : α → β} {i : Int} {k : β → Prop} (h0 : 0 ≤ i) (h1 : i < (xs.length : Nat)) (h : ∀ d ∈ xs, k (f d)) : onAt (xs.map f) i k := by
  refine onAt_all h0 (by simpa using h1) fun d hd => ?_
  obtain ⟨y, hy, rfl⟩ := List.mem_map.mp hd
  exact h y hy
theorem sset_sset : ∀ (S : Sto) (p : Addr) (x y : LO), sset (sset S p x) p y = sset S p y
  | [], _, _, _ => rfl
  | (c, o) :: r, p, x, y => by
    by_cases e : p = c
    · subst e
      rw [sset_self, sset_self, sset_self]
    · rw [sset_ne e, sset_ne e, sset_ne e, sset_sset r p x y]
theorem log2_of {n k : Nat} (h : n < 2 ^ k) (hk : 0 < k) : n.log2 < k := PySem.Flt.log2_lt_of hk h
theorem at_dInt {ns : List Int} {k : Int} (h0 : 0 ≤ k) (h : k < ((dInt ns).length : Nat)) : ∃ n, atD (dInt ns) k = some (.int n) := by
  have hk : k.toNat < ns.length := by simp [dInt] at h; omega
  refine ⟨ns[k.toNat], ?_⟩
  unfold atD
  rw [if_pos h0]
  show (ns.map D.int)[k.toNat]? = _
  rw [List.getElem?_map, List.getElem?_eq_getElem hk]
  rfl
/-- what the walk needs of an iterator that is known: it yields xs, as long as chk holds -/
abbrev Yields (it : WI) (env : EV) (S : Sto) (xs : List D) (chk : Sto → Prop) : Prop := ∀ R : It → Sto → Prop, (xs.length ≤ sizeLine → R ⟨xs, chk⟩ S) → it env S R
theorem yl_tup {t : WE} {xs : List D} (h : ∀ Q : WQ, Q (.tup xs) S → t env S Q) : Yields (iSeq t) env S xs (fun _ => True) := fun R hr => h _ (by show dWalk (.tup xs) S R; exact hr)
theorem yl_frz {t : WE} {xs : List D} (h : ∀ Q : WQ, Q (.frz xs) S → t env S Q) : Yields (iSeq t) env S xs (fun _ => True) := fun R hr => h _ (by show dWalk (.frz xs) S R; exact hr)
theorem yl_ref {t : WE} {xs : List D} {a : Addr} (h : ∀ Q : WQ, Q (.ref a) S → t env S Q) (e : sget S a = some (.lst xs)) : Yields (iSeq t) env S xs (fun S => sget S a = some (.lst xs)) := fun R hr => h _ (by
  exact onL_in e hr)
theorem len_rng {lo : Int} {n : Nat} : (rngD lo n).length = n := by simp [rngD]
theorem yl_rng {t : WA} {j : Int} (h : ∀ Q : List D → Sto → Prop, Q [.int j] S → t env S Q) (h0 : -1000000 ≤ j) (h1 : j ≤ 1000000) : Yields (iRng t) env S (rngD 0 j.toNat) (fun _ => True) := fun R hr => h _ (by
  refine ⟨⟨h0, h1⟩, hr ?_⟩
  rw [len_rng]
  have : (1000000 : Nat) ≤ sizeLine := by decide
  omega)
theorem yl_rng2 {t : WA} {i j : Int} (h : ∀ Q : List D → Sto → Prop, Q [.int i, .int j] S → t env S Q) (h0 : -(2 ^ 62) ≤ i ∧ i < 2 ^ 62 ∧ -(2 ^ 62) ≤ j ∧ j < 2 ^ 62 ∧ j - i ≤ 1000000) : Yields (iRng2 t) env S (rngD i (j - i).toNat) (fun _ => True) := fun R hr => h _ (by
  refine ⟨h0, hr ?_⟩
  rw [len_rng]
  have : (1000000 : Nat) ≤ sizeLine := by decide
  omega)
theorem take_snoc {xs : List α} {i : Nat} {x : α} (h : xs[i]? = some x) : xs.take (i + 1) = xs.take i ++ [x] := by
  rw [List.take_add_one, h]
  rfl
theorem mem_at {xs : List α} {i : Nat} {x : α} (h : xs[i]? = some x) : x ∈ xs := List.mem_of_getElem? h
theorem split_at {xs : List α} {i : Nat} {x : α} (h : xs[i]? = some x) : xs = xs.take i ++ x :: xs.drop (i + 1) := by
  have hi := (List.getElem?_eq_some_iff.mp h)
  obtain ⟨hi, rfl⟩ := hi
  rw [← List.drop_eq_getElem_cons hi, List.take_append_drop]
theorem cut_to {xs : List α} {e : Int} (h0 : 0 ≤ e) (h1 : e.toNat ≤ xs.length) : cut xs none (some e) = xs.take e.toNat := by
  unfold cut cutAt HT.sIx
  have h2 : ¬ e < 0 := by omega
  simp only [h2, if_false, Nat.min_eq_left h1, List.drop_zero, Nat.sub_zero]
theorem cut_from {xs : List α} {e : Int} (h0 : 0 ≤ e) (h1 : e.toNat ≤ xs.length) : cut xs (some e) none = xs.drop e.toNat := by
  unfold cut cutAt HT.sIx
  have h2 : ¬ e < 0 := by omega
  simp only [h2, if_false, Nat.min_eq_left h1]
  rw [← List.length_drop, List.take_length]
/-- [elt for x in xs], elt a function of x that leaves the store -/
theorem comp_map {i : Nat} {chk : Sto → Prop} (xs : List α) (enc out : α → D) (hy : Yields it env S (xs.map enc) chk) (hc : chk S)
    (he : ∀ x ∈ xs, ∀ Q' : WQ, Q' (out x) S → elt ((wipe env vs).set i (some (enc x))) S Q')
    (q : ∀ p, sget S p = none → Q (.ref p) ((p, .lst (xs.map out)) :: S)) : eComp it (gName i) tYes elt vs env S Q := by
  unfold eComp
  refine hy _ fun _ => ⟨fun k acc S' => S' = S ∧ acc = (xs.take k).map out, ⟨rfl, rfl⟩, ?_, ?_⟩
  · rintro k x acc S' hx ⟨rfl, rfl⟩
    refine ⟨hc, ?_⟩
    rw [List.getElem?_map] at hx
    obtain ⟨y, hy, rfl⟩ := Option.map_eq_some_iff.mp hx
    show elt ((wipe env vs).set i (some (enc y))) S' _
    exact he y (mem_at hy) _ (.here ⟨rfl, by rw [take_snoc hy, List.map_append]; rfl⟩)
  · rintro acc S' ⟨rfl, rfl⟩
    refine ⟨hc, ?_⟩
    rw [List.length_map, List.take_length]
    exact q
/-- [elt for x in xs if keep]: what the loop asks -/
theorem comp_w {i : Nat} {chk : Sto → Prop} {Fin : List D → Sto → Prop} (xs : List α) (enc out : α → D) (keep : α → Bool) (hc : chk S)
    (hk : ∀ x ∈ xs, ∀ Q' : Bool → Sto → Prop, Q' (keep x) S → c ((wipe env vs).set i (some (enc x))) S Q')
    (he : ∀ x ∈ xs, keep x = true → ∀ Q' : WQ, Q' (out x) S → elt ((wipe env vs).set i (some (enc x))) S Q')
    (q : Fin ((xs.filter keep).map out) S) :
    ∃ W : Nat → List D → Sto → Prop, W 0 [] S ∧
    (∀ k x acc S, (xs.map enc)[k]? = some x → W k acc S → chk S ∧ gName i x (wipe env vs) S fun env2 S2 => c env2 S2 fun b S3 =>
      ifB b (elt env2 S3 fun y S4 => UpS (W (k + 1) (acc ++ [y])) S4) (UpS (W (k + 1) acc) S3)) ∧
    ∀ acc S, W (xs.map enc).length acc S → chk S ∧ Fin acc S := by
  refine ⟨fun k acc S' => S' = S ∧ acc = ((xs.take k).filter keep).map out, ⟨rfl, rfl⟩, ?_, ?_⟩
  · rintro k x acc S' hx ⟨rfl, rfl⟩
    refine ⟨hc, ?_⟩
    rw [List.getElem?_map] at hx
    obtain ⟨y, hy, rfl⟩ := Option.map_eq_some_iff.mp hx
    show c ((wipe env vs).set i (some (enc y))) S' _
    refine hk y (mem_at hy) _ ?_
    cases hb : keep y with
    | true =>
      show elt _ _ _
      exact he y (mem_at hy) hb _ (.here ⟨rfl, by rw [take_snoc hy, List.filter_append, List.map_append]; simp [hb]⟩)
    | false =>
      exact (.here ⟨rfl, by rw [take_snoc hy, List.filter_append, List.map_append]; simp [hb]⟩)
  · rintro acc S' ⟨rfl, rfl⟩
    refine ⟨hc, ?_⟩
    rw [List.length_map, List.take_length]
    exact q
theorem comp_filter {i : Nat} {chk : Sto → Prop} (xs : List α) (enc out : α → D) (keep : α → Bool) (hy : Yields it env S (xs.map enc) chk) (hc : chk S)
    (hk : ∀ x ∈ xs, ∀ Q' : Bool → Sto → Prop, Q' (keep x) S → c ((wipe env vs).set i (some (enc x))) S Q')
    (he : ∀ x ∈ xs, keep x = true → ∀ Q' : WQ, Q' (out x) S → elt ((wipe env vs).set i (some (enc x))) S Q')
    (q : ∀ p, sget S p = none → Q (.ref p) ((p, .lst ((xs.filter keep).map out)) :: S)) : eComp it (gName i) c elt vs env S Q := by
  unfold eComp
  exact hy _ fun _ => comp_w xs enc out keep hc hk he q
theorem join_in {t : WS} {D0 : En} (P : EV → Sto → Prop) (h1 : t { D0 with nx := fun env S => UpS (P env) S } env S) (h2 : ∀ env S, P env S → D0.nx env S) : sJoin t D0 env S := by
  unfold sJoin
  exact ⟨P, h1, h2⟩
/-- slot i gets a datum of which I holds, the store is what it was -/
theorem join_set {t : WS} {D0 : En} (i : Nat) (I : D → Prop) (h1 : t { D0 with nx := fun env' S' => UpS (fun S' => (∃ d, I d ∧ env' = env.set i (some d)) ∧ S' = S) S' } env S) (h2 : ∀ d, I d → D0.nx (env.set i (some d)) S) : sJoin t D0 env S :=
  join_in (fun env' S' => (∃ d, I d ∧ env' = env.set i (some d)) ∧ S' = S) h1 fun env' S' ⟨⟨d, hd, e⟩, e2⟩ => by
    subst e e2
    exact h2 d hd
theorem for_in {b : WS} {D0 : En} (h : it env S fun J S0 => ∃ W : Nat → EV → Sto → Prop, W 0 env S0 ∧
    (∀ i x env S, J.xs[i]? = some x → W i env S → J.chk S ∧ g x env S fun env2 S2 => b { nx := fun env S => UpS (W (i + 1) env) S, rt := D0.rt, bk := D0.nx, ct := fun env S => UpS (W (i + 1) env) S } env2 S2) ∧
    ∀ env S, W J.xs.length env S → J.chk S ∧ D0.nx env S) : sFor it g b D0 env S := by
  unfold sFor
  exact h
theorem comp_in (h : it env S fun J S0 => ∃ W : Nat → List D → Sto → Prop, W 0 [] S0 ∧
    (∀ i x acc S, J.xs[i]? = some x → W i acc S → J.chk S ∧ g x (wipe env vs) S fun env2 S2 => c env2 S2 fun b S3 =>
      ifB b (elt env2 S3 fun y S4 => UpS (W (i + 1) (acc ++ [y])) S4) (UpS (W (i + 1) acc) S3)) ∧
    ∀ acc S, W J.xs.length acc S → J.chk S ∧ ∀ p, sget S p = none → Q (.ref p) ((p, .lst acc) :: S)) : eComp it g c elt vs env S Q := by
  unfold eComp
  exact h
theorem while_in {c : WT} {b : WS} {D0 : En} (W : Nat → EV → Sto → Prop) (m : Nat) (h0 : W m env S) (h : ∀ m env S, W m env S →
    c env S fun k S1 => ifB k (b { nx := fun env' S' => UpS (fun S' => ∃ m', m' < m ∧ W m' env' S') S', rt := D0.rt, bk := D0.nx, ct := fun env' S' => UpS (fun S' => ∃ m', m' < m ∧ W m' env' S') S' } env S1) (D0.nx env S1)) : sWhile c b D0 env S := by
  unfold sWhile
  exact ⟨W, ⟨m, h0⟩, h⟩
/-- for x in xs, by what holds of the items taken: the form that stands behind the walk's evaluation -/
theorem for_w {b : WS} {rt : WQ} {nx : EV → Sto → Prop} {chk : Sto → Prop} (xs : List α) (enc : α → D) (I : List α → EV → Sto → Prop) (h0 : I [] env S)
    (hs : ∀ pre x post env S, xs = pre ++ x :: post → I pre env S → chk S ∧ g (enc x) env S fun env2 S2 => b { nx := fun env S => UpS (I (pre ++ [x]) env) S, rt := rt, bk := nx, ct := fun env S => UpS (I (pre ++ [x]) env) S } env2 S2)
    (hd : ∀ env S, I xs env S → chk S ∧ nx env S) :
    ∃ W : Nat → EV → Sto → Prop, W 0 env S ∧ (∀ i x env S, (xs.map enc)[i]? = some x → W i env S → chk S ∧ g x env S fun env2 S2 => b { nx := fun env S => UpS (W (i + 1) env) S, rt := rt, bk := nx, ct := fun env S => UpS (W (i + 1) env) S } env2 S2) ∧
      ∀ env S, W (xs.map enc).length env S → chk S ∧ nx env S := by
  refine ⟨fun k env S => I (xs.take k) env S, h0, ?_, ?_⟩
  · intro k x env S hx hi
    rw [List.getElem?_map] at hx
    obtain ⟨y, hy, rfl⟩ := Option.map_eq_some_iff.mp hx
    have := hs (xs.take k) y _ env S (split_at hy) hi
    rw [← take_snoc hy] at this
    exact this
  · intro env S hi
    rw [List.length_map, List.take_length] at hi
    exact hd env S hi
/-- for x in xs, by what holds with the items to come -/
theorem for_suf {b : WS} {rt : WQ} {nx : EV → Sto → Prop} {chk : Sto → Prop} (xs : List α) (enc : α → D) (I : List α → EV → Sto → Prop) (h0 : I xs env S)
    (hs : ∀ x rest env S, I (x :: rest) env S → chk S ∧ g (enc x) env S fun env2 S2 => b { nx := fun env S => UpS (I rest env) S, rt := rt, bk := nx, ct := fun env S => UpS (I rest env) S } env2 S2)
    (hd : ∀ env S, I [] env S → chk S ∧ nx env S) :
    ∃ W : Nat → EV → Sto → Prop, W 0 env S ∧ (∀ i x env S, (xs.map enc)[i]? = some x → W i env S → chk S ∧ g x env S fun env2 S2 => b { nx := fun env S => UpS (W (i + 1) env) S, rt := rt, bk := nx, ct := fun env S => UpS (W (i + 1) env) S } env2 S2) ∧
      ∀ env S, W (xs.map enc).length env S → chk S ∧ nx env S := by
  refine ⟨fun k env S => I (xs.drop k) env S, h0, ?_, ?_⟩
  · intro k x env S hx hi
    rw [List.getElem?_map] at hx
    obtain ⟨y, hy, rfl⟩ := Option.map_eq_some_iff.mp hx
    obtain ⟨hk, rfl⟩ := List.getElem?_eq_some_iff.mp hy
    rw [List.drop_eq_getElem_cons hk] at hi
    exact hs _ _ env S hi
  · intro env S hi
    rw [List.length_map, List.drop_length] at hi
    exact hd env S hi
/-- for x in xs, by what holds of the items taken -/
theorem for_pre {b : WS} {D0 : En} {chk : Sto → Prop} (xs : List α) (enc : α → D) (I : List α → EV → Sto → Prop) (hy : Yields it env S (xs.map enc) chk) (h0 : I [] env S)
    (hs : ∀ pre x post env S, xs = pre ++ x :: post → I pre env S → chk S ∧ g (enc x) env S fun env2 S2 => b { nx := fun env S => UpS (I (pre ++ [x]) env) S, rt := D0.rt, bk := D0.nx, ct := fun env S => UpS (I (pre ++ [x]) env) S } env2 S2)
    (hd : ∀ env S, I xs env S → chk S ∧ D0.nx env S) : sFor it g b D0 env S := by
  unfold sFor
  exact hy _ fun _ => for_w xs enc I h0 hs hd
/-- for k in range(lo, lo + n) -/
theorem rng_w {b : WS} {rt : WQ} {nx : EV → Sto → Prop} {lo : Int} {n : Nat} (I : Nat → EV → Sto → Prop) (h0 : I 0 env S)
    (hs : ∀ (k : Nat) env S, k < n → I k env S → g (.int (lo + k)) env S fun env2 S2 => b { nx := fun env S => UpS (I (k + 1) env) S, rt := rt, bk := nx, ct := fun env S => UpS (I (k + 1) env) S } env2 S2)
    (hd : ∀ env S, I n env S → nx env S) :
    ∃ W : Nat → EV → Sto → Prop, W 0 env S ∧ (∀ i x env S, (rngD lo n)[i]? = some x → W i env S → True ∧ g x env S fun env2 S2 => b { nx := fun env S => UpS (W (i + 1) env) S, rt := rt, bk := nx, ct := fun env S => UpS (W (i + 1) env) S } env2 S2) ∧
      ∀ env S, W (rngD lo n).length env S → True ∧ nx env S := by
  refine ⟨I, h0, ?_, ?_⟩
  · intro k x env S hx hi
    unfold rngD at hx
    rw [List.getElem?_map] at hx
    obtain ⟨y, hy, rfl⟩ := Option.map_eq_some_iff.mp hx
    obtain ⟨hk, e⟩ := (List.getElem?_eq_some_iff.mp hy)
    rw [List.getElem_range] at e
    subst e
    rw [List.length_range] at hk
    exact ⟨trivial, hs _ env S hk hi⟩
  · intro env S hi
    rw [len_rng] at hi
    exact ⟨trivial, hd env S hi⟩
end
end DL

/-! DN: slices with a step. -/
namespace DL
open PySem PySem.Spec PyProof.Rows L2
/-- how many places a slice with a step has -/
def stepN (i j c : Nat) : Nat := if i < j then (j - i - 1) / c + 1 else 0
def cutS {α : Type} (xs : List α) (lo hi : Option Int) (c : Nat) : List α := (List.range (stepN (cutAt xs.length 0 lo) (cutAt xs.length xs.length hi) c)).filterMap fun m => xs[cutAt xs.length 0 lo + m * c]?
theorem cutS_len {α : Type} (xs : List α) (lo hi : Option Int) (c : Nat) (hc : 0 < c) : (cutS xs lo hi c).length ≤ xs.length := by
  unfold cutS
  refine Nat.le_trans (List.length_filterMap_le _ _) ?_
  rw [List.length_range]
  have h : cutAt xs.length xs.length hi ≤ xs.length := HT.sIx_le _ _ (Nat.le_refl _) hi
  unfold stepN
  split
  · have := Nat.div_le_self (cutAt xs.length xs.length hi - cutAt xs.length 0 lo - 1) c
    omega
  · omega
section
variable {prog : Program} {w : World} {A : Around} {E : Value → Shared → Prop} {s : Shared}
theorem adjust_step (lo hi : Option Int) (n c : Nat) (hc : 0 < c) : Builtin.Slice.sliceAdjust lo hi (c : Int) (n : Int) = (((HT.sIx n 0 lo : Nat) : Int), ((HT.sIx n n hi : Nat) : Int)) := by
  rw [← HT.adjust_gen lo hi n]
  unfold Builtin.Slice.sliceAdjust
  rw [if_neg (by omega), if_neg (by omega), if_neg (by omega), if_neg (by omega)]
  rfl
theorem places_step (i j c : Nat) (hc : 0 < c) : Builtin.Slice.slicePlaces (i : Int) (j : Int) (c : Int) = stepN i j c := by
  unfold Builtin.Slice.slicePlaces stepN
  rw [if_pos (show (c : Int) > 0 by omega)]
  by_cases h : i < j
  · rw [if_pos (show (i : Int) < (j : Int) by omega), if_pos h]
    have e : ((j : Int) - (i : Int) - 1) = ((j - i - 1 : Nat) : Int) := by omega
    rw [e]
    norm_cast
  · rw [if_neg (show ¬ (i : Int) < (j : Int) by omega), if_neg h]
    rfl
theorem applied_step {sl : Addr} {vl vu : Value} {lo hi : Option Int} {n c : Nat} {t : Tok} {Q : Int × Int × Nat → Shared → Prop} (hc : 0 < c) (hs : s.heap.IsSliceOf sl vl vu (.int (c : Int) t)) (pl : IsPart vl lo) (pu : IsPart vu hi)
    (h : Q (((HT.sIx n 0 lo : Nat) : Int), (c : Int), stepN (HT.sIx n 0 lo) (HT.sIx n n hi) c) s) : wpAny (model prog w) A (Builtin.Slice.sliceApplied (.ref sl) (pure (n : Int))) Q E s := by
  obtain ⟨os, hos, hcs, hds⟩ := id hs
  unfold Builtin.Slice.sliceApplied Builtin.Slice.sliceFields
  refine wpAny_bind (wpAny_bind (wpAny_field hos hds (x := vl) rfl (wpAny_bind (wpAny_field hos hds (x := vu) rfl (wpAny_bind (wpAny_field hos hds (x := .int (c : Int) t) rfl (wpAny_pure ?_)))))))
  refine wpAny_bind (slicePart_int ?_)
  show wpAny _ _ (if ((c : Int) == 0) = true then _ else _) _ _ s
  rw [if_neg (by rw [beq_iff_eq]; omega)]
  refine wpAny_bind (HT.slicePart_ pl (wpAny_bind (HT.slicePart_ pu (wpAny_bind (wpAny_pure ?_)))))
  show wpAny _ _ (match Builtin.Slice.sliceAdjust lo hi (c : Int) (n : Int) with | (lo, hi) => pure (lo, (c : Int), Builtin.Slice.slicePlaces lo hi (c : Int))) _ _ s
  rw [adjust_step lo hi n c hc]
  show wpAny _ _ (pure (((HT.sIx n 0 lo : Nat) : Int), (c : Int), Builtin.Slice.slicePlaces ((HT.sIx n 0 lo : Nat) : Int) ((HT.sIx n n hi : Nat) : Int) (c : Int))) _ _ s
  rw [places_step _ _ _ hc]
  exact wpAny_pure h
theorem pick_step (xs : Array Value) (i c k : Nat) : ((List.range k).filterMap fun (m : Nat) => xs[((i : Int) + (m : Int) * (c : Int)).toNat]?) = (List.range k).filterMap fun m => xs.toList[i + m * c]? := by
  congr 1
  funext m
  have : ((i : Int) + (m : Int) * (c : Int)).toNat = i + m * c := by
    have e : ((i : Int) + (m : Int) * (c : Int)) = ((i + m * c : Nat) : Int) := by push_cast; rfl
    rw [e, Int.toNat_natCast]
  rw [this, Array.getElem?_toList]
theorem getItem_tuple_step {t sl : Addr} {items : Array Value} {vl vu : Value} {lo hi : Option Int} {c : Nat} {tk : Tok} {Q : Value → Shared → Prop} (hc : 1 < c) (ht : IsTup s.heap t items) (hs : s.heap.IsSliceOf sl vl vu (.int (c : Int) tk)) (pl : IsPart vl lo) (pu : IsPart vu hi)
    (h : Q (.ref s.heap.objs.size) { s with heap := s.heap.push { cls := .type "tuple", data := .seq (cutS items.toList lo hi c).toArray } })
    (hsz : items.size ≤ sizeLine) : wpAny (model prog w) A (getItem (.ref t) (.ref sl)) Q E s := by
  have hfit : sizeOk (.seq (cutS items.toList lo hi c).toArray) := by
    show (cutS items.toList lo hi c).toArray.size ≤ sizeLine
    rw [List.size_toArray]
    exact Nat.le_trans (cutS_len _ _ _ _ (by omega)) (by rw [Array.length_toList]; exact hsz)
  obtain ⟨os, hos, hcs, hds⟩ := id hs
  have hTs : s.TypeIs (.ref sl) "slice" := ⟨os, hos, hcs⟩
  unfold getItem
  try with_reducible refine wpAny_holding ?_
  first | refine wpAny_bind (wpAny_pure ?_) | skip
  refine wpAny_bind (wpAny_sequenceKey ht.typeIs (by decide) ?_)
  refine wpAny_bind (wpAny_callSpecial?_slot (name := Str.ofString "__getitem__") ht.typeIs PyProof.Rows.slot_tuple_getitem
    (wpAny_call_entry PyProof.Rows.slot_tuple_getitem ht.typeIs entry_tuple_getitem ?_ (args_tuple_getitem _ _)))
  show wpAny _ _ (Builtin.Tuple.tupleItemsOf (.ref t) >>= _) _ _ s
  refine wpAny_bind (PyProof.Rows.tupleItemsOf_ ht ?_)
  refine wpAny_bind (wpAny_typeOf hTs ?_)
  rw [if_pos (by decide)]
  refine wpAny_bind (applied_step (by omega) hs pl pu ?_)
  have no : ¬ ((((HT.sIx items.size 0 lo : Nat) : Int) == 0 && (c : Int) == 1 && (stepN (HT.sIx items.size 0 lo) (HT.sIx items.size items.size hi) c) == items.size) = true) := by
    intro q
    rw [Bool.and_eq_true, Bool.and_eq_true] at q
    have q1 : (c : Int) = 1 := eq_of_beq q.1.2
    omega
  show wpAny _ _ (if (((HT.sIx items.size 0 lo : Nat) : Int) == 0 && (c : Int) == 1 && (stepN (HT.sIx items.size 0 lo) (HT.sIx items.size items.size hi) c) == items.size) = true then _ else _) _ _ s
  rw [if_neg no, pick_step]
  have e : cutS items.toList lo hi c = (List.range (stepN (HT.sIx items.size 0 lo) (HT.sIx items.size items.size hi) c)).filterMap fun m => items.toList[HT.sIx items.size 0 lo + m * c]? := by
    unfold cutS cutAt
    rw [Array.length_toList]
  rw [← e]
  first
    | exact wpAny_bind (m := Builtin.Tuple.tupleExact _) (wpAny_newObj_type (wpAny_pure ⟨_, rfl, wpAny_pure h⟩) hfit)
    | exact wpAny_bind (m := Builtin.Tuple.tupleExact _) (wpAny_newObj_type (wpAny_bind (wpAny_pure (wpAny_pure ⟨_, rfl, wpAny_pure h⟩))) hfit)
    | exact wpAny_bind (wpAny_bind (m := Builtin.Tuple.tupleExact _) (wpAny_newObj_type (wpAny_pure (wpAny_pure ⟨_, rfl, wpAny_pure h⟩)) hfit))
    | exact wpAny_bind (wpAny_bind (m := Builtin.Tuple.tupleExact _) (wpAny_newObj_type (wpAny_pure ⟨_, rfl, wpAny_pure h⟩) hfit))
end
theorem Paired.getN {xs : List V} {us : List Value} (r : Vals xs us) (i : Nat) : (xs[i]? = none ∧ us[i]? = none) ∨ ∃ x u, xs[i]? = some x ∧ us[i]? = some u ∧ RelV x u := by
  cases h : xs[i]? with
  | none => exact .inl ⟨rfl, r.none_of h⟩
  | some x =>
    obtain ⟨u, h1, h2⟩ := r.get h
    exact .inr ⟨x, u, rfl, h1, h2⟩
theorem vals_pick {xs : List V} {us : List Value} (r : Vals xs us) (f : Nat → Nat) : ∀ l : List Nat, Vals (l.filterMap fun m => xs[f m]?) (l.filterMap fun m => us[f m]?)
  | [] => .nil
  | m :: l => by
    rcases Paired.getN r (f m) with ⟨h1, h2⟩ | ⟨x, u, h1, h2, h3⟩
    · simp only [List.filterMap_cons, h1, h2]
      exact vals_pick r f l
    · simp only [List.filterMap_cons, h1, h2]
      exact .cons h3 (vals_pick r f l)
theorem rps_pick {K : Kw} {H : Hp} {vs : List V} {ds : List D} (r : RpAll K H vs ds) (f : Nat → Nat) : ∀ l : List Nat, RpAll K H (l.filterMap fun m => vs[f m]?) (l.filterMap fun m => ds[f m]?)
  | [] => .nil
  | m :: l => by
    cases h : ds[f m]? with
    | none =>
      have h1 : vs[f m]? = none := by
        rw [List.getElem?_eq_none_iff] at h ⊢
        rw [r.length]
        exact h
      simp only [List.filterMap_cons, h1, h]
      exact rps_pick r f l
    | some d =>
      obtain ⟨v, h1, h2⟩ := r.get h
      simp only [List.filterMap_cons, h1, h]
      exact .cons h2 (rps_pick r f l)
theorem vals_cutS {xs : List V} {us : List Value} (r : Vals xs us) (lo hi : Option Int) (c : Nat) : Vals (cutS xs lo hi c) (cutS us lo hi c) := by
  unfold cutS
  rw [r.length]
  exact vals_pick r _ _
theorem rps_cutS {K : Kw} {H : Hp} {vs : List V} {ds : List D} (r : RpAll K H vs ds) (lo hi : Option Int) (c : Nat) : RpAll K H (cutS vs lo hi c) (cutS ds lo hi c) := by
  unfold cutS
  rw [r.length]
  exact rps_pick r _ _
/-- t[lo:hi:c] of a tuple, c a written number above 1 -/
def eSlS (te : WE) (tl th : WO) (c : Nat) : WE := fun env S Q => te env S fun x S1 => tl env S1 fun l S2 => th env S2 fun u S3 => match x with
  | .tup xs => Q (.tup (cutS xs l u c)) S3
  | _ => False
section
variable {X : Cx} {e : Expr} {te : WE} {lo hi : Option Expr} {tl th : WO} {pos p2 p3 : Pos} {j : Nat}
theorem q_slS {i : Int} {c : Nat} (hi' : i = (c : Int)) (hc : 1 < c) (he : QE X e te) (hl : QO X lo tl) (hu : QO X hi th) : QE X (.Subscript e (.Slice lo hi (some (.Constant (.int i) j p3)) p2) pos) (eSlS te tl th c) := by
  subst hi'
  refine ⟨fun pins s σ H Q I ⟨env, S, Q0, er, so, q, ps⟩ => ?_⟩
  refine Subscript_ (thn (he.run pins s σ H (fun x H1 => lO X.kw tl σ H1 fun l H2 => lO X.kw th σ H2 fun u H3 => ∃ a xs, x = .ref a ∧ SqT X.K H3 a xs ∧ ∀ p, H3 p = none → Q (.ref p) (upd H3 p (.tup (cutS xs l u c)))) I ?_) fun v s1 ⟨x, H1, I1, r1, q1⟩ => ?_)
  · refine ⟨env, S, _, er, so, q, fun x S1 h1 v H1 rv s1 f1 => ?_⟩
    refine ⟨env, S1, _, er.mono f1.tk, s1, h1, fun l S2 h2 H2 s2 f2 => ?_⟩
    refine ⟨env, S2, _, er.mono (f1.trans f2).tk, s2, h2, fun u S3 h3 H3 s3 f3 => ?_⟩
    have rv3 := rv.mono (f2.trans f3).tk
    have ps3 := ps.trans ((f1.trans f2).trans f3)
    split at h3
    · cases rv3 with
      | tup h1 r1 hz => exact ⟨_, _, rfl, h1, ps3.tup s3 (rps_cutS r1 l u c) (Nat.le_trans (cutS_len _ _ _ _ (by omega)) hz) h3⟩
    · exact h3.elim
  · refine wpAny_Slice (thn (hl.run pins s1 σ H1 _ I1 q1) fun vl s2 ⟨l, H2, I2, pl, q2⟩ => thn (hu.run pins s2 σ H2 _ I2 q2) fun vu s3 ⟨u, H3, I3, pu, q3⟩ => ?_)
    obtain ⟨a, xs, rfl, hx, q3⟩ := q3
    refine thn ((po_some (pe_int (X := X) (i := (c : Int)) (j := j) (pos := p3))).run pins s3 σ H3 (fun o H4 => o = some (c : Int) ∧ H4 = H3) I3 ⟨_, rfl, rfl, rfl⟩) fun vc s4 ⟨o, H4, I4, pc, ho, hH⟩ => ?_
    subst ho hH
    cases pc with
    | int _ tk =>
    have I5 : Inv X pins σ H4 { s4 with heap := s4.heap.push { cls := .type "slice", data := .fields #[vl, vu, .int (c : Int) tk] } } := I4.kept (t' := s4.toks) fun b ob q => Heap.get?_push_of_some _ q
    cases r1
    obtain ⟨its, r, ht, hz⟩ := I5.tuple hx
    have hlen : its.toArray.size = xs.length := by rw [List.size_toArray]; exact r.length.symm
    show wpAny (model X.prog X.w) X.A (subscriptTail e _ _ (.ref s4.heap.objs.size)) (EP X pins σ Q) X.xe { s4 with heap := s4.heap.push { cls := .type "slice", data := .fields #[vl, vu, .int (c : Int) tk] } }
    refine tail_any (ops := [.ref a, .ref s4.heap.objs.size]) ht.typeIs PyProof.Rows.slot_tuple_getitem.lookup ?_ (by with_unfolding_all rfl)
    refine getItem_tuple_step hc ht (Heap.IsSliceOf.new ..) pl pu ?_ (by rw [hlen]; exact hz)
    refine ⟨.ref _, _, I5.laid (t' := s4.toks) (o := .tup (cutS xs l u c)) (fun b ob q => Heap.get?_push_of_some _ q) (Nat.le_refl _) ?_, rfl, q3 _ (I5.hok.fresh (Nat.le_refl _))⟩
    exact ⟨Nat.le_trans (cutS_len _ _ _ _ (by omega)) hz, _, by simpa using vals_cutS r l u c, IsTup.new _ _⟩
end
end DL

/-! DP: dicts. -/
namespace DL
open PySem PySem.Spec PyProof.Rows L2
/-! ### keys -/
theorem Paired.getL {α β : Type} {F : α → β → Prop} : ∀ {l₁ : List α} {l₂ : List β}, Paired F l₁ l₂ → ∀ {i : Nat} {a : α}, l₁[i]? = some a → ∃ b, l₂[i]? = some b ∧ F a b
  | _, _, .nil, i, a, e => by simp at e
  | _, _, .cons r t, 0, a, e => by simp at e; subst e; exact ⟨_, rfl, r⟩
  | _, _, .cons r t, i + 1, a, e => by
    obtain ⟨b, h1, h2⟩ := Paired.getL t (i := i) (a := a) (by simpa using e)
    exact ⟨b, by simpa using h1, h2⟩
theorem keyTL {d : D} (h1 : keyT d = true) (h2 : keyL d = true) : False := by
  cases d <;> first | cases h1 | cases h2
theorem nk_leaf {d : D} (h : keyL d = true) : nkD d = (leafD d).key := by
  cases d <;> first | rfl | cases h
theorem leaf_eq {d e : D} (h1 : keyL d = true) (h2 : keyL e = true) : leafD d = leafD e ↔ nkD d = nkD e := by
  rw [nk_leaf h1, nk_leaf h2]
  exact ⟨fun h => by rw [h], fun h => Leaf.key_inj h⟩
theorem leaf_is {K : Kw} {H : Hp} {v : V} {u : Value} {d : D} (h : keyL d = true) (r : Rp K H v d) (ru : RelV v u) : (k3 K.P K.w).is (leafD d) u = true := by
  cases r with
  | non => cases ru; rfl
  | int i =>
    obtain ⟨t, rfl⟩ := ru
    show (Leaf.isOf (.num i) (.int i t) && noB (.int i t)) = true
    unfold Leaf.isOf noB
    simp
  | str x =>
    obtain ⟨t, rfl⟩ := ru
    show (Leaf.isOf (.text x) (.str x t) && noB (.str x t)) = true
    unfold Leaf.isOf noB Value.isStrOf
    simp
  | _ => cases h
section
variable {X : Cx} {pins : List (Addr × Obj)} {σ : L2.St} {H : Hp} {s : Shared}
mutual
theorem Rp.nest (I : Inv X pins σ H s) : ∀ {v : V} {d : D} {u : Value}, Rp X.kw H v d → kyD d = true → RelV v u → NestedIs s.heap (nkD d) u
  | _, _, _, .non, _, r => by cases r; unfold nkD; exact .none
  | _, _, _, .bl b, _, r => by cases r; unfold nkD; exact .bool rfl
  | _, _, _, .int i, _, r => by obtain ⟨t, rfl⟩ := r; unfold nkD; exact .int i t
  | _, _, _, .str x, _, r => by obtain ⟨t, rfl⟩ := r; unfold nkD; exact .text x t
  | _, _, _, .tup h hs _, c, r => by
    cases r
    unfold kyD at c
    unfold nkD
    obtain ⟨its, rv, ⟨o, ho, hc, n, hd⟩, _⟩ := I.tuple h
    exact .tup ho hc hd (by simpa using RpAll.nest I hs c rv)
  | _, _, _, .ref a, c, _ => by unfold kyD at c; cases c
  | _, _, _, .frz _ _ _, c, _ => by unfold kyD at c; cases c
  | _, _, _, .ty _, c, _ => by unfold kyD at c; cases c
  | _, _, _, .exc _ _, c, _ => by unfold kyD at c; cases c
theorem RpAll.nest (I : Inv X pins σ H s) : ∀ {vs : List V} {ds : List D} {us : List Value}, RpAll X.kw H vs ds → kyDs ds = true → Vals vs us → NestedAll s.heap (nkDs ds) us
  | _, _, _, .nil, _, r => by cases r; unfold nkDs; exact .nil
  | _, _, _, .cons h hs, c, r => by
    unfold kyDs at c
    rw [Bool.and_eq_true] at c
    cases r with
    | cons r1 r2 =>
      unfold nkDs
      exact .cons (Rp.nest I h c.1 r1) (RpAll.nest I hs c.2 r2)
end
theorem key_is (I : Inv X pins σ H s) {b : Addr} {d : D} (h : keyT d = true) (r : Rp X.kw H (.ref b) d) : (nestedKind X.prog X.w).is s.heap (nkD d) b := by
  unfold keyT at h
  split at h
  · rw [Bool.and_eq_true, decide_eq_true_eq] at h
    exact ⟨Rp.nest I r (by unfold kyD; exact h.1) rfl, h.2⟩
  · cases h
theorem keyT_ref {K : Kw} {H : Hp} {v : V} {d : D} (h : keyT d = true) (r : Rp K H v d) : ∃ b, v = .ref b := by
  cases r <;> first | exact ⟨_, rfl⟩ | cases h
/-- the dict at a -/
abbrev DicAt (K : Kw) (H : Hp) (a : Addr) (o : Obj) (kvs : List (D × D)) : Prop := LR K H a (.dic o kvs)
theorem DicAt.get {a : Addr} {o : Obj} {kvs : List (D × D)} (h : DicAt X.kw H a o kvs) (I : Inv X pins σ H s) : s.heap.get? a = some o := (I.hok a _ h.1).1
theorem dic_T {a : Addr} {o : Obj} {kvs : List (D × D)} (h : DicAt X.kw H a o kvs) (I : Inv X pins σ H s) (hk : (kvs.all fun kv => keyT kv.1) = true) : ∃ xs, s.heap.DictOfH (nestedKind X.prog X.w) a xs ∧ Paired (KvT X.kw H) kvs xs := by
  have ho := h.get I
  obtain ⟨_, _, _, es, ep, h1, h2, h3⟩ := h
  rcases h3 with ⟨xs, e1, e2, e3⟩ | ⟨ys, e1, e2, e3, e4⟩
  · refine ⟨xs, ⟨o, es, ep, ho, h1, h2, e1, fun x hx => ?_, e2⟩, e3⟩
    obtain ⟨i, hi, rfl⟩ := List.getElem_of_mem hx
    obtain ⟨kv, -, r⟩ : ∃ kv, kvs[i]? = some kv ∧ KvT X.kw H kv xs[i] := by
      have hl : kvs.length = xs.length := Paired.length e3
      obtain ⟨b, hb, r⟩ := Paired.getL e3 (List.getElem?_eq_getElem (l := kvs) (i := i) (by omega))
      rw [List.getElem?_eq_getElem hi] at hb
      cases hb
      exact ⟨_, List.getElem?_eq_getElem (by omega), r⟩
    rw [r.eq]
    exact key_is I r.ok r.key
  · cases e4 with
    | nil =>
      have e : es.toList = [] := List.length_eq_zero_iff.mp e2.length
      exact ⟨[], ⟨o, es, ep, ho, h1, h2, e, fun x hx => (by cases hx), List.nodup_nil⟩, .nil⟩
    | cons r t =>
      rw [List.all_cons, Bool.and_eq_true] at hk
      exact (keyTL hk.1 r.ok).elim
theorem dic_L {a : Addr} {o : Obj} {kvs : List (D × D)} (h : DicAt X.kw H a o kvs) (I : Inv X pins σ H s) (hk : (kvs.all fun kv => keyL kv.1) = true) : ∃ ys, s.heap.DictOf (k3 X.prog X.w) a ys ∧ Paired (KvL X.kw H) kvs ys := by
  have ho := h.get I
  obtain ⟨_, _, _, es, ep, h1, h2, h3⟩ := h
  rcases h3 with ⟨xs, e1, e2, e3⟩ | ⟨ys, e1, e2, e3, e4⟩
  · cases e3 with
    | nil =>
      have e : es.toList = [] := e1
      refine ⟨[], ⟨o, es, ep, ho, h1, h2, fun en he => ?_, by rw [e]; exact .nil, List.nodup_nil⟩, .nil⟩
      have : en ∈ es.toList := by simpa using he
      rw [e] at this
      cases this
    | cons r t =>
      rw [List.all_cons, Bool.and_eq_true] at hk
      exact (keyTL r.ok hk.1).elim
  · exact ⟨ys, ⟨o, es, ep, ho, h1, h2, e1, e2, e3⟩, e4⟩
end
/-! ### what is found -/
theorem dicGet_nil (k : D) : dicGet [] k = none := rfl
theorem dicGet_pos {kv : D × D} {r : List (D × D)} {k : D} (h : nkD kv.1 = nkD k) : dicGet (kv :: r) k = some kv.2 := by simp [dicGet, List.find?_cons, h]
theorem dicGet_neg {kv : D × D} {r : List (D × D)} {k : D} (h : ¬ nkD kv.1 = nkD k) : dicGet (kv :: r) k = dicGet r k := by simp [dicGet, List.find?_cons, h]
/-- a value over data, a value over addresses -/
def FndV (K : Kw) (H : Hp) (o : Option D) (u : Option Value) : Prop := match o, u with
  | none, none => True
  | some d, some u => ∃ v, RelV v u ∧ Rp K H v d
  | _, _ => False
section
variable {K : Kw} {H : Hp}
theorem getT {k : D} : ∀ {kvs : List (D × D)} {xs : List (NestedKey × Addr × Value)}, Paired (KvT K H) kvs xs → FndV K H (dicGet kvs k) ((atKey xs (nkD k)).map (·.2))
  | _, _, .nil => trivial
  | kv :: kvs, x :: xs, .cons r t => by
    by_cases h : nkD kv.1 = nkD k
    · rw [dicGet_pos h]
      have e : atKey (x :: xs) (nkD k) = some x.2 := by
        unfold atKey
        rw [List.find?_cons, r.eq, decide_eq_true h]
        rfl
      rw [e]
      exact r.val
    · rw [dicGet_neg h]
      have e : atKey (x :: xs) (nkD k) = atKey xs (nkD k) := by
        unfold atKey
        rw [List.find?_cons, r.eq, decide_eq_false h]
      rw [e]
      exact getT t
theorem getL {k : D} (hk : keyL k = true) : ∀ {kvs : List (D × D)} {ys : List (Leaf × Value)}, Paired (KvL K H) kvs ys → FndV K H (dicGet kvs k) (valueAt ys (leafD k))
  | _, _, .nil => trivial
  | kv :: kvs, y :: ys, .cons r t => by
    by_cases h : nkD kv.1 = nkD k
    · rw [dicGet_pos h]
      have e : valueAt (y :: ys) (leafD k) = some y.2 := by
        unfold valueAt
        rw [List.find?_cons, r.eq, decide_eq_true ((leaf_eq r.ok hk).mpr h)]
        rfl
      rw [e]
      exact r.val
    · rw [dicGet_neg h]
      have e : valueAt (y :: ys) (leafD k) = valueAt ys (leafD k) := by
        unfold valueAt
        rw [List.find?_cons, r.eq, decide_eq_false (fun z => h ((leaf_eq r.ok hk).mp z))]
      rw [e]
      exact getL hk t
theorem FndV.some {o : Option D} {u : Option Value} (h : FndV K H o u) : o.isSome = u.isSome := by
  cases o <;> cases u <;> first | rfl | exact h.elim
theorem replT {k d : D} {v : V} {r : Value} (rv : RelV v r) (rd : Rp K H v d) : ∀ {kvs : List (D × D)} {xs : List (NestedKey × Addr × Value)}, Paired (KvT K H) kvs xs →
    Paired (KvT K H) (kvs.map fun kv => if nkD kv.1 = nkD k then (kv.1, d) else kv) (xs.map (putAt (nkD k) r))
  | _, _, .nil => .nil
  | kv :: kvs, x :: xs, .cons h t => by
    refine .cons ?_ (replT rv rd t)
    unfold putAt
    rw [h.eq]
    show KvT K H (if nkD kv.1 = nkD k then (kv.1, d) else kv) _
    by_cases e : nkD kv.1 = nkD k
    · rw [if_pos e, if_pos e]
      exact ⟨h.ok, rfl, h.key, v, rv, rd⟩
    · rw [if_neg e, if_neg e]
      exact h
theorem Paired.snoc {α β : Type} {F : α → β → Prop} {a : α} {b : β} (h : F a b) : ∀ {l₁ : List α} {l₂ : List β}, Paired F l₁ l₂ → Paired F (l₁ ++ [a]) (l₂ ++ [b])
  | _, _, .nil => .cons h .nil
  | _, _, .cons r t => .cons r (Paired.snoc h t)
theorem putT {k d : D} {b : Addr} {v : V} {r : Value} (hk : keyT k = true) (rk : Rp K H (.ref b) k) (rv : RelV v r) (rd : Rp K H v d) {kvs : List (D × D)} {xs : List (NestedKey × Addr × Value)} (h : Paired (KvT K H) kvs xs) :
    Paired (KvT K H) (dicPut kvs k d) (storedH xs (nkD k) b r) := by
  have e := (getT (k := k) h).some
  rw [Option.isSome_map] at e
  unfold dicPut storedH
  rw [e]
  split
  · exact replT rv rd h
  · exact Paired.snoc ⟨hk, rfl, rk, v, rv, rd⟩ h
theorem replL {k d : D} {v : V} {r : Value} (hk : keyL k = true) (rv : RelV v r) (rd : Rp K H v d) : ∀ {kvs : List (D × D)} {ys : List (Leaf × Value)}, Paired (KvL K H) kvs ys →
    Paired (KvL K H) (kvs.map fun kv => if nkD kv.1 = nkD k then (kv.1, d) else kv) (ys.map fun y => if y.1 = leafD k then (y.1, r) else y)
  | _, _, .nil => .nil
  | kv :: kvs, y :: ys, .cons h t => by
    refine .cons ?_ (replL hk rv rd t)
    dsimp only
    by_cases e : nkD kv.1 = nkD k
    · rw [if_pos e, if_pos (by rw [h.eq]; exact (leaf_eq h.ok hk).mpr e)]
      exact ⟨h.ok, h.eq, v, rv, rd⟩
    · rw [if_neg e, if_neg (by rw [h.eq]; exact fun z => e ((leaf_eq h.ok hk).mp z))]
      exact h
theorem any_valueAt {κ : Type} [DecidableEq κ] (k : κ) : ∀ ys : List (κ × Value), (ys.any fun y => decide (y.1 = k)) = (valueAt ys k).isSome
  | [] => rfl
  | y :: ys => by
    have := any_valueAt k ys
    unfold valueAt at *
    rw [List.any_cons, List.find?_cons]
    by_cases h : y.1 = k
    · rw [decide_eq_true h]; rfl
    · rw [decide_eq_false h]; exact this
theorem putL {k d : D} {v : V} {r : Value} (hk : keyL k = true) (rv : RelV v r) (rd : Rp K H v d) {kvs : List (D × D)} {ys : List (Leaf × Value)} (h : Paired (KvL K H) kvs ys) :
    Paired (KvL K H) (dicPut kvs k d) (stored ys (leafD k) r) := by
  have e := (getL hk h).some
  unfold dicPut stored
  rw [any_valueAt, e]
  split
  · exact replL hk rv rd h
  · exact Paired.snoc ⟨hk, rfl, v, rv, rd⟩ h
theorem dicPut_len (kvs : List (D × D)) (k d : D) : (dicPut kvs k d).length ≤ kvs.length + 1 := by
  unfold dicPut
  split <;> simp
end
theorem keyOk_or {kvs : List (D × D)} {k : D} (h : keyOk kvs k = true) : (keyT k = true ∧ (kvs.all fun kv => keyT kv.1) = true) ∨ (keyL k = true ∧ (kvs.all fun kv => keyL kv.1) = true) := by
  unfold keyOk at h
  rw [Bool.or_eq_true, Bool.and_eq_true, Bool.and_eq_true] at h
  exact h
end DL

/-! DQ: dicts: what is asked of each construct. -/
namespace DL
open PySem PySem.Spec PyProof.Rows L2
/-! ### over data -/
def onD (S : Sto) (a : Addr) (k : Obj → List (D × D) → Prop) : Prop := match sget S a with
  | some (.dic o kvs) => k o kvs
  | _ => False
theorem onD_iff {S : Sto} {a : Addr} {k : Obj → List (D × D) → Prop} : onD S a k ↔ ∃ o kvs, sget S a = some (.dic o kvs) ∧ k o kvs := by
  unfold onD
  constructor
  · intro h
    split at h
    · exact ⟨_, _, ‹_›, h⟩
    · exact h.elim
  · rintro ⟨o, kvs, e, h⟩
    rw [e]
    exact h
theorem onD_in {S : Sto} {a : Addr} {k : Obj → List (D × D) → Prop} {o : Obj} {kvs : List (D × D)} (e : sget S a = some (.dic o kvs)) (h : k o kvs) : onD S a k := onD_iff.mpr ⟨o, kvs, e, h⟩
def onGet (o : Option D) (k : D → Prop) : Prop := match o with
  | some d => k d
  | none => False
theorem onGet_in {o : Option D} {k : D → Prop} {d : D} (e : o = some d) (h : k d) : onGet o k := by rw [e]; exact h
def eDict0 : WE := fun _ S Q => ∀ p o, sget S p = none → Q (.ref p) ((p, .dic o []) :: S)
def dInD (u : Bool → Bool) (x y : D) (S : Sto) (Q : WQ) : Prop := match y with
  | .ref a => onD S a fun _ kvs => keyOk kvs x = true ∧ Q (.bl (u (dicGet kvs x).isSome)) S
  | _ => False
abbrev dInK := dInD fun b => b
abbrev dNotInK := dInD fun b => !b
def dGetK (x y : D) (S : Sto) (Q : WQ) : Prop := match x with
  | .ref a => onD S a fun _ kvs => keyOk kvs y = true ∧ onGet (dicGet kvs y) fun d => Q d S
  | _ => False
def gSubK (ta ti : WE) : WG := fun d env S Q => ta env S fun x S1 => ti env S1 fun y S2 => match x with
  | .ref a => onD S2 a fun _ kvs => (keyOk kvs y = true ∧ kvs.length < sizeLine) ∧ ∀ o', Q env (sset S2 a (.dic o' (dicPut kvs y d)))
  | _ => False
def mGetK (x : D) (ds : List D) (S : Sto) (Q : WQ) : Prop := match x with
  | .ref a => match ds with
    | [k] => onD S a fun _ kvs => keyOk kvs k = true ∧ Q ((dicGet kvs k).getD .non) S
    | [k, z] => onD S a fun _ kvs => keyOk kvs k = true ∧ Q ((dicGet kvs k).getD z) S
    | _ => False
  | _ => False
def mSetdefK (x : D) (ds : List D) (S : Sto) (Q : WQ) : Prop := match x with
  | .ref a => match ds with
    | [k, z] => onD S a fun _ kvs => (keyOk kvs k = true ∧ kvs.length < sizeLine) ∧ (∀ d, dicGet kvs k = some d → Q d S) ∧ (dicGet kvs k = none → ∀ o', Q z (sset S a (.dic o' (dicPut kvs k z))))
    | _ => False
  | _ => False
def eMethK (m : D → List D → Sto → WQ → Prop) (to : WE) (t : WA) : WE := fun env S Q => to env S fun x S1 => match x with
  | .ref a => onD S1 a fun _ _ => t env S1 fun ds S2 => m (.ref a) ds S2 Q
  | _ => False
/-- for k in d; for v in d.values() -/
def iKeysK (t : WE) : WI := fun env S R => t env S fun x S1 => match x with
  | .ref a => onD S1 a fun o kvs => kvs.length ≤ sizeLine → R ⟨kvs.map (·.1), fun S => sget S a = some (.dic o kvs)⟩ S1
  | _ => False
def iValsK (t : WE) : WI := fun env S R => t env S fun x S1 => match x with
  | .ref a => onD S1 a fun o kvs => kvs.length ≤ sizeLine → R ⟨kvs.map (·.2), fun S => sget S a = some (.dic o kvs)⟩ S1
  | _ => False
def bLenK : WB := fun ds S Q => match ds with
  | [.ref a] => onD S a fun _ kvs => Q (.int kvs.length) S
  | _ => False
def bListK : WB := fun ds S Q => match ds with
  | [.ref a] => onD S a fun _ kvs => ∀ p, sget S p = none → Q (.ref p) ((p, .lst (kvs.map (·.1))) :: S)
  | _ => False
/-- {k: v for .. in .. if ..} -/
@[irreducible] def eDictC (it : WI) (g : WG) (c : WT) (tk tv : WE) (vs : List Nat) : WE := fun env S Q => it env S fun J S0 =>
  ∃ W : Nat → List (D × D) → Sto → Prop, W 0 [] S0 ∧
    (∀ i x acc S, J.xs[i]? = some x → W i acc S → J.chk S ∧ g x (wipe env vs) S fun env2 S2 => c env2 S2 fun b S3 =>
      ifB b (tk env2 S3 fun y S4 => tv env2 S4 fun z S5 => keyOk acc y = true ∧ UpS (W (i + 1) (dicPut acc y z)) S5) (UpS (W (i + 1) acc) S3)) ∧
    ∀ acc S, W J.xs.length acc S → J.chk S ∧ ∀ p o, sget S p = none → Q (.ref p) ((p, .dic o acc) :: S)
theorem dictC_in {it : WI} {g : WG} {c : WT} {tk tv : WE} {vs : List Nat} {env : EV} {S : Sto} {Q : WQ} (h : it env S fun J S0 =>
  ∃ W : Nat → List (D × D) → Sto → Prop, W 0 [] S0 ∧
    (∀ i x acc S, J.xs[i]? = some x → W i acc S → J.chk S ∧ g x (wipe env vs) S fun env2 S2 => c env2 S2 fun b S3 =>
      ifB b (tk env2 S3 fun y S4 => tv env2 S4 fun z S5 => keyOk acc y = true ∧ UpS (W (i + 1) (dicPut acc y z)) S5) (UpS (W (i + 1) acc) S3)) ∧
    ∀ acc S, W J.xs.length acc S → J.chk S ∧ ∀ p o, sget S p = none → Q (.ref p) ((p, .dic o acc) :: S)) : eDictC it g c tk tv vs env S Q := by
  unfold eDictC
  exact h

/-! ### the object -/
theorem dicO_ok {P : Program} {w : World} {H : Hp} {h : Heap} {a : Addr} {o : Obj} (e : h.get? a = some o) : ObjOk P w H h a (DicO a o) := ⟨e, ⟨o, e⟩, fun h1 h2 p k => k o p⟩
theorem dicO_tk {H : Hp} {a : Addr} {o o' : Obj} (h : H a = some (DicO a o)) : Tk H (upd H a (DicO a o')) := .setX h (fun ys z => nomatch z) fun ob u z => nomatch z
section
variable {X : Cx} {pins : List (Addr × Obj)} {σ : L2.St} {H : Hp} {s : Shared} {a : Addr} {o : Obj} {kvs : List (D × D)}
theorem dic_write {h' : Heap} {t' : Nat} {o' : Obj} (I : Inv X pins σ H s) (h : DicAt X.kw H a o kvs) (hs : Heap.SameBut a s.heap h') (e : h'.get? a = some o') : Inv X pins σ (upd H a (DicO a o')) { s with heap := h', toks := t' } :=
  I.write (x := a) (e := a) (by rw [h.1]; trivial) (.inl rfl) (fun b q hb z => (hs.2 b hb).trans z) ⟨_, e⟩ (dicO_ok e)
theorem dic_new (s : Shared) (H : Hp) (I : Inv X pins σ H s) : ∃ o : Obj, o = { cls := .type "dict", data := .dict #[] } ∧ DicAt X.kw (upd H s.heap.objs.size (DicO s.heap.objs.size o)) s.heap.objs.size o [] :=
  ⟨_, rfl, upd_same, beq_eq_false_iff_ne.mpr (Ne.symm (Nat.ne_of_lt I.big)), Nat.zero_le _, #[], 0, ⟨rfl, rfl, rfl⟩, rfl, .inl ⟨[], rfl, List.nodup_nil, .nil⟩⟩
end
/-- what d[y] = z does to the abstract heap -/
def DSet (K : Kw) (H : Hp) (a : Addr) (o : Obj) (kvs : List (D × D)) (k d : D) (Nx : Hp → Prop) : Prop := ∀ o', DicAt K (upd H a (DicO a o')) a o' (dicPut kvs k d) → Tk H (upd H a (DicO a o')) → Nx (upd H a (DicO a o'))
section
variable {X : Cx} {pins : List (Addr × Obj)} {σ : L2.St} {H : Hp} {s : Shared} {a : Addr} {o : Obj} {kvs : List (D × D)} {A : Around}
/-- the store, whatever the road: by its rule for tuples, by its rule for the others -/
theorem set_core {α : Type} {E : Value → Shared → Prop} {m : Sem α} {Q : α → Shared → Prop} {k d : D} {x v : V} {u r : Value} (I : Inv X pins σ H s) (h : DicAt X.kw H a o kvs) (hk : keyOk kvs k = true) (hz : kvs.length < sizeLine) (rk : Rp X.kw H x k) (ru : RelV x u) (rd : Rp X.kw H v d) (rv : RelV v r)
    (road1 : ∀ b xs, u = .ref b → (nestedKind X.prog X.w).is s.heap (nkD k) b → s.heap.DictOfH (nestedKind X.prog X.w) a xs → xs.length ≤ sizeLine →
      (∀ h', h'.DictOfH (nestedKind X.prog X.w) a (storedH xs (nkD k) b r) → Heap.SameBut a s.heap h' → ∀ t, ∃ H', Inv X pins σ H' { s with heap := h', toks := t } ∧ (∃ o', H' = upd H a (DicO a o') ∧ DicAt X.kw H' a o' (dicPut kvs k d) ∧ Tk H H')) → wpAny (model X.prog X.w) A m Q E s)
    (road2 : ∀ ys, (k3 X.prog X.w).is (leafD k) u = true → s.heap.DictOf (k3 X.prog X.w) a ys → ys.length ≤ sizeLine →
      (∀ h', h'.DictOf (k3 X.prog X.w) a (stored ys (leafD k) r) → Heap.SameBut a s.heap h' → ∀ t, ∃ H', Inv X pins σ H' { s with heap := h', toks := t } ∧ (∃ o', H' = upd H a (DicO a o') ∧ DicAt X.kw H' a o' (dicPut kvs k d) ∧ Tk H H')) → wpAny (model X.prog X.w) A m Q E s) : wpAny (model X.prog X.w) A m Q E s := by
  have hl := dicPut_len kvs k d
  rcases keyOk_or hk with ⟨h1, h2⟩ | ⟨h1, h2⟩
  · obtain ⟨xs, hx, pr⟩ := dic_T h I h2
    obtain ⟨b, rfl⟩ := keyT_ref h1 rk
    have ru : u = .ref b := ru
    subst ru
    have hlx : kvs.length = xs.length := Paired.length pr
    refine road1 b xs rfl (key_is I h1 rk) hx (by omega) fun h' dd hs t => ?_
    obtain ⟨o', es, ep, e1, e2, e3, e4, _, e6⟩ := dd
    have tk : Tk H (upd H a (DicO a o')) := dicO_tk h.1
    exact ⟨_, dic_write I h hs e1, o', rfl, ⟨upd_same, h.2.1, by omega, es, ep, e2, e3, .inl ⟨_, e4, e6, Paired.mapP (putT h1 rk rv rd pr) fun _ _ z => z.mono tk⟩⟩, tk⟩
  · obtain ⟨ys, hy, pr⟩ := dic_L h I h2
    have hly : kvs.length = ys.length := Paired.length pr
    refine road2 ys (leaf_is h1 rk ru) hy (by omega) fun h' dd hs t => ?_
    obtain ⟨o', es, ep, e1, e2, e3, e4, e5, e6⟩ := dd
    have tk : Tk H (upd H a (DicO a o')) := dicO_tk h.1
    exact ⟨_, dic_write I h hs e1, o', rfl, ⟨upd_same, h.2.1, by omega, es, ep, e2, e3, .inr ⟨_, e4, e5, e6, Paired.mapP (putL h1 rv rd pr) fun _ _ z => z.mono tk⟩⟩, tk⟩
theorem nest_room {k : Nat} (C : Cok X k) : (nestedKind X.prog X.w).room X.A.in1 := by
  have := C.room.units
  show X.A.in1.units + 8 < cLine
  rw [Around.in1_units]
  omega
theorem nest_room0 {k : Nat} (C : Cok X k) : (nestedKind X.prog X.w).room X.A := by
  have := C.room.units
  show X.A.units + 8 < cLine
  omega
/-- reading: by the rule for tuples, by the rule for the others -/
theorem get_core {α : Type} {E : Value → Shared → Prop} {m : Sem α} {Q : α → Shared → Prop} {k : D} {x : V} {u : Value} (I : Inv X pins σ H s) (h : DicAt X.kw H a o kvs) (hk : keyOk kvs k = true) (rk : Rp X.kw H x k) (ru : RelV x u)
    (road1 : ∀ b xs, u = .ref b → (nestedKind X.prog X.w).is s.heap (nkD k) b → s.heap.DictOfH (nestedKind X.prog X.w) a xs → FndV X.kw H (dicGet kvs k) ((atKey xs (nkD k)).map (·.2)) → wpAny (model X.prog X.w) A m Q E s)
    (road2 : ∀ ys, (k3 X.prog X.w).is (leafD k) u = true → s.heap.DictOf (k3 X.prog X.w) a ys → FndV X.kw H (dicGet kvs k) (valueAt ys (leafD k)) → wpAny (model X.prog X.w) A m Q E s) : wpAny (model X.prog X.w) A m Q E s := by
  rcases keyOk_or hk with ⟨h1, h2⟩ | ⟨h1, h2⟩
  · obtain ⟨xs, hx, pr⟩ := dic_T h I h2
    obtain ⟨b, rfl⟩ := keyT_ref h1 rk
    have ru : u = .ref b := ru
    subst ru
    exact road1 b xs rfl (key_is I h1 rk) hx (getT pr)
  · obtain ⟨ys, hy, pr⟩ := dic_L h I h2
    exact road2 ys (leaf_is h1 rk ru) hy (getL h1 pr)
end
section
variable {X : Cx} {a b : Expr} {ta tb : WE} {pos : Pos} {k : Nat}
/-! ### {}, in, not in, d[k], d[k] = v -/
theorem q_dict0 : QE X (.Dict [] [] pos) eDict0 := ⟨fun pins s σ H Q I ⟨env, S, Q0, er, so, q, ps⟩ => by
  obtain ⟨o, ho, hd⟩ := dic_new s H I
  have hn : H s.heap.objs.size = none := I.hok.fresh (Nat.le_refl _)
  refine wpAny_Dict_empty ⟨.ref s.heap.objs.size, _, I.laid (a := s.heap.objs.size) (o := DicO s.heap.objs.size o) (t' := s.toks) (fun _ _ q => Heap.get?_push_of_some _ q) (Nat.le_refl _) (dicO_ok (by rw [ho]; exact Heap.get?_push_size _ rfl)), rfl, ?_⟩
  exact ps _ _ (q _ o (so.none hn)) _ _ (.ref _) (so.newO hn hd) (.new S hn)⟩
def rInK (X : Cx) (u : Bool → Bool) : R2 := fun x y H Q => ∃ a o kvs kd, y = .ref a ∧ Rp X.kw H x kd ∧ DicAt X.kw H a o kvs ∧ keyOk kvs kd = true ∧ Q (.bl (u (dicGet kvs kd).isSome)) H
theorem op_inK (C : Cok X k) : OpR X (compareOp .In) (rInK X fun b => b) := by
  intro pins s σ H x y v u Q I rx ry h
  obtain ⟨a, o, kvs, kd, rfl, rk, hd, hk, q⟩ := h
  cases ry
  refine get_core I hd hk rk rx (fun b xs e hkey hm f => ?_) fun ys hkey hm f => ?_
  · subst e
    have := f.some
    rw [Option.isSome_map] at this
    exact wpAny_in_heap (nest_room C) hkey hd.2.1 hm ⟨.bl _, H, I.tok _, rfl, by rw [← this]; exact q⟩
  · exact wpAny_in_of hkey hd.2.1 hm.mapOf ⟨.bl _, H, I.tok _, rfl, by rw [← f.some]; exact q⟩
theorem op_notInK (C : Cok X k) : OpR X (compareOp .NotIn) (rInK X fun b => !b) := by
  intro pins s σ H x y v u Q I rx ry h
  obtain ⟨a, o, kvs, kd, rfl, rk, hd, hk, q⟩ := h
  cases ry
  refine get_core I hd hk rk rx (fun b xs e hkey hm f => ?_) fun ys hkey hm f => ?_
  · subst e
    have := f.some
    rw [Option.isSome_map] at this
    exact wpAny_notIn_heap (nest_room C) hkey hd.2.1 hm ⟨.bl _, H, I.tok _, rfl, by rw [← this]; exact q⟩
  · exact wpAny_notIn_of hkey hd.2.1 hm.mapOf ⟨.bl _, H, I.tok _, rfl, by rw [← f.some]; exact q⟩
theorem opr_inK {u : Bool → Bool} : Opr X (rInK X u) (dInD u) := fun x y S Q0 v w H Q h rv ru so ps => by
  unfold dInD at h
  split at h
  · cases ru
    obtain ⟨o, kvs, e, hk, q⟩ := onD_iff.mp h
    exact ⟨_, o, kvs, x, rfl, rv, so _ _ e, hk, ps.here so q (.bl _)⟩
  · exact h.elim
theorem q_inK (C : Cok X k) (ha : QE X a ta) (hb : QE X b tb) (hm : behindInMarks .In b = false := by first | exact nomark _ | rfl) : QE X (.Compare a [.In] [b] pos) (eBin dInK ta tb) := q_cmp (op_inK C) opr_inK ha hb hm
theorem q_notInK (C : Cok X k) (ha : QE X a ta) (hb : QE X b tb) (hm : behindInMarks .NotIn b = false := by first | exact nomark _ | rfl) : QE X (.Compare a [.NotIn] [b] pos) (eBin dNotInK ta tb) := q_cmp (op_notInK C) opr_inK ha hb hm
theorem qt_inK (C : Cok X k) (ha : QE X a ta) (hb : QE X b tb) (hm : behindInMarks .In b = false := by first | exact nomark _ | rfl) : QT X (.Compare a [.In] [b] pos) (DL.tB (eBin dInK ta tb)) := qt_cmp (op_inK C) opr_inK ha hb hm
theorem qt_notInK (C : Cok X k) (ha : QE X a ta) (hb : QE X b tb) (hm : behindInMarks .NotIn b = false := by first | exact nomark _ | rfl) : QT X (.Compare a [.NotIn] [b] pos) (DL.tB (eBin dNotInK ta tb)) := qt_cmp (op_notInK C) opr_inK ha hb hm
def rGetK (X : Cx) : R2 := fun x y H Q => ∃ a o kvs kd d, x = .ref a ∧ Rp X.kw H y kd ∧ DicAt X.kw H a o kvs ∧ keyOk kvs kd = true ∧ dicGet kvs kd = some d ∧ ∀ v, Rp X.kw H v d → Q v H
theorem ix_K (C : Cok X k) : IxR X (rGetK X) := by
  intro value slice pins s σ H x y v u Q I rx ry h hs
  obtain ⟨a, o, kvs, kd, d, rfl, rk, hd, hk, e, q⟩ := h
  cases rx
  refine get_core I hd hk rk ry (fun b xs e2 hkey hm f => ?_) fun ys hkey hm f => ?_
  · subst e2
    rw [e] at f
    cases hp : atKey xs (nkD kd) with
    | none => rw [hp] at f; exact f.elim
    | some p =>
      rw [hp] at f
      obtain ⟨z, rz, rd⟩ := f
      exact tail_any hm.typeIs PySem.F.slot_dict_getitem.lookup (wpAny_getItem_heap (nest_room C) hkey hm hp ⟨z, H, I.tok _, rz, q z rd⟩) hs
  · rw [e] at f
    cases hp : valueAt ys (leafD kd) with
    | none => rw [hp] at f; exact f.elim
    | some p =>
      rw [hp] at f
      obtain ⟨z, rz, rd⟩ := f
      exact tail_any hm.typeIs PySem.F.slot_dict_getitem.lookup (wpAny_getItem_of hkey hm.mapOf hp ⟨z, H, I.tok _, rz, q z rd⟩) hs
theorem q_getK (C : Cok X k) (ha : QE X a ta) (hb : QE X b tb) (hs : PlainIx b := by exact fun _ _ => rfl) : QE X (.Subscript a b pos) (eBin dGetK ta tb) := (pe_ix (ix_K C) ha hb hs).imp' fun σ H Q h => lE_bin h fun x y S2 Q0 v u H2 h rv ru so ps => by
  unfold dGetK at h
  split at h
  · cases rv
    obtain ⟨o, kvs, e, hk, q⟩ := onD_iff.mp h
    unfold onGet at q
    split at q
    · rename_i d hd
      exact ⟨_, o, kvs, y, d, rfl, ru, so _ _ e, hk, hd, fun v rd => ps.here so q rd⟩
    · exact q.elim
  · exact h.elim
def rSetK (X : Cx) : V → V → V → Hp → (Hp → Prop) → Prop := fun x y v H Q => ∃ a o kvs kd d, x = .ref a ∧ Rp X.kw H y kd ∧ Rp X.kw H v d ∧ DicAt X.kw H a o kvs ∧ keyOk kvs kd = true ∧ kvs.length < sizeLine ∧ DSet X.kw H a o kvs kd d Q
theorem set_K (C : Cok X k) : PSet X (rSetK X) := by
  intro pins s σ H x y v ov iv u Q I ro ri rv h
  obtain ⟨a, o, kvs, kd, d, rfl, rk, rd, hd, hk, hz, q⟩ := h
  cases ro
  refine set_core I hd hk hz rk ri rd rv (fun b xs e hkey hm hl fin => ?_) fun ys hkey hm hl fin => ?_
  · subst e
    exact wpAny_setItem_heap (hsz := hl) (nest_room C) hkey hm fun h' dd hs => by
      obtain ⟨H', I', o', rfl, d', tk⟩ := fin h' dd hs _
      exact ⟨_, I', q o' d' tk⟩
  · exact wpAny_setItem_pairs (hsz := hl) hkey hm fun h' dd hs => by
      obtain ⟨H', I', o', rfl, d', tk⟩ := fin h' dd hs _
      exact ⟨_, I', q o' d' tk⟩
theorem qg_subK (C : Cok X k) {o i : Expr} {ta ti : WE} (ho : QE X o ta) (hi : QE X i ti)
    (ha : ∀ v, assign (.Subscript o i pos) X.env v = (do
      let ov ← holding [v] (eval o X.env)
      let iv ← holding [v, ov] (eval i X.env)
      standAt pos
      holding [v, ov, iv] (setItem ov iv v)
      release [v, ov, iv] []) := by intro _; rfl) : QG X (.Subscript o i pos) (gSubK ta ti) :=
  (pg_sub ho hi (set_K C) ha).imp' fun v σ H Q ⟨d, env, S, Q0, rv, er, so, q, ps⟩ => by
  refine ⟨env, S, _, er, so, q, fun x S1 h1 w H1 rw' s1 f1 => ?_⟩
  refine ⟨env, S1, _, er.mono f1.tk, s1, h1, fun y S2 h2 u H2 ru s2 f2 => ?_⟩
  split at h2
  · cases rw'
    obtain ⟨ob, kvs, e, ⟨hk, hz⟩, q2⟩ := onD_iff.mp h2
    have ff := f1.trans f2
    refine ⟨_, ob, kvs, y, d, rfl, ru, rv.mono ff.tk, s2 _ _ e, hk, hz, fun o' d' tk => ?_⟩
    exact ps _ _ (q2 o') _ _ ((er.mono ff.tk).mono tk) (s2.setX e tk d') (ff.trans (.setX e tk))
  · exact h2.elim
end
/-! ### methods -/
section
variable {X : Cx} {o e : Expr} {es : List Expr} {to : WE} {t : WA} {name : Str} {id : String} {apos cpos : Pos} {k : Nat}
theorem dic_ty {X : Cx} {pins : List (Addr × Obj)} {σ : L2.St} {H : Hp} {s : Shared} {a : Addr} {o : Obj} {kvs : List (D × D)} (h : DicAt X.kw H a o kvs) (I : Inv X pins σ H s) : s.TypeIs (.ref a) "dict" ∧ ∀ b, Value.ref a = .ref b → ∃ ob, s.heap.get? b = some ob ∧ ob.dict = none := by
  have e := h.get I
  obtain ⟨_, _, _, es, ep, h1, _⟩ := h
  exact ⟨⟨o, e, h1.1⟩, fun b z => by cases z; exact ⟨o, e, h1.2.1⟩⟩
def tMK (X : Cx) (r : V → List V → Hp → VK → Prop) (to : TE) (t : TA) : TE := fun σ H Q => to σ H fun x H1 => (∃ a o kvs, x = V.ref a ∧ DicAt X.kw H1 a o kvs) ∧ t σ H1 fun xs H2 => r x xs H2 Q
theorem pe_mK {r : V → List V → Hp → VK → Prop} {to : TE} {t : TA} (slot : Slot "dict" name id) (hty : typeOf (.builtin id) = pure (.type "method_descriptor")) (hm : MtR X id r) (ho : PE X o to) (ha : PA X (e :: es) t)
    (hbase : attributeBase o name X.env (eval o X.env) = eval o X.env := by rfl)
    (hfew : ((backTo cpos (starEach (e :: es) X.env)).all (fun x => !x.1) && (backToKw cpos (keywordEach [] X.env)).all (fun x => x.1.isSome)
      && decide ((e :: es).length + ([] : List Keyword).length + (if ([] : List Keyword).isEmpty then 0 else 1) < 30)) = true := by rfl)
    (hline : (apos.endLine == cpos.line) = true := by rfl) (hs : starEach (e :: es) X.env = (false, eval e X.env) :: starEach es X.env := by rfl) (hplain : (backTo cpos (starEach es X.env)).any (·.1) = false := by rfl) :
    PE X (.Call (.Attribute o name apos) (e :: es) [] cpos) (tMK X r to t) := by
  refine ⟨fun pins s σ H Q I h => wpAny_Call_method_late hbase hfew hline rfl (thn (ho.run pins s σ H _ I h) fun v s1 ⟨x, H1, I1, r1, ⟨a, ob, kvs, hx, hd⟩, q1⟩ => ?_)⟩
  subst hx
  cases r1
  obtain ⟨g1, g2⟩ := dic_ty hd I1
  refine ⟨"dict", id, PySem.F.plainAttrs_dict, slot, hty, g1, g2, ?_⟩
  have hA := ha.run cpos pins s1 σ H1 _ I1 q1
  rw [hs] at hA ⊢
  refine Calls.callWith_builtin (by show (false || (backTo cpos (starEach es X.env)).any (·.1)) = false; rw [hplain] <;> rfl) (Calls.evalArgs_plain ?_)
  exact thn hA fun us s2 ⟨vs, H2, I2, r2, q2⟩ => hm pins s2 σ H2 (.ref a) vs (.ref a) us Q I2 rfl r2 q2
theorem q_mK {r : V → List V → Hp → VK → Prop} {m : D → List D → Sto → WQ → Prop} (slot : Slot "dict" name id) (hty : typeOf (.builtin id) = pure (.type "method_descriptor")) (hm : MtR X id r)
    (hr : ∀ a ds S Q0 vs H Q, m (.ref a) ds S Q0 → RpAll X.kw H vs ds → SOk X.kw H S → PostE X.kw S H Q0 Q → r (.ref a) vs H Q) (ho : QE X o to) (ha : QA X (e :: es) t)
    (hbase : attributeBase o name X.env (eval o X.env) = eval o X.env := by rfl)
    (hfew : ((backTo cpos (starEach (e :: es) X.env)).all (fun x => !x.1) && (backToKw cpos (keywordEach [] X.env)).all (fun x => x.1.isSome)
      && decide ((e :: es).length + ([] : List Keyword).length + (if ([] : List Keyword).isEmpty then 0 else 1) < 30)) = true := by rfl)
    (hline : (apos.endLine == cpos.line) = true := by rfl) (hs : starEach (e :: es) X.env = (false, eval e X.env) :: starEach es X.env := by rfl) (hplain : (backTo cpos (starEach es X.env)).any (·.1) = false := by rfl) :
    QE X (.Call (.Attribute o name apos) (e :: es) [] cpos) (eMethK m to t) := (pe_mK slot hty hm ho ha hbase hfew hline hs hplain).imp' fun σ H Q ⟨env, S, Q0, er, so, q, ps⟩ => by
  refine ⟨env, S, _, er, so, q, fun d S1 h1 v H1 rv s1 f1 => ?_⟩
  split at h1
  · cases rv
    obtain ⟨ob, kvs, e1, h1⟩ := onD_iff.mp h1
    exact ⟨⟨_, ob, kvs, rfl, s1 _ _ e1⟩, env, S1, _, er.mono f1.tk, s1, h1, fun ds S2 h3 ws H2 rs s2 f2 => hr _ _ _ _ _ _ _ h3 rs s2 (ps.trans (f1.trans f2))⟩
  · exact h1.elim
theorem FndV.getD {K : Kw} {H : Hp} {o : Option D} {u : Option Value} {z : D} {x : V} {r : Value} (h : FndV K H o u) (rz : Rp K H x z) (rx : RelV x r) : ∃ v, RelV v (u.getD r) ∧ Rp K H v (o.getD z) := by
  cases o <;> cases u <;> first | exact h.elim | exact ⟨x, rx, rz⟩ | exact h
def rMGetK (X : Cx) : V → List V → Hp → VK → Prop := fun x xs H Q => ∃ a ob kvs kd, x = .ref a ∧ DicAt X.kw H a ob kvs ∧ keyOk kvs kd = true ∧
  ((∃ y, xs = [y] ∧ Rp X.kw H y kd ∧ ∀ v, Rp X.kw H v ((dicGet kvs kd).getD .non) → Q v H) ∨ ∃ y z zd, xs = [y, z] ∧ Rp X.kw H y kd ∧ Rp X.kw H z zd ∧ ∀ v, Rp X.kw H v ((dicGet kvs kd).getD zd) → Q v H)
theorem mt_getK (C : Cok X k) : MtR X "dict.get" (rMGetK X) := by
  intro pins s σ H x xs v us Q I rx rxs h
  obtain ⟨a, ob, kvs, kd, rfl, hd, hk, h⟩ := h
  cases rx
  rcases h with ⟨y, rfl, rk, q⟩ | ⟨y, z, zd, rfl, rk, rz, q⟩
  · cases rxs with
    | cons ry rt =>
    cases rt
    refine get_core I hd hk rk ry (fun b xs e hkey hm f => ?_) fun ys hkey hm f => ?_
    · subst e
      obtain ⟨w, w1, w2⟩ := f.getD (r := .none) (.non) rfl
      rw [← valueAt_pairsH] at w1
      exact get_keyed (nest_room C) hkey hd.2.1 ⟨xs, hm, rfl⟩ ⟨w, H, I.tok _, w1, q w w2⟩
    · obtain ⟨w, w1, w2⟩ := f.getD (r := .none) (.non) rfl
      exact call_meetsIn PySem.F.slot_dict_get hm.typeIs PySem.F.entry_dict_get (PySem.F.args_dict_get_2 _ _) (meets_dict_get (k3 X.prog X.w) a hkey hd.2.1) ⟨_, hm.mapOf, ⟨w, H, I.tok _, w1, q w w2⟩⟩
  · cases rxs with
    | cons ry rt =>
    cases rt with
    | cons rr rt =>
    cases rt
    refine get_core I hd hk rk ry (fun b xs e hkey hm f => ?_) fun ys hkey hm f => ?_
    · subst e
      obtain ⟨w, w1, w2⟩ := f.getD rz rr
      rw [← valueAt_pairsH] at w1
      exact getOr_keyed (nest_room C) hkey hd.2.1 ⟨xs, hm, rfl⟩ ⟨w, H, I.tok _, w1, q w w2⟩
    · obtain ⟨w, w1, w2⟩ := f.getD rz rr
      exact call_meetsIn PySem.F.slot_dict_get hm.typeIs PySem.F.entry_dict_get (PySem.F.args_dict_get_3 _ _ _) (meets_dict_get_default (k3 X.prog X.w) a hkey hd.2.1 _) ⟨_, hm.mapOf, ⟨w, H, I.tok _, w1, q w w2⟩⟩
theorem q_mgetK (C : Cok X k) {o : Expr} {to : WE} {apos cpos : Pos} (ho : QE X o to) (ha : QA X (e :: es) t)
    (hbase : attributeBase o "get" X.env (eval o X.env) = eval o X.env := by rfl)
    (hfew : ((backTo cpos (starEach (e :: es) X.env)).all (fun x => !x.1) && (backToKw cpos (keywordEach [] X.env)).all (fun x => x.1.isSome)
      && decide ((e :: es).length + ([] : List Keyword).length + (if ([] : List Keyword).isEmpty then 0 else 1) < 30)) = true := by rfl)
    (hline : (apos.endLine == cpos.line) = true := by rfl) (hs : starEach (e :: es) X.env = (false, eval e X.env) :: starEach es X.env := by rfl) (hplain : (backTo cpos (starEach es X.env)).any (·.1) = false := by rfl) :
    QE X (.Call (.Attribute o "get" apos) (e :: es) [] cpos) (eMethK mGetK to t) :=
  q_mK PySem.F.slot_dict_get PySem.F.type_dict_get (mt_getK C) (fun a ds S Q0 vs H Q h rs so ps => by
    rcases ds with _ | ⟨y, _ | ⟨z, _ | ⟨z2, ds⟩⟩⟩
    · exact h.elim
    · cases rs with
      | cons r1 r2 =>
        cases r2
        obtain ⟨ob, kvs, e1, hk, q⟩ := onD_iff.mp h
        exact ⟨_, ob, kvs, _, rfl, so _ _ e1, hk, .inl ⟨_, rfl, r1, fun v rv => ps.here so q rv⟩⟩
    · cases rs with
      | cons r1 r2 =>
      cases r2 with
      | cons r2 r3 =>
        cases r3
        obtain ⟨ob, kvs, e1, hk, q⟩ := onD_iff.mp h
        exact ⟨_, ob, kvs, _, rfl, so _ _ e1, hk, .inr ⟨_, _, _, rfl, r1, r2, fun v rv => ps.here so q rv⟩⟩
    · exact h.elim) ho ha hbase hfew hline hs hplain
end
end DL

/-! DR: dicts walked, len, list, setdefault; insert and pop of lists. -/
namespace DL
open PySem PySem.Spec PyProof.Rows L2
/-! ### list.pop(i), list.insert(i, y) -/
def mPopAt (x : D) (ds : List D) (S : Sto) (Q : WQ) : Prop := match x, ds with
  | .ref a, [.int i] => onL S a fun xs => (0 ≤ i ∧ i < 2 ^ 62) ∧ onGet xs[i.toNat]? fun d => Q d (sset S a (.lst (xs.eraseIdx i.toNat)))
  | _, _ => False
def mInsert (x : D) (ds : List D) (S : Sto) (Q : WQ) : Prop := match x, ds with
  | .ref a, [.int i, y] => onL S a fun xs => (xs.length < sizeLine ∧ 0 ≤ i ∧ i < 2 ^ 62) ∧ Q .non (sset S a (.lst (xs.take i.toNat ++ [y] ++ xs.drop i.toNat)))
  | _, _ => False
theorem seq_ix {i : Int} {n : Nat} (h : 0 ≤ i) (hl : i.toNat < n) : seqIndex? i n = some i.toNat := by
  have h1 : ¬ i < 0 := by omega
  have h2 : i < (n : Int) := by omega
  simp [seqIndex?, h1, h2, h]
theorem RpAll.erase {K : Kw} {H : Hp} {vs : List V} {ds : List D} (r : RpAll K H vs ds) : ∀ k : Nat, RpAll K H (vs.eraseIdx k) (ds.eraseIdx k) := by
  induction r using RpAll.rec (motive_1 := fun _ _ _ => True) with
  | nil => intro k; simp; exact .nil
  | cons h t _ ih =>
    intro k
    cases k with
    | zero => exact t
    | succ k => exact .cons h (ih k)
  | _ => trivial
section
variable {X : Cx} {e : Expr} {es : List Expr} {t : WA}
theorem q_popAt {o : Expr} {to : WE} {apos cpos : Pos} (ho : QE X o to) (ha : QA X (e :: es) t)
    (hbase : attributeBase o "pop" X.env (eval o X.env) = eval o X.env := by rfl)
    (hfew : ((backTo cpos (starEach (e :: es) X.env)).all (fun x => !x.1) && (backToKw cpos (keywordEach [] X.env)).all (fun x => x.1.isSome)
      && decide ((e :: es).length + ([] : List Keyword).length + (if ([] : List Keyword).isEmpty then 0 else 1) < 30)) = true := by rfl)
    (hline : (apos.endLine == cpos.line) = true := by rfl) (hs : starEach (e :: es) X.env = (false, eval e X.env) :: starEach es X.env := by rfl) (hplain : (backTo cpos (starEach es X.env)).any (·.1) = false := by rfl) :
    QE X (.Call (.Attribute o "pop" apos) (e :: es) [] cpos) (eMethL mPopAt to t) :=
  q_methL PySem.F.slot_list_pop PySem.F.type_list_pop mt_popAt (fun a ds S Q0 vs H Q h rs so ps => by
    unfold mPopAt at h
    split at h
    · rename_i a' i he
      cases he
      cases rs with
      | cons r1 r2 =>
        cases r1; cases r2
        obtain ⟨xs, e1, ⟨h0, h1⟩, h⟩ := onL_iff.mp h
        obtain ⟨ws, h2, r3, hz⟩ := so.lst e1
        unfold onGet at h
        split at h
        · rename_i d hd
          obtain ⟨v, hv, rv⟩ := r3.get hd
          have hl : i.toNat < xs.length := (List.getElem?_eq_some_iff.mp hd).1
          have hs : seqIndex? i ws.length = some i.toNat := by
            rw [r3.length]
            exact seq_ix h0 hl
          refine ⟨_, ws, i, i.toNat, v, rfl, rfl, h2, by omega, by omega, hs, hv, ?_⟩
          exact ps _ _ h _ _ (rv.mono (.set h2)) (so.set e1 h2 (r3.erase _) (Nat.le_trans (List.length_eraseIdx_le _ _) hz)) (.set e1 h2)
        · exact h.elim
    · exact h.elim) ho ha hbase hfew hline hs hplain
theorem q_insert {o : Expr} {to : WE} {apos cpos : Pos} (ho : QE X o to) (ha : QA X (e :: es) t)
    (hbase : attributeBase o "insert" X.env (eval o X.env) = eval o X.env := by rfl)
    (hfew : ((backTo cpos (starEach (e :: es) X.env)).all (fun x => !x.1) && (backToKw cpos (keywordEach [] X.env)).all (fun x => x.1.isSome)
      && decide ((e :: es).length + ([] : List Keyword).length + (if ([] : List Keyword).isEmpty then 0 else 1) < 30)) = true := by rfl)
    (hline : (apos.endLine == cpos.line) = true := by rfl) (hs : starEach (e :: es) X.env = (false, eval e X.env) :: starEach es X.env := by rfl) (hplain : (backTo cpos (starEach es X.env)).any (·.1) = false := by rfl) :
    QE X (.Call (.Attribute o "insert" apos) (e :: es) [] cpos) (eMethL mInsert to t) :=
  q_methL PySem.F.slot_list_insert PySem.F.type_list_insert mt_insert (fun a ds S Q0 vs H Q h rs so ps => by
    unfold mInsert at h
    split at h
    · rename_i a' i y he
      cases he
      cases rs with
      | cons r1 r2 =>
      cases r2 with
      | cons r2 r3 =>
        cases r1; cases r3
        obtain ⟨xs, e1, ⟨hz, h0, h1⟩, q⟩ := onL_iff.mp h
        obtain ⟨ws, h2, r3, _⟩ := so.lst e1
        exact ⟨_, ws, i, _, rfl, rfl, h2, by rw [r3.length]; exact hz, h0, by omega,
          ps _ _ q _ _ .non (so.set e1 h2 (((RpAll.take _ r3).append (.cons r2 .nil)).append (RpAll.drop _ r3)) (by simp only [List.length_append, List.length_take, List.length_drop, List.length_cons, List.length_nil]; omega)) (.set e1 h2)⟩
    · exact h.elim) ho ha hbase hfew hline hs hplain
end
/-! ### a dict's entries -/
section
variable {X : Cx} {pins : List (Addr × Obj)} {σ : L2.St} {H : Hp} {s : Shared} {a : Addr} {o : Obj} {kvs : List (D × D)}
/-- a value over addresses, of this datum -/
def Itm (K : Kw) (H : Hp) (u : Value) (d : D) : Prop := ∃ v, RelV v u ∧ Rp K H v d
theorem leaf_rp {K : Kw} {H : Hp} {d : D} {u : Value} (h : keyL d = true) (hk : (k3 K.P K.w).is (leafD d) u = true) : Itm K H u d := by
  cases d <;> first | (exfalso; cases h; done) | skip
  · have : u = .none := by
      change (Leaf.isOf .none u && noB u) = true at hk
      cases u <;> first | rfl | (exfalso; simp [Leaf.isOf] at hk)
    exact ⟨.non, this, .non⟩
  · rename_i i
    obtain ⟨t, rfl⟩ : ∃ t, u = .int i t := by
      change (Leaf.isOf (.num i) u && noB u) = true at hk
      cases u <;> simp_all [Leaf.isOf, noB]
    exact ⟨.int i, ⟨t, rfl⟩, .int i⟩
  · rename_i x
    obtain ⟨t, rfl⟩ : ∃ t, u = .str x t := by
      change (Leaf.isOf (.text x) u && noB u) = true at hk
      cases u <;> simp_all [Leaf.isOf, noB, Value.isStrOf]
    exact ⟨.str x, ⟨t, rfl⟩, .str x⟩
theorem pairs_at {K : Kw} {es : List DictEntry} {ys : List (Leaf × Value)} (h : Pairs (k3 K.P K.w) es ys) : ∀ {i : Nat} {y : Leaf × Value}, ys[i]? = some y → ∃ en, es[i]? = some en ∧ (k3 K.P K.w).is y.1 en.key = true ∧ en.val = y.2 := by
  induction h with
  | nil => intro i y e; simp at e
  | cons h1 h2 _ ih =>
    intro i y e
    cases i with
    | zero =>
      have e : _ = y := Option.some.inj e
      subst e
      exact ⟨_, rfl, h1, h2⟩
    | succ i => exact ih (by simpa using e)
/-- the entries, one by one -/
structure Ents (K : Kw) (H : Hp) (o : Obj) (kvs : List (D × D)) (es : Array DictEntry) (ep : Nat) : Prop where
  cls : o.ExactDict
  data : o.data = .dict es ep
  size : es.size = kvs.length
  at' : ∀ (i : Nat) (p : D × D), kvs[i]? = some p → ∃ en, es[i]? = some en ∧ Itm K H en.key p.1 ∧ Itm K H en.val p.2
theorem dic_ents {K : Kw} {H : Hp} {a : Addr} {o : Obj} {kvs : List (D × D)} (h : DicAt K H a o kvs) : ∃ es ep, Ents K H o kvs es ep := by
  obtain ⟨_, _, _, es, ep, h1, h2, h3⟩ := h
  refine ⟨es, ep, h1, h2, ?_, ?_⟩
  · rw [← Array.length_toList]
    rcases h3 with ⟨xs, e1, e2, e3⟩ | ⟨ys, e1, e2, e3, e4⟩
    · rw [e1, List.length_map]
      exact (Paired.length e3).symm
    · rw [e2.length]
      exact (Paired.length e4).symm
  · intro i p hp
    rcases h3 with ⟨xs, e1, e2, e3⟩ | ⟨ys, e1, e2, e3, e4⟩
    · obtain ⟨x, hx, r⟩ := Paired.getL e3 hp
      refine ⟨entryOfKey (nestedKind K.P K.w) x, ?_, ⟨.ref x.2.1, rfl, r.key⟩, r.val⟩
      rw [← Array.getElem?_toList, e1, List.getElem?_map, hx]
      rfl
    · obtain ⟨y, hy, r⟩ := Paired.getL e4 hp
      obtain ⟨en, h4, h5, h6⟩ := pairs_at e2 hy
      refine ⟨en, by rw [← Array.getElem?_toList]; exact h4, leaf_rp r.ok (by rw [← r.eq]; exact h5), ?_⟩
      rw [h6]
      exact r.val
theorem Ents.raw {es : Array DictEntry} {ep : Nat} (h : Ents X.kw H o kvs es ep) (I : Inv X pins σ H s) (hd : H a = some (DicO a o)) : s.heap.DictRaw a es ep := ⟨o, (I.hok a _ hd).1, h.cls, h.data⟩
end
/-! ### for k in d, for v in d.values() -/
/-- the keys (w = false) or the values of the dict whose object is o -/
def entV (w : Bool) (en : DictEntry) : Value := if w then en.val else en.key
def entD (w : Bool) (p : D × D) : D := if w then p.2 else p.1
def ItD (w : Bool) (a : Addr) (o : Obj) (es : Array DictEntry) : L2.It :=
  ⟨fun i H => H a = some (DicO a o) ∧ i < es.size, fun i H x H' => H' = H ∧ ∃ en, es[i]? = some en ∧ RelV x (entV w en), fun i H => H a = some (DicO a o) ∧ es.size ≤ i⟩
def vOf : Value → V
  | .none => .non
  | .bool b => .bl b
  | .int i _ => .int i
  | .str x _ => .str x
  | .bytes b _ => .byt b
  | .float b _ => .flt b
  | .ref a => .ref a
  | .type n => .ty n
  | _ => .non
theorem vOf_rel {v : V} {u : Value} (h : L2.RelV v u) : vOf u = v := by
  cases v <;> first | (cases h; rfl) | (obtain ⟨t, rfl⟩ := h; rfl)
theorem relV_inj {v v' : V} {u : Value} (h : L2.RelV v u) (h' : L2.RelV v' u) : v = v' := by rw [← vOf_rel h, ← vOf_rel h']
section
variable {P : Program} {w : World} {K : PySem.W.Frag} {tg : Expr} {a : Addr} {o : Obj} {es : Array DictEntry} {ep : Nat}
theorem raw_of {X : Cx} {pins : List (Addr × Obj)} {σ : L2.St} {H : Hp} {s : Shared} (I : Inv X pins σ H s) (hc : o.ExactDict) (hd : o.data = .dict es ep) (h : H a = some (DicO a o)) : s.heap.DictRaw a es ep := ⟨o, (I.hok a _ h).1, hc, hd⟩
theorem turn_dk (it : Addr) (hc' : o.ExactDict) (hdt : o.data = .dict es ep) (hcar : ∀ (X : Cx) (pins : List (Addr × Obj)) (σ : L2.St) (H : Hp) (s : Shared) (i : Nat) (en : DictEntry), X.prog = P → X.w = w → Inv X pins σ H s → H a = some (DicO a o) → es[i]? = some en → ∃ x, RelV x en.key) :
    Turn P w K tg (ItD false a o es) [it] it (fun i h => h.IsKeyIter it a i es.size ep) where
  mem := by simp
  obj := fun i h st b hb => by
    obtain rfl : b = it := by simpa using hb
    obtain ⟨oi, e, c, dd⟩ := st
    exact ⟨oi, e, fun v z => by rw [dd] at z; cases z⟩
  keep := fun i h h' st k => st.at fun oi e => k it (by simp) oi e
  item := by
    intro X hP hw hK hc i pins s σ H E I hf st hg
    subst hP hw hK
    obtain ⟨hd, hi⟩ := hg
    obtain ⟨f0, f1, f2, f3, f4, f5⟩ := hf it (by simp)
    refine wpAny_pyNext_keys_item_raw st (raw_of I hc' hdt hd) hi fun h' st' sb => ?_
    have I1 : Inv X pins σ H { s with heap := h' } := I.turned (t' := s.toks) (fun b ob hb e => (sb.2 b hb).trans e) f0 f1 f3 f4 f5
    obtain ⟨oi, e, c, dd⟩ := id st'
    obtain ⟨x, rx⟩ := hcar X pins σ H s i es[i] rfl rfl I hd (Array.getElem?_eq_getElem hi)
    exact ⟨es[i].key, rfl, go_of (s := { s with heap := h' }) e c dd (by decide) ⟨x, H, I1, rx, ⟨rfl, _, Array.getElem?_eq_getElem hi, rx⟩, st', fun b hb => (hf b hb).1⟩⟩
  done := by
    intro X hP hw hK hc i pins s σ H E I hf st hg
    subst hP hw hK
    obtain ⟨hd, hi⟩ := hg
    obtain ⟨f0, f1, f2, f3, f4, f5⟩ := hf it (by simp)
    exact wpAny_pyNext_keys_end_raw (I.ok.hd hc) st (raw_of I hc' hdt hd) hi fun h' eb => ⟨rfl, I.turned (t' := s.toks) (fun b ob hb e => eb b ob hb e) f0 f1 f3 f4 f5⟩
  self := fun A i s Q E st h => wpAny_pyIter_keyiter st h
theorem turn_dv (it : Addr) (hc' : o.ExactDict) (hdt : o.data = .dict es ep) (hcar : ∀ (X : Cx) (pins : List (Addr × Obj)) (σ : L2.St) (H : Hp) (s : Shared) (i : Nat) (en : DictEntry), X.prog = P → X.w = w → Inv X pins σ H s → H a = some (DicO a o) → es[i]? = some en → ∃ x, RelV x en.val) :
    Turn P w K tg (ItD true a o es) [it] it (fun i h => h.IsValIter it a i es.size ep) where
  mem := by simp
  obj := fun i h st b hb => by
    obtain rfl : b = it := by simpa using hb
    obtain ⟨oi, e, c, dd⟩ := st
    exact ⟨oi, e, fun v z => by rw [dd] at z; cases z⟩
  keep := fun i h h' st k => st.at fun oi e => k it (by simp) oi e
  item := by
    intro X hP hw hK hc i pins s σ H E I hf st hg
    subst hP hw hK
    obtain ⟨hd, hi⟩ := hg
    obtain ⟨f0, f1, f2, f3, f4, f5⟩ := hf it (by simp)
    refine wpAny_pyNext_values_item_raw st (raw_of I hc' hdt hd) hi fun h' st' sb => ?_
    have I1 : Inv X pins σ H { s with heap := h' } := I.turned (t' := s.toks) (fun b ob hb e => (sb.2 b hb).trans e) f0 f1 f3 f4 f5
    obtain ⟨oi, e, c, dd⟩ := id st'
    obtain ⟨x, rx⟩ := hcar X pins σ H s i es[i] rfl rfl I hd (Array.getElem?_eq_getElem hi)
    exact ⟨es[i].val, rfl, go_of (s := { s with heap := h' }) e c dd (by decide) ⟨x, H, I1, rx, ⟨rfl, _, Array.getElem?_eq_getElem hi, rx⟩, st', fun b hb => (hf b hb).1⟩⟩
  done := by
    intro X hP hw hK hc i pins s σ H E I hf st hg
    subst hP hw hK
    obtain ⟨hd, hi⟩ := hg
    obtain ⟨f0, f1, f2, f3, f4, f5⟩ := hf it (by simp)
    exact wpAny_pyNext_values_end_raw (I.ok.hd hc) st (raw_of I hc' hdt hd) hi fun h' eb => ⟨rfl, I.turned (t' := s.toks) (fun b ob hb e => eb b ob hb e) f0 f1 f3 f4 f5⟩
  self := fun A i s Q E st h => wpAny_pyIter_valiter st h
end
theorem ents_rel {K : Kw} {H : Hp} {o : Obj} {kvs : List (D × D)} {es : Array DictEntry} {ep : Nat} (h : Ents K H o kvs es ep) {i : Nat} {en : DictEntry} (e : es[i]? = some en) (w : Bool) : ∃ x, RelV x (entV w en) := by
  have hi : i < kvs.length := by
    rw [← h.size]
    exact (Array.getElem?_eq_some_iff.mp e).1
  obtain ⟨en', e', ⟨x, rx, _⟩, ⟨y, ry, _⟩⟩ := h.at' i kvs[i] (List.getElem?_eq_getElem hi)
  rw [e] at e'
  cases e'
  cases w
  · exact ⟨x, rx⟩
  · exact ⟨y, ry⟩
theorem itr_dic {K : Kw} {H0 : Hp} {a : Addr} {o : Obj} {kvs : List (D × D)} {es : Array DictEntry} {ep : Nat} (w : Bool) (hz : kvs.length ≤ sizeLine) (h : Ents K H0 o kvs es ep) : ItR K H0 ⟨kvs.map (entD w), fun S => sget S a = some (.dic o kvs)⟩ (ItD w a o es) :=
  ⟨by simpa using hz, fun i H S x so tk chk hx => by
    have hd : DicAt K H a o kvs := so _ _ chk
    simp only [List.getElem?_map, Option.map_eq_some_iff] at hx
    obtain ⟨p, hp, rfl⟩ := hx
    obtain ⟨es', ep', h'⟩ := dic_ents hd
    have e0 := h.data.symm.trans h'.data
    cases e0
    obtain ⟨en, e1, ⟨k, rk, ik⟩, ⟨v, rv, iv⟩⟩ := h'.at' i p hp
    refine ⟨⟨hd.1, (Array.getElem?_eq_some_iff.mp e1).1⟩, fun z H' ⟨eH, en', e2, rz⟩ => ?_⟩
    subst eH
    rw [e1] at e2
    cases e2
    refine ⟨?_, so, .refl _ _⟩
    cases w
    · rw [relV_inj rz rk]; exact ik
    · rw [relV_inj rz rv]; exact iv, fun i H S so tk chk hi => by
    have hd : DicAt K H a o kvs := so _ _ chk
    exact ⟨hd.1, by rw [h.size]; simpa using hi⟩⟩
section
variable {X : Cx} {tg e : Expr} {te : WE} {apos cpos : Pos}
/-- the rule for the heap's side -/
def iDV (w : Bool) (K : Kw) (td : TE) : TI := fun σ H R => td σ H fun x H1 => ∃ a o kvs es ep, x = .ref a ∧ DicAt K H1 a o kvs ∧ Ents K H1 o kvs es ep ∧ R (ItD w a o es) H1
theorem rel_car {K : Kw} {H1 : Hp} {o : Obj} {kvs : List (D × D)} {es : Array DictEntry} {ep : Nat} (h : Ents K H1 o kvs es ep) (w : Bool) (i : Nat) (en : DictEntry) (e : es[i]? = some en) : ∃ x, RelV x (entV w en) := ents_rel h e w
theorem pi_dk {td : TE} (he : PE X e td) : PI X tg e (iDV false X.kw td) := by
  refine ⟨fun pins s σ H R I h => ?_⟩
  refine thn (he.run pins s σ H _ I h) fun u s1 ⟨x, H1, I1, rx, a, o, kvs, es, ep, ex, hd, en, q⟩ => ?_
  subst ex
  obtain rfl : u = Value.ref a := rx
  exact wpAny_pyIter_dict_raw hd.2.1 (en.raw I1 hd.1) (pi_one (tk := s1.toks) I1 _ (turn_dk _ en.cls en.data fun _ _ _ _ _ i en' _ _ _ _ e' => ents_rel en e' false) ⟨_, Heap.get?_push_size _ rfl, rfl, rfl⟩ q)
theorem qi_keysK (h : QE X e te) : QI X tg e (iKeysK te) := (pi_dk h).imp' fun σ H R ⟨env, S, R0, er, so, q, ps⟩ => by
  refine ⟨env, S, _, er, so, q, fun x S1 h1 v H1 rv s1 f1 => ?_⟩
  split at h1
  · cases rv
    obtain ⟨o, kvs, e, h1⟩ := onD_iff.mp h1
    have hd : DicAt X.kw H1 _ o kvs := s1 _ _ e
    obtain ⟨es, ep, en⟩ := dic_ents hd
    exact ⟨_, o, kvs, es, ep, rfl, hd, en, ps _ _ (h1 hd.2.2.1) _ _ (itr_dic false hd.2.2.1 en) s1 f1⟩
  · exact h1.elim
theorem dic_raw_ty {s : Shared} {a : Addr} {es : Array DictEntry} {ep : Nat} (h : s.heap.DictRaw a es ep) : s.TypeIs (.ref a) "dict" ∧ ∀ b, Value.ref a = .ref b → ∃ ob, s.heap.get? b = some ob ∧ ob.dict = none := by
  obtain ⟨o, e, c, d⟩ := h
  exact ⟨⟨o, e, c.1⟩, fun b z => by cases z; exact ⟨o, e, c.2.1⟩⟩
theorem pi_dv {td : TE} (he : PE X e td) (hbase : attributeBase e "values" X.env (eval e X.env) = eval e X.env := by rfl) (hline : (apos.endLine == cpos.line) = true := by rfl) : PI X tg (.Call (.Attribute e "values" apos) [] [] cpos) (iDV true X.kw td) := by
  refine ⟨fun pins s σ H R I h => ?_⟩
  refine wpAny_Call_method (T := "dict") (id := "dict.values") hbase rfl hline PySem.F.plainAttrs_dict PySem.F.slot_dict_values PySem.F.type_dict_values (thn (he.run pins s σ H _ I h) fun u s1 ⟨x, H1, I1, rx, a, o, kvs, es, ep, ex, hd, en, q⟩ => ?_)
  subst ex
  obtain rfl : u = Value.ref a := rx
  have raw := en.raw I1 hd.1
  obtain ⟨t1, t2⟩ := dic_raw_ty raw
  refine ⟨t1, t2, ?_⟩
  have I2 : Inv X pins σ H1 { s1 with heap := s1.heap.push { cls := .type "dict_values", data := .fields #[.ref a] } } := I1.kept (t' := s1.toks) fun b ob q => Heap.get?_push_of_some _ q
  have fin : wpAny (model X.prog X.w) X.A (pyIter (.ref s1.heap.objs.size)) (PIE X pins σ tg R) X.xe { s1 with heap := s1.heap.push { cls := .type "dict_values", data := .fields #[.ref a] } } :=
    wpAny_pyIter_values_raw (d := a) ⟨_, Heap.get?_push_size _ rfl, rfl, rfl⟩ (raw.push _) (pi_one (tk := s1.toks) I2 _ (turn_dv _ en.cls en.data fun _ _ _ _ _ i en' _ _ _ _ e' => ents_rel en e' true) ⟨_, Heap.get?_push_size _ rfl, rfl, rfl⟩ q)
  show wpAny _ _ (callWith cpos (.builtin "dict.values") [.ref a] [] []) _ X.xe s1
  exact method_meetsIn PySem.F.slot_dict_values PySem.F.entry_dict_values rfl (PySem.evalArgs_none ⟨rfl, t1, PySem.F.args_dict_values_1 _, _, meets_dict_values_raw a hd.2.1, ⟨es, ep, raw⟩, fin⟩)
theorem qi_valsK (h : QE X e te) (hbase : attributeBase e "values" X.env (eval e X.env) = eval e X.env := by rfl) (hline : (apos.endLine == cpos.line) = true := by rfl) : QI X tg (.Call (.Attribute e "values" apos) [] [] cpos) (iValsK te) := (pi_dv h hbase hline).imp' fun σ H R ⟨env, S, R0, er, so, q, ps⟩ => by
  refine ⟨env, S, _, er, so, q, fun x S1 h1 v H1 rv s1 f1 => ?_⟩
  split at h1
  · cases rv
    obtain ⟨o, kvs, e, h1⟩ := onD_iff.mp h1
    have hd : DicAt X.kw H1 _ o kvs := s1 _ _ e
    obtain ⟨es, ep, en⟩ := dic_ents hd
    exact ⟨_, o, kvs, es, ep, rfl, hd, en, ps _ _ (h1 hd.2.2.1) _ _ (itr_dic true hd.2.2.1 en) s1 f1⟩
  · exact h1.elim
end
/-! ### len(d), list(d) -/
section
variable {X : Cx}
theorem dic_or {pins : List (Addr × Obj)} {σ : L2.St} {H : Hp} {s : Shared} {a : Addr} {o : Obj} {kvs : List (D × D)} (h : DicAt X.kw H a o kvs) (I : Inv X pins σ H s) :
    (∃ xs, s.heap.DictOfH (nestedKind X.prog X.w) a xs ∧ kvs.length = xs.length) ∨ ∃ ys, s.heap.DictOf (k3 X.prog X.w) a ys ∧ kvs.length = ys.length := by
  obtain ⟨_, _, _, es, ep, h1, h2, h3⟩ := id h
  rcases h3 with ⟨xs, e1, e2, e3⟩ | ⟨ys, e1, e2, e3, e4⟩
  · have hk : (kvs.all fun kv => keyT kv.1) = true := by
      rw [List.all_eq_true]
      intro kv hkv
      obtain ⟨i, hi, rfl⟩ := List.getElem_of_mem hkv
      obtain ⟨x, _, r⟩ := Paired.getL e3 (List.getElem?_eq_getElem hi)
      exact r.ok
    obtain ⟨xs', h4, h5⟩ := dic_T h I hk
    exact .inl ⟨xs', h4, Paired.length h5⟩
  · have hk : (kvs.all fun kv => keyL kv.1) = true := by
      rw [List.all_eq_true]
      intro kv hkv
      obtain ⟨i, hi, rfl⟩ := List.getElem_of_mem hkv
      obtain ⟨x, _, r⟩ := Paired.getL e4 (List.getElem?_eq_getElem hi)
      exact r.ok
    obtain ⟨ys', h4, h5⟩ := dic_L h I hk
    exact .inr ⟨ys', h4, Paired.length h5⟩
def rLenK (K : Kw) : List V → Hp → VK → Prop := fun xs H Q => ∃ a o kvs, xs = [.ref a] ∧ DicAt K H a o kvs ∧ Q (.int ((kvs.length : Nat) : Int)) H
theorem cr_lenK : CallR X (.builtin "len") (rLenK X.kw) := by
  intro pins s σ H xs us Q I r h
  obtain ⟨a, o, kvs, rfl, hd, q⟩ := h
  obtain ⟨u, rfl, rx⟩ := vals1 r
  obtain rfl : u = .ref a := rx
  have hz := hd.2.2.1
  have hl := line63
  rcases dic_or hd I with ⟨xs, hx, e⟩ | ⟨ys, hy, e⟩
  · exact call_len_dictH hd.2.1 hx (by omega) ⟨.int _, H, I.tok _, ⟨_, by rw [← e]⟩, q⟩
  · exact call_len_dict hd.2.1 hy (by omega) ⟨.int _, H, I.tok _, ⟨_, by rw [← e]⟩, q⟩
theorem bf_lenK : Bfr X (rLenK X.kw) bLenK := fun ds S Q0 vs H Q h rs so ps => by
  unfold bLenK at h
  split at h
  · cases rs with
    | cons r1 r2 =>
      cases r1; cases r2
      obtain ⟨o, kvs, e, q⟩ := onD_iff.mp h
      exact ⟨_, o, kvs, rfl, so _ _ e, ps.here so q (.int _)⟩
  · exact h.elim
def rListK (K : Kw) : List V → Hp → VK → Prop := fun xs H Q => ∃ a o kvs, xs = [.ref a] ∧ DicAt K H a o kvs ∧ ∀ vs p, RpAll K H vs (kvs.map (·.1)) → H p = none → Q (.ref p) (upd H p (.lst vs))
theorem keys_of {K : Kw} {H : Hp} {es : Array DictEntry} : ∀ (us : List Value) (ds : List D), us.length = ds.length → (∀ (i : Nat) (u : Value) (d : D), us[i]? = some u → ds[i]? = some d → Itm K H u d) → ∃ vs, Vals vs us ∧ RpAll K H vs ds
  | [], [], _, _ => ⟨[], .nil, .nil⟩
  | u :: us, d :: ds, hl, h => by
    obtain ⟨v, r1, r2⟩ := h 0 u d rfl rfl
    obtain ⟨vs, r3, r4⟩ := keys_of (es := es) us ds (by simpa using hl) fun i u' d' e1 e2 => h (i + 1) u' d' (by simpa using e1) (by simpa using e2)
    exact ⟨v :: vs, .cons r1 r3, .cons r2 r4⟩
  | [], _ :: _, hl, _ => by simp at hl
  | _ :: _, [], hl, _ => by simp at hl
theorem cr_listK (hc : X.calm = true) : CallR X (.type "list") (rListK X.kw) := by
  intro pins s σ H xs us Q I r h
  obtain ⟨a, o, kvs, rfl, hd, q⟩ := h
  obtain ⟨u, rfl, rx⟩ := vals1 r
  obtain rfl : u = .ref a := rx
  obtain ⟨es, ep, en⟩ := dic_ents hd
  have raw := en.raw I hd.1
  have hz := hd.2.2.1
  refine PySem.W.kdl_call (PySem.KdlSrc.rawDict hd.2.1) (I.ok.hd hc) raw (by rw [en.size]; exact hz) fun h' tk acc c' hk hD hacc => ?_
  obtain ⟨vs, v1, v2⟩ := keys_of (K := X.kw) (H := H) (es := es) acc.toList (kvs.map (·.1)) (by rw [Array.length_toList, List.length_map, hacc.1, en.size]) fun i u d e1 e2 => by
    obtain ⟨hi, e3⟩ := hacc.2 i u (by rw [← Array.getElem?_toList]; exact e1)
    rw [List.getElem?_map, Option.map_eq_some_iff] at e2
    obtain ⟨p, hp, rfl⟩ := e2
    obtain ⟨en', e4, e5, _⟩ := en.at' i p hp
    rw [Array.getElem?_eq_getElem hi] at e4
    cases e4
    rw [e3]
    exact e5
  refine ⟨.ref s.heap.objs.size, upd H s.heap.objs.size (.lst vs), I.laid (t' := tk) hk (Nat.le_refl _)
    (show ObjOk X.prog X.w _ _ _ (.lst vs) from ⟨by rw [v2.length, List.length_map]; exact hz, acc.toList, c', v1, by rw [Array.toArray_toList]; exact hD⟩), rfl, q vs _ v2 (I.hok.fresh (Nat.le_refl _))⟩
theorem bf_listK : Bfr X (rListK X.kw) bListK := fun ds S Q0 vs H Q h rs so ps => by
  unfold bListK at h
  split at h
  · cases rs with
    | cons r1 r2 =>
      cases r1; cases r2
      obtain ⟨o, kvs, e, q⟩ := onD_iff.mp h
      have hd : DicAt X.kw H _ o kvs := so _ _ e
      refine ⟨_, o, kvs, rfl, hd, fun vs p rv hp => ?_⟩
      exact ps.made so rv (by rw [List.length_map]; exact hd.2.2.1) q p hp
  · exact h.elim
end
/-! ### d.setdefault(k, z) -/
section
variable {X : Cx} {e : Expr} {es : List Expr} {t : WA} {k : Nat}
def rSetdK (X : Cx) : V → List V → Hp → VK → Prop := fun x xs H Q => ∃ a o kvs kd y z zd, x = .ref a ∧ xs = [y, z] ∧ Rp X.kw H y kd ∧ Rp X.kw H z zd ∧ DicAt X.kw H a o kvs ∧ keyOk kvs kd = true ∧ kvs.length < sizeLine ∧
  (∀ v d, dicGet kvs kd = some d → Rp X.kw H v d → Q v H) ∧ (dicGet kvs kd = none → DSet X.kw H a o kvs kd zd (Q z))
theorem mt_setdK (C : Cok X k) : MtR X "dict.setdefault" (rSetdK X) := by
  intro pins s σ H x xs v us Q I rx rxs h
  obtain ⟨a, o, kvs, kd, y, z, zd, rfl, rfl, rk, rz, hd, hk, hz, q1, q2⟩ := h
  cases rx
  obtain ⟨u, r, rfl, ru, rr⟩ := rxs.two
  have there : ∀ (w : Option Value) (s' : Shared), Inv X pins σ H s' → FndV X.kw H (dicGet kvs kd) w → ∀ r', w = some r' → EP X pins σ Q r' s' := fun w s' I' f r' e => by
    subst e
    cases hg : dicGet kvs kd with
    | none => rw [hg] at f; exact f.elim
    | some d =>
      rw [hg] at f
      obtain ⟨v, rv, rd⟩ := f
      exact ⟨v, H, I', rv, q1 v d hg rd⟩
  have gone : ∀ w : Option Value, FndV X.kw H (dicGet kvs kd) w → w = none → dicGet kvs kd = none := fun w f e => by
    subst e
    cases hg : dicGet kvs kd with
    | none => rfl
    | some d => rw [hg] at f; exact f.elim
  have hl := dicPut_len kvs kd zd
  rcases keyOk_or hk with ⟨h1, h2⟩ | ⟨h1, h2⟩
  · obtain ⟨ys, hy, pr⟩ := dic_T hd I h2
    obtain ⟨b, rfl⟩ := keyT_ref h1 rk
    obtain rfl : u = .ref b := ru
    have f := getT (k := kd) pr
    refine call_setdefault_heap (hsz := by rw [← Paired.length pr]; exact hd.2.2.1) (nest_room C) (key_is I h1 rk) hd.2.1 hy (fun p hp => there _ _ (I.tok _) f _ (by rw [hp]; rfl)) fun hn h' dd hs => ?_
    obtain ⟨o', es', ep, e1, e2, e3, e4, _, e6⟩ := dd
    have tk : Tk H (upd H a (DicO a o')) := dicO_tk hd.1
    refine ⟨z, _, dic_write (o' := o') I hd hs e1, rr, q2 (gone _ f (by rw [hn]; rfl)) o' ⟨upd_same, hd.2.1, by omega, es', ep, e2, e3, .inl ⟨_, e4, e6, Paired.mapP (putT h1 rk rr rz pr) fun _ _ z => z.mono tk⟩⟩ tk⟩
  · obtain ⟨ys, hy, pr⟩ := dic_L hd I h2
    have f := getL h1 pr
    refine call_meetsIn PySem.F.slot_dict_setdefault hy.typeIs PySem.F.entry_dict_setdefault (PySem.F.args_dict_setdefault_3 _ _ _) (kt_meets_setdefault (k3 X.prog X.w) a (leaf_is h1 rk ru) hd.2.1 r) ⟨ys, hy, by rw [← Paired.length pr]; exact hd.2.2.1, fun v hv => there _ _ (I.tok _) f _ hv, fun hn h' dd hs => ?_⟩
    obtain ⟨o', es', ep, e1, e2, e3, e4, e5, e6⟩ := dd
    have tk : Tk H (upd H a (DicO a o')) := dicO_tk hd.1
    exact ⟨z, _, dic_write (o' := o') I hd hs e1, rr, q2 (gone _ f hn) o' ⟨upd_same, hd.2.1, by omega, es', ep, e2, e3, .inr ⟨_, e4, e5, e6, Paired.mapP (putL h1 rr rz pr) fun _ _ z => z.mono tk⟩⟩ tk⟩
theorem q_setdK (C : Cok X k) {o : Expr} {to : WE} {apos cpos : Pos} (ho : QE X o to) (ha : QA X (e :: es) t)
    (hbase : attributeBase o "setdefault" X.env (eval o X.env) = eval o X.env := by rfl)
    (hfew : ((backTo cpos (starEach (e :: es) X.env)).all (fun x => !x.1) && (backToKw cpos (keywordEach [] X.env)).all (fun x => x.1.isSome)
      && decide ((e :: es).length + ([] : List Keyword).length + (if ([] : List Keyword).isEmpty then 0 else 1) < 30)) = true := by rfl)
    (hline : (apos.endLine == cpos.line) = true := by rfl) (hs : starEach (e :: es) X.env = (false, eval e X.env) :: starEach es X.env := by rfl) (hplain : (backTo cpos (starEach es X.env)).any (·.1) = false := by rfl) :
    QE X (.Call (.Attribute o "setdefault" apos) (e :: es) [] cpos) (eMethK mSetdefK to t) :=
  q_mK PySem.F.slot_dict_setdefault PySem.F.type_dict_setdefault (mt_setdK C) (fun a ds S Q0 vs H Q h rs so ps => by
    unfold mSetdefK at h
    rcases ds with _ | ⟨y, _ | ⟨z, _ | ⟨z2, ds⟩⟩⟩
    · exact h.elim
    · exact h.elim
    · cases rs with
      | cons r1 r2 =>
      cases r2 with
      | cons r2 r3 =>
        cases r3
        obtain ⟨ob, kvs, e1, ⟨hk, hz⟩, q1, q2⟩ := onD_iff.mp h
        refine ⟨_, ob, kvs, y, _, _, z, rfl, rfl, r1, r2, so _ _ e1, hk, hz, fun v d hg rv => ps.here so (q1 d hg) rv, fun hn o' d' tk => ?_⟩
        exact ps _ _ (q2 hn o') _ _ (r2.mono tk) (so.setX e1 tk d') (.setX e1 tk)
    · exact h.elim) ho ha hbase hfew hline hs hplain
end
end DL

/-! DS: dict comprehensions; list(reversed(a list)). -/
namespace DL
open PySem PySem.Spec PyProof.Rows L2
/-! ### {k: v for ..} -/
section
variable {X : Cx} {k : Nat}
theorem d_dset {pins : List (Addr × Obj)} {σ : L2.St} {H : Hp} {s : Shared} {E : Value → Shared → Prop} {p : Addr} {o : Obj} {kvs : List (D × D)} {kd d : D} {y v : V} {u r : Value} {Nx : Hp → Prop} {Q : Unit → Shared → Prop} (C : Cok X k) (I : Inv X pins σ H s) (h : DicAt X.kw H p o kvs) (hk : keyOk kvs kd = true) (hz : kvs.length < sizeLine)
    (rk : Rp X.kw H y kd) (ru : L2.RelV y u) (rd : Rp X.kw H v d) (rv : L2.RelV v r) (q : DSet X.kw H p o kvs kd d Nx) (fin : ∀ s' H', Inv X pins σ H' s' → Nx H' → Q () s') : wpAny (model X.prog X.w) X.A (dictSet p u r) Q E s := by
  refine set_core I h hk hz rk ru rd rv (fun b xs e hkey hm hl f => ?_) fun ys hkey hm hl f => ?_
  · subst e
    refine wpAny_dictSet_heap (nest_room0 C) hkey hm (fun h' dd hs => ?_) hl
    obtain ⟨H', I', o', rfl, d', tk⟩ := f h' dd hs _
    exact fin _ _ I' (q o' d' tk)
  · refine wpAny_dictSet_pairs hkey hm (fun h' dd hs => ?_) hl
    obtain ⟨H', I', o', rfl, d', tk⟩ := f h' dd hs _
    exact fin _ _ I' (q o' d' tk)
/-- what a dict comprehension asks, over addresses -/
def tDcx (K : Kw) (wi : TI) (g : TG) (tt : TT) (tk tv : TE) (vs : List Nat) : TE := fun σ H Q => wi σ H fun J H1 => ∀ D o, H1 D = none → DicAt K (upd H1 D (DicO D o)) D o [] → ∃ W : Nat → Nat → Hp → Prop, (∃ m, W 0 m (upd H1 D (DicO D o))) ∧ ∀ i m H, W i m H →
  (J.stop i H ∧ Q (.ref D) H) ∨ (J.go i H ∧ ∃ Nx : Hp → Prop, (∀ H', Nx H' → ∃ m', m' < m ∧ W (i + 1) m' H') ∧ ∀ x H', J.yld i H x H' → g x (L2.wipe σ vs) H' fun σ2 H2 => L2.wipe σ2 vs = L2.wipe σ vs ∧ tt σ2 H2 fun b H3 =>
    if b = true then tk σ2 H3 fun y H4 => tv σ2 H4 fun z H5 => ∃ o kvs kd d, Rp K H5 y kd ∧ Rp K H5 z d ∧ DicAt K H5 D o kvs ∧ keyOk kvs kd = true ∧ kvs.length < sizeLine ∧ DSet K H5 D o kvs kd d Nx else Nx H3)
theorem dcx_core {pins : List (Addr × Obj)} {s : Shared} {σ : L2.St} {H : Hp} {Q : VK} {kx vx tg iter : Expr} {ifs : List Expr} {scope : Scope} {own : List (Str × Nat)} {pos pos' : Pos} {wi : TI} {g : TG} {tt : TT} {tk tv : TE} {use : Option (Value → Sem Unit)} {Qf : Value → Shared → Prop}
    (C : Cok X k) (I : Inv X pins σ H s) (hi : PI X tg iter wi) (ok : BlkOk X.N X.env.scope scope own)
    (hg : ∀ (s : Shared) (H : Hp) (C : Addr) (cl : List (Str × Addr)) (fp : List Addr), PG (X.blk s H scope (compEnvC scope cl C X.env) fp) tg g) (ht : ∀ (s : Shared) (H : Hp) (C : Addr) (cl : List (Str × Addr)) (fp : List Addr), PTs (X.blk s H scope (compEnvC scope cl C X.env) fp) ifs tt)
    (hk : ∀ (s : Shared) (H : Hp) (C : Addr) (cl : List (Str × Addr)) (fp : List Addr), PE (X.blk s H scope (compEnvC scope cl C X.env) fp) kx tk)
    (he : ∀ (s : Shared) (H : Hp) (C : Addr) (cl : List (Str × Addr)) (fp : List Addr), PE (X.blk s H scope (compEnvC scope cl C X.env) fp) vx tv) (hs : ∀ x, foldedSetIterable iter X.env x = pure x)
    (h : tDcx X.kw wi g tt tk tv (own.map (·.2)) σ H Q)
    (hRR : ∀ D C s' m H', Inv X pins σ H' s' → Q (.ref D) H' → s'.heap.Ns C m → FpOk X pins H' C → compPost (model X.prog X.w) X.A X.xe use Qf (.ref D) C (.ok .next) s') :
    wpAny (model X.prog X.w) X.A (comprehension (.DictComp kx vx [⟨tg, iter, ifs, 0⟩] scope pos) scope X.env pos' newDict false (eval iter X.env) use) Qf X.xe s := by
  have outer : ∀ y ∈ scope.names, y.2 = .free → ∃ c, X.env.cells.lookup y.1 = some c := fun y hy e => I.ok.has _ ((ok.free y hy e).elim .inl .inr)
  refine wpAny_comprehension_free (use := use) rfl hs (closure_ok outer) ok.kind (fun y hy e => by rw [ok.uniq y hy, e])
    (thn (hi.run pins s σ H _ I h) fun xv s1 hx => thn hx fun itv s2 ⟨it, fp, tn, J, H2, eit, I2, T, st2, f2, q⟩ => ?_)
  subst eit
  refine wpAny_newObj_type (newEnv_comp ?_)
  obtain ⟨o0, ho0, dn⟩ := dic_new s2 H2 I2
  have D0 : H2 s2.heap.objs.size = none := I2.hok.fresh (Nat.le_refl _)
  generalize hD : s2.heap.objs.size = D at dn D0
  obtain ⟨W, ⟨m0, w0⟩, turn⟩ := q D o0 D0 dn
  -- the new dict stands
  generalize hs3 : ({ s2 with heap := s2.heap.push { cls := .type "dict", data := .dict #[] } } : Shared) = s3
  have h3 : s3.heap = s2.heap.push { cls := .type "dict", data := .dict #[] } := by rw [← hs3]
  generalize hH3 : upd H2 D (DicO D o0) = H3 at w0 dn
  have I3 : Inv X pins σ H3 s3 := by
    rw [← hs3, ← hH3, ← hD, ho0]
    exact I2.laid (t' := s2.toks) (fun b o e => Heap.get?_push_of_some _ e) (Nat.le_refl _) (dicO_ok (Heap.get?_push_size _ rfl))
  have below : ∀ b ∈ fp, b < s2.heap.objs.size := fun b hb => let ⟨_, e, _⟩ := T.obj _ _ st2 b hb; Heap.lt_size e
  have f3 : ∀ b ∈ fp, FpOk X pins H3 b ∧ b < s3.heap.objs.size := fun b hb => by
    have lt := below b hb
    refine ⟨⟨?_, (f2 b hb).2⟩, by rw [h3, Heap.size_push]; exact Nat.lt_succ_of_lt lt⟩
    rw [← hH3, upd_ne (by rw [← hD]; exact Nat.ne_of_lt lt)]
    exact (f2 b hb).1
  have st3 : tn 0 s3.heap := T.keep _ _ _ st2 fun b _ o e => by rw [h3]; exact Heap.get?_push_of_some _ e
  have I4 := block_start I3 ok C.nd f3
  generalize hcl : cellsFrom (s3.heap.objs.size + 1) scope.names (cloFrom X.env.cells scope.names []) = cl at I4 ⊢
  have pg := hg s3 H3 s3.heap.objs.size cl fp
  have pt := ht s3 H3 s3.heap.objs.size cl fp
  have pk := hk s3 H3 s3.heap.objs.size cl fp
  have pv := he s3 H3 s3.heap.objs.size cl fp
  have nfp : ∀ b ∈ fp, H3 b = none := fun b hb => (f3 b hb).1.1
  show codeAny _ _ (.compStart (.DictComp kx vx [⟨tg, iter, ifs, 0⟩] scope pos) 0 (.ref it) (.ref D) (compEnvC scope cl s3.heap.objs.size X.env)) (compPost (model X.prog X.w) X.A X.xe use Qf (.ref D) s3.heap.objs.size) { s3 with heap := pushCells (s3.heap.push { cls := .type "dict", data := .dict #[] }) scope.names }
  generalize hce : compEnvC scope cl s3.heap.objs.size X.env = ce at I4 pg pt pk pv ⊢
  have cL : ce.locals = s3.heap.objs.size := by subst hce; rfl
  generalize hs4 : ({ s3 with heap := pushCells (s3.heap.push { cls := .type "dict", data := .dict #[] }) scope.names } : Shared) = s4 at I4 ⊢
  have st4 : tn 0 s4.heap := T.keep _ _ _ st3 fun b _ o e => by rw [← hs4]; exact pushCells_keeps _ _ _ _ (Heap.get?_push_of_some _ e)
  let Y := X.blk s3 H3 scope ce fp
  have CY : Cok Y k := C.blk s3 H3 scope ce fp
  have mine : ∀ {σ' : L2.St} {H' : Hp} {s' : Shared}, Inv Y [] σ' H' s' → (∀ b ∈ fp, H' b = none) → ∀ b ∈ fp, FpOk Y [] H' b := fun I' hn b hb =>
    ⟨hn b hb, (I'.ok.exf b hb).1, I'.ok.exfs b hb, .inl hb, fun x c e => (I'.ok.exf b hb).2 x c e, fun p hp => absurd (show p ∈ ([] : List (Addr × Obj)) ++ [] from hp) (by simp)⟩
  have loop : codeAny (model X.prog X.w) X.A (.compLoop (.DictComp kx vx [⟨tg, iter, ifs, 0⟩] scope pos) 0 (.ref it) (.ref D) ce) (compPost (model X.prog X.w) X.A X.xe use Qf (.ref D) s3.heap.objs.size) s4 := by
    refine compLoop_anyD (fun n s' => ∃ i H', Inv Y [] (L2.wipe σ (own.map (·.2))) H' s' ∧ tn i s'.heap ∧ (∀ b ∈ fp, H' b = none) ∧ W i n H') ?_ m0 ⟨0, H3, I4, st4, nfp, w0⟩
    rintro n s5 ⟨i, H5, I5, st5, n5, w5⟩
    rcases turn i n H5 w5 with ⟨stop, qq⟩ | ⟨go, Nx, hNx, step⟩
    · refine thnF (T.done Y rfl rfl rfl C.calm i [] s5 _ H5 (fun _ _ => False) I5 (mine I5 n5) st5 stop) fun r s6 ⟨hr, I6⟩ => ?_
      subst hr
      have I7 : Inv X pins σ H5 s6 := I3.call' (ch := fp) I6.os I6.base I6.hok I6.bare fun b hb => let z := (f3 b hb).1.2; ⟨z.2.2.1, z.1, z.2.2.2.1, z.2.2.2.2⟩
      have nC : H5 s3.heap.objs.size = none := cL ▸ (show H5 ce.locals = none from I6.free)
      obtain ⟨m, hn, _⟩ := I6.loc
      exact hRR D s3.heap.objs.size s6 m H5 I7 qq (cL ▸ (show s6.heap.Ns ce.locals m from hn)) (I3.fpOk (Nat.le_refl _) nC)
    · refine thnF (T.item Y rfl rfl rfl C.calm i [] s5 _ H5 (fun _ _ => False) I5 (mine I5 n5) st5 go) fun r s6 ⟨u, hr, h6⟩ => ?_
      subst hr
      refine thnF h6 fun _ s7 ⟨x, H7, I7, r7, y7, st7, n7⟩ => ?_
      refine thnF (pg.run _ s7 _ H7 x u _ (I7.pinned (mine I7 n7) (T.obj _ _ st7)) r7 (step x H7 y7)) fun _ s8 ⟨σ8, H8, I8, hw8, q8⟩ => ?_
      refine thnF (pt.run _ s8 σ8 H8 _ I8 q8) fun b s9 ⟨H9, I9, q9⟩ => ?_
      have close : ∀ {s' : Shared} {H' : Hp}, Inv Y ([] ++ pinsAt fp s7.heap) σ8 H' s' → Nx H' → ∃ m, m < n ∧ ∃ i H', Inv Y [] (L2.wipe σ (own.map (·.2))) H' s' ∧ tn i s'.heap ∧ (∀ b ∈ fp, H' b = none) ∧ W i m H' := fun {s' H'} I' nx => by
        obtain ⟨m', hm, w'⟩ := hNx H' nx
        have still : ∀ b ∈ fp, ∀ o, s7.heap.get? b = some o → s'.heap.get? b = some o ∧ H' b = none := fun b hb o e =>
          let z := I'.pin (b, o) (List.mem_append_right _ (List.mem_append_right _ (mem_pinsAt hb e)))
          ⟨z.1, z.2.1⟩
        refine ⟨m', hm, i + 1, H', (I'.unpinned (pins := [])).weak (by rw [← hw8, L2.wipe_length]) (fun j v e => ?_), T.keep _ _ _ st7 fun b hb o e => (still b hb o e).1, fun b hb => ?_, w'⟩
        · rw [← hw8] at e
          exact (L2.wipe_some e).1
        · obtain ⟨o, e, _⟩ := T.obj _ _ st7 b hb
          exact (still b hb o e).2
      cases b with
      | false => exact close I9 q9
      | true =>
        refine thnF (pk.run _ s9 σ8 H9 _ I9 q9) fun z s10 ⟨yk, H10, I10, r10, q10⟩ => ?_
        refine thnF (pv.run _ s10 σ8 H10 _ I10 q10) fun z2 s11 ⟨yv, H11, I11, r11, o, kvs, kd, d, rk, rd, hd, hko, hz, nx⟩ => ?_
        exact d_dset (X := Y) CY I11 hd hko hz rk r10 rd r11 nx fun s12 H12 I12 n12 => close I12 n12
  exact codeAny_compStart_dict loop (T.self X.A 0 _ _ _ st4 loop)
theorem pe_dcx {kx vx tg iter : Expr} {ifs : List Expr} {scope : Scope} {own : List (Str × Nat)} {pos : Pos} {wi : TI} {g : TG} {tt : TT} {tk tv : TE} (C : Cok X k) (hi : PI X tg iter wi) (ok : BlkOk X.N X.env.scope scope own)
    (hg : ∀ (s : Shared) (H : Hp) (C : Addr) (cl : List (Str × Addr)) (fp : List Addr), PG (X.blk s H scope (compEnvC scope cl C X.env) fp) tg g) (ht : ∀ (s : Shared) (H : Hp) (C : Addr) (cl : List (Str × Addr)) (fp : List Addr), PTs (X.blk s H scope (compEnvC scope cl C X.env) fp) ifs tt)
    (hk : ∀ (s : Shared) (H : Hp) (C : Addr) (cl : List (Str × Addr)) (fp : List Addr), PE (X.blk s H scope (compEnvC scope cl C X.env) fp) kx tk)
    (he : ∀ (s : Shared) (H : Hp) (C : Addr) (cl : List (Str × Addr)) (fp : List Addr), PE (X.blk s H scope (compEnvC scope cl C X.env) fp) vx tv) (hs : ∀ x, foldedSetIterable iter X.env x = pure x := by intro _; rfl) :
    PE X (.DictComp kx vx [⟨tg, iter, ifs, 0⟩] scope pos) (tDcx X.kw wi g tt tk tv (own.map (·.2))) := ⟨fun pins s σ H Q I h => by
  rw [arm_eval_DictComp]
  exact dcx_core C I hi ok hg ht hk he hs h fun D C s' m H' I' q hn ⟨f0, f1, f2, f3, f4, f5⟩ => ⟨m, hn, fun h'' sb =>
    ⟨.ref D, H', I'.turned (t' := s'.toks) (fun b o hb e => (sb.2 b hb).trans e) f0 f1 f3 f4 f5, rfl, q⟩⟩⟩
theorem ps_setDcx {i : Nat} {y : Str} {py : Pos} {kx vx tg iter : Expr} {ifs : List Expr} {scope : Scope} {own : List (Str × Nat)} {pos spos : Pos} {wi : TI} {g : TG} {tt : TT} {tk tv : TE} (C : Cok X k) (hy : X.N[i]? = some y) (hyl : X.env.scope.names.lookup y = some .local)
    (hsw : swapsWith (.DictComp kx vx [⟨tg, iter, ifs, 0⟩] scope pos) (some (.Name y py)) spos.line X.env = pure true) (hi : PI X tg iter wi) (ok : BlkOk X.N X.env.scope scope own)
    (hg : ∀ (s : Shared) (H : Hp) (C : Addr) (cl : List (Str × Addr)) (fp : List Addr), PG (X.blk s H scope (compEnvC scope cl C X.env) fp) tg g) (ht : ∀ (s : Shared) (H : Hp) (C : Addr) (cl : List (Str × Addr)) (fp : List Addr), PTs (X.blk s H scope (compEnvC scope cl C X.env) fp) ifs tt)
    (hk : ∀ (s : Shared) (H : Hp) (C : Addr) (cl : List (Str × Addr)) (fp : List Addr), PE (X.blk s H scope (compEnvC scope cl C X.env) fp) kx tk)
    (he : ∀ (s : Shared) (H : Hp) (C : Addr) (cl : List (Str × Addr)) (fp : List Addr), PE (X.blk s H scope (compEnvC scope cl C X.env) fp) vx tv) (hs : ∀ x, foldedSetIterable iter X.env x = pure x := by intro _; rfl) :
    PS X (.Assign [.Name y py] (.DictComp kx vx [⟨tg, iter, ifs, 0⟩] scope pos) spos) (tAsg (tDcx X.kw wi g tt tk tv (own.map (·.2))) (L2.gName i)) := by
  refine ⟨fun pins s σ H D I h => ?_⟩
  rw [exec_Assign_Name_used _ _ _ _ hsw]
  refine wpAny_bind (wpAny_standAt (wpAny_bind ?_))
  rw [arm_evalThenUse_DictComp]
  show wpAny _ X.A (do let _ ← comprehension (.DictComp kx vx [⟨tg, iter, ifs, 0⟩] scope pos) scope X.env (firstIterPos [⟨tg, iter, ifs, 0⟩] pos) newDict false (eval iter X.env) (some (assign (.Name y py) X.env))) _ _ s
  have h : tDcx X.kw wi g tt tk tv (own.map (·.2)) σ H (fun x H1 => L2.gName i x σ H1 D.nx) := h
  refine wpAny_bind (thn (dcx_core (Qf := fun _ s' => SP X pins D .next s') C I hi ok hg ht hk he hs h fun L C' s' m H' I' q hn f => ?_) fun _ s' hq => wpAny_pure (wpAny_pure hq))
  show wpAny _ _ (assign (.Name y py) X.env (.ref L)) _ _ _
  refine wpAny_assign_Name (store_ok2 (v := V.ref L) I' C.nd hy (.inl hyl) rfl (fun s2 I2 ⟨a, sb, ha⟩ => ?_) (.inr hyl))
  obtain ⟨f0, f1, f2, f3, f4, f5⟩ := f
  have ne : C' ≠ a := ha.elim (fun z => z ▸ f1) fun z e => f4 y a z e.symm
  exact ⟨m, hn.sameBut sb ne, fun h3 sb3 => ⟨_, H', I2.turned (t' := s2.toks) (fun b o hb e => (sb3.2 b hb).trans e) f0 f1 f3 f4 f5, q⟩⟩
theorem sw_trueD {kx vx : Expr} {gs : List Comprehension} {scope : Scope} {pos py : Pos} {y : Str} {l : Nat} {env : Env} (hk : env.scope.kind = .function) (hy : env.scope.names.lookup y = some .local) (hl : (py.line == pos.line) = true)
    (ha : (scope.names.any fun (n, k) => n == y && (k == .local || k == .cell)) = false) : swapsWith (.DictComp kx vx gs scope pos) (some (.Name y py)) l env = pure true := by
  have e1 : env.kindOf y = some .local := hy
  have e2 : env.blockKind = .function := by unfold Env.blockKind; rw [hk]; rfl
  unfold swapsWith
  simp only [e2, e1, ha, Expr.pos, hl]
  rfl
end
section
variable {X : Cx} {k : Nat} {wi : WI} {g : WG} {c : WT} {tk tv : WE}
theorem dictC_ok {K : Kw} {σ : L2.St} {H : Hp} {Q : VK} {vs : List Nat} {gV : TG} (hG : GV K gV g vs) (h : lE K (eDictC wi g c tk tv vs) σ H Q) : tDcx K (lI K wi) gV (lT K c) (lE K tk) (lE K tv) vs σ H Q := by
  obtain ⟨env, S, Q0, er, so, q, ps⟩ := h
  unfold eDictC at q
  refine ⟨env, S, _, er, so, q, fun J S1 ⟨W, w0, turn, done⟩ J' H1 jr s1 f1 A o0 hA hd0 => ?_⟩
  have hA1 := s1.none hA
  refine ⟨fun i m H' => ∃ S' acc o, SOk K H' S' ∧ Fr S1 S' H1 H' ∧ DicAt K H' A o acc ∧ sget S' A = none ∧ acc.length ≤ i ∧ W i acc S' ∧ m = J.xs.length - i ∧ i ≤ J.xs.length,
    ⟨J.xs.length, S1, [], o0, s1.off hA, .off S1 hA, hd0, hA1, Nat.le_refl _, w0, by omega, Nat.zero_le _⟩, ?_⟩
  rintro i m H2 ⟨S2, acc, o, s2, f2, hA2, hn2, hl, w2, rfl, hi2⟩
  have er2 : ER K H2 σ env := er.mono (f1.trans f2).tk
  cases hd : J.xs[i]? with
  | none =>
    have hli : J.xs.length ≤ i := List.getElem?_eq_none_iff.mp hd
    have e : i = J.xs.length := Nat.le_antisymm hi2 hli
    rw [e] at w2
    obtain ⟨chk, q2⟩ := done acc S2 w2
    refine .inl ⟨jr.stop i H2 S2 s2 f2.tk chk hli, ?_⟩
    refine ps _ _ (q2 A o hn2) _ _ (.ref A) (fun b u e => ?_) (f1.trans ⟨fun a u e n => ?_, f2.tk⟩)
    · by_cases hb : b = A
      · subst hb
        rw [sget_self] at e
        cases e
        exact hA2
      · rw [sget_ne hb] at e
        exact s2 b u e
    · obtain ⟨e2, n2⟩ := f2.keep a u e n
      exact ⟨e2, by rw [sget_ne (ne_of_none e hA)]; exact n2⟩
  | some x =>
    have hlt : i < J.xs.length := (List.getElem?_eq_some_iff.mp hd).1
    obtain ⟨chk, q2⟩ := turn i x acc S2 hd w2
    obtain ⟨go, yld⟩ := jr.go i H2 S2 x s2 f2.tk chk hd
    refine .inr ⟨go, fun H' => ∃ S' acc' o', SOk K H' S' ∧ Fr S1 S' H1 H' ∧ DicAt K H' A o' acc' ∧ sget S' A = none ∧ acc'.length ≤ i + 1 ∧ W (i + 1) acc' S',
      fun H' ⟨S', acc', o', a, b, c, d, e, w'⟩ => ⟨J.xs.length - (i + 1), by omega, S', acc', o', a, b, c, d, e, w', rfl, hlt⟩, fun v H3 y3 => ?_⟩
    obtain ⟨rv, s3, f3⟩ := yld v H3 y3
    refine hG.run v x _ (DL.wipe env vs) S2 H3 _ _ rv ((er2.mono f3.tk).wipe vs) s3 q2 fun σ4 env4 w4 er4 q4 => ⟨?_, env4, S2, _, er4, s3, q4, fun b S5 h5 H5 s5 f5 => ?_⟩
    · rw [w4]
      refine List.ext_getElem? fun j => ?_
      rw [wipe_get, wipe_length, wipe_get]
      by_cases h : j ∈ vs ∧ j < σ.length
      · rw [if_pos h, if_pos h]
      · rw [if_neg h]
        try rw [wipe_get, if_neg h]
    · have f35 := f3.trans f5
      obtain ⟨hA5, hn5⟩ := f35.keep A _ hA2.1 hn2
      have f25 := f2.trans f35
      have hD5 : DicAt K H5 A o acc := hA2.mono f35.tk (by rw [hA5, hA2.1])
      cases b with
      | false =>
        obtain ⟨S0, sb, h5⟩ := (show UpS (W (i + 1) acc) S5 from h5).ex
        exact ⟨S0, acc, o, s5.sub sb, f25.sub sb, hD5, sb.none hn5, Nat.le_succ_of_le hl, h5⟩
      | true =>
        have h5 : tk env4 S5 fun y S4 => tv env4 S4 fun z S5 => keyOk acc y = true ∧ UpS (W (i + 1) (dicPut acc y z)) S5 := h5
        refine ⟨env4, S5, _, er4.mono f5.tk, s5, h5, fun y S6 h6 u H6 ru s6 f6 => ?_⟩
        refine ⟨env4, S6, _, er4.mono (f5.trans f6).tk, s6, h6, fun z S7 h7 u2 H7 rz s7 f7 => ?_⟩
        obtain ⟨hko, h7⟩ := h7
        obtain ⟨S8, sb, h8⟩ := h7.ex
        have f67 := (f6.trans f7).sub sb
        have s8 := s7.sub sb
        obtain ⟨hA7, hn7⟩ := f67.keep A _ hA5 hn5
        have hD7 : DicAt K H7 A o acc := hD5.mono f67.tk (by rw [hA7, hD5.1])
        refine ⟨o, acc, y, z, ru.mono f7.tk, rz, hD7, hko, Nat.lt_of_le_of_lt hl (Nat.lt_of_lt_of_le hlt jr.len), fun o' d' tk7 => ?_⟩
        have hz := dicPut_len acc y z
        refine ⟨S8, dicPut acc y z, o', fun b w e => ?_, ⟨fun a w e n => ?_, (f25.trans f67).tk.trans tk7⟩, d', hn7, by omega, h8⟩
        · have nb : b ≠ A := fun z => by subst z; rw [hn7] at e; cases e
          exact (s8 b w e).mono tk7 (upd_ne nb)
        · obtain ⟨e2, n2⟩ := (f25.trans f67).keep a w e n
          exact ⟨by rw [upd_ne (ne_of_none e hA)]; exact e2, n2⟩
theorem q_dictC {gV : TG} {kx vx tg iter : Expr} {ifs : List Expr} {scope : Scope} {own : List (Str × Nat)} {pos : Pos} (C : Cok X k) (hi : QI X tg iter wi) (ok : BlkOk X.N X.env.scope scope own) (hG : GV X.kw gV g (own.map (·.2)))
    (hg : ∀ (s : Shared) (H : Hp) (C : Addr) (cl : List (Str × Addr)) (fp : List Addr), PG (X.blk s H scope (compEnvC scope cl C X.env) fp) tg gV) (ht : ∀ (s : Shared) (H : Hp) (C : Addr) (cl : List (Str × Addr)) (fp : List Addr), QTs (X.blk s H scope (compEnvC scope cl C X.env) fp) ifs c)
    (hk : ∀ (s : Shared) (H : Hp) (C : Addr) (cl : List (Str × Addr)) (fp : List Addr), QE (X.blk s H scope (compEnvC scope cl C X.env) fp) kx tk)
    (he : ∀ (s : Shared) (H : Hp) (C : Addr) (cl : List (Str × Addr)) (fp : List Addr), QE (X.blk s H scope (compEnvC scope cl C X.env) fp) vx tv) (hs : ∀ x, foldedSetIterable iter X.env x = pure x := by intro _; rfl) :
    QE X (.DictComp kx vx [⟨tg, iter, ifs, 0⟩] scope pos) (eDictC wi g c tk tv (own.map (·.2))) := (pe_dcx C hi ok hg ht hk he hs).imp' fun σ H Q h => dictC_ok hG h
theorem q_setDictC {gV : TG} {i : Nat} {y : Str} {py spos : Pos} {kx vx tg iter : Expr} {ifs : List Expr} {scope : Scope} {own : List (Str × Nat)} {pos : Pos} (C : Cok X k) (hy : X.N[i]? = some y) (hyl : X.env.scope.names.lookup y = some .local) (hsw : swapsWith (.DictComp kx vx [⟨tg, iter, ifs, 0⟩] scope pos) (some (.Name y py)) spos.line X.env = pure true)
    (hi : QI X tg iter wi) (ok : BlkOk X.N X.env.scope scope own) (hG : GV X.kw gV g (own.map (·.2)))
    (hg : ∀ (s : Shared) (H : Hp) (C : Addr) (cl : List (Str × Addr)) (fp : List Addr), PG (X.blk s H scope (compEnvC scope cl C X.env) fp) tg gV) (ht : ∀ (s : Shared) (H : Hp) (C : Addr) (cl : List (Str × Addr)) (fp : List Addr), QTs (X.blk s H scope (compEnvC scope cl C X.env) fp) ifs c)
    (hk : ∀ (s : Shared) (H : Hp) (C : Addr) (cl : List (Str × Addr)) (fp : List Addr), QE (X.blk s H scope (compEnvC scope cl C X.env) fp) kx tk)
    (he : ∀ (s : Shared) (H : Hp) (C : Addr) (cl : List (Str × Addr)) (fp : List Addr), QE (X.blk s H scope (compEnvC scope cl C X.env) fp) vx tv) (hs : ∀ x, foldedSetIterable iter X.env x = pure x := by intro _; rfl) :
    QS X (.Assign [.Name y py] (.DictComp kx vx [⟨tg, iter, ifs, 0⟩] scope pos) spos) (sAsg (eDictC wi g c tk tv (own.map (·.2))) (DL.gName i)) := (ps_setDcx C hy hyl hsw hi ok hg ht hk he hs).imp' fun D σ H ⟨env, S, D0, er, so, q, ps⟩ =>
  dictC_ok hG ⟨env, S, _, er, so, q, fun d S1 h1 v H1 rv s1 f1 => ps.nx _ _ h1 _ _ ((er.mono f1.tk).set i rv) s1 f1⟩
end
/-! ### list(reversed(a list)) -/
def eLstRev (t : WE) : WE := fun env S Q => t env S fun x S1 => match x with
  | .ref a => onL S1 a fun xs => ∀ p, sget S1 p = none → Q (.ref p) ((p, .lst xs.reverse) :: S1)
  | _ => False
section
variable {prog : Program} {w : World} {A : Around} {E : Value → Shared → Prop} {s : Shared} {it l S : Addr} {items : Array Value}
/-- S.extend(a reversed list's iterator), S empty -/
theorem ext_rev {R : Result → Shared → Prop} (res : Value) (c₀ : Nat) (hh : A.handled = none) (hit : s.heap.IsRevIter it l ((items.size : Int) - 1)) (hl : s.heap.IsList l items) (hne : l ≠ it) (hSi : S ≠ it) (hSl : S ≠ l) (hn : items.size ≤ sizeLine)
    (hS : s.heap.get? S = some { cls := .type "list", data := .seq #[] c₀ })
    (hR : ∀ h' tk acc' c', (∀ b o, b ≠ S → b ≠ it → s.heap.get? b = some o → h'.get? b = some o) → h'.get? S = some { cls := .type "list", dict := none, data := .seq acc' c', slots := #[] } → ItemsOf (fun i v => items[items.size - 1 - i]? = some v) acc' items.size → R (.ok (.ret res)) { s with heap := h', toks := tk }) :
    wpAny (model prog w) A.in1 (Builtin.List.listExtendWith (.ref S) (.ref it) res)
      (fun fin s' => match fin with | .done f => R (.ok f) s' | .again c' => c'.quiet = true ∧ codeAny (model prog w) A c' R s') (fun e s' => R (.error e) s') s := by
  have W := (Walks.listRev (prog := prog) (w := w) (A := A.in1) hh it l hne items).toS
  have hT : s.TypeIs (.ref it) "list_reverseiterator" := hit.typeIs
  have h1 : Builtin.List.listSameRef (.ref S) (.ref it) = false := by simp [Builtin.List.listSameRef, hSi]
  have hSf : S ∉ [it, l] := by simp only [List.mem_cons, List.not_mem_nil, or_false, not_or]; exact ⟨hSi, hSl⟩
  unfold Builtin.List.listExtendWith
  refine wpAny_bind (wpAny_typeOf hT ?_)
  rw [if_neg (by rw [h1]; decide)]
  refine wpAny_bind (wpAny_pyIter_revIter hit ?_)
  refine wpAny_bind (wpAny_holding ?_)
  unfold Builtin.List.listLengthHint
  refine wpAny_bind (wpAny_specialOf hT RT.nolen_lri ?_)
  show wpAny _ A.in1 (specialOf (Value.ref it) (Str.ofString "__length_hint__") >>= _) _ _ _
  refine wpAny_bind (wpAny_specialOf hT RT.hint_lri ?_)
  generalize hid : ("list_reverseiterator.__length_hint__" : String) = id0
  wp_delta
  rw [show splitId id0 = some ("list_reverseiterator", "__length_hint__") from by subst hid; decide +kernel]
  subst hid
  refine wpAny_bind (wpAny_isInstance (b := true) hT (by rw [isSubtype_type]; kernel_rfl) ?_)
  refine wpAny_pure ?_
  rw [if_neg (by decide)]
  have e0 : ((items.size : Nat) : Int) - 1 - ((0 : Nat) : Int) = (items.size : Int) - 1 := by omega
  refine wpAny_pure ⟨plainId_quiet PySem.F.plain_extend_loop _, codeAny_extend_loopS W hn _ hSf _ items.size 0 _ _ _ rfl (Nat.zero_le _) ⟨Nat.zero_le _, by rw [e0]; exact hit, hl⟩ hS (ItemsOf.nil _) fun s' acc' c' hm hS' hacc => ?_⟩
  rw [Moved.eq_with hm]
  refine hR s'.heap s'.toks acc' c' (fun b o hb hb2 e => hm.heap b o (fun hmem => ?_) e) hS' hacc
  rcases List.mem_cons.mp hmem with e' | hmem
  · exact hb e'
  · exact hb2 (List.mem_singleton.mp hmem)
theorem call_list_rev {Q : Value → Shared → Prop} (hh : A.handled = none) (hit : s.heap.IsRevIter it l ((items.size : Int) - 1)) (hl : s.heap.IsList l items) (hne : l ≠ it) (hn : items.size ≤ sizeLine)
    (hQ : ∀ h' tk acc' c', (∀ b o, b ≠ it → s.heap.get? b = some o → h'.get? b = some o) → h'.get? s.heap.objs.size = some { cls := .type "list", dict := none, data := .seq acc' c', slots := #[] } → ItemsOf (fun i v => items[items.size - 1 - i]? = some v) acc' items.size → Q (.ref s.heap.objs.size) { s with heap := h', toks := tk }) :
    wpAny (model prog w) A (call (.type "list") [.ref it]) Q E s := by
  refine callType_codes (Q₁ := fun obj s₁ => obj = .ref s.heap.objs.size ∧ s₁ = { s with heap := s.heap.push { cls := .type "list", data := .seq #[] } }) PySem.F.called_list (PySem.F.typeCall_list_1 _) PySem.F.entry_list_init
    (code_list_new _ ⟨rfl, rfl⟩) fun obj s₁ h₁ => ?_
  obtain ⟨rfl, rfl⟩ := h₁
  have hS : (s.heap.push { cls := .type "list", data := .seq #[] }).get? s.heap.objs.size = some { cls := .type "list", data := .seq #[] } := Heap.get?_push_size _ rfl
  obtain ⟨oi, hoi, _⟩ := id hit
  obtain ⟨ol, hol, _⟩ := id hl
  have li := Heap.lt_size hoi
  have ll := Heap.lt_size hol
  refine ⟨⟨_, hS, rfl⟩, PySem.F.args_list_init_2 _ _, ?_⟩
  show wpAny _ _ (do let old ← Builtin.List.listItems (.ref s.heap.objs.size); Builtin.List.listUpdate (.ref s.heap.objs.size) (fun _ => #[]); letGo old.toList.reverse; Builtin.List.listExtendWith (.ref s.heap.objs.size) (.ref it) .none) _ _ _
  refine wpAny_bind ?_
  unfold Builtin.List.listItems
  refine wpAny_bind (wpAny_seqItems hS rfl (wpAny_pure ?_))
  show wpAny _ _ (updateSeq s.heap.objs.size (fun _ => #[]) >>= fun _ => letGo (#[] : Array Value).toList.reverse >>= fun _ => Builtin.List.listExtendWith (.ref s.heap.objs.size) (.ref it) .none) _ _ _
  refine wpAny_bind (wpAny_updateSeq hS rfl ?_)
  have hS₂ := Heap.get?_update_self (Obj.mapSeq (fun _ => (#[] : Array Value))) hS rfl
  refine wpAny_bind (wpAny_letGo ?_)
  have oth : ∀ b o, b ≠ s.heap.objs.size → s.heap.get? b = some o → ((s.heap.push { cls := .type "list", data := .seq #[] }).update s.heap.objs.size (Obj.mapSeq (fun _ => (#[] : Array Value)))).get? b = some o :=
    fun b o hb e => (Heap.get?_update_other _ _ (Ne.symm hb)).trans (Heap.get?_push_of_some _ e)
  refine ext_rev (A := A.in1) (l := l) (items := items) .none _ hh (hit.at fun o e => oth _ o (Nat.ne_of_lt li) e) (hl.at fun o e => oth _ o (Nat.ne_of_lt ll) e) hne (Nat.ne_of_gt li) (Nat.ne_of_gt ll) hn hS₂ (fun h' tk acc' c' hk hS' hacc => ?_)
  exact ⟨rfl, hQ h' tk acc' c' (fun b o hb e => hk b o (Nat.ne_of_lt (Heap.lt_size e)) hb (oth b o (Nat.ne_of_lt (Heap.lt_size e)) e)) hS' hacc⟩
end
section
variable {X : Cx}
def tLstRev (K : PySem.W.Frag) (te : TE) : TE := fun σ H Q => te σ H fun v H1 => ∃ (a : Addr) (xs : List V), v = .ref a ∧ SqL K H1 a xs ∧ ∀ q, H1 q = none → Q (.ref q) (upd H1 q (.lst xs.reverse))
theorem pe_lstRev {e : Expr} {te : TE} {p p2 pos pos2 : Pos} (hc : X.calm = true) (hg : Gl X "list") (hm : X.mg "list" = none) (hg2 : Gl X "reversed") (hm2 : X.mg "reversed" = none) (he : PE X e te)
    (hs : starEach [e] X.env = (false, eval e X.env) :: starEach [] X.env := by rfl)
    (hs2 : starEach [.Call (.Name "reversed" p2) [e] [] pos2] X.env = (false, eval (.Call (.Name "reversed" p2) [e] [] pos2) X.env) :: starEach [] X.env := by rfl) :
    PE X (.Call (.Name "list" p) [.Call (.Name "reversed" p2) [e] [] pos2] [] pos) (tLstRev X.K te) := by
  refine ⟨fun pins s σ H Q I h => ?_⟩
  refine Call_ (ld_blt I hg hm boot_list (PyProof.Rows.callWith_type1 (args_cons (Call_ (ld_blt I hg2 hm2 PyProof.Rows.boot_reversed (PyProof.Rows.callWith_type1 (args_cons (thn (he.run pins s σ H _ I h) fun u s1 ⟨v, H1, I1, r1, a, xs, ev, hq, q⟩ => args_nil ?_) hs) hs rfl))) hs2) hs2 rfl))
  subst ev
  obtain rfl : u = Value.ref a := r1
  obtain ⟨its, rv, p', hz⟩ := I1.list hq
  refine call_reversed_list p'.isList (args_nil ?_)
  have I2 : Inv X pins σ H1 { s1 with heap := s1.heap.push (revObj a ((its.toArray.size : Int) - 1)) } := I1.kept (t' := s1.toks) fun b o e => Heap.get?_push_of_some _ e
  obtain ⟨f0, f1, f2, f3, f4, f5⟩ := I1.fpOk (H' := H1) (b := s1.heap.objs.size) (Nat.le_refl _) (I1.hok.fresh (Nat.le_refl _))
  have hl := p'.isList
  obtain ⟨ol, hol, _⟩ := id hl
  refine call_list_rev (s := { s1 with heap := s1.heap.push (revObj a ((its.toArray.size : Int) - 1)) }) (l := a) (items := its.toArray) (I1.ok.hd hc) ⟨_, Heap.get?_push_size _ rfl, rfl, rfl⟩ (hl.push _) (Nat.ne_of_lt (Heap.lt_size hol)) (by rw [List.size_toArray, ← rv.length]; exact hz) fun h' tk acc c' hk hS hi => ?_
  refine ⟨.ref (s1.heap.push (revObj a ((its.toArray.size : Int) - 1))).objs.size, upd H1 (s1.heap.push (revObj a ((its.toArray.size : Int) - 1))).objs.size (.lst xs.reverse), ?_, rfl, q _ (I2.hok.fresh (Nat.le_refl _))⟩
  refine I2.turnedNew (t' := tk) (ch := [s1.heap.objs.size]) (fun b o hb e => hk b o (by simpa using hb) e) (fun b hb => ?_) (Nat.le_refl _) (show ObjOk X.prog X.w _ _ _ (.lst xs.reverse) from ⟨by rw [List.length_reverse]; exact hz, acc.toList, c', RT.vals_rev rv hi, by rw [Array.toArray_toList]; exact hS⟩)
  obtain rfl : b = s1.heap.objs.size := by simpa using hb
  exact ⟨f0, f1, f2, f3, f4, f5⟩
theorem q_lstRev {e : Expr} {te : WE} {p p2 pos pos2 : Pos} (hc : X.calm = true) (hg : Gl X "list") (hm : X.mg "list" = none) (hg2 : Gl X "reversed") (hm2 : X.mg "reversed" = none) (he : QE X e te)
    (hs : starEach [e] X.env = (false, eval e X.env) :: starEach [] X.env := by rfl)
    (hs2 : starEach [.Call (.Name "reversed" p2) [e] [] pos2] X.env = (false, eval (.Call (.Name "reversed" p2) [e] [] pos2) X.env) :: starEach [] X.env := by rfl) :
    QE X (.Call (.Name "list" p) [.Call (.Name "reversed" p2) [e] [] pos2] [] pos) (eLstRev te) := (pe_lstRev hc hg hm hg2 hm2 he hs hs2).imp' fun σ H Q ⟨env, S, Q0, er, so, q, ps⟩ => by
  refine ⟨env, S, _, er, so, q, fun d S1 h1 v H1 rv s1 f1 => ?_⟩
  split at h1
  · cases rv
    · obtain ⟨xs, e1, h1⟩ := onL_iff.mp h1
      obtain ⟨vs, h2, r2, hz⟩ := s1.lst e1
      have rr : RpAll X.kw H1 vs.reverse xs.reverse := by
        clear h1 e1 hz h2
        induction r2 using RpAll.rec (motive_1 := fun _ _ _ => True) with
        | nil => exact .nil
        | cons h t _ ih => 
          rw [List.reverse_cons, List.reverse_cons]
          exact ih.append (.cons h .nil)
        | _ => trivial
      exact ⟨_, _, rfl, SqL.of h2, fun q hq => (ps.trans f1).made s1 rr (by rw [List.length_reverse]; exact hz) h1 q hq⟩
  · exact h1.elim
end
/-! ### xs[i:j] = ys -/
def gSl (ta : WE) (tl th : WO) : WG := fun d env S Q => ta env S fun x S1 => tl env S1 fun l S2 => th env S2 fun u S3 => match x, d, l, u with
  | .ref a, .ref b, some i, some j => onL S3 a fun xs => onL S3 b fun ys => (a ≠ b ∧ 0 ≤ i ∧ i ≤ j ∧ j ≤ xs.length ∧ xs.length + ys.length ≤ sizeLine) ∧ Q env (sset S3 a (.lst (xs.take i.toNat ++ ys ++ xs.drop j.toNat)))
  | _, _, _, _ => False
section
variable {X : Cx} {o lo hi : Expr} {ta : WE} {tl th : WO} {pos p2 : Pos}
theorem qg_slice (ho : QE X o ta) (hl : QO X (some lo) tl) (hu : QO X (some hi) th) : QG X (.Subscript o (.Slice (some lo) (some hi) none p2) pos) (gSl ta tl th) := ⟨fun pins s σ H v u Q I r ⟨d, env, S, Q0, rv, er, so, q, ps⟩ => by
  have ha : assign (.Subscript o (.Slice (some lo) (some hi) none p2) pos) X.env u = (do
      let ov ← holding [u] (eval o X.env)
      let iv ← holding [u, ov] (eval (.Slice (some lo) (some hi) none p2) X.env)
      standAt pos
      holding [u, ov, iv] (setItem ov iv u)
      release [iv, u, ov] []) := rfl
  rw [ha]
  refine wpAny_bind (wpAny_holding (thn (ho.run pins s σ H (fun x H1 => lO X.kw tl σ H1 fun l H2 => lO X.kw th σ H2 fun w H3 => ∃ a b i j xs ys, x = .ref a ∧ v = .ref b ∧ l = some i ∧ w = some j ∧ H3 a = some (.lst xs) ∧ H3 b = some (.lst ys) ∧ a ≠ b ∧ 0 ≤ i ∧ i ≤ j ∧ j ≤ (xs.length : Int) ∧ xs.length + ys.length ≤ sizeLine ∧ Q σ (upd H3 a (.lst (xs.take i.toNat ++ ys ++ xs.drop j.toNat)))) I ?_) fun ov s1 ⟨x, H1, I1, r1, q1⟩ => ?_))
  · refine ⟨env, S, _, er, so, q, fun x S1 h1 y H1 ry s1 f1 => ?_⟩
    refine ⟨env, S1, _, er.mono f1.tk, s1, h1, fun l S2 h2 H2 s2 f2 => ?_⟩
    refine ⟨env, S2, _, er.mono (f1.trans f2).tk, s2, h2, fun w S3 h3 H3 s3 f3 => ?_⟩
    have f := (f1.trans f2).trans f3
    split at h3
    · rename_i a b i j
      cases ry
      cases rv
      obtain ⟨xs, e1, h3⟩ := onL_iff.mp h3
      obtain ⟨ys, e2, ⟨g1, g2, g3, g4, g5⟩, h3⟩ := onL_iff.mp h3
      obtain ⟨vs, k1, k2, _⟩ := s3.lst e1
      obtain ⟨ws, k3, k4, _⟩ := s3.lst e2
      refine ⟨a, b, i, j, vs, ws, rfl, rfl, rfl, rfl, k1, k3, g1, g2, g3, by rw [k2.length]; exact g4, by rw [k2.length, k4.length]; exact g5, ?_⟩
      refine ps _ _ h3 _ _ (er.mono (f.trans (.set (ws := vs.take i.toNat ++ ws ++ vs.drop j.toNat) (o' := .lst (xs.take i.toNat ++ ys ++ xs.drop j.toNat)) e1 k1)).tk) (s3.set e1 k1 (((RpAll.take _ k2).append k4).append (RpAll.drop _ k2)) (by simp only [List.length_append, List.length_take, List.length_drop]; omega)) (f.trans (.set e1 k1))
    · exact h3.elim
  · refine wpAny_bind (wpAny_holding (wpAny_Slice (thn (hl.run pins s1 σ H1 _ I1 q1) fun vl s2 ⟨l, H2, I2, pl, q2⟩ => thn (hu.run pins s2 σ H2 _ I2 q2) fun vu s3 ⟨w, H3, I3, pu, q3⟩ => ?_)))
    rw [evalPart_none]
    refine wpAny_pure ?_
    have I4 : Inv X pins σ H3 { s3 with heap := s3.heap.push { cls := .type "slice", data := .fields #[vl, vu, .none] } } := I3.kept (t' := s3.toks) fun b ob q => Heap.get?_push_of_some _ q
    obtain ⟨a, b, i, j, xs, ys, rfl, rfl, rfl, rfl, k1, k2, g1, g2, g3, g4, g5, qq⟩ := q3
    obtain rfl : ov = Value.ref a := r1
    obtain rfl : u = Value.ref b := r
    have rl : L2.RelV (.int i) vl := by cases pl; exact ⟨_, rfl⟩
    have ru : L2.RelV (.int j) vu := by cases pu; exact ⟨_, rfl⟩
    refine wpAny_bind (wpAny_standAt (wpAny_bind (wpAny_holding (set_slice I4 k1 k2 g1 (Heap.IsSliceOf.new ..) rl ru g2 g3 g4 g5 fun s5 I5 => ?_))))
    exact wpAny_release ⟨σ, _, I5, qq⟩⟩
end
/-! ### what is never reached -/
def sDead : WS := fun _ _ _ => False
theorem q_dead {X : Cx} {st : Stmt} : QS X st sDead := ⟨fun pins s σ H D I ⟨_, _, _, _, _, q, _⟩ => q.elim⟩
end DL

/-! DT: exceptions of the text's own classes: raise, a call that may raise, try .. except C as e. -/
namespace DL
open PySem PySem.Spec PyProof.Rows L2

/-! ### pure -/
/-- an exception: its class, its one field -/
structure XV where
  cls : Str
  fld : Option (Str × D) := none
abbrev XQ := XV → EV → Sto → Prop
/-- what a def is asked that may raise -/
abbrev WFX := List D → Sto → WQ → (XV → Sto → Prop) → Prop
/-- .. at a place where nothing may be raised -/
def plainF (F : WFX) : WF := fun ds S Q => F ds S Q fun _ _ => False
def exOf (E : XV → Sto → Prop) : XQ := fun x _ S => UpS (E x) S
def noX : XQ := fun _ _ _ => False
/-- is a class of the text a subclass of another: all stand right under ChartError, which stands under ValueError -/
def subX (c n : Str) : Bool := decide (n = "ChartError") || decide (n = "ValueError") || decide (c = n)
def eCallX (F : WFX) (t : WA) (P : XQ) : WE := fun env S Q => t env S fun ds S1 => F ds S1 Q fun x S' => P x env S'
def sRaise (c f : Str) (t : WE) (P : XQ) : WS := fun D env S => t env S fun d S1 => P ⟨c, some (f, d)⟩ env S1
def sRaise0 (c : Str) (P : XQ) : WS := fun D env S => P ⟨c, none⟩ env S
/-- the caught exception as a datum -/
def XV.dat (x : XV) (a dd : Addr) : D := match x.fld with
  | some (f, v) => .exc a dd f v
  | none => .ref a
/-- the ends of an except suite: its name goes -/
def unb (i : Nat) (D : En) : En := { nx := fun env S => D.nx (env.set i none) S, rt := D.rt, bk := fun env S => D.bk (env.set i none) S, ct := fun env S => D.ct (env.set i none) S }
structure sTry (i : Nat) (cl : Str) (body : XQ → WS) (h : Addr → Addr → XV → WS) (P : XQ) (D : En) (env : EV) (S : Sto) : Prop where
  ex : ∃ P1 : XQ, body P1 D env S ∧ ∀ x env' S', P1 x env' S' → if subX x.cls cl = true then ∀ a dd, h a dd x (unb i D) (env'.set i (some (x.dat a dd))) S' else P x env' S'
structure sTryO (cl : Str) (body : XQ → WS) (h : WS) (P : XQ) (D : En) (env : EV) (S : Sto) : Prop where
  ex : ∃ P1 : XQ, body P1 D env S ∧ ∀ x env' S', P1 x env' S' → if subX x.cls cl = true then h D env' S' else P x env' S'
/-- isinstance(e, n) of the caught exception, in slot i -/
def eIsX (x : XV) (a dd : Addr) (i : Nat) (n : Str) : WE := fun env S Q => env[i]? = some (some (x.dat a dd)) ∧ Q (.bl (subX x.cls n)) S
/-- e.f of the caught exception -/
def eXf (x : XV) (a dd : Addr) (i : Nat) (f : Str) : WE := fun env S Q => env[i]? = some (some (x.dat a dd)) ∧ match x.fld with
  | some (g, v) => g = f ∧ Q v S
  | none => False

/-! ### what it means -/
/-- what is known of the exceptions' classes -/
structure XcB (K : PySem.W.Frag) (C : Addr) : Prop where
  o : OexC K C
  f : XfC K C
  ha : PySem.W.findIn K (.ref C) "__class__" = some (some (.builtin "object.__class__"))
  hn : PySem.W.specialIn K (.builtin "object.__class__") "__get__" = some (some (.builtin "getset_descriptor.__get__"))
  ht : PySem.W.takesIn K (.builtin "object.__class__") = some true
  hm : PySem.W.mroIn K C (.type "object") = some true
  hc : (PySem.W.clsIn K C).isSome = true
/-- the exceptions' classes cs, and the fields that their instances bear -/
structure XTab (K : PySem.W.Frag) (mg : Str → Option Value) (cs fs : List Str) : Prop where
  cl : ∀ c ∈ cs, ∃ C, mg c = some (.ref C) ∧ XcB K C ∧ ∀ f ∈ fs, PySem.W.findIn K (.ref C) f = some none
/-- the class n, as a clause or isinstance asks it -/
structure XAsk (K : PySem.W.Frag) (mg : Str → Option Value) (cs : List Str) (n : Str) : Prop where
  ex : ∃ N : Value, (mg n = some N ∨ (mg n = none ∧ bootBuiltins n = some N ∧ n ≠ "__name__")) ∧ (∃ v : V, RelV v N ∧ ∀ u, RelV v u → u = N) ∧ PySem.W.subIn K N (.type "BaseException") = some true ∧ ∀ c ∈ cs, ∀ C, mg c = some C → PySem.W.kitCls K C N = some (subX c n) ∧ ((C == N) = true → subX c n = true)
structure XR (K : Kw) (mg : Str → Option Value) (cs : List Str) (H : Hp) (cls : Value) (d : Option Addr) (x : XV) : Prop where
  mem : x.cls ∈ cs
  cls : mg x.cls = some cls
  fld : match x.fld with
    | none => d = none
    | some (f, v) => ∃ dd u, d = some dd ∧ H dd = some (.xd [(f, u)]) ∧ Rp K H u v
/-- what holds of the class and dict of a caught exception -/
structure XK1 (mg : Str → Option Value) (cs : List Str) (cls : Value) (d : Option Addr) (x : XV) : Prop where
  mem : x.cls ∈ cs
  cls : mg x.cls = some cls
  dd : x.fld ≠ none → ∃ a, d = some a
  nn : x.fld = none → d = none
theorem XR.k1 {K : Kw} {mg : Str → Option Value} {cs : List Str} {H : Hp} {cls : Value} {d : Option Addr} {x : XV} (r : XR K mg cs H cls d x) : XK1 mg cs cls d x := ⟨r.mem, r.cls, fun hne => by
  have := r.fld
  split at this
  · rename_i e
    exact absurd e hne
  · obtain ⟨dd, u, e1, _⟩ := this
    exact ⟨dd, e1⟩, fun e => by
  have := r.fld
  rw [e] at this
  exact this⟩
theorem XR.rd {K : Kw} {mg : Str → Option Value} {cs : List Str} {H : Hp} {cls : Value} {d : Option Addr} {x : XV} (r : XR K mg cs H cls d x) (a : Addr) : Rp K H (.ref a) (x.dat a (d.getD 0)) := by
  have := r.fld
  unfold XV.dat
  split at this
  · rename_i e
    rw [e]
    exact .ref a
  · rename_i g v e
    obtain ⟨dd, u, e1, e2, r⟩ := this
    rw [e, e1]
    exact .exc e2 r
abbrev Xcs := List Str
section
variable (K : Kw) (mg : Str → Option Value) (cs : Xcs)
def PostX (S : Sto) (H : Hp) (P : XQ) (W : WX) : Prop := ∀ x env' S', P x env' S' → ∀ cls d σ' H', XR K mg cs H' cls d x → ER K H' σ' env' → SOk K H' S' → Fr S S' H H' → W cls d σ' H'
def PostXf (S : Sto) (H : Hp) (E0 : XV → Sto → Prop) (E : XK) : Prop := ∀ x S', E0 x S' → ∀ cls d H', XR K mg cs H' cls d x → SOk K H' S' → Fr S S' H H' → E cls d H'
def lFX (F : WFX) : Sp := fun vs H Q E => ∃ ds S Q0 E0, RpAll K H vs ds ∧ SOk K H S ∧ F ds S Q0 E0 ∧ PostE K S H Q0 Q ∧ PostXf K mg cs S H E0 E
def lEX (W : WX) (P : XQ) (t : WE) : TE := fun σ H Q => ∃ env S Q0, ER K H σ env ∧ SOk K H S ∧ t env S Q0 ∧ PostE K S H Q0 Q ∧ PostX K mg cs S H P W
def lAX (W : WX) (P : XQ) (t : WA) : TA := fun σ H Q => ∃ env S Q0, ER K H σ env ∧ SOk K H S ∧ t env S Q0 ∧ (∀ ds S', Q0 ds S' → ∀ vs H', RpAll K H' vs ds → SOk K H' S' → Fr S S' H H' → Q vs H') ∧ PostX K mg cs S H P W
def lSX (W : WX) (P : XQ) (t : WS) : TS := fun D σ H => ∃ env S D0, ER K H σ env ∧ SOk K H S ∧ t D0 env S ∧ PostS K S H D0 D ∧ PostX K mg cs S H P W
end
variable {cs : Xcs}
theorem PostX.trans {K : Kw} {mg : Str → Option Value} {S S1 : Sto} {H H1 : Hp} {P : XQ} {W : WX} (p : PostX K mg cs S H P W) (f : Fr S S1 H H1) : PostX K mg cs S1 H1 P W := fun x e S' h cls d σ' H' r er s g => p x e S' h cls d σ' H' r er s (f.trans g)
abbrev QEX (cs : Xcs) (X : Cx) (W : WX) (P : XQ) (e : Expr) (t : WE) : Prop := PE X e (lEX X.kw X.mg cs W P t)
abbrev QAX (cs : Xcs) (X : Cx) (W : WX) (P : XQ) (es : List Expr) (t : WA) : Prop := PA X es (lAX X.kw X.mg cs W P t)
abbrev QSX (cs : Xcs) (X : Cx) (W : WX) (P : XQ) (st : Stmt) (t : WS) : Prop := PS X st (lSX X.kw X.mg cs W P t)
abbrev QSsX (cs : Xcs) (X : Cx) (W : WX) (P : XQ) (ss : List Stmt) (t : WS) : Prop := PSs X ss (lSX X.kw X.mg cs W P t)

/-! ### defs that may raise -/
structure FnGX (P : Program) (w : World) (K : PySem.W.Frag) (mg : Str → Option Value) (base : Heap) (k : Nat) (f : Addr) (fd : FuncData) (ps : List Str) (sp : Sp) : Prop where
  len : ∀ vs H Q E, sp vs H Q E → vs.length = ps.length
  run : ∀ (A : Around) (outer : List Env) (s : Shared) (H : Hp) (args : Args) (us : List Value) (vs : List V) (Q : VK) (E : XK), Room k A → A.guards = some [] → Env0 P w K mg base A outer s H → BindsTo s fd args (ps.zip us) → Vals vs us → sp vs H Q E →
    codeAny (model P w) A (.call (.ref f) args) (CR (L2.CX P w) outer P w H s Q E) s
theorem FnGX.mono {P : Program} {w : World} {K : PySem.W.Frag} {mg : Str → Option Value} {base : Heap} {j k : Nat} {f : Addr} {fd : FuncData} {ps : List Str} {sp : Sp} (F : FnGX P w K mg base j f fd ps sp) (h : j ≤ k) : FnGX P w K mg base k f fd ps sp := ⟨F.len, fun A outer s H args us vs Q E hr => F.run A outer s H args us vs Q E (hr.mono h)⟩
structure CalX (cs : Xcs) (P : Program) (w : World) (K : PySem.W.Frag) (mg : Str → Option Value) (base : Heap) (x : Str) (k : Nat) (ps : List Str) (F : WFX) : Prop where
  ex : ∃ f fd, FnGX P w K mg base k f fd ps (lFX ⟨K, P, w⟩ mg cs F) ∧ mg x = some (.ref f) ∧ PySem.W.keepIn K (.ref f) = true ∧ Binds K fd ps []
theorem CalX.plain {P : Program} {w : World} {K : PySem.W.Frag} {mg : Str → Option Value} {base : Heap} {x : Str} {k : Nat} {ps : List Str} {F : WFX} (C : CalX cs P w K mg base x k ps F) : Cal P w K mg base x k ps (plainF F) := by
  obtain ⟨f, fd, G, rest⟩ := C.ex
  have key : ∀ vs H Q E, lF ⟨K, P, w⟩ (plainF F) vs H Q E → lFX ⟨K, P, w⟩ mg cs F vs H Q (fun _ _ _ => False) := fun vs H Q E ⟨ds, S, Q0, r, so, h, pst⟩ => ⟨ds, S, Q0, _, r, so, h, pst, fun _ _ z => z.elim⟩
  refine ⟨f, fd, ⟨fun vs H Q E h => G.len _ _ _ _ (key _ _ _ _ h), fun A outer s H args us vs Q E hr hg e0 hb r h => ?_⟩, rest⟩
  refine codeAny_mono (G.run A outer s H args us vs Q (fun _ _ _ => False) hr hg e0 hb r (key _ _ _ _ h)) fun r s' hq => ?_
  cases r with
  | error e =>
    obtain ⟨_, _, _, _, _, _, _, _, _, _, _, _, z⟩ := hq
    exact z.elim
  | ok fl => cases fl <;> exact hq
theorem fnGX_of {P : Program} {w : World} {K : PySem.W.Frag} {mg : Str → Option Value} {base : Heap} {k : Nat} {f : Addr} {ps : List Str} {sp : Sp} {name qual : Str} {params : Arguments} {body : List Stmt} {scope : Scope} {dV kV doc pm cdv ct oc : Value} {an od : Option Addr}
    {osl : Array (Option Value)} {N : List Str} (lk : K.lookup f = some ⟨oc, od, .func (PySem.W.fnOf name qual params body scope dV kV doc pm an cdv ct), osl⟩) (hcd : PySem.W.codeIn K cdv qual = true) (S : FnScope N ps scope)
    (len : ∀ vs H Q E, sp vs H Q E → vs.length = ps.length)
    (hbody : ∀ (A : Around) (outer : List Env) (s : Shared) (H : Hp) (vs : List V) (Q : VK) (E : XK), Room k (A.deeper (envOfC qual scope s.heap.objs.size f cdv)) → A.guards = some [] → sp vs H Q E →
      ∃ t, PSs (cxOf (L2.CX P w) P w K mg base N qual scope f cdv A outer s H E) body t ∧ t { nx := fun _ H' => Q .non H', rt := Q } (L2.start N vs) H) :
    FnGX P w K mg base (k + 1) f (PySem.W.fnOf name qual params body scope dV kV doc pm an cdv ct) ps sp := by
  refine ⟨len, fun A outer s H args us vs Q E hr hG e0 hb r hsp => ?_⟩
  have hl := len _ _ _ _ hsp
  have KX : K.In s.heap := e0.mod.kin.keeps fun b o e => (e0.bs b o e).1
  have lim : s.heap.NoLimit := e0.mod.nolimit.keeps fun b o e => (e0.bs b o e).1
  have hkind : ∀ y ∈ ps.zip us, scope.names.lookup y.1 = some .local ∨ (scope.names.lookup y.1 = some .cell ∧ ((cellsFrom (s.heap.objs.size + 1) scope.names []).lookup y.1).isSome = true) := fun ⟨n, v⟩ hy => by
    rcases S.par n (List.of_mem_zip hy).1 with q | q
    · exact .inl q
    · exact .inr ⟨q, PySem.W.cellsFrom_some _ _ _ (.inl q)⟩
  refine codeAny_call_function hr.depth (KX _ _ lk) rfl S.co S.gen rfl (PySem.W.codeRec_of KX hcd) (hb _ _ _ _ ?_)
  refine wpAny_newFunctionEnv_cells S.kind hkind fun env he s1 x => ?_
  subst he
  refine ⟨lim.keeps x.toInCall.keep, codeAny_func ?_⟩
  obtain ⟨t, ht, hq⟩ := hbody A outer s H vs Q E (hr.deeper _) hG hsp
  have I : Inv (cxOf (L2.CX P w) P w K mg base N qual scope f cdv A outer s H E) [] (L2.start N vs) H s1 := inv_start S hr.hd e0 hl r x
  refine wpAny_mono (ht.run [] s1 (L2.start N vs) H _ I hq) (fun fl s' hs => ?_) fun e s' hs => hs
  have fin : ∀ {σ' : L2.St} {H' : Hp} {v : V} {u : Value}, Inv (cxOf (L2.CX P w) P w K mg base N qual scope f cdv A outer s H E) [] σ' H' s' → RelV v u → Q v H' → CE outer P w H s Q u s' :=
    fun {σ' H' v u} J rv q => ⟨v, H', J.os, J.bare, J.base, J.hok, rv, q⟩
  cases fl with
  | ret u =>
    obtain ⟨v, σ', H', J, rv, q⟩ := hs
    exact fin J rv q
  | next =>
    obtain ⟨σ', H', J, q⟩ := hs
    exact fin (v := V.non) (u := Value.none) J rfl q
  | brk =>
    obtain ⟨_, _, _, q⟩ := hs
    exact False.elim q
  | cont =>
    obtain ⟨_, _, _, q⟩ := hs
    exact False.elim q
/-- a def that may raise, by its body; W: what leaves it -/
theorem calX_of {P : Program} {w : World} {K : PySem.W.Frag} {mg : Str → Option Value} {base : Heap} {x qual : Str} {st : Stmt} {f : Addr} {fd : FuncData} {N ps : List Str} {k : Nat} {F : WFX} {b : XQ → WS} (F0 : Fun K x qual st f fd) (hm : mg x = some (.ref f)) (hb : Binds K fd ps []) (S : FnScope N ps (defScope st)) (hN : ps.length ≤ N.length)
    (len : ∀ ds S Q E, F ds S Q E → ds.length = ps.length)
    (body : ∀ (cdv : Value) (A : Around) (outer : List Env) (s : Shared) (H : Hp) (E : XK), Cok (cxOf (L2.CX P w) P w K mg base N qual (defScope st) f cdv A outer s H E).nox k →
      Takes (cxOf (L2.CX P w) P w K mg base N qual (defScope st) f cdv A outer s H E) (fun cls d _ H => E cls d H) → PassesOwn (model P w) (cxOf (L2.CX P w) P w K mg base N qual (defScope st) f cdv A outer s H E).A (cxOf (L2.CX P w) P w K mg base N qual (defScope st) f cdv A outer s H E).env (cxOf (L2.CX P w) P w K mg base N qual (defScope st) f cdv A outer s H E).xe →
      ∀ XP : XQ, QSsX cs (cxOf (L2.CX P w) P w K mg base N qual (defScope st) f cdv A outer s H E) (fun cls d _ H => E cls d H) XP (defBody st) (b XP))
    (pure : ∀ ds S Q E, F ds S Q E → b (exOf E) (enOf Q) (DL.start N.length ds) S) : CalX cs P w K mg base x (k + 1) ps F := by
  obtain ⟨oc, od, kV, doc, pm, an, cdv, ct, osl, rfl, lk, hcd⟩ := F0.ex
  have len' : ∀ vs H Q E, lFX ⟨K, P, w⟩ mg cs F vs H Q E → vs.length = ps.length := fun vs H Q E ⟨ds, S, Q0, E0, r, so, h, _⟩ => by rw [r.length]; exact len _ _ _ _ h
  refine ⟨f, _, fnGX_of lk hcd S len' (fun A outer s H vs Q E hr hG hsp => ?_), hm, F0.kp, hb⟩
  have hl := len' _ _ _ _ hsp
  obtain ⟨ds, S0, Q0, E0, r, so, h, pst, px⟩ := hsp
  refine ⟨_, body cdv A outer s H E ⟨hr, hG, rfl, S.nd⟩ (takes_of rfl rfl rfl rfl) (passes_of rfl) (exOf E0), ?_⟩
  refine ⟨DL.start N.length ds, S0, enOf Q0, r.start (by rw [hl]; exact hN), so, pure _ _ _ _ h, ⟨fun env' S' h σ' H' er' s' f => ?_, fun d S' h v H' rv s' f => ?_, fun _ _ h => h.elim, fun _ _ h => h.elim⟩, fun x env' S' h cls d σ' H' xr er' s' f => ?_⟩
  · obtain ⟨S1, sb, h⟩ := (show UpS (Q0 .non) S' from h).ex
    exact pst _ _ h _ _ .non (s'.sub sb) (f.sub sb)
  · obtain ⟨S1, sb, h⟩ := (show UpS (Q0 d) S' from h).ex
    exact pst _ _ h _ _ rv (s'.sub sb) (f.sub sb)
  · obtain ⟨S1, sb, h⟩ := (show UpS (E0 x) S' from h).ex
    exact px _ _ h _ _ _ xr (s'.sub sb) (f.sub sb)

/-! ### expressions in which something may be raised -/
section
variable {X : Cx} {W : WX} {XP : XQ} {e a b : Expr} {es : List Expr} {te ta tb : WE} {t : WA} {p pos : Pos} {k j : Nat} {x : Str} {pl : List Str}
theorem qx_lift (h : QE X.nox e te) : QEX cs X W XP e te := (PE.nox h).imp' fun σ H Q ⟨env, S, Q0, er, so, q, pst, _⟩ => ⟨env, S, Q0, er, so, q, pst⟩
theorem qax_lift {es : List Expr} (h : PA X es (lA X.kw t)) : QAX cs X W XP es t := h.imp' fun σ H Q ⟨env, S, Q0, er, so, q, pst, _⟩ => ⟨env, S, Q0, er, so, q, pst⟩
theorem qax_nil : QAX cs X W XP [] aNil := qax_lift qa_nil
theorem qax_cons (ha : QEX cs X W XP a ta) (hr : QAX cs X W XP es t) (hs : starEach (a :: es) X.env = (false, eval a X.env) :: starEach es X.env := by rfl) : QAX cs X W XP (a :: es) (aCons ta t) := (pa_cons ha hr hs).imp' fun σ H Q ⟨env, S, Q0, er, so, q, ps, px⟩ => by
  refine ⟨env, S, _, er, so, q, fun d S1 h1 v H1 rv s1 f1 => ?_, px⟩
  refine ⟨env, S1, _, er.mono f1.tk, s1, h1, fun ds S2 h2 vs H2 rs s2 f2 => ?_, px.trans f1⟩
  exact ps _ _ h2 _ _ (.cons (rv.mono f2.tk) rs) s2 (f1.trans f2)
theorem qx_tup {x1} (h : QAX cs X W XP es t) : QEX cs X W XP (.Tuple es x1 pos) (eTup t) := (pe_tup h).imp' fun σ H Q ⟨env, S, Q0, er, so, q, ps, px⟩ => by
  refine ⟨env, S, _, er, so, q, fun ds S1 h1 vs H1 rs s1 f1 => ?_, px⟩
  have hz : ds.length ≤ sizeLine := Nat.le_trans h1.1 (by decide)
  exact ⟨by rw [rs.length]; exact hz, (ps.trans f1).tup s1 rs hz h1.2⟩
theorem qx_lst (h : QAX cs X W XP es t) : QEX cs X W XP (.List es pos) (eLst t) := (pe_lst h).imp' fun σ H Q ⟨env, S, Q0, er, so, q, ps, px⟩ => by
  refine ⟨env, S, _, er, so, q, fun ds S1 h1 vs H1 rs s1 f1 => ?_, px⟩
  have hz : ds.length ≤ sizeLine := Nat.le_trans h1.1 (by decide)
  exact ⟨by rw [rs.length]; exact hz, (ps.trans f1).made s1 rs hz h1.2⟩
theorem qx_blt {id : String} {r : List V → Hp → VK → Prop} {B : WB} (hc : CallR X (.builtin id) r) (hb : Bfr X r B) (hg : Gl X x) (hm : X.mg x = none) (hv : bootBuiltins x = some (.builtin id)) (ha : QAX cs X W XP (e :: es) t) (hn : x ≠ "__name__" := by decide) (hdb : (x == ("__debug__" : Str)) = false := by decide)
    (he : starEach (e :: es) X.env = (false, eval e X.env) :: starEach es X.env := by rfl) (hpl : (backTo pos (starEach es X.env)).any (·.1) = false := by rfl) :
    QEX cs X W XP (.Call (.Name x p) (e :: es) [] pos) (eCall B t) :=
  (pe_callB hc hg hm hv ha hn hdb he hpl).imp' fun σ H Q ⟨env, S, Q0, er, so, q, ps, px⟩ => ⟨env, S, _, er, so, q, fun ds S1 h1 vs H1 rs s1 f1 => hb _ _ _ _ _ _ h1 rs s1 (ps.trans f1), px⟩
theorem qx_bin {op : CmpOp} {r : R2} {R : D → D → Sto → WQ → Prop} (ho : OpR X (compareOp op) r) (hr : Opr X r R) (ha : QEX cs X W XP a ta) (hb : QEX cs X W XP b tb) (hm : behindInMarks op b = false) : QEX cs X W XP (.Compare a [op] [b] pos) (eBin R ta tb) :=
  (pe_cmpR ho ha hb hm).imp' fun σ H Q ⟨env, S, Q0, er, so, q, ps, px⟩ => by
  refine ⟨env, S, _, er, so, q, fun x S1 h1 v H1 rv s1 f1 => ?_, px⟩
  refine ⟨env, S1, _, er.mono f1.tk, s1, h1, fun y S2 h2 u H2 ru s2 f2 => ?_, px.trans f1⟩
  exact hr x y S2 _ v u H2 Q h2 (rv.mono f2.tk) ru s2 (ps.trans (f1.trans f2))
theorem qx_eq {k : Nat} (hr : Room k X.A) (ha : QEX cs X W XP a ta) (hb : QEX cs X W XP b tb) : QEX cs X W XP (.Compare a [.Eq] [b] pos) (eBin dEq ta tb) := qx_bin (op_eq.or (op_eqD hr.units)) opr_eq ha hb (nomark _)
theorem qx_ne {k : Nat} (hr : Room k X.A) (ha : QEX cs X W XP a ta) (hb : QEX cs X W XP b tb) : QEX cs X W XP (.Compare a [.NotEq] [b] pos) (eBin dNe ta tb) := qx_bin (op_ne.or (op_neD hr.units)) opr_ne ha hb (nomark _)
theorem qx_ix (ha : QEX cs X W XP a ta) (hb : QEX cs X W XP b tb) (hs : PlainIx b := by exact fun _ _ => rfl) : QEX cs X W XP (.Subscript a b pos) (eBin dIx ta tb) := (pe_ix ix_seq ha hb hs).imp' fun σ H Q ⟨env, S, Q0, er, so, q, ps, px⟩ => by
  refine ⟨env, S, _, er, so, q, fun x S1 h1 v H1 rv s1 f1 => ?_, px⟩
  refine ⟨env, S1, _, er.mono f1.tk, s1, h1, fun y S2 h2 u H2 ru s2 f2 => ?_, px.trans f1⟩
  exact opr_ix x y S2 _ v u H2 Q h2 (rv.mono f2.tk) ru s2 (ps.trans (f1.trans f2))
/-- a call of a def that may raise -/
theorem qx_call {F : WFX} (C : Cok X j) (tk : Takes X W) (c : CalX cs X.prog X.w X.K X.mg X.base x k pl F) (hj : k ≤ j) (hg : Gl X x) (ha : QAX cs X W XP (e :: es) t)
    (hdb : (x == ("__debug__" : Str)) = false := by decide) (he : starEach (e :: es) X.env = (false, eval e X.env) :: starEach es X.env := by rfl) (hpl : (backTo pos (starEach es X.env)).any (·.1) = false := by rfl) :
    QEX cs X W XP (.Call (.Name x p) (e :: es) [] pos) (eCallX F t XP) := by
  obtain ⟨f, fd, G, hm, hk, hb⟩ := c.ex
  refine ⟨fun pins s σ H Q I ⟨env, S, Q0, er, so, q, ps, px⟩ => ?_⟩
  refine wpAny_Call_Name_kw (ld_glob I hg hm ?_ hdb)
  refine PySem.W.callWith_K (h₀ := X.base) I.ok.mod.kin hk (thn (ha.run pos pins s σ H (fun vs H1 => lFX X.kw X.mg cs F vs H1 Q (L2.WE W σ)) I ⟨env, S, _, er, so, q, fun ds S1 h1 vs H1 rs s1 f1 => ⟨ds, S1, Q0, _, rs, s1, h1, ps.trans f1, fun xv S' h cls d H' xr s' f => px xv env S' h cls d σ H' xr (er.mono (f1.trans f).tk) s' (f1.trans f)⟩, px⟩) fun us s1 ⟨vs, H1, I1, r, q⟩ => ⟨I1.kIn, ?_⟩) he hpl
  have hl : (us ++ []).length = pl.length := by rw [List.append_nil, ← r.length]; exact G.len _ _ _ _ q
  have hb' := hb s1 us I1.kIn hl
  rw [List.append_nil] at hb'
  refine wpAny_call (codeAny_mono (G.run X.A X.stack s1 H1 ⟨us, []⟩ us vs Q (L2.WE W σ) (C.room.mono hj) C.gd I1.env0 hb' r q) fun r s' hq => ?_)
  cases r with
  | error e => exact passAt tk σ pins H1 s1 e s' I1 hq
  | ok fl =>
    cases fl with
    | ret u => exact I1.after hq
    | next => exact False.elim hq
    | brk => exact False.elim hq
    | cont => exact False.elim hq
/-- a call of a def that raises nothing, an argument may -/
theorem qx_callN {F : WF} (C : Cok X j) (c : Cal X.prog X.w X.K X.mg X.base x k pl F) (hj : k ≤ j) (hg : Gl X x) (ha : QAX cs X W XP (e :: es) t)
    (hdb : (x == ("__debug__" : Str)) = false := by decide) (he : starEach (e :: es) X.env = (false, eval e X.env) :: starEach es X.env := by rfl) (hpl : (backTo pos (starEach es X.env)).any (·.1) = false := by rfl) :
    QEX cs X W XP (.Call (.Name x p) (e :: es) [] pos) (eCall F t) := by
  obtain ⟨f, fd, G, hm, hk, hb⟩ := c.ex
  refine ⟨fun pins s σ H Q I ⟨env, S, Q0, er, so, q, ps, px⟩ => ?_⟩
  refine wpAny_Call_Name_kw (ld_glob I hg hm ?_ hdb)
  refine PySem.W.callWith_K (h₀ := X.base) I.ok.mod.kin hk (thn (ha.run pos pins s σ H (fun vs H1 => lF X.kw F vs H1 Q E0) I ⟨env, S, _, er, so, q, fun ds S1 h1 vs H1 rs s1 f1 => ⟨ds, S1, Q0, rs, s1, h1, ps.trans f1⟩, px⟩) fun us s1 ⟨vs, H1, I1, r, q⟩ => ⟨I1.kIn, ?_⟩) he hpl
  exact run_fnG C hj G hb I1 r q
end

/-! ### statements -/
section
variable {X : Cx} {W : WX} {XP : XQ} {e : Expr} {te : WE} {st : Stmt} {rest : List Stmt} {t u : WS} {pos : Pos}
theorem _root_.L2.PS.nox {st : Stmt} {t : TS} (h : PS X.nox st t) : PS X st t := ⟨fun pins s σ H D I hw =>
  wpAny_mono (h.run pins s σ H D (I.wish _) hw) (fun _ _ q => q.unwish) fun _ _ z => False.elim z⟩
theorem qsx_lift (h : QS X.nox st t) : QSX cs X W XP st t := (PS.nox h).imp' fun D σ H ⟨env, S, D0, er, so, q, ps, _⟩ => ⟨env, S, D0, er, so, q, ps⟩
theorem qssx_lift (h : QSs X.nox rest t) : QSsX cs X W XP rest t := (PSs.nox h).imp' fun D σ H ⟨env, S, D0, er, so, q, ps, _⟩ => ⟨env, S, D0, er, so, q, ps⟩
theorem qsx_nil : QSsX cs X W XP [] sNil := pss_nil.imp' fun D σ H ⟨env, S, D0, er, so, q, ps, _⟩ => ps.nx _ _ q _ _ er so (.refl S H)
theorem qsx_cons (h1 : QSX cs X W XP st t) (h2 : QSsX cs X W XP rest u) : QSsX cs X W XP (st :: rest) (sSeq t u) := (pss_cons h1 h2).imp' fun D σ H ⟨env, S, D0, er, so, q, ps, px⟩ =>
  ⟨env, S, { D0 with nx := u D0 }, er, so, q, ⟨fun env' S' h σ' H' er' s' f => ⟨env', S', D0, er', s', h, ps.trans f, px.trans f⟩, ps.rt, ps.bk, ps.ct⟩, px⟩
theorem qsx_one (h1 : QSX cs X W XP st t) : QSsX cs X W XP [st] t := pss_one h1
theorem qsx_expr (he : QEX cs X W XP e te) (hs : swapsWith e none pos.line X.env = pure false := by rfl) : QSX cs X W XP (.Expr e pos) (sDrop te) := (ps_expr he hs).imp' fun D σ H ⟨env, S, D0, er, so, q, ps, px⟩ =>
  ⟨env, S, _, er, so, q, fun d S1 h1 v H1 rv s1 f1 => ps.nx _ _ h1 _ _ (er.mono f1.tk) s1 f1, px⟩
theorem qsx_ret (he : QEX cs X W XP e te) : QSX cs X W XP (.Return (some e) pos) (sRet te) := (ps_ret he).imp' fun D σ H ⟨env, S, D0, er, so, q, ps, px⟩ => ⟨env, S, _, er, so, q, ps.rt, px⟩
theorem qsx_set {i : Nat} {x : Str} {p2 : Pos} (hN : X.N.Nodup) (hi : X.N[i]? = some x) (hx : Loc X.env.scope x) (he : QEX cs X W XP e te) (hs : swapsWith e (some (.Name x p2)) pos.line X.env = pure false := by rfl) (hf : X.fn x = true ∨ X.env.scope.names.lookup x = some .local := by first | exact .inl rfl | exact .inr rfl | assumption) :
    QSX cs X W XP (.Assign [.Name x p2] e pos) (sAsg te (DL.gName i)) := (ps_set hN hi hx he hs hf).imp' fun D σ H ⟨env, S, D0, er, so, q, ps, px⟩ =>
  ⟨env, S, _, er, so, q, fun d S1 h1 v H1 rv s1 f1 => ps.nx _ _ h1 _ _ ((er.mono f1.tk).set i rv) s1 f1, px⟩
theorem qsx_asg {tg : Expr} {g : WG} (he : QEX cs X W XP e te) (hg : QG X tg g) (hs : swapsWithSole [tg] e pos.line X.env = pure false := by rfl) (hw : swappedStores [tg] e X.env = pure none := by rfl)
    (h1 : (assignEach [tg] X.env).map (·.2) = [assign tg X.env] := by rfl) : QSX cs X W XP (.Assign [tg] e pos) (sAsg te g) := (ps_asg he hg hs hw h1).imp' fun D σ H ⟨env, S, D0, er, so, q, ps, px⟩ =>
  ⟨env, S, _, er, so, q, fun d S1 h1 v H1 rv s1 f1 => ⟨d, env, S1, _, rv, er.mono f1.tk, s1, h1, fun env2 S2 h2 σ2 H2 er2 s2 f2 => ps.nx _ _ h2 _ _ er2 s2 (f1.trans f2)⟩, px⟩
theorem qsx_if {c : Expr} {a b : List Stmt} {tc : WT} (hc : QT X.nox c tc) (ha : QSsX cs X W XP a t) (hb : QSsX cs X W XP b u) : QSX cs X W XP (.If c a b pos) (sIf tc t u) := (ps_if (PT.nox hc) ha hb).imp' fun D σ H ⟨env, S, D0, er, so, q, ps, px⟩ => by
  refine ⟨env, S, _, er, so, q, fun k S1 h1 H1 s1 f1 => ?_⟩
  cases k with
  | true => exact ⟨env, S1, D0, er.mono f1.tk, s1, h1, ps.trans f1, px.trans f1⟩
  | false => exact ⟨env, S1, D0, er.mono f1.tk, s1, h1, ps.trans f1, px.trans f1⟩
theorem qsx_join (h : QSX cs X W XP st t) : QSX cs X W XP st (sJoin t) := h.imp' fun D σ H ⟨env, S, D0, er, so, q, ps, px⟩ => by
  unfold sJoin at q
  obtain ⟨P, h1, h2⟩ := q
  refine ⟨env, S, _, er, so, h1, ⟨fun env' S' h σ' H' er' s' f => ?_, ps.rt, ps.bk, ps.ct⟩, px⟩
  obtain ⟨S0, sb, h⟩ := (show UpS (P env') S' from h).ex
  exact ps.nx _ _ (h2 _ _ h) _ _ er' (s'.sub sb) (f.sub sb)
theorem qsx_for {tg iter : Expr} {body : List Stmt} {wi : WI} {g : WG} (hp : PassesOwn (model X.prog X.w) X.A X.env X.xe) (hc : X.calm = true) (hi : QI X tg iter wi) (hg : QG X tg g) (hb : QSsX cs X W XP body t)
    (hs : ∀ x, foldedSetIterable iter X.env x = pure x := by intro _; rfl) : QSX cs X W XP (.For tg iter body [] pos) (sFor wi g t) := (ps_for hp hc hi hg hb hs).imp' fun D σ H ⟨env, S, D0, er, so, q, ps, px⟩ => by
  unfold sFor at q
  refine ⟨env, S, _, er, so, q, fun J S1 h1 J' H1 jr s1 f1 => ?_⟩
  obtain ⟨W, w0, turn, done⟩ := h1
  refine ⟨fun i m σ' H' => ∃ env' S', ER X.kw H' σ' env' ∧ SOk X.kw H' S' ∧ Fr S1 S' H1 H' ∧ W i env' S' ∧ m = J.xs.length - i ∧ i ≤ J.xs.length, ⟨J.xs.length, env, S1, er.mono f1.tk, s1, .refl _ _, w0, by omega, Nat.zero_le _⟩, ?_⟩
  rintro i m σ2 H2 ⟨env2, S2, er2, s2, f2, w2, rfl, hi2⟩
  cases hd : J.xs[i]? with
  | none =>
    have hl : J.xs.length ≤ i := List.getElem?_eq_none_iff.mp hd
    have e : i = J.xs.length := Nat.le_antisymm hi2 hl
    rw [e] at w2
    obtain ⟨chk, q2⟩ := done env2 S2 w2
    exact .inl ⟨jr.stop i H2 S2 s2 f2.tk chk hl, ps.nx _ _ q2 _ _ er2 s2 (f1.trans f2)⟩
  | some x =>
    have hlt : i < J.xs.length := (List.getElem?_eq_some_iff.mp hd).1
    obtain ⟨chk, q2⟩ := turn i x env2 S2 hd w2
    obtain ⟨go, yld⟩ := jr.go i H2 S2 x s2 f2.tk chk hd
    refine .inr ⟨go, fun σ' H' => ∃ env' S', ER X.kw H' σ' env' ∧ SOk X.kw H' S' ∧ Fr S1 S' H1 H' ∧ W (i + 1) env' S', fun σ' H' ⟨env', S', a, b, c, w'⟩ => ⟨J.xs.length - (i + 1), by omega, env', S', a, b, c, w', rfl, hlt⟩, fun v H3 y3 => ?_⟩
    obtain ⟨rv, s3, f3⟩ := yld v H3 y3
    refine ⟨x, env2, S2, _, rv, er2.mono f3.tk, s3, q2, fun env4 S4 h4 σ4 H4 er4 s4 f4 => ?_⟩
    have f := (f2.trans f3).trans f4
    have up : ∀ env' S', UpS (W (i + 1) env') S' → ∀ σ' H', ER X.kw H' σ' env' → SOk X.kw H' S' → Fr S4 S' H4 H' → ∃ env' S', ER X.kw H' σ' env' ∧ SOk X.kw H' S' ∧ Fr S1 S' H1 H' ∧ W (i + 1) env' S' := fun env' S' h σ' H' er' s' g => by
      obtain ⟨S0, sb, h⟩ := h.ex
      exact ⟨env', S0, er', s'.sub sb, ((f.trans g).sub sb), h⟩
    exact ⟨env4, S4, _, er4, s4, h4, ⟨up, ps.rt.trans (f1.trans f), fun env' S' h σ' H' er' s' g => ps.nx _ _ h _ _ er' s' ((f1.trans f).trans g), up⟩, px.trans (f1.trans f)⟩
end

/-! ### raise -/
/-- the own __init__ of such a class: self.f = p -/
def spIni (C : Addr) (f : Str) : Sp := fun vs H Q _ => ∃ a u, vs = [.ref a, u] ∧ H a = some (exo a C none) ∧ ∀ dx, H dx = none → dx ≠ a → Q .non (upd (upd H dx (exd dx [(f, u)])) a (exo a C (some dx)))
structure Ini (P : Program) (w : World) (K : PySem.W.Frag) (mg : Str → Option Value) (base : Heap) (C : Addr) (f : Str) : Prop where
  ex : ∃ fI fd ps, PySem.W.findIn K (.ref C) "__init__" = some (some (.ref fI)) ∧ PySem.W.typeIn K (.ref fI) = some (.type "function") ∧ FnOk P w K mg base CX0 1 fI fd ps (spIni C f) ∧ Binds K fd ps []
theorem ini_of {P : Program} {w : World} {K : PySem.W.Frag} {mg : Str → Option Value} {base : Heap} {C fI : Addr} {fd : FuncData} {x qual sf pr f : Str} {st : Stmt} {p1 p2 p3 p4 : Pos} (T : OexC K C) (nf : PySem.W.findIn K (.ref C) f = some none)
    (iC : PySem.W.findIn K (.ref C) "__init__" = some (some (.ref fI))) (tI : PySem.W.typeIn K (.ref fI) = some (.type "function")) (F0 : Fun K x qual st fI fd) (hb : Binds K fd [sf, pr] []) (S : FnScope [sf, pr] [sf, pr] (defScope st))
    (hs : defBody st = [.Assign [.Attribute (.Name sf p1) f p2] (.Name pr p3) p4]) (d1 : (sf == ("__debug__" : Str)) = false := by decide) (d2 : (sf == ("__classdict__" : Str)) = false := by decide) (d3 : (pr == ("__debug__" : Str)) = false := by decide) (d4 : (pr == ("__classdict__" : Str)) = false := by decide) : Ini P w K mg base C f := by
  refine ⟨fI, fd, [sf, pr], iC, tI, F0.ok S (fun vs H Q E ⟨a, u, e, _⟩ => by rw [e]; rfl) (fun cdv A outer s H vs Q E hr ⟨a, u, e, ha, q⟩ => ?_), hb⟩
  subst e
  rw [hs]
  have v1 : Vis (defScope st) sf := by
    rcases S.par sf (by simp) with h | h
    · exact Or.inl h
    · exact Or.inr (Or.inl h)
  have v2 : Vis (defScope st) pr := by
    rcases S.par pr (by simp) with h | h
    · exact Or.inl h
    · exact Or.inr (Or.inl h)
  refine ⟨_, pss_one (ps_ost (pe_var (i := 0) rfl v1 d1 d2) (pe_var (i := 1) rfl v2 d3 d4) (by rfl)), ?_⟩
  exact ⟨_, rfl, _, rfl, a, C, rfl, T, nf, .inl ⟨ha, fun dx h1 h2 => q dx h1 h2⟩⟩
theorem pmk_ini {X : Cx} {k : Nat} {C : Addr} {c f : Str} {e : Expr} {te : WE} {XP : XQ} {p pos : Pos} (hc : Room (k + 2) X.A) (I0 : Ini X.prog X.w X.K X.mg X.base C f) (T : OexC X.K C) (hg : Gl X c) (hm : X.mg c = some (.ref C)) (hcs : c ∈ cs) (he : QE X e te)
    (hdb : (c == ("__debug__" : Str)) = false := by decide) (hst : starEach [e] X.env = (false, eval e X.env) :: starEach [] X.env := by rfl) : PMk X (.Call (.Name c p) [e] [] pos) (fun σ H Q => ∃ env S, ER X.kw H σ env ∧ SOk X.kw H S ∧ te env S (fun d S1 => XP ⟨c, some (f, d)⟩ env S1) ∧
      ∀ x env' S', XP x env' S' → ∀ cls d H', XR X.kw X.mg cs H' cls d x → ER X.kw H' σ env' → SOk X.kw H' S' → Fr S S' H H' → Q cls d H') := by
  obtain ⟨fI, fd, ps, iC, tI, F1, hb⟩ := I0.ex
  have key := pmk_oex (X := X) (CX := CX0) (p := p) (pos := pos) (ds := []) (dvs := []) T iC tI F1 (hc.mono (by omega)) hb .nil pass0 hg hm (pa_cons he pa_nil hst) hdb hst rfl
  intro pins s σ H Q I h
  refine key pins s σ H Q I ?_
  obtain ⟨env, S, er, so, q, px⟩ := h
  refine ⟨env, S, _, er, so, q, fun d S1 h1 v H1 rv s1 f1 => ?_⟩
  refine ⟨by show 1 ≤ 1000; decide, fun a ha => ?_⟩
  refine ⟨a, v, rfl, upd_same, fun dx hd1 hd2 => ⟨rfl, dx, [(f, v)], upd_same, ?_, ?_, ?_⟩⟩
  · rw [upd_ne hd2, upd_same]
  · rw [upd_ne hd2] at hd1
    exact hd1
  · rw [upd_ne hd2] at hd1
    have e : upd (del (upd (upd (upd H1 a (exo a C none)) dx (exd dx [(f, v)])) a (exo a C (some dx))) a) dx (.xd [(f, v)]) = upd H1 dx (.xd [(f, v)]) := by
      funext b
      by_cases h1 : b = dx
      · rw [h1, upd_same, upd_same]
      · rw [upd_ne h1, upd_ne h1]
        by_cases h2 : b = a
        · rw [h2, del_same, ha]
        · rw [del_ne h2, upd_ne h2, upd_ne h1, upd_ne h2]
    rw [e]
    have f2 := f1.trans (Fr.off S1 (h := .xd [(f, v)]) hd1)
    exact px _ _ _ h1 _ _ _ ⟨hcs, hm, dx, v, rfl, upd_same, rv.mono (.new hd1)⟩ (er.mono f2.tk) (s1.off hd1) f2
theorem qsx_raise {X : Cx} {W : WX} {XP : XQ} {k : Nat} {C : Addr} {c f : Str} {e : Expr} {te : WE} {p p2 pos : Pos} (hc : Room (k + 2) X.A) (hcalm : X.calm = true) (tk : Takes X W) (I0 : Ini X.prog X.w X.K X.mg X.base C f) (T : OexC X.K C) (hg : Gl X c) (hm : X.mg c = some (.ref C)) (hcs : c ∈ cs) (he : QE X e te)
    (hdb : (c == ("__debug__" : Str)) = false := by decide) (hst : starEach [e] X.env = (false, eval e X.env) :: starEach [] X.env := by rfl) : QSX cs X W XP (.Raise (some (.Call (.Name c p) [e] [] p2)) none pos) (sRaise c f te XP) :=
  (ps_raise hcalm tk (pmk_ini (cs := cs) (XP := XP) hc I0 T hg hm hcs he hdb hst)).imp' fun D σ H ⟨env, S, D0, er, so, q, ps, px⟩ =>
  ⟨env, S, er, so, q, fun x env' S' h cls d H' xr er' s' f => px x env' S' h cls d σ H' xr er' s' f⟩

/-- C(), C without own __init__ -/
theorem pmk_own0 {X : Cx} {C : Addr} {bmB : List Value} {B newId initId : String} {x : Str} {p pos : Pos} (F : ExcBaseFacts B newId initId bmB) (q : PySem.W.excIn X.K C bmB newId = true) (gC : X.mg x = some (.ref C)) (kC : PySem.W.keepIn X.K (.ref C) = true) (r : Raises X (.ref C)) (hg : Gl X x)
    (hdb : (x == ("__debug__" : Str)) = false := by decide) : PMk X (.Call (.Name x p) [] [] pos) (fun _ H Q => Q (.ref C) none H) := by
  intro pins s σ H Q I h
  refine wpAny_Call_Name_kw (ld_glob I hg gC ?_ hdb)
  refine PySem.W.callWith_K0 I.kIn kC ?_
  obtain ⟨bm, N, nm, qn, bs, hdct, sn, sub, ab, col, dd, k0, k1, k2, k3, k5, mN, hC, hN, hni, T⟩ := exc_obj I.kIn q
  refine wpAny_call_exc_subT F T hC hN hni (fun h' e hm => ?_) (by show 0 ≤ sizeLine; rw [sizeLine_eq]; omega)
  exact mk_of I hm r h (I.hok.gone hm.new)
theorem qsx_raise0 {X : Cx} {W : WX} {XP : XQ} {C : Addr} {c : Str} {p p2 pos : Pos} (hcalm : X.calm = true) (tk : Takes X W) (q : PySem.W.excIn X.K C [.type "ValueError", .type "Exception", .type "BaseException", .type "object"] "ValueError.__new__" = true) (kC : PySem.W.keepIn X.K (.ref C) = true) (r : Raises X (.ref C)) (hg : Gl X c) (hm : X.mg c = some (.ref C)) (hcs : c ∈ cs)
    (hdb : (c == ("__debug__" : Str)) = false := by decide) : QSX cs X W XP (.Raise (some (.Call (.Name c p) [] [] p2)) none pos) (sRaise0 c XP) :=
  (ps_raise hcalm tk (pmk_own0 F.excBase_ValueError q hm kC r hg hdb)).imp' fun D σ H ⟨env, S, D0, er, so, q, ps, px⟩ =>
  px _ _ _ q _ _ _ _ ⟨hcs, hm, rfl⟩ er so (.refl S H)
/-! ### try -/
section
variable {X : Cx} {W : WX} {XP : XQ} {x n : Str} {i : Nat} {st : Stmt} {body suite : List Stmt} {np pos pos' : Pos} {tb : XQ → WS} {th : Addr → Addr → XV → WS}
theorem qsx_try (hs : X.stack = X.env :: X.outer) (hf : X.env.frame = some X.env.locals) (hN : X.N.Nodup) (hi : X.N[i]? = some n) (hln : X.env.kindOf n = some .local) (hg : Gl X x) (hdb : (x == ("__debug__" : Str)) = false) (A : XAsk X.K X.mg cs x) (tk : Takes X W)
    (hb : ∀ (W1 : WX) (pn : List (Addr × Obj)) (xe : Value → Shared → Prop), Takes (X.tr pn xe) W1 → PassesOwn (model X.prog X.w) X.A X.env xe → ∀ P1 : XQ, QSsX cs (X.tr pn xe) W1 P1 body (tb P1))
    (hsu : ∀ (a : Addr) (oe : Obj) (cls : Value) (d : Option Addr) (pn : List (Addr × Obj)), Zc cls d oe → (∃ vs, oe.data = .fields vs) → ∀ xv : XV, XK1 X.mg cs cls d xv → QSs (X.suite a ((a, oe) :: pn)) (st :: suite) (th a (d.getD 0) xv)) :
    QSX cs X W XP (.Try body [.ExceptHandler (some (.Name x np)) (some n) (st :: suite) pos'] [] [] pos) (sTry i x tb th XP) := by
  obtain ⟨N, hN1, -, hN2, hN3⟩ := A.ex
  refine (ps_try_as (X := X) (c := N) (i := i) (tb := fun W1 D σ H => ∃ P1, lSX X.kw X.mg cs W1 P1 (tb P1) D σ H) (ts := fun a cls d D σ H => ∃ xv, XK1 X.mg cs cls d xv ∧ lS X.kw (th a (d.getD 0) xv) D σ H) (Wout := W) hs hf hN hi hln ⟨hg, hdb, hN1⟩ tk
    (fun W1 pn xe t1 po => ⟨fun pins s σ H D I ⟨P1, h⟩ => (hb W1 pn xe t1 po P1).run pins s σ H D I h⟩)
    (fun a oe cls d pn hz hv => ⟨fun pins s σ H D I ⟨xv, k, h⟩ => (hsu a oe cls d pn hz hv xv k).run pins s σ H D I h⟩)).imp' fun D σ H ⟨env, S, D0, er, so, q, ps, px⟩ => ?_
  obtain ⟨P1, h1, h2⟩ := q.ex
  refine ⟨P1, env, S, D0, er, so, h1, ps, fun xv env' S' hx cls d σ' H' xr er' s' f => ?_⟩
  have hk := (hN3 xv.cls xr.mem cls xr.cls)
  refine ⟨subX xv.cls x, ?_, ?_, ?_⟩
  · unfold PySem.W.exmOne
    rw [if_pos (by rw [hN2]; rfl)]
    exact hk.1
  · intro ht a na
    have h3 := h2 xv env' S' hx
    rw [if_pos ht] at h3
    have rd := xr.rd a
    refine ⟨xv, xr.k1, env'.set i (some (xv.dat a (d.getD 0))), S', unb i D0, er'.set i rd, s', h3 a _, ⟨?_, ps.rt.trans f, ?_, ?_⟩⟩
    · intro env2 S2 h σ2 H2 er2 s2 f2
      exact ps.nx _ _ h _ _ (er2.setN i) s2 (f.trans f2)
    · intro env2 S2 h σ2 H2 er2 s2 f2
      exact ps.bk _ _ h _ _ (er2.setN i) s2 (f.trans f2)
    · intro env2 S2 h σ2 H2 er2 s2 f2
      exact ps.ct _ _ h _ _ (er2.setN i) s2 (f.trans f2)
  · intro ht
    have h3 := h2 xv env' S' hx
    rw [if_neg (by rw [ht]; decide)] at h3
    exact px _ _ _ h3 _ _ _ _ xr er' s' f
end

section
variable {X : Cx} {W : WX} {XP : XQ} {x : Str} {st : Stmt} {body suite : List Stmt} {np pos pos' : Pos} {tb : XQ → WS} {th : WS}
theorem qsx_tryO (hs : X.stack = X.env :: X.outer) (hf : X.env.frame = some X.env.locals) (hg : Gl X x) (hdb : (x == ("__debug__" : Str)) = false) (A : XAsk X.K X.mg cs x) (tk : Takes X W)
    (hb : ∀ (W1 : WX) (pn : List (Addr × Obj)) (xe : Value → Shared → Prop), Takes (X.tr pn xe) W1 → PassesOwn (model X.prog X.w) X.A X.env xe → ∀ P1 : XQ, QSsX cs (X.tr pn xe) W1 P1 body (tb P1))
    (hsu : ∀ (a : Addr) (oe : Obj) (pn : List (Addr × Obj)), QSs (X.suite a ((a, oe) :: pn)) (st :: suite) th) :
    QSX cs X W XP (.Try body [.ExceptHandler (some (.Name x np)) none (st :: suite) pos'] [] [] pos) (sTryO x tb th XP) := by
  obtain ⟨N, hN1, -, hN2, hN3⟩ := A.ex
  refine (ps_try_only (X := X) (c := N) (tb := fun W1 D σ H => ∃ P1, lSX X.kw X.mg cs W1 P1 (tb P1) D σ H) (ts := fun a cls d D σ H => lS X.kw th D σ H) (Wout := W) hs hf ⟨hg, hdb, hN1⟩ tk
    (fun W1 pn xe t1 po => ⟨fun pins s σ H D I ⟨P1, h⟩ => (hb W1 pn xe t1 po P1).run pins s σ H D I h⟩)
    (fun a oe cls d pn hz hv => hsu a oe pn)).imp' fun D σ H ⟨env, S, D0, er, so, q, ps, px⟩ => ?_
  obtain ⟨P1, h1, h2⟩ := q.ex
  refine ⟨P1, env, S, D0, er, so, h1, ps, fun xv env' S' hx cls d σ' H' xr er' s' f => ?_⟩
  have hk := (hN3 xv.cls xr.mem cls xr.cls)
  refine ⟨subX xv.cls x, ?_, ?_, ?_⟩
  · unfold PySem.W.exmOne
    rw [if_pos (by rw [hN2]; rfl)]
    exact hk.1
  · intro ht a na
    have h3 := h2 xv env' S' hx
    rw [if_pos ht] at h3
    exact ⟨env', S', D0, er', s', h3, ps.trans f⟩
  · intro ht
    have h3 := h2 xv env' S' hx
    rw [if_neg (by rw [ht]; decide)] at h3
    exact px _ _ _ h3 _ _ _ _ xr er' s' f
end
/-- the end of the layer: nothing is let out -/
theorem qsx_done {X : Cx} {st : Stmt} {t : WS} (h : QSX cs X (fun _ _ _ _ => False) noX st t) : QS X st t := h.imp' fun D σ H ⟨env, S, D0, er, so, q, ps⟩ => ⟨env, S, D0, er, so, q, ps, fun _ _ _ z => z.elim⟩
theorem Cok.tr {X : Cx} {k : Nat} (c : Cok X k) (pn : List (Addr × Obj)) (xe : Value → Shared → Prop) : Cok (X.tr pn xe) k := ⟨c.room, c.gd, c.calm, c.nd⟩
theorem Cok.nox {X : Cx} {k : Nat} (c : Cok X k) : Cok X.nox k := ⟨c.room, c.gd, c.calm, c.nd⟩
theorem Cok.unox {X : Cx} {k : Nat} (c : Cok X.nox k) : Cok X k := ⟨c.room, c.gd, c.calm, c.nd⟩
/-- what an except suite leans on -/
structure Cos (X : Cx) : Prop where
  un : X.A.units + 100 < cLine
  gd : X.A.guards = some []
theorem Cok.suite {X : Cx} {k : Nat} (c : Cok X k) (a : Addr) (pn : List (Addr × Obj)) : Cos (X.suite a pn) := ⟨by have := c.room.un; show X.A.units + 100 < _; omega, c.gd⟩
section
variable {X : Cx} {a b : Expr} {ta tb : WE} {pos : Pos}
theorem q_eqS (C : Cos X) (ha : QE X a ta) (hb : QE X b tb) : QE X (.Compare a [.Eq] [b] pos) (eBin dEq ta tb) := q_cmp (op_eq.or (op_eqD (by have := C.un; omega))) opr_eq ha hb (nomark _)
theorem q_neS (C : Cos X) (ha : QE X a ta) (hb : QE X b tb) : QE X (.Compare a [.NotEq] [b] pos) (eBin dNe ta tb) := q_cmp (op_ne.or (op_neD (by have := C.un; omega))) opr_ne ha hb (nomark _)
theorem qt_eqS (C : Cos X) (ha : QE X a ta) (hb : QE X b tb) : QT X (.Compare a [.Eq] [b] pos) (DL.tB (eBin dEq ta tb)) := qt_cmp (op_eq.or (op_eqD (by have := C.un; omega))) opr_eq ha hb (nomark _)
theorem qt_neS (C : Cos X) (ha : QE X a ta) (hb : QE X b tb) : QT X (.Compare a [.NotEq] [b] pos) (DL.tB (eBin dNe ta tb)) := qt_cmp (op_ne.or (op_neD (by have := C.un; omega))) opr_ne ha hb (nomark _)
theorem call_reprS (C : Cos X) : CallR X (.builtin "repr") (rRepr X.K) := by
  intro pins s σ H xs us Q I r h
  obtain ⟨x, d, rfl, hd, nd, ⟨h1, h2, h3⟩, q⟩ := h
  obtain ⟨u, rfl, rx⟩ := vals1 r
  have fin : ∀ {tk : Tok} {tk' : Nat} {w : Str}, w = d.shown → EP X pins σ Q (.str w tk) { s with toks := tk' } := fun {tk tk' w} e => ⟨.str _, H, I.tok _, ⟨_, rfl⟩, by rw [e]; exact q⟩
  have big : ∀ {a : Addr}, u = .ref a → wpAny (model X.prog X.w) X.A (call (.builtin "repr") [u]) (EP X pins σ Q) X.xe s := fun {a} e => by
    obtain ⟨as, rd⟩ := Dp.reads I d x u hd rx
    subst e
    have := C.un
    exact repr_of_reads' rd h1 (PyData.noDict_hsm nd) C.gd (by omega) (fun _ _ e => e) (fun h' u tk hk => ⟨.str _, H, I.kept hk, ⟨_, rfl⟩, q⟩) h2
  cases hd with
  | non => cases rx; exact PySem.P.repr_of_none (fin (by simp [PyData.shown]))
  | bl b => cases rx; exact PySem.P.repr_of_bool (fin (by simp [PyData.shown]))
  | int i =>
    obtain ⟨t, rfl⟩ := rx
    refine PySem.P.repr_of_int (by simpa [PyData.showable] using h1) (fin (by simp [PyData.shown]))
  | str y =>
    obtain ⟨t, rfl⟩ := rx
    exact PySem.P.repr_of_str (fin (by simp [PyData.shown])) (by simpa [PyData.shown] using h2)
  | lst _ _ => exact big rx
  | tup _ _ => exact big rx
end
/-! ### in an except suite -/
section
variable {X : Cx} {a : Addr} {oe : Obj} {pn : List (Addr × Obj)} {cls : Value} {d : Option Addr} {xv : XV} {i : Nat} {n c f : Str} {p p1 p2 pos : Pos}
theorem call_isE2 {D : Addr} {d : Option Addr} (C : XcB X.K D) (hz : Zc (.ref D) d oe) (hf : ∃ vs, oe.data = .fields vs) (hd : ∀ dd, d = some dd → ∀ (H : Hp) (s : Shared) pins σ, Inv (X.suite a ((a, oe) :: pn)) pins σ H s → (∃ fs, H dd = some (.xd fs)) → ∃ o, s.heap.get? dd = some o) :
    CallR (X.suite a ((a, oe) :: pn)) (.builtin "isinstance") (fun xs H Q => (∀ dd, d = some dd → ∃ fs, H dd = some (.xd fs)) ∧ rIsE X.K D a xs H Q) := by
  intro pins s σ H xs us Q I r h
  obtain ⟨hx, c, cv, b, rfl, hcv, e, q⟩ := h
  cases r with
  | cons rx rr =>
    cases rr with
    | cons rt rr =>
      cases rr
      cases rx
      have ec := hcv _ rt
      subst ec
      obtain ⟨hget, _⟩ := I.pin (a, oe) (List.mem_append.mpr (.inl List.mem_cons_self))
      obtain ⟨vs, hv⟩ := hf
      have J : ∃ od, PySem.W.InstAt s.heap a oe D od := by
        cases d with
        | none =>
          refine ⟨none, ?_⟩
          obtain ⟨oc, od, oda, osl⟩ := oe
          obtain ⟨h1, h2⟩ := hz
          dsimp only at h1 h2 hv
          subst h1 h2 hv
          exact ⟨hget, rfl, rfl, trivial⟩
        | some dd =>
          obtain ⟨o, ho⟩ := hd dd rfl H s pins σ I (hx dd rfl)
          refine ⟨some o, ?_⟩
          obtain ⟨oc, od, oda, osl⟩ := oe
          obtain ⟨h1, h2⟩ := hz
          dsimp only at h1 h2 hv
          subst h1 h2 hv
          exact ⟨hget, rfl, rfl, ho⟩
      obtain ⟨od, J⟩ := J
      exact PySem.W.kia_one (PySem.W.kitx_exc C.hc C.f.ga C.f.gg C.f.exC C.ha C.hn C.ht C.hm) I.kIn J e (fun z => nomatch z) fun tk => ⟨.bl b, H, I.kept (t' := tk) fun _ _ z => z, rfl, q⟩
/-- isinstance(e, c) -/
theorem q_isx {fs : List Str} (hz : Zc cls d oe) (hv : ∃ vs, oe.data = .fields vs) (k : XK1 X.mg cs cls d xv) (T : XTab X.K X.mg cs fs) (A : XAsk X.K X.mg cs c) (hN : X.N[i]? = some n) (hvis : Vis X.env.scope n)
    (hg0 : Gl X "isinstance") (hm0 : X.mg "isinstance" = none) (hg : Gl X c) (d1 : (n == ("__debug__" : Str)) = false := by decide) (d2 : (n == ("__classdict__" : Str)) = false := by decide) (d3 : (c == ("__debug__" : Str)) = false := by decide)
    (he : starEach [.Name n p1, .Name c p2] X.env = (false, eval (.Name n p1) X.env) :: starEach [.Name c p2] X.env := by rfl) (hpl : (backTo pos (starEach [.Name c p2] X.env)).any (·.1) = false := by rfl)
    (he2 : starEach [.Name c p2] X.env = (false, eval (.Name c p2) X.env) :: starEach [] X.env := by rfl) :
    QE (X.suite a ((a, oe) :: pn)) (.Call (.Name "isinstance" p) [.Name n p1, .Name c p2] [] pos) (eIsX xv a (d.getD 0) i c) := by
  obtain ⟨N, hN1, ⟨v, hv1, hv2⟩, -, hN3⟩ := A.ex
  obtain ⟨D, hD, B, -⟩ := T.cl _ k.mem
  have ec : cls = .ref D := by
    have := k.cls
    rw [hD] at this
    exact (Option.some.inj this).symm
  subst ec
  have hnm : PE (X.suite a ((a, oe) :: pn)) (.Name c p2) (tC v) := by
    rcases hN1 with h | ⟨h1, h2, h3⟩
    · exact pe_glob hg h hv1 d3
    · exact pe_bltn hg h1 h2 hv1 h3 d3
  have hcall := call_isE2 (X := X) (a := a) (pn := pn) B hz hv fun dd hdd H s pins σ I ⟨fs, h⟩ => by
    obtain ⟨mA, ⟨o, es, ep, ho, -⟩, -⟩ := (show ObjOk X.prog X.w H s.heap dd (.xd fs) from I.hok dd _ h)
    exact ⟨o, ho⟩
  refine (pe_callB hcall hg0 hm0 boot_isinstance (pa_cons (pe_var hN hvis d1 d2) (pa_cons hnm pa_nil he2) he) (by decide) (by decide) he hpl).imp' fun σ H Q ⟨env, S, Q0, er, so, q, ps⟩ => ?_
  obtain ⟨h1, q⟩ := q
  obtain ⟨u, hu, ru⟩ := er.2 i _ h1
  have hu2 : u = .ref a ∧ ∀ dd, d = some dd → ∃ fs, H dd = some (.xd fs) := by
    unfold XV.dat at ru
    split at ru
    · rename_i g w e
      obtain ⟨dd, hdd⟩ := k.dd (by rw [e]; intro z; cases z)
      cases ru with
      | exc h2 _ =>
        refine ⟨rfl, fun dd' hd' => ?_⟩
        rw [hd'] at h2
        exact ⟨_, h2⟩
    · rename_i e
      cases ru
      refine ⟨rfl, fun dd hdd => ?_⟩
      rw [k.nn e] at hdd
      cases hdd
  obtain ⟨rfl, hx⟩ := hu2
  have hk := hN3 xv.cls k.mem _ k.cls
  refine ⟨.ref a, hu, ⟨hx, v, N, subX xv.cls c, rfl, hv2, ?_, ps.here so q (.bl _)⟩⟩
  unfold PySem.W.kitOne
  by_cases hc : (Value.ref D == N) = true
  · rw [if_pos hc, hk.2 hc]
  · rw [if_neg hc]
    exact hk.1
/-- e.f -/
theorem q_xf {fs : List Str} (hz : Zc cls d oe) (hv : ∃ vs, oe.data = .fields vs) (k : XK1 X.mg cs cls d xv) (T : XTab X.K X.mg cs fs) (hf : f ∈ fs) (hN : X.N[i]? = some n) (hvis : Vis X.env.scope n) (d1 : (n == ("__debug__" : Str)) = false := by decide) (d2 : (n == ("__classdict__" : Str)) = false := by decide)
    (hb : attributeBase (.Name n p1) f X.env (eval (.Name n p1) X.env) = eval (.Name n p1) X.env := by rfl) :
    QE (X.suite a ((a, oe) :: pn)) (.Attribute (.Name n p1) f pos) (eXf xv a (d.getD 0) i f) := by
  obtain ⟨D, hD, B, hF⟩ := T.cl _ k.mem
  have ec : cls = .ref D := by
    have := k.cls
    rw [hD] at this
    exact (Option.some.inj this).symm
  subst ec
  refine (pe_xf (pn := pn) B.f (hF f hf) hz hv (pe_var hN hvis d1 d2) hb).imp' fun σ H Q ⟨env, S, Q0, er, so, q, ps⟩ => ?_
  obtain ⟨h1, q⟩ := q
  obtain ⟨u, hu, ru⟩ := er.2 i _ h1
  split at q
  · rename_i g w e
    obtain ⟨dd, hdd⟩ := k.dd (by rw [e]; intro z; cases z)
    obtain ⟨rfl, q⟩ := q
    unfold XV.dat at ru
    rw [e] at ru
    cases ru with
    | exc h2 r2 =>
      rw [hdd] at h2
      refine ⟨.ref a, hu, rfl, rfl, dd, _, _, hdd, h2, ?_, ps.here so q r2⟩
      rw [lookup_put, if_pos rfl]
  · exact q.elim
end

/-! ### promises by the number of arguments -/
def wfx1 (f : D → Sto → WQ → (XV → Sto → Prop) → Prop) : WFX := fun ds S Q E => match ds with
  | [a] => f a S Q E
  | _ => False
theorem lenx1 {f} : ∀ ds S Q E, wfx1 f ds S Q E → ds.length = 1 := fun ds S Q E h => by unfold wfx1 at h; split at h; rfl; exact h.elim
theorem okx1 {f} {b : XQ → WS} {n : Nat} (h : ∀ d0 S Q E, f d0 S Q E → b (exOf E) (enOf Q) (DL.start n [d0]) S) : ∀ ds S Q E, wfx1 f ds S Q E → b (exOf E) (enOf Q) (DL.start n ds) S := fun ds S Q E q => by unfold wfx1 at q; split at q; exact h _ _ _ _ q; exact q.elim
def wfx2 (f : D → D → Sto → WQ → (XV → Sto → Prop) → Prop) : WFX := fun ds S Q E => match ds with
  | [a, b] => f a b S Q E
  | _ => False
theorem lenx2 {f} : ∀ ds S Q E, wfx2 f ds S Q E → ds.length = 2 := fun ds S Q E h => by unfold wfx2 at h; split at h; rfl; exact h.elim
theorem okx2 {f} {b : XQ → WS} {n : Nat} (h : ∀ d0 d1 S Q E, f d0 d1 S Q E → b (exOf E) (enOf Q) (DL.start n [d0, d1]) S) : ∀ ds S Q E, wfx2 f ds S Q E → b (exOf E) (enOf Q) (DL.start n ds) S := fun ds S Q E q => by unfold wfx2 at q; split at q; exact h _ _ _ _ _ q; exact q.elim
def wfx3 (f : D → D → D → Sto → WQ → (XV → Sto → Prop) → Prop) : WFX := fun ds S Q E => match ds with
  | [a, b, c] => f a b c S Q E
  | _ => False
theorem lenx3 {f} : ∀ ds S Q E, wfx3 f ds S Q E → ds.length = 3 := fun ds S Q E h => by unfold wfx3 at h; split at h; rfl; exact h.elim
theorem okx3 {f} {b : XQ → WS} {n : Nat} (h : ∀ d0 d1 d2 S Q E, f d0 d1 d2 S Q E → b (exOf E) (enOf Q) (DL.start n [d0, d1, d2]) S) : ∀ ds S Q E, wfx3 f ds S Q E → b (exOf E) (enOf Q) (DL.start n ds) S := fun ds S Q E q => by unfold wfx3 at q; split at q; exact h _ _ _ _ _ _ q; exact q.elim
def wfx4 (f : D → D → D → D → Sto → WQ → (XV → Sto → Prop) → Prop) : WFX := fun ds S Q E => match ds with
  | [a, b, c, d] => f a b c d S Q E
  | _ => False
theorem lenx4 {f} : ∀ ds S Q E, wfx4 f ds S Q E → ds.length = 4 := fun ds S Q E h => by unfold wfx4 at h; split at h; rfl; exact h.elim
theorem okx4 {f} {b : XQ → WS} {n : Nat} (h : ∀ d0 d1 d2 d3 S Q E, f d0 d1 d2 d3 S Q E → b (exOf E) (enOf Q) (DL.start n [d0, d1, d2, d3]) S) : ∀ ds S Q E, wfx4 f ds S Q E → b (exOf E) (enOf Q) (DL.start n ds) S := fun ds S Q E q => by unfold wfx4 at q; split at q; exact h _ _ _ _ _ _ _ q; exact q.elim
def wfx5 (f : D → D → D → D → D → Sto → WQ → (XV → Sto → Prop) → Prop) : WFX := fun ds S Q E => match ds with
  | [a, b, c, d, e] => f a b c d e S Q E
  | _ => False
theorem lenx5 {f} : ∀ ds S Q E, wfx5 f ds S Q E → ds.length = 5 := fun ds S Q E h => by unfold wfx5 at h; split at h; rfl; exact h.elim
theorem okx5 {f} {b : XQ → WS} {n : Nat} (h : ∀ d0 d1 d2 d3 d4 S Q E, f d0 d1 d2 d3 d4 S Q E → b (exOf E) (enOf Q) (DL.start n [d0, d1, d2, d3, d4]) S) : ∀ ds S Q E, wfx5 f ds S Q E → b (exOf E) (enOf Q) (DL.start n ds) S := fun ds S Q E q => by unfold wfx5 at q; split at q; exact h _ _ _ _ _ _ _ _ q; exact q.elim

/-! ### what the written part says of the classes -/
theorem xask_own {K : PySem.W.Frag} {mg : Str → Option Value} {cs : List Str} {n : Str} {N : Addr} (hN : mg n = some (.ref N)) (hc : (PySem.W.clsIn K N).isSome = true) (ht : PySem.W.typeIn K (.ref N) = some (.type "type")) (hb : PySem.W.subIn K (.ref N) (.type "BaseException") = some true) (hs : PySem.W.subIn K (.ref N) (.ref N) = some true)
    (h : ∀ c ∈ cs, ∃ C, mg c = some C ∧ PySem.W.subIn K C (.ref N) = some (subX c n)) : XAsk K mg cs n := by
  refine ⟨.ref N, .inl hN, ⟨.ref N, rfl, fun u r => r⟩, hb, fun c hcm C hC => ?_⟩
  obtain ⟨C', h1, h2⟩ := h c hcm
  rw [hC] at h1
  obtain rfl := Option.some.inj h1
  refine ⟨?_, fun e => ?_⟩
  · unfold PySem.W.kitCls
    dsimp only
    rw [if_pos (by rw [hc, ht]; rfl)]
    exact h2
  · have e2 : C = .ref N := eq_of_beq e
    rw [e2, hs] at h2
    exact (Option.some.inj h2).symm
theorem xask_ve {K : PySem.W.Frag} {mg : Str → Option Value} {cs : List Str} (hm : mg "ValueError" = none) (h : ∀ c ∈ cs, ∃ C, mg c = some (.ref C) ∧ PySem.W.subIn K (.ref C) (.type "ValueError") = some true) : XAsk K mg cs "ValueError" := by
  refine ⟨.type "ValueError", .inr ⟨hm, PyProof.Rows.Boot.«ValueError», by decide⟩, ⟨.ty "ValueError", rfl, fun u r => r⟩, (by show (fastBuiltinMro "ValueError").map (·.contains (.type "BaseException")) = some true; decide +kernel), fun c hcm C hC => ?_⟩
  obtain ⟨C', h1, h2⟩ := h c hcm
  rw [hC] at h1
  obtain rfl := Option.some.inj h1
  have e : subX c "ValueError" = true := by
    unfold subX
    rw [show decide (("ValueError" : Str) = "ValueError") = true from decide_eq_true rfl, Bool.or_true, Bool.true_or]
  rw [e]
  refine ⟨?_, fun _ => rfl⟩
  unfold PySem.W.kitCls
  dsimp only
  rw [if_pos (by decide +kernel)]
  exact h2
theorem oex_mk {K : PySem.W.Frag} {C : Addr} {nm q : Str} {N : Addr} {bs bm : List Value} {sn : List Str} {sub : List Value} {ab : Bool} {col : Option Bool} {dd : Option Addr} {k0 k1 k2 k3 k5 : Option Value}
    (h : K.lookup C = some (excClassObj nm q C N bs bm true sn sub ab col dd k0 k1 k2 k3 k5 "ValueError.__new__")) (hr : PySem.HandSPX.refsVE bm = true) (sa : PySem.W.findIn K (.ref C) "__setattr__" = some (some (.builtin "object.__setattr__"))) (exC : PySem.W.subIn K (.ref C) (.type "BaseException") = some true)
    (tyC : PySem.W.typeIn K (.ref C) = some (.type "type")) (kC : PySem.W.keepIn K (.ref C) = true) : OexC K C := ⟨⟨nm, q, N, bs, bm, sn, sub, ab, col, dd, k0, k1, k2, k3, k5, h, hr⟩, sa, exC, tyC, kC⟩
theorem xcb_mk {K : PySem.W.Frag} {C : Addr} (o : OexC K C) (ga : PySem.W.findIn K (.ref C) "__getattribute__" = some (some (.builtin "BaseException.__getattribute__"))) (gg : PySem.W.findIn K (.ref C) "__getattr__" = some none) (hd : PySem.W.hasDictIn K C = true)
    (ha : PySem.W.findIn K (.ref C) "__class__" = some (some (.builtin "object.__class__"))) (hn : PySem.W.specialIn K (.builtin "object.__class__") "__get__" = some (some (.builtin "getset_descriptor.__get__"))) (ht : PySem.W.takesIn K (.builtin "object.__class__") = some true) (hm : PySem.W.mroIn K C (.type "object") = some true)
    (hc : PySem.W.isClsIn K C = true) : XcB K C := ⟨o, ⟨ga, gg, o.exC, hd⟩, ha, hn, ht, hm, hc⟩
/-- a class statement's body -/
def clsBodyS : Stmt → List Stmt
  | .ClassDef (body := b) .. => b
  | _ => []
/-! ### a new object, by name: generalize h : ((l, _) :: S : Sto) = S1 -/
theorem new_get {l : Addr} {o : LO} {S S1 : Sto} (h : (l, o) :: S = S1) : sget S1 l = some o := by rw [← h]; exact sget_self _ _ _
theorem new_sub {l : Addr} {o : LO} {S S1 : Sto} (h : (l, o) :: S = S1) (hl : sget S l = none) : Sub S S1 := by rw [← h]; exact Sub.new hl
theorem new_ups {l : Addr} {o : LO} {S S1 : Sto} (h : (l, o) :: S = S1) (hl : sget S l = none) {P : Sto → Prop} (q : UpS P S) : UpS P S1 := q.sub (new_sub h hl)
end DL

namespace DL
open PySem
/-! what can be shown, how long it is at most -/
structure Rz (p : PyData) (n m : Nat) : Prop where
  s : p.showable = true
  l : p.shown.length ≤ n
  d : p.depth ≤ m
structure Rzs (ps : List PyData) (n m : Nat) : Prop where
  s : PyData.showableAll ps = true
  l : ((PyData.shownAll ps).map (·.length)).sum ≤ n
  d : PyData.depthAll ps ≤ m
theorem Rz.ok {p : PyData} {n m : Nat} (h : Rz p n m) (hn : n ≤ 16000000) (hm : m ≤ 60) : rpOk p :=
  ⟨h.s, Nat.le_trans h.l (by rw [sizeLine_eq]; omega), Nat.le_trans h.d hm⟩
theorem Rz.mono {p : PyData} {n m n' m' : Nat} (h : Rz p n m) (hn : n ≤ n') (hm : m ≤ m') : Rz p n' m' := ⟨h.s, Nat.le_trans h.l hn, Nat.le_trans h.d hm⟩
theorem Rz.int {i : Int} {k : Nat} (h : i.natAbs < 10 ^ k) (h0 : 0 < k) (hk : k ≤ 500) : Rz (.int i) (k + 1) 0 where
  s := by
    have h2 : i.natAbs < 2 ^ 1900 := Nat.lt_of_lt_of_le h (Nat.le_trans (Nat.pow_le_pow_right (by decide) hk) (by decide +kernel))
    simp only [PyData.showable, decide_eq_true_eq]
    exact Nat.lt_of_lt_of_le (log2_of h2 (by decide)) (by decide)
  l := by
    have e := PySem.int_text_length_le10 (k := k) h0 h
    show (Str.ofString (toString i)).length ≤ k + 1
    rw [ofString_length]; exact e
  d := by simp [PyData.depth]
theorem Rz.int' {i : Int} {k : Nat} (h : -(10 ^ k : Int) < i ∧ i < 10 ^ k) (h0 : 0 < k) (hk : k ≤ 500) : Rz (.int i) (k + 1) 0 := .int (by
  have e : ((10 ^ k : Nat) : Int) = 10 ^ k := by simp
  omega) h0 hk
theorem Rz.bl (b : Bool) : Rz (.bool b) 5 0 := ⟨by simp [PyData.showable], by cases b <;> decide, by simp [PyData.depth]⟩
theorem Rz.non : Rz .none 4 0 := ⟨by simp [PyData.showable], by decide, by simp [PyData.depth]⟩
theorem Rz.str {x : Str} (h : ∀ c ∈ x.cps.toList, c < 16 ^ 8) : Rz (.str x) (10 * x.length + 2) 0 := ⟨by simp [PyData.showable], PySem.StrLaws.reprText_len x h, by simp [PyData.depth]⟩
theorem Rzs.nil : Rzs [] 0 0 := ⟨by simp [PyData.showableAll], by simp [PyData.shownAll], by simp [PyData.depthAll]⟩
theorem Rzs.cons {p : PyData} {ps : List PyData} {n m k j : Nat} (h : Rz p n m) (hs : Rzs ps k j) : Rzs (p :: ps) (n + k) (max m j) where
  s := by simp [PyData.showableAll, h.s, hs.s]
  l := by
    have := h.l
    have := hs.l
    simp only [PyData.shownAll, List.map_cons, List.sum_cons]
    omega
  d := by
    have := h.d
    have := hs.d
    simp only [PyData.depthAll]
    omega
theorem Rzs.all {ps : List PyData} {n m : Nat} (h : ∀ p ∈ ps, Rz p n m) : Rzs ps (ps.length * n) m := by
  induction ps with
  | nil => exact ⟨by simp [PyData.showableAll], by simp [PyData.shownAll], by simp [PyData.depthAll]⟩
  | cons p ps ih =>
    have := Rzs.cons (h p List.mem_cons_self) (ih fun q hq => h q (List.mem_cons_of_mem _ hq))
    refine ⟨this.s, ?_, ?_⟩
    · have := this.l
      rw [List.length_cons, Nat.add_mul]
      omega
    · have := this.d
      omega
theorem shownAll_len : ∀ ps : List PyData, (PyData.shownAll ps).length = ps.length
  | [] => by simp [PyData.shownAll]
  | p :: ps => by simp [PyData.shownAll, shownAll_len ps]
theorem Rz.tup {ps : List PyData} {n m : Nat} (h : Rzs ps n m) : Rz (.tuple ps) (n + 2 * ps.length + 3) (m + 1) where
  s := by simp only [PyData.showable]; exact h.s
  l := by
    have := h.l
    have e := tupleText_len_le (PyData.shownAll ps)
    rw [shownAll_len] at e
    simp only [PyData.shown]
    omega
  d := by
    have := h.d
    simp only [PyData.depth]
    omega
theorem Rz.lst {ps : List PyData} {n m : Nat} (h : Rzs ps n m) : Rz (.list ps) (n + 2 * ps.length + 3) (m + 1) where
  s := by simp only [PyData.showable]; exact h.s
  l := by
    have := h.l
    have e := listText_len_le (PyData.shownAll ps)
    rw [shownAll_len] at e
    simp only [PyData.shown]
    omega
  d := by
    have := h.d
    simp only [PyData.depth]
    omega
theorem repr_in {x : D} {p : PyData} {S : Sto} {Q : WQ} (h : PyR S x p) (ok : rpOk p) (q : Q (.str (shw p)) S) : bRepr [x] S Q := ⟨p, h, ok, q⟩
theorem PyR.ints {S : Sto} : ∀ ns : List Int, PyRs S (dInt ns) (ns.map .int)
  | [] => .nil
  | n :: ns => .cons (.int n) (PyR.ints ns)
local macro_rules | `(tactic| walk_at "sg") => `(tactic| first | assumption | rfl | (simp only [sset_sset, sget_sset, Option.isSome_some, sget_cons, sset_cons, sget_nil, if_true, if_false, ite_true, ite_false, reduceCtorEq, *]; done) | (simp only [sset_sset, sget_sset, Option.isSome_some, sget_cons, sset_cons, sget_nil, if_true, if_false, ite_true, ite_false, reduceCtorEq, *]; rfl))
local macro_rules | `(tactic| walk_at "sd") => `(tactic| first | exact trivial | assumption | exact rfl | exact Nat.le_of_ble_eq_true rfl | decide | omega | exact Or.inl (by decide) | exact Or.inr (Or.inl (by decide)) | (refine And.intro (by walk_at "sd") (by walk_at "sd")))
local macro_rules | `(tactic| walk_at "wk") => `(tactic| (conv => whnf); (repeat ((first | refine onL_in (by walk_at "sg") ?_ | refine onD_in (by walk_at "sg") ?_ | refine And.intro (by walk_at "sd") ?_); (conv => whnf))))
local macro_rules | `(tactic| walk_at "up") => `(tactic| (repeat (refine UpS.new (by assumption) ?_)); refine UpS.here ?_)
local macro_rules | `(tactic| walk_at "dr") => `(tactic| refine draw_in (by walk_at "sg") (by walk_at "sg") (by decide) ?_)
local macro_rules | `(tactic| walk_at "if") => `(tactic| (walk_at "wk"; repeat' ((first | refine ifB_dec (fun _ => ?_) (fun _ => ?_) | refine ifB_ndec (fun _ => ?_) (fun _ => ?_)) <;> walk_at "wk")))
local macro_rules | `(tactic| walk_at "bd") => `(tactic| first | rfl | (rw [decide_eq_decide]; omega) | exact (decide_eq_false (by omega)).symm | exact (decide_eq_true (by omega)).symm | exact decide_eq_false (by omega) | exact decide_eq_true (by omega))
local macro_rules | `(tactic| walk_at "py") => `(tactic| repeat (first | exact PyR.int _ | exact PyR.bl _ | exact PyR.non | exact PyR.str _ | assumption | exact PyRs.nil | apply PyR.tup | apply PyRs.cons | apply PyR.lst (by walk_at "sg")))
local macro_rules | `(tactic| walk_at "rz") => `(tactic| repeat' (first | exact Rz.bl _ | exact Rz.non | exact Rz.int' (k := 12) ⟨by omega, by omega⟩ (by decide) (by decide) | apply Rz.tup | apply Rz.lst | exact Rzs.nil | apply Rzs.cons))
local macro_rules | `(tactic| walk_at "rp") => `(tactic| refine ⟨_, by walk_at "py", Rz.ok (by walk_at "rz") (Nat.le_of_ble_eq_true rfl) (Nat.le_of_ble_eq_true rfl), ?_⟩)
local macro_rules | `(tactic| walk_at "pk") => `(tactic| (refine pick_in ?_; walk_at "wk"; refine pk_in rfl (by walk_at "sg") (by walk_at "sg") (by decide) (Nat.le_of_ble_eq_true rfl) (by decide) ?_))

-- math: repr
/-! widths of signs and texts -/
abbrev sg1 (c : Nat) : D := .str ⟨#[c]⟩
theorem yl_str {t : WE} {env : EV} {S : Sto} {z : Str} (h : ∀ Q : WQ, Q (.str z) S → t env S Q) (hz : z.length ≤ sizeLine) : Yields (iSeq t) env S (z.cps.toList.map sg1) (fun _ => True) := fun R hr => h _ (by
  show z.length ≤ sizeLine ∧ _
  refine ⟨hz, hr ?_⟩
  rw [List.length_map]
  exact hz)
def gW (c : Nat) : Int :=
  if c ∈ (("!'.:i|" : Str)).cps.toList then 1
  else if c ∈ (("(),;[]`jl" : Str)).cps.toList then 2
  else if c ∈ ((" \"*-/1<>I\\^frt{}" : Str)).cps.toList then 3
  else if c ∈ (("$023456789=?J_abcdeghknopqsuvxyz" : Str)).cps.toList then 4
  else 5
theorem gW_two (c : Nat) : c ∈ (("(),;[]jl`" : Str)).cps.toList ↔ c ∈ (("(),;[]`jl" : Str)).cps.toList := by
  rw [show (("(),;[]jl`" : Str)).cps.toList = [40, 41, 44, 59, 91, 93, 106, 108, 96] by decide +kernel, show (("(),;[]`jl" : Str)).cps.toList = [40, 41, 44, 59, 91, 93, 96, 106, 108] by decide +kernel]
  simp only [List.mem_cons, List.not_mem_nil, or_false]
  omega
theorem gW_alt (c : Nat) : gW c = if c ∈ (("!'.:i|" : Str)).cps.toList then 1
  else if c ∈ (("(),;[]jl`" : Str)).cps.toList then 2
  else if c ∈ ((" \"*-/1<>I\\^frt{}" : Str)).cps.toList then 3
  else if c ∈ (("$023456789=?J_abcdeghknopqsuvxyz" : Str)).cps.toList then 4
  else 5 := by
  unfold gW
  simp only [gW_two]
theorem gW_pos (c : Nat) : 1 ≤ gW c ∧ gW c ≤ 5 := by
  unfold gW
  split
  · omega
  split
  · omega
  split
  · omega
  split <;> omega
def tW (l : List Nat) : Int := if l = [] then 0 else (l.map gW).sum + l.length - 1
theorem sumW (l : List Nat) : 0 ≤ (l.map gW).sum ∧ (l.map gW).sum ≤ 5 * l.length := by
  induction l with
  | nil => simp
  | cons c r ih =>
    have := gW_pos c
    rw [List.map_cons, List.sum_cons, List.length_cons]
    omega
theorem tW_lt (l : List Nat) : 0 ≤ tW l ∧ tW l ≤ 6 * l.length := by
  unfold tW
  have := sumW l
  split
  · omega
  · have : 0 < l.length := List.length_pos_iff.mpr ‹_›
    omega
theorem tW_app {a b : List Nat} (ha : a ≠ []) (hb : b ≠ []) : tW (a ++ b) = tW a + 1 + tW b := by
  unfold tW
  rw [if_neg ha, if_neg hb, if_neg (by simp [ha]), List.map_append, List.sum_append, List.length_append]
  omega
theorem tW_max (l : List Nat) : max ((l.map gW).sum + l.length - 1) 0 = tW l := by
  unfold tW
  have := sumW l
  split
  · subst l; rfl
  · have : 0 < l.length := List.length_pos_iff.mpr ‹_›
    omega
theorem empty_str {z : Str} (h : z.cps.toList = []) : z = ("" : Str) := Str.ext' (Array.toList_inj.mp (h.trans (by decide +kernel)))
/-- is the column x one of a sign that is seen -/
def scan (x : Int) : Int → List Nat → Bool
  | _, [] => false
  | left, c :: r => if x < left + gW c then decide (left ≤ x) && decide (c ≠ 32) else scan x (left + gW c + 1) r
theorem scan_cons (x left : Int) (c : Nat) (r : List Nat) : scan x left (c :: r) = if x < left + gW c then decide (left ≤ x) && decide (c ≠ 32) else scan x (left + gW c + 1) r := rfl
theorem scan_no {x : Int} : ∀ {left : Int} {l : List Nat}, x < left → scan x left l = false
  | _, [], _ => rfl
  | left, c :: r, h => by
    have := gW_pos c
    unfold scan
    rw [if_pos (by omega), decide_eq_false (by omega)]
    rfl
def inkM (l : List Nat) (x y : Int) : Bool := decide (0 ≤ x ∧ 0 ≤ y ∧ y < 7) && scan x 0 l
theorem ne_space (c : Nat) : decide ((⟨#[c]⟩ : Str) = (" " : Str)) = decide (c = 32) := by
  rw [decide_eq_decide]
  rw [show (" " : Str) = ⟨#[32]⟩ by decide +kernel]
  constructor
  · intro h
    injection h with h
    injection h with h
    injection h
  · intro h
    rw [h]
/-- the signs that a text is drawn of -/
abbrev signsA : Str := ((" !\"#$&'()*+,-./0123456789:;<=>?@ABCDEFGHIJKLMNOPQRSTUVWXYZ[\\]^_`" : Str) ++ ("abcdefghijklmnopqrstuvwxyz{|}~" : Str))
theorem signsA_len : signsA.cps.toList.length = 94 := by decide +kernel
theorem signsA_len2 : signsA.length = 94 := by decide +kernel
theorem len_add (a b : Str) : (a ++ b).length = a.length + b.length := by
  show (a.cps ++ b.cps).size = a.cps.size + b.cps.size
  exact Array.size_append
theorem len_one (c : Nat) : (⟨#[c]⟩ : Str).length = 1 := rfl
theorem len_zero : (("" : Str)).length = 0 := by decide +kernel

-- math: glyph
/-! texts of plain signs -/
def Asc (z : Str) : Prop := ∀ c ∈ z.cps.toList, c < 128
theorem toList_add (a b : Str) : (a ++ b).cps.toList = a.cps.toList ++ b.cps.toList := by
  show (a.cps ++ b.cps).toList = _
  rw [Array.toList_append]
theorem Asc.add {a b : Str} (h1 : Asc a) (h2 : Asc b) : Asc (a ++ b) := fun c hc => by
  rw [toList_add] at hc
  rcases List.mem_append.mp hc with h | h
  · exact h1 c h
  · exact h2 c h
theorem Asc.of {z : Str} (h : z.cps.toList.all (fun c => decide (c < 128)) = true) : Asc z := fun c hc => of_decide_eq_true (List.all_eq_true.mp h c hc)
theorem Asc.one {c : Nat} (h : c < 128) : Asc ⟨#[c]⟩ := fun d hd => by
  have hd : d ∈ [c] := hd
  simp only [List.mem_cons, List.not_mem_nil, or_false] at hd
  omega
theorem Asc.nil : Asc ("" : Str) := .of (by decide +kernel)
theorem signsA_asc : Asc signsA := .of (by decide +kernel)
theorem Asc.rz {z : Str} (h : Asc z) {n : Nat} (hl : z.length ≤ n) : Rz (.str z) (10 * n + 2) 0 :=
  (Rz.str fun c hc => Nat.lt_of_lt_of_le (h c hc) (by decide)).mono (by omega) (Nat.le_refl _)

def b__law_tape : WS :=
  (sSeq (sAsg (eC (.int 7)) (gName 1))
  (sSeq (sFor (iSeq (eVar 0)) (gName 2) (sAsg (eBin dMod (eCall bInt (aCons (eBin dAdd (eBin dMul (eVar 1) (eC (.int 31))) (eCall bAbs (aCons (eCall bInt (aCons (eVar 2) aNil)) aNil))) aNil)) (eC (.int 2147483647))) (gName 1)))
  (sRet (eLst (aCons (eCall bList (aCons (eVar 0) aNil)) (aCons (eC (.int 0)) (aCons (eC (.int 0)) (aCons (eVar 1) aNil))))))))
theorem p__law_tape : ∀ ds S Q, FC__law_tape ds S Q → b__law_tape (enOf Q) (DL.start 3 ds) S := ok1 fun a S Q h => by
  obtain ⟨ns, rfl, q⟩ := h
  show b__law_tape (enOf Q) [some (.frz (dInt ns)), none, none] S
  walk_at "wk"
  refine for_pre (chk := fun _ => True) ns D.int (fun pre env S' => S' = S ∧ ∃ (t : Int) (o : Option D), env = [some (.frz (dInt ns)), some (.int t), o] ∧ 0 ≤ t ∧ t < 2147483647) (yl_frz fun Q h => h) ⟨rfl, 7, none, rfl, by decide, by decide⟩ ?_ ?_
  · rintro pre n post env S' - ⟨rfl, t, o, rfl, h0, h1⟩
    refine ⟨trivial, ?_⟩
    walk_at "wk"
    exact .here ⟨rfl, _, _, rfl, Int.emod_nonneg _ (by decide), Int.emod_lt_of_pos _ (by decide)⟩
  · rintro env S' ⟨rfl, t, o, rfl, h0, h1⟩
    refine ⟨trivial, ?_⟩
    walk_at "wk"
    intro p hp
    walk_at "wk"
    intro r hr
    obtain ⟨e, -, hr⟩ := fresh_cons hr
    exact .here <| q r p t hr hp e h0 (Int.lt_trans h1 (by decide))

def b__law_draw : WS :=
  (sSeq (sIf (tB (eBin dEq (eBin dIx (eVar 0) (eC (.int 2))) (eC (.int 0)))) (sSeq (sAsg (eBin dIx (eVar 0) (eC (.int 1))) (gName 2))
  (sSeq (sAsg (eC (.int 0)) (gName 3))
  (sSeq (sIf (tB (eBin dLt (eVar 2) (eCall bLen (aCons (eBin dIx (eVar 0) (eC (.int 0))) aNil)))) (sAsg (eCall bAbs (aCons (eCall bInt (aCons (eBin dIx (eBin dIx (eVar 0) (eC (.int 0))) (eVar 2)) aNil)) aNil)) (gName 3)) (sSeq (sAsg (eBin dMod (eCall bInt (aCons (eBin dAdd (eBin dAdd (eBin dMul (eBin dIx (eVar 0) (eC (.int 3))) (eC (.int 48271))) (eVar 2)) (eC (.int 1))) aNil)) (eC (.int 2147483647))) (gSub (eVar 0) (eC (.int 3))))
  (sAsg (eBin dIx (eVar 0) (eC (.int 3))) (gName 3))))
  (sSeq (sAsg (eBin dAdd (eVar 2) (eC (.int 1))) (gSub (eVar 0) (eC (.int 1))))
  (sSeq (sIf (tB (eBin dLt (eVar 3) (eBin dPow (eC (.int 10)) (eC (.int 18))))) (sSeq (sAsg (eBin dMod (eCall bInt (aCons (eBin dAdd (eBin dAdd (eBin dMul (eVar 3) (eC (.int 48271))) (eBin dMul (eVar 2) (eC (.int 69621)))) (eC (.int 5))) aNil)) (eC (.int 2147483647))) (gName 3))
  (sSeq (sAsg (eBin dMod (eCall bInt (aCons (eBin dMul (eVar 3) (eC (.int 69621))) aNil)) (eC (.int 2147483629))) (gName 3))
  (sRet (eBin dMod (eCall bInt (aCons (eVar 3) aNil)) (eCall bMax2 (aCons (eVar 1) (aCons (eC (.int 1)) aNil))))))) sNil)
  (sAsg (eVar 3) (gSub (eVar 0) (eC (.int 2))))))))) sNil)
  (sSeq (sAsg (eBin dIx (eVar 0) (eC (.int 2))) (gName 3))
  (sSeq (sAsg (eBin dDiv (eVar 3) (eCall bMax2 (aCons (eVar 1) (aCons (eC (.int 2)) aNil)))) (gSub (eVar 0) (eC (.int 2))))
  (sRet (eBin dMod (eCall bInt (aCons (eVar 3) aNil)) (eCall bMax2 (aCons (eVar 1) (aCons (eC (.int 1)) aNil))))))))
theorem p__law_draw : ∀ ds S Q, FC__law_draw ds S Q → b__law_draw (enOf Q) (DL.start 4 ds) S := ok2 fun a b S Q h => by
  obtain ⟨p, q, many, ns, k, b, t, rfl, rfl, hp, hq, hm, npq, h0, h1, h2, h3, fin⟩ := h
  have last : ∀ (x k' b' t' : Int), 0 ≤ k' → 0 ≤ b' → 0 ≤ t' → t' < 2 ^ 31 → Q (.int (x % max many 1)) (sset S p (.lst [.ref q, .int k', .int b', .int t'])) := fun x k' b' t' a1 a2 a3 a4 => by
    exact fin _ _ _ _ (Int.emod_nonneg _ (by omega)) (Int.emod_lt_of_pos _ (by omega)) a1 a2 a3 a4
  have hd : 0 < max many 2 ∧ (max many 2).natAbs.log2 < 8000 := by
    refine ⟨by omega, Nat.lt_of_lt_of_le (log2_of (k := 250) ?_ (by decide)) (by decide)⟩
    rcases Int.le_total many 2 with h | h
    · rw [Int.max_eq_right h]; decide
    · rw [Int.max_eq_left h]; exact hm
  have hd2 : 0 < max many 1 := by omega
  have big : ∀ z : Int, 0 ≤ z → 0 ≤ z / max many 2 := fun z hz => Int.ediv_nonneg hz (by omega)
  have lists : ∀ {x k' b' t'}, x = [D.ref q, .int k', .int b', .int t'] → 0 ≤ k' → 0 ≤ b' → 0 ≤ t' → t' < 2 ^ 31 → ∀ y, Q (.int (y % max many 1)) (sset S p (.lst x)) := fun e a1 a2 a3 a4 y => by
    rw [e]
    exact last y _ _ _ a1 a2 a3 a4
  show b__law_draw (enOf Q) [some (.ref p), some (.int many), none, none] S
  walk_at "wk"
  refine ifB_dec (fun hb => ?_) (fun hb => ?_)
  · subst hb
    walk_at "wk"
    refine ifB_dec (fun hk => ?_) (fun hk => ?_)
    · walk_at "wk"
      obtain ⟨n, hn⟩ := at_dInt h0 hk
      refine onAt_in hn ?_
      walk_at "wk"
      refine ifB_dec (fun hs => ?_) (fun hs => ?_)
      · walk_at "wk"
        exact .here <| lists rfl (by omega) h1 h2 h3 _
      · walk_at "wk"
        rw [sset_sset, sset_sset]
        exact .here <| lists rfl (by omega) (big _ (by omega)) h2 h3 _
    · have ht : 0 ≤ (t * 48271 + k + 1) % 2147483647 := Int.emod_nonneg _ (by decide)
      have ht2 : (t * 48271 + k + 1) % 2147483647 < 2147483647 := Int.emod_lt_of_pos _ (by decide)
      walk_at "wk"
      refine ifB_dec (fun hs => ?_) (fun hs => ?_)
      · walk_at "wk"
        rw [sset_sset]
        exact .here <| lists rfl (by omega) h1 ht (Int.lt_trans ht2 (by decide)) _
      · walk_at "wk"
        rw [sset_sset, sset_sset, sset_sset]
        exact .here <| lists rfl (by omega) (big _ ht) ht (Int.lt_trans ht2 (by decide)) _
  · walk_at "wk"
    exact .here <| lists rfl h0 (big _ h1) h2 h3 _

def b__law_word : WS :=
  (sSeq (sAsg (eC (.str " !\"#$&'()*+,-./0123456789:;<=>?@ABCDEFGHIJKLMNOPQRSTUVWXYZ[\\]^_`")) (gName 1))
  (sSeq (sAsg (eBin dAdd (eVar 1) (eC (.str "abcdefghijklmnopqrstuvwxyz{|}~"))) (gName 1))
  (sSeq (sAsg (eC (.str "")) (gName 2))
  (sSeq (sFor (iRng (aCons (eBin dIx (eLst (aCons (eC (.int 0)) (aCons (eC (.int 1)) (aCons (eC (.int 1)) (aCons (eC (.int 2)) (aCons (eC (.int 3)) (aCons (eC (.int 5)) aNil))))))) (eCall F__law_draw (aCons (eVar 0) (aCons (eC (.int 6)) aNil)))) aNil)) (gName 3) (sAsg (eBin dAdd (eVar 2) (eBin dIx (eVar 1) (eCall F__law_draw (aCons (eVar 0) (aCons (eC (.int 94)) aNil))))) (gName 2)))
  (sRet (eVar 2))))))
-- math: asc
@[irreducible] def F__law_word : WF := wf1 fun a S Q => ∃ (p q : Addr) (ns : List Int), a = .ref p ∧ sget S p = some (.tape q) ∧ sget S q = some (.lst (dInt ns)) ∧ ∀ z : Str, z.length ≤ 5 → Asc z → Q (.str z) S
theorem p__law_word : ∀ ds S Q, F__law_word ds S Q → b__law_word (enOf Q) (DL.start 4 ds) S := by
  unfold F__law_word
  refine ok1 fun a S Q h => ?_
  obtain ⟨p, q, ns, rfl, hp, hq, fin⟩ := h
  show b__law_word (enOf Q) [some (.ref p), none, none, none] S
  walk_at "wk"
  refine for_in ?_
  walk_at "wk"
  intro l hl
  have keep : ∀ {a o}, sget S a = some o → sget ((l, LO.lst [.int 0, .int 1, .int 1, .int 2, .int 3, .int 5]) :: S) a = some o := fun h => Sub.new hl _ _ h
  walk_at "wk"
  refine draw_in (keep hp) (keep hq) (by decide) ?_
  intro k hk0 hk1
  walk_at "wk"
  refine onAt_all hk0 (by show k < 6; omega) fun x5 hx5 => ?_
  obtain ⟨n, rfl, hn⟩ : ∃ h : Int, x5 = .int h ∧ 0 ≤ h ∧ h ≤ 5 := by
    simp only [List.mem_cons, List.not_mem_nil, or_false] at hx5
    rcases hx5 with rfl | rfl | rfl | rfl | rfl | rfl <;> exact ⟨_, rfl, by decide, by decide⟩
  walk_at "wk"
  refine rng_w (fun k env S' => ∃ (z : Str) (o : Option D), z.length = k ∧ Asc z ∧ env = [some (.ref p), some (.str signsA), some (.str z), o] ∧ S' = (l, LO.lst [.int 0, .int 1, .int 1, .int 2, .int 3, .int 5]) :: S) ⟨_, none, len_zero, Asc.nil, rfl, rfl⟩ ?_ ?_
  · rintro k env S' hk ⟨z, o, hz, hzA, rfl, rfl⟩
    walk_at "wk"
    refine draw_in (keep hp) (keep hq) (by decide) ?_
    intro i hi0 hi1
    have hs := signsA_len2
    have hs2 : signsA.length ≤ sizeLine := by rw [signsA_len2]; decide
    walk_at "wk"
    refine onAt_all hi0 (by rw [signsA_len]; omega) fun c hcA => ?_
    have big : 1000 ≤ sizeLine := by decide
    have h1 := len_one c
    have hadd : z.length + (⟨#[c]⟩ : Str).length ≤ sizeLine := by omega
    walk_at "wk"
    exact .here ⟨_, _, by rw [len_add, hz, h1], hzA.add (.one (signsA_asc c hcA)), rfl, rfl⟩
  · rintro env S' ⟨z, o, hz, hzA, rfl, rfl⟩
    walk_at "wk"
    exact .new hl (.here (fin z (by omega) hzA))
theorem law_word_in {p q : Addr} {ns : List Int} {S : Sto} {Q : WQ} (hp : sget S p = some (.tape q)) (hq : sget S q = some (.lst (dInt ns))) (h : ∀ z : Str, z.length ≤ 5 → Q (.str z) S) : F__law_word [.ref p] S Q := by
  unfold F__law_word
  exact ⟨p, q, ns, rfl, hp, hq, fun z hz _ => h z hz⟩
theorem law_wordA_in {p q : Addr} {ns : List Int} {S : Sto} {Q : WQ} (hp : sget S p = some (.tape q)) (hq : sget S q = some (.lst (dInt ns))) (h : ∀ z : Str, z.length ≤ 5 → Asc z → Q (.str z) S) : F__law_word [.ref p] S Q := by
  unfold F__law_word
  exact ⟨p, q, ns, rfl, hp, hq, h⟩

def b__law_raised : XQ → WS :=
  (fun P => (sSeq (sIf (tB (eBin dEq (eVar 0) (eC (.int 0)))) (sRaise "PatchDoesNotFit" "reason" (eVar 1) P) sNil)
  (sSeq (sIf (tB (eBin dEq (eVar 0) (eC (.int 1)))) (sRaise "PictureTooLarge" "pixels" (eVar 1) P) sNil)
  (sSeq (sIf (tB (eBin dEq (eVar 0) (eC (.int 2)))) (sRaise "DuplicateName" "name" (eVar 1) P) sNil)
  (sSeq (sIf (tB (eBin dEq (eVar 0) (eC (.int 3)))) (sRaise "UnknownName" "name" (eVar 1) P) sNil)
  (sSeq (sIf (tB (eBin dEq (eVar 0) (eC (.int 4)))) (sRaise "WrongKind" "name" (eVar 1) P) sNil)
  (sSeq (sIf (tB (eBin dEq (eVar 0) (eC (.int 5)))) (sRaise "ChannelNeeded" "name" (eVar 1) P) sNil)
  (sSeq (sIf (tB (eBin dEq (eVar 0) (eC (.int 6)))) (sRaise "ChannelNotAllowed" "name" (eVar 1) P) sNil)
  (sSeq (sIf (tB (eBin dEq (eVar 0) (eC (.int 7)))) (sRaise "ScalesDoNotFit" "name" (eVar 1) P) sNil)
  (sSeq (sIf (tB (eBin dEq (eVar 0) (eC (.int 8)))) (sRaise "TooManyCategories" "count" (eVar 1) P) sNil)
  (sSeq (sIf (tB (eBin dEq (eVar 0) (eC (.int 9)))) (sRaise "TooManyRows" "name" (eVar 1) P) sNil)
  (sSeq (sIf (tB (eBin dEq (eVar 0) (eC (.int 10)))) (sRaise "NotReadable" "name" (eVar 1) P) sNil)
  (sSeq (sIf (tB (eBin dEq (eVar 0) (eC (.int 11)))) (sRaise "NotDecided" "name" (eVar 1) P) sNil)
  (sSeq (sIf (tB (eBin dEq (eVar 0) (eC (.int 12)))) (sRaise "NotComparable" "name" (eVar 1) P) sNil)
  (sSeq (sIf (tB (eBin dEq (eVar 0) (eC (.int 13)))) (sRaise "TooManyCases" "count" (eVar 1) P) sNil)
  (sSeq (sIf (tB (eBin dEq (eVar 0) (eC (.int 14)))) (sRaise0 "NothingToUndo" P) sNil)
  (sRaise0 "NothingToRedo" P)))))))))))))))))
/-- the error with the number k -/
def xvK (d : D) : Nat → XV
  | 0 => ⟨"PatchDoesNotFit", some ("reason", d)⟩
  | 1 => ⟨"PictureTooLarge", some ("pixels", d)⟩
  | 2 => ⟨"DuplicateName", some ("name", d)⟩
  | 3 => ⟨"UnknownName", some ("name", d)⟩
  | 4 => ⟨"WrongKind", some ("name", d)⟩
  | 5 => ⟨"ChannelNeeded", some ("name", d)⟩
  | 6 => ⟨"ChannelNotAllowed", some ("name", d)⟩
  | 7 => ⟨"ScalesDoNotFit", some ("name", d)⟩
  | 8 => ⟨"TooManyCategories", some ("count", d)⟩
  | 9 => ⟨"TooManyRows", some ("name", d)⟩
  | 10 => ⟨"NotReadable", some ("name", d)⟩
  | 11 => ⟨"NotDecided", some ("name", d)⟩
  | 12 => ⟨"NotComparable", some ("name", d)⟩
  | 13 => ⟨"TooManyCases", some ("count", d)⟩
  | 14 => ⟨"NothingToUndo", none⟩
  | _ => ⟨"NothingToRedo", none⟩
@[irreducible] def F__law_raised : WFX := wfx2 fun a b S Q E => ∃ k : Nat, a = .int k ∧ k < 16 ∧ E (xvK b k) S
theorem p__law_raised : ∀ ds S Q E, F__law_raised ds S Q E → b__law_raised (exOf E) (enOf Q) (DL.start 2 ds) S := by
  unfold F__law_raised
  refine okx2 fun a b S Q E h => ?_
  obtain ⟨k, rfl, hk, q⟩ := h
  show b__law_raised (exOf E) (enOf Q) [some (.int k), some b] S
  have hk : k = 0 ∨ k = 1 ∨ k = 2 ∨ k = 3 ∨ k = 4 ∨ k = 5 ∨ k = 6 ∨ k = 7 ∨ k = 8 ∨ k = 9 ∨ k = 10 ∨ k = 11 ∨ k = 12 ∨ k = 13 ∨ k = 14 ∨ k = 15 := by omega
  rcases hk with rfl | rfl | rfl | rfl | rfl | rfl | rfl | rfl | rfl | rfl | rfl | rfl | rfl | rfl | rfl | rfl <;> (walk_at "wk"; exact .here q)
theorem law_raised_in {k : Nat} {b : D} {S : Sto} {Q : WQ} {E : XV → Sto → Prop} (hk : k < 16) (q : E (xvK b k) S) : F__law_raised [.int k, b] S Q E := by
  unfold F__law_raised
  exact ⟨k, rfl, hk, q⟩

def b__law_caught : WS :=
  (sSeq (sAsg (eLst aNil) (gName 2))
  (sSeq (sAsg (eVar 1) (gName 3))
  (sSeq (sJoin (sTry 4 "ChartError" (fun P => (sDrop (eCallX F__law_raised (aCons (eVar 0) (aCons (eVar 1) aNil)) P))) (fun ea ed xv => (sSeq (sAsg (eLst (aCons (eIsX xv ea ed 4 "PatchDoesNotFit") (aCons (eIsX xv ea ed 4 "PictureTooLarge") (aCons (eIsX xv ea ed 4 "DuplicateName") aNil)))) (gName 2))
  (sSeq (sAsg (eBin dAdd (eVar 2) (eLst (aCons (eIsX xv ea ed 4 "UnknownName") (aCons (eIsX xv ea ed 4 "WrongKind") (aCons (eIsX xv ea ed 4 "ChannelNeeded") aNil))))) (gName 2))
  (sSeq (sAsg (eBin dAdd (eVar 2) (eLst (aCons (eIsX xv ea ed 4 "ChannelNotAllowed") (aCons (eIsX xv ea ed 4 "ScalesDoNotFit") aNil)))) (gName 2))
  (sSeq (sAsg (eBin dAdd (eVar 2) (eLst (aCons (eIsX xv ea ed 4 "TooManyCategories") (aCons (eIsX xv ea ed 4 "TooManyRows") (aCons (eIsX xv ea ed 4 "NotReadable") aNil))))) (gName 2))
  (sSeq (sAsg (eBin dAdd (eVar 2) (eLst (aCons (eIsX xv ea ed 4 "NotDecided") (aCons (eIsX xv ea ed 4 "NotComparable") (aCons (eIsX xv ea ed 4 "TooManyCases") aNil))))) (gName 2))
  (sSeq (sAsg (eBin dAdd (eVar 2) (eLst (aCons (eIsX xv ea ed 4 "NothingToUndo") (aCons (eIsX xv ea ed 4 "NothingToRedo") aNil)))) (gName 2))
  (sSeq (sIf (tB (eBin dEq (eVar 0) (eC (.int 0)))) (sAsg (eXf xv ea ed 4 "reason") (gName 3)) (sIf (tB (eBin dEq (eVar 0) (eC (.int 1)))) (sAsg (eXf xv ea ed 4 "pixels") (gName 3)) (sIf (tOr (tB (eBin dEq (eVar 0) (eC (.int 8)))) (tB (eBin dEq (eVar 0) (eC (.int 13))))) (sAsg (eXf xv ea ed 4 "count") (gName 3)) (sIf (tB (eBin dLt (eVar 0) (eC (.int 14)))) (sAsg (eXf xv ea ed 4 "name") (gName 3)) sNil))))
  (sIf (tNot (tTru (eIsX xv ea ed 4 "ValueError"))) (sRet (eC (.bl false))) sNil))))))))) noX))
  (sRet (eAnd (eBin dEq (eVar 2) (eComp (iRng (aCons (eC (.int 16)) aNil)) (gName 5) tYes (eBin dEq (eVar 5) (eVar 0)) [5])) (eBin dEq (eCall bRepr (aCons (eVar 3) aNil)) (eCall bRepr (aCons (eVar 1) aNil))))))))
-- math: repr
-- fn: _law_raised
-- join: try:
@[irreducible] def F__law_caught : WF := wf2 fun a b S Q => ∃ (k : Nat) (p : PyData), a = .int k ∧ k < 16 ∧ (∀ S', PyR S' b p) ∧ rpOk p ∧ Q (.bl true) S
/-- the row of the truth values -/
def kindsK (k : Nat) : List D := (List.range 16).map fun i : Nat => D.bl (decide ((0 : Int) + (i : Int) = (k : Int)))
theorem kinds_ok : ∀ k : Nat, k < 16 → cmpOks (kindsK k) = true ∧ depDs (kindsK k) ≤ 50 ∧ eqDs (kindsK k) (kindsK k) = true := by decide +kernel
set_option maxHeartbeats 0 in
theorem p__law_caught : ∀ ds S Q, F__law_caught ds S Q → b__law_caught (enOf Q) (DL.start 6 ds) S := by
  unfold F__law_caught
  refine ok2 fun a b S Q h => ?_
  obtain ⟨k, p, rfl, hk, hp, rp, q⟩ := h
  show b__law_caught (enOf Q) [some (.int k), some b, none, none, none, none] S
  walk_at "wk"
  intro l0 h0
  walk_at "wk"
  refine join_in (fun env S' => ∃ l o5, env = [some (.int k), some b, some (.ref l), some b, none, o5] ∧ sget S' l = some (.lst (kindsK k)) ∧ UpS (Q (.bl true)) S') ?_ ?_
  · refine ⟨⟨fun x env S' => x = xvK b k ∧ env = [some (.int k), some b, some (.ref l0), some b, none, none] ∧ S' = (l0, .lst []) :: S, ?_, ?_⟩⟩
    · walk_at "wk"
      exact law_raised_in hk ⟨rfl, rfl, rfl⟩
    rintro x env' S' ⟨rfl, rfl, rfl⟩
    have one : ∀ k : Nat, k < 16 → subX (xvK b k).cls "ChartError" = true := by intro k hk; unfold subX; simp
    rw [if_pos (one k hk)]
    intro ea ed
    have hk : k = 0 ∨ k = 1 ∨ k = 2 ∨ k = 3 ∨ k = 4 ∨ k = 5 ∨ k = 6 ∨ k = 7 ∨ k = 8 ∨ k = 9 ∨ k = 10 ∨ k = 11 ∨ k = 12 ∨ k = 13 ∨ k = 14 ∨ k = 15 := by omega
    rcases hk with rfl | rfl | rfl | rfl | rfl | rfl | rfl | rfl | rfl | rfl | rfl | rfl | rfl | rfl | rfl | rfl
    all_goals
      walk_at "wk"
      iterate 11 ((intro l hl; have hl' := hl; try simp only [fr_cons] at hl'); walk_at "wk")
      refine .here ⟨_, _, rfl, sget_self _ _ _, ?_⟩
      walk_at "up"
      exact q
  rintro env S1 ⟨l, o5, rfl, hl, up⟩
  obtain ⟨c1, c2, c3⟩ := kinds_ok k hk
  walk_at "wk"
  refine comp_in ?_
  walk_at "wk"
  rw [show rngD 0 (Int.toNat 16) = (List.range 16).map (fun i : Nat => D.int ((0 : Int) + (i : Int))) from rfl]
  refine comp_w (chk := fun _ => True) (List.range 16) (fun i : Nat => D.int ((0 : Int) + (i : Int))) (fun i : Nat => D.bl (decide ((0 : Int) + (i : Int) = (k : Int)))) (fun _ => true) trivial (fun i _ Q' h => h) (fun i _ _ Q' h => ?_) ?_
  · walk_at "wk"
    exact h
  rw [List.filter_eq_self.mpr fun _ _ => rfl]
  intro l2 h2
  generalize hS2 : ((l2, _) :: S1 : Sto) = S2
  have g2 : sget S2 l2 = some (.lst (kindsK k)) := new_get hS2
  have g1 := new_sub hS2 h2 _ _ hl
  have u2 := new_ups hS2 h2 up
  clear hS2
  walk_at "wk"
  refine ifB_t c3 ?_
  walk_at "wk"
  refine ⟨_, hp _, rp, ?_⟩
  walk_at "wk"
  refine ⟨_, hp _, rp, ?_⟩
  walk_at "wk"
  rw [decide_eq_true rfl]
  exact u2
theorem law_caught_in {k : Nat} {b : D} {p : PyData} {S : Sto} {Q : WQ} (hk : k < 16) (hp : ∀ S', PyR S' b p) (rp : rpOk p) (q : Q (.bl true) S) : F__law_caught [.int k, b] S Q := by
  unfold F__law_caught
  exact ⟨k, p, rfl, hk, hp, rp, q⟩

def b_law : WS :=
  (sSeq (sAsg (eCall F__law_tape (aCons (eVar 0) aNil)) (gName 1))
  (sSeq (sFor (iRng (aCons (eC (.int 16)) aNil)) (gName 2) (sSeq (sAsg (eCall F__law_word (aCons (eVar 1) aNil)) (gName 3))
  (sSeq (sJoin (sIf (tB (eBin dEq (eVar 2) (eC (.int 0)))) (sAsg (eTup (aCons (eC (.str "not there")) (aCons (eTup (aCons (eCall F__law_draw (aCons (eVar 1) (aCons (eC (.int 9)) aNil))) (aCons (eVar 3) (aCons (eVar 3) aNil)))) aNil))) (gName 3)) sNil))
  (sSeq (sJoin (sIf (tOr (tB (eBin dEq (eVar 2) (eC (.int 1)))) (tOr (tB (eBin dEq (eVar 2) (eC (.int 8)))) (tB (eBin dEq (eVar 2) (eC (.int 13)))))) (sAsg (eCall F__law_draw (aCons (eVar 1) (aCons (eBin dPow (eC (.int 10)) (eC (.int 9))) aNil))) (gName 3)) sNil))
  (sIf (tNot (tTru (eCall F__law_caught (aCons (eVar 2) (aCons (eVar 3) aNil))))) (sRet (eC (.bl false))) sNil)))))
  (sRet (eC (.bl true)))))
-- math: repr
-- join: if _law_at == 0
-- join: if _law_at == 1
/-- what may be told with an error -/
def Worth (d : D) : Prop := ∃ p, (∀ S', PyR S' d p) ∧ rpOk p
theorem p_law : ∀ ds S Q, F_law ds S Q → b_law (enOf Q) (DL.start 4 ds) S := ok1 fun a S Q h => by
  obtain ⟨⟨ns, rfl, rfl⟩, fin⟩ := h
  have done : ∀ S', UpS (Q (.bl true)) S' := fun S' => .here (fin S')
  show b_law (enOf Q) [some (.frz (dInt ns)), none, none, none] []
  walk_at "wk"
  refine tape_in fun p q hp hq npq nqp => ?_
  have hp' : sget [(p, LO.tape q), (q, LO.lst (dInt ns))] p = some (.tape q) := by walk_at "sg"
  have hq' : sget [(p, LO.tape q), (q, LO.lst (dInt ns))] q = some (.lst (dInt ns)) := by walk_at "sg"
  generalize hS : ([(p, LO.tape q), (q, LO.lst (dInt ns))] : Sto) = S at *
  walk_at "wk"
  refine for_in ?_
  walk_at "wk"
  refine rng_w (fun k env S3 => ∃ o2 o3 : Option D, env = [some (.frz (dInt ns)), some (.ref p), o2, o3] ∧ S3 = S) ⟨none, none, rfl, rfl⟩ ?_ ?_
  · rintro k env S3 hk ⟨o2, o3, rfl, rfl⟩
    have ek : (0 : Int) + (k : Int) = ((k : Nat) : Int) := by omega
    rw [ek]
    have hk16 : k < 16 := by omega
    walk_at "wk"
    refine law_wordA_in hp' hq' fun z hz hzA => ?_
    have hz2 : z.length ≤ 100 := by omega
    walk_at "wk"
    refine join_set 3 Worth ?_ fun d hd => ?_
    · walk_at "wk"
      refine ifB_dec (fun _ => ?_) fun _ => ?_
      · walk_at "wk"
        refine draw_in hp' hq' (by decide) fun n n0 n1 => ?_
        walk_at "wk"
        refine .here ⟨⟨_, ⟨.tuple [.str "not there", .tuple [.int n, .str z, .str z]], fun S' => by walk_at "py", ?_⟩, rfl⟩, rfl⟩
        exact Rz.ok (Rz.tup (.cons (Asc.rz (n := 100) (Asc.of (by decide +kernel)) (by decide)) (.cons (Rz.tup (.cons (Rz.int' (k := 12) ⟨by omega, by omega⟩ (by decide) (by decide)) (.cons (hzA.rz hz2) (.cons (hzA.rz hz2) .nil)))) .nil))) (Nat.le_of_ble_eq_true rfl) (Nat.le_of_ble_eq_true rfl)
      · walk_at "wk"
        refine .here ⟨⟨_, ⟨.str z, fun S' => .str z, ?_⟩, rfl⟩, rfl⟩
        exact Rz.ok (hzA.rz hz2) (by decide) (by decide)
    walk_at "wk"
    refine join_set 3 Worth ?_ fun d hd => ?_
    · have dr : ∀ X : D → Sto → Prop, (∀ n : Int, 0 ≤ n → n < 10 ^ 9 → X (.int n) S3) → F__law_draw [.ref p, .int (10 ^ 9)] S3 X := fun X h => draw_in hp' hq' (by decide) fun n a b => h n a (by omega)
      have iw : ∀ n : Int, 0 ≤ n → n < 10 ^ 9 → Worth (.int n) := fun n a b => ⟨.int n, fun S' => .int n, (Rz.int' (k := 12) ⟨by omega, by omega⟩ (by decide) (by decide)).ok (by decide) (by decide)⟩
      walk_at "wk"
      refine ifB_dec (fun _ => ?_) fun _ => ?_
      · walk_at "wk"
        refine dr _ fun n a b => ?_
        walk_at "wk"
        exact .here ⟨⟨_, iw n a b, rfl⟩, rfl⟩
      walk_at "wk"
      refine ifB_dec (fun _ => ?_) fun _ => ?_
      · walk_at "wk"
        refine dr _ fun n a b => ?_
        walk_at "wk"
        exact .here ⟨⟨_, iw n a b, rfl⟩, rfl⟩
      walk_at "wk"
      refine ifB_dec (fun _ => ?_) fun _ => ?_
      · walk_at "wk"
        refine dr _ fun n a b => ?_
        walk_at "wk"
        exact .here ⟨⟨_, iw n a b, rfl⟩, rfl⟩
      · walk_at "wk"
        exact .here ⟨⟨_, hd, rfl⟩, rfl⟩
    obtain ⟨pd, h1, h2⟩ := hd
    walk_at "wk"
    refine law_caught_in hk16 h1 h2 ?_
    walk_at "wk"
    exact .here ⟨_, _, rfl, rfl⟩
  · rintro env S3 ⟨o2, o3, rfl, rfl⟩
    walk_at "wk"
    exact done _

end DL
namespace DL
open PySem PySem.Spec PyProof.Rows L2
abbrev topS (i : Nat) : Stmt := PySem.Challenge.pw_chartspec_k39_errors_stand_apart.main.body.getD i (.Pass ⟨0, 0, 0, 0⟩)
abbrev s__law_tape : Stmt := topS 19
theorem sc__law_tape : FnScope ["_law_script", "_law_total", "_law_cell"] ["_law_script"] (defScope s__law_tape) := ⟨rfl, rfl, rfl, by decide +kernel, rfl, by decide +kernel, by decide +kernel⟩
abbrev s__law_draw : Stmt := topS 20
theorem sc__law_draw : FnScope ["_law_tape_here", "_law_many", "_law_place", "_law_number"] ["_law_tape_here", "_law_many"] (defScope s__law_draw) := ⟨rfl, rfl, rfl, by decide +kernel, rfl, by decide +kernel, by decide +kernel⟩
abbrev s__law_word : Stmt := topS 21
theorem sc__law_word : FnScope ["_law_tape_here", "_law_signs", "_law_word_here", "_law_k"] ["_law_tape_here"] (defScope s__law_word) := ⟨rfl, rfl, rfl, by decide +kernel, rfl, by decide +kernel, by decide +kernel⟩
abbrev s__law_raised : Stmt := topS 22
theorem sc__law_raised : FnScope ["_law_at", "_law_worth"] ["_law_at", "_law_worth"] (defScope s__law_raised) := ⟨rfl, rfl, rfl, by decide +kernel, rfl, by decide +kernel, by decide +kernel⟩
abbrev s__law_caught : Stmt := topS 23
theorem sc__law_caught : FnScope ["_law_at", "_law_worth", "_law_kinds", "_law_told", "e", "_law_k"] ["_law_at", "_law_worth"] (defScope s__law_caught) := ⟨rfl, rfl, rfl, by decide +kernel, rfl, by decide +kernel, by decide +kernel⟩
abbrev s_law : Stmt := topS 24
theorem sc_law : FnScope ["_law_script", "_law_tape_here", "_law_at", "_law_worth"] ["_law_script"] (defScope s_law) := ⟨rfl, rfl, rfl, by decide +kernel, rfl, by decide +kernel, by decide +kernel⟩
section
variable {P : Program} {w : World} {K : PySem.W.Frag} {mg : Str → Option Value} {base : Heap}
theorem w__law_tape {f : Addr} {fd : FuncData} (F0 : Fun K "_law_tape" "_law_tape" s__law_tape f fd) (hm : mg "_law_tape" = some (.ref f)) (B : Blt mg)  : Cal P w K mg base "_law_tape" 1 ["_law_script"] FC__law_tape :=
  cal_of (b := b__law_tape) F0 hm (F0.binds fun _ _ _ _ _ _ us hl => match us, hl with | [_], _ => rfl) sc__law_tape (by decide) (by unfold FC__law_tape; exact len1) (fun cdv A outer s H E C => by
    exact (qs_cons (q_set (i := 1) C.nd rfl (by first | exact Or.inl rfl | exact Or.inr rfl) q_int)
  (qs_cons (q_for PassesOwn.never rfl (qi_seq (q_var 0)) (qg_name (i := 2) C.nd rfl (by first | exact Or.inl rfl | exact Or.inr rfl)) (qs_one (q_set (i := 1) C.nd rfl (by first | exact Or.inl rfl | exact Or.inr rfl) (q_mod (q_blTy call_int1 bf_int rfl B.int boot_int (qa_cons (q_add (q_mul (q_var 1) q_int) (q_blt call_abs bf_abs rfl B.abs boot_abs (qa_cons (q_blTy call_int1 bf_int rfl B.int boot_int (qa_cons (q_var 2) qa_nil)) qa_nil))) qa_nil)) q_int))))
  (qs_one (q_ret (q_lst (qa_cons (q_blTy call_list_of bf_list rfl B.list boot_list (qa_cons (q_var 0) qa_nil)) (qa_cons q_int (qa_cons q_int (qa_cons (q_var 1) qa_nil)))))))))) p__law_tape
theorem w__law_draw {f : Addr} {fd : FuncData} (F0 : Fun K "_law_draw" "_law_draw" s__law_draw f fd) (hm : mg "_law_draw" = some (.ref f)) (B : Blt mg)  : Cal P w K mg base "_law_draw" 1 ["_law_tape_here", "_law_many"] FC__law_draw :=
  cal_of (b := b__law_draw) F0 hm (F0.binds fun _ _ _ _ _ _ us hl => match us, hl with | [_, _], _ => rfl) sc__law_draw (by decide) (by unfold FC__law_draw; exact len2) (fun cdv A outer s H E C => by
    exact (qs_cons (q_if (qt_eq C.room (q_ix (q_var 0) q_int) q_int) (qs_cons (q_set (i := 2) C.nd rfl (by first | exact Or.inl rfl | exact Or.inr rfl) (q_ix (q_var 0) q_int))
  (qs_cons (q_set (i := 3) C.nd rfl (by first | exact Or.inl rfl | exact Or.inr rfl) q_int)
  (qs_cons (q_if (qt_lt (q_var 2) (q_blt call_len bf_len rfl B.len PySem.boot_len (qa_cons (q_ix (q_var 0) q_int) qa_nil))) (qs_one (q_set (i := 3) C.nd rfl (by first | exact Or.inl rfl | exact Or.inr rfl) (q_blt call_abs bf_abs rfl B.abs boot_abs (qa_cons (q_blTy call_int1 bf_int rfl B.int boot_int (qa_cons (q_ix (q_ix (q_var 0) q_int) (q_var 2)) qa_nil)) qa_nil)))) (qs_cons (q_asg (q_mod (q_blTy call_int1 bf_int rfl B.int boot_int (qa_cons (q_add (q_add (q_mul (q_ix (q_var 0) q_int) q_int) (q_var 2)) q_int) qa_nil)) q_int) (qg_sub (q_var 0) q_int))
  (qs_one (q_set (i := 3) C.nd rfl (by first | exact Or.inl rfl | exact Or.inr rfl) (q_ix (q_var 0) q_int)))))
  (qs_cons (q_asg (q_add (q_var 2) q_int) (qg_sub (q_var 0) q_int))
  (qs_cons (q_if (qt_lt (q_var 3) (q_pow q_int q_int)) (qs_cons (q_set (i := 3) C.nd rfl (by first | exact Or.inl rfl | exact Or.inr rfl) (q_mod (q_blTy call_int1 bf_int rfl B.int boot_int (qa_cons (q_add (q_add (q_mul (q_var 3) q_int) (q_mul (q_var 2) q_int)) q_int) qa_nil)) q_int))
  (qs_cons (q_set (i := 3) C.nd rfl (by first | exact Or.inl rfl | exact Or.inr rfl) (q_mod (q_blTy call_int1 bf_int rfl B.int boot_int (qa_cons (q_mul (q_var 3) q_int) qa_nil)) q_int))
  (qs_one (q_ret (q_mod (q_blTy call_int1 bf_int rfl B.int boot_int (qa_cons (q_var 3) qa_nil)) (q_blt (call_max2 C.calm) bf_max2 rfl B.max boot_max (qa_cons (q_var 1) (qa_cons q_int qa_nil)))))))) qs_nil)
  (qs_one (q_asg (q_var 3) (qg_sub (q_var 0) q_int)))))))) qs_nil)
  (qs_cons (q_set (i := 3) C.nd rfl (by first | exact Or.inl rfl | exact Or.inr rfl) (q_ix (q_var 0) q_int))
  (qs_cons (q_asg (q_div (q_var 3) (q_blt (call_max2 C.calm) bf_max2 rfl B.max boot_max (qa_cons (q_var 1) (qa_cons q_int qa_nil)))) (qg_sub (q_var 0) q_int))
  (qs_one (q_ret (q_mod (q_blTy call_int1 bf_int rfl B.int boot_int (qa_cons (q_var 3) qa_nil)) (q_blt (call_max2 C.calm) bf_max2 rfl B.max boot_max (qa_cons (q_var 1) (qa_cons q_int qa_nil)))))))))) p__law_draw
theorem w__law_word {f : Addr} {fd : FuncData} (F0 : Fun K "_law_word" "_law_word" s__law_word f fd) (hm : mg "_law_word" = some (.ref f)) (B : Blt mg) (c__law_draw : Cal P w K mg base "_law_draw" 1 ["_law_tape_here", "_law_many"] F__law_draw) : Cal P w K mg base "_law_word" 2 ["_law_tape_here"] F__law_word :=
  cal_of (b := b__law_word) F0 hm (F0.binds fun _ _ _ _ _ _ us hl => match us, hl with | [_], _ => rfl) sc__law_word (by decide) (by unfold F__law_word; exact len1) (fun cdv A outer s H E C => by
    exact (qs_cons (q_set (i := 1) C.nd rfl (by first | exact Or.inl rfl | exact Or.inr rfl) q_str)
  (qs_cons (q_set (i := 1) C.nd rfl (by first | exact Or.inl rfl | exact Or.inr rfl) (q_add (q_var 1) q_str))
  (qs_cons (q_set (i := 2) C.nd rfl (by first | exact Or.inl rfl | exact Or.inr rfl) q_str)
  (qs_cons (q_for PassesOwn.never rfl (qi_rng1 rfl B.range (qa_cons (q_ix (q_lst (qa_cons q_int (qa_cons q_int (qa_cons q_int (qa_cons q_int (qa_cons q_int (qa_cons q_int qa_nil))))))) (q_call C c__law_draw (by decide) rfl (qa_cons (q_var 0) (qa_cons q_int qa_nil)))) qa_nil)) (qg_name (i := 3) C.nd rfl (by first | exact Or.inl rfl | exact Or.inr rfl)) (qs_one (q_set (i := 2) C.nd rfl (by first | exact Or.inl rfl | exact Or.inr rfl) (q_add (q_var 2) (q_ix (q_var 1) (q_call C c__law_draw (by decide) rfl (qa_cons (q_var 0) (qa_cons q_int qa_nil))))))))
  (qs_one (q_ret (q_var 2)))))))) p__law_word
theorem w__law_raised {f : Addr} {fd : FuncData} (F0 : Fun K "_law_raised" "_law_raised" s__law_raised f fd) (hm : mg "_law_raised" = some (.ref f)) (B : Blt mg) {C_PatchDoesNotFit : Addr} (m_PatchDoesNotFit : mg "PatchDoesNotFit" = some (.ref C_PatchDoesNotFit)) (T_PatchDoesNotFit : OexC K C_PatchDoesNotFit) (I_PatchDoesNotFit : Ini P w K mg base C_PatchDoesNotFit "reason") {C_PictureTooLarge : Addr} (m_PictureTooLarge : mg "PictureTooLarge" = some (.ref C_PictureTooLarge)) (T_PictureTooLarge : OexC K C_PictureTooLarge) (I_PictureTooLarge : Ini P w K mg base C_PictureTooLarge "pixels") {C_DuplicateName : Addr} (m_DuplicateName : mg "DuplicateName" = some (.ref C_DuplicateName)) (T_DuplicateName : OexC K C_DuplicateName) (I_DuplicateName : Ini P w K mg base C_DuplicateName "name") {C_UnknownName : Addr} (m_UnknownName : mg "UnknownName" = some (.ref C_UnknownName)) (T_UnknownName : OexC K C_UnknownName) (I_UnknownName : Ini P w K mg base C_UnknownName "name") {C_WrongKind : Addr} (m_WrongKind : mg "WrongKind" = some (.ref C_WrongKind)) (T_WrongKind : OexC K C_WrongKind) (I_WrongKind : Ini P w K mg base C_WrongKind "name") {C_ChannelNeeded : Addr} (m_ChannelNeeded : mg "ChannelNeeded" = some (.ref C_ChannelNeeded)) (T_ChannelNeeded : OexC K C_ChannelNeeded) (I_ChannelNeeded : Ini P w K mg base C_ChannelNeeded "name") {C_ChannelNotAllowed : Addr} (m_ChannelNotAllowed : mg "ChannelNotAllowed" = some (.ref C_ChannelNotAllowed)) (T_ChannelNotAllowed : OexC K C_ChannelNotAllowed) (I_ChannelNotAllowed : Ini P w K mg base C_ChannelNotAllowed "name") {C_ScalesDoNotFit : Addr} (m_ScalesDoNotFit : mg "ScalesDoNotFit" = some (.ref C_ScalesDoNotFit)) (T_ScalesDoNotFit : OexC K C_ScalesDoNotFit) (I_ScalesDoNotFit : Ini P w K mg base C_ScalesDoNotFit "name") {C_TooManyCategories : Addr} (m_TooManyCategories : mg "TooManyCategories" = some (.ref C_TooManyCategories)) (T_TooManyCategories : OexC K C_TooManyCategories) (I_TooManyCategories : Ini P w K mg base C_TooManyCategories "count") {C_TooManyRows : Addr} (m_TooManyRows : mg "TooManyRows" = some (.ref C_TooManyRows)) (T_TooManyRows : OexC K C_TooManyRows) (I_TooManyRows : Ini P w K mg base C_TooManyRows "name") {C_NotReadable : Addr} (m_NotReadable : mg "NotReadable" = some (.ref C_NotReadable)) (T_NotReadable : OexC K C_NotReadable) (I_NotReadable : Ini P w K mg base C_NotReadable "name") {C_NotDecided : Addr} (m_NotDecided : mg "NotDecided" = some (.ref C_NotDecided)) (T_NotDecided : OexC K C_NotDecided) (I_NotDecided : Ini P w K mg base C_NotDecided "name") {C_NotComparable : Addr} (m_NotComparable : mg "NotComparable" = some (.ref C_NotComparable)) (T_NotComparable : OexC K C_NotComparable) (I_NotComparable : Ini P w K mg base C_NotComparable "name") {C_TooManyCases : Addr} (m_TooManyCases : mg "TooManyCases" = some (.ref C_TooManyCases)) (T_TooManyCases : OexC K C_TooManyCases) (I_TooManyCases : Ini P w K mg base C_TooManyCases "count") {C_NothingToUndo : Addr} (m_NothingToUndo : mg "NothingToUndo" = some (.ref C_NothingToUndo)) (T_NothingToUndo : OexC K C_NothingToUndo) (x0_NothingToUndo : PySem.W.excIn K C_NothingToUndo [.type "ValueError", .type "Exception", .type "BaseException", .type "object"] "ValueError.__new__" = true) {C_NothingToRedo : Addr} (m_NothingToRedo : mg "NothingToRedo" = some (.ref C_NothingToRedo)) (T_NothingToRedo : OexC K C_NothingToRedo) (x0_NothingToRedo : PySem.W.excIn K C_NothingToRedo [.type "ValueError", .type "Exception", .type "BaseException", .type "object"] "ValueError.__new__" = true) : CalX ["PatchDoesNotFit", "PictureTooLarge", "DuplicateName", "UnknownName", "WrongKind", "ChannelNeeded", "ChannelNotAllowed", "ScalesDoNotFit", "TooManyCategories", "TooManyRows", "NotReadable", "NotDecided", "NotComparable", "TooManyCases", "NothingToUndo", "NothingToRedo"] P w K mg base "_law_raised" 3 ["_law_at", "_law_worth"] F__law_raised :=
  calX_of (b := b__law_raised) F0 hm (F0.binds fun _ _ _ _ _ _ us hl => match us, hl with | [_, _], _ => rfl) sc__law_raised (by decide) (by unfold F__law_raised; exact lenx2) (fun cdv A outer s H E C tk po XP => by
    exact (have CX := C.unox; (qsx_cons (qsx_if (qt_eq C.room (q_var 0) q_int) (qsx_one (qsx_raise CX.room rfl tk I_PatchDoesNotFit T_PatchDoesNotFit rfl m_PatchDoesNotFit (by decide) (L2.PE.nox (q_var 1)))) qsx_nil)
  (qsx_cons (qsx_if (qt_eq C.room (q_var 0) q_int) (qsx_one (qsx_raise CX.room rfl tk I_PictureTooLarge T_PictureTooLarge rfl m_PictureTooLarge (by decide) (L2.PE.nox (q_var 1)))) qsx_nil)
  (qsx_cons (qsx_if (qt_eq C.room (q_var 0) q_int) (qsx_one (qsx_raise CX.room rfl tk I_DuplicateName T_DuplicateName rfl m_DuplicateName (by decide) (L2.PE.nox (q_var 1)))) qsx_nil)
  (qsx_cons (qsx_if (qt_eq C.room (q_var 0) q_int) (qsx_one (qsx_raise CX.room rfl tk I_UnknownName T_UnknownName rfl m_UnknownName (by decide) (L2.PE.nox (q_var 1)))) qsx_nil)
  (qsx_cons (qsx_if (qt_eq C.room (q_var 0) q_int) (qsx_one (qsx_raise CX.room rfl tk I_WrongKind T_WrongKind rfl m_WrongKind (by decide) (L2.PE.nox (q_var 1)))) qsx_nil)
  (qsx_cons (qsx_if (qt_eq C.room (q_var 0) q_int) (qsx_one (qsx_raise CX.room rfl tk I_ChannelNeeded T_ChannelNeeded rfl m_ChannelNeeded (by decide) (L2.PE.nox (q_var 1)))) qsx_nil)
  (qsx_cons (qsx_if (qt_eq C.room (q_var 0) q_int) (qsx_one (qsx_raise CX.room rfl tk I_ChannelNotAllowed T_ChannelNotAllowed rfl m_ChannelNotAllowed (by decide) (L2.PE.nox (q_var 1)))) qsx_nil)
  (qsx_cons (qsx_if (qt_eq C.room (q_var 0) q_int) (qsx_one (qsx_raise CX.room rfl tk I_ScalesDoNotFit T_ScalesDoNotFit rfl m_ScalesDoNotFit (by decide) (L2.PE.nox (q_var 1)))) qsx_nil)
  (qsx_cons (qsx_if (qt_eq C.room (q_var 0) q_int) (qsx_one (qsx_raise CX.room rfl tk I_TooManyCategories T_TooManyCategories rfl m_TooManyCategories (by decide) (L2.PE.nox (q_var 1)))) qsx_nil)
  (qsx_cons (qsx_if (qt_eq C.room (q_var 0) q_int) (qsx_one (qsx_raise CX.room rfl tk I_TooManyRows T_TooManyRows rfl m_TooManyRows (by decide) (L2.PE.nox (q_var 1)))) qsx_nil)
  (qsx_cons (qsx_if (qt_eq C.room (q_var 0) q_int) (qsx_one (qsx_raise CX.room rfl tk I_NotReadable T_NotReadable rfl m_NotReadable (by decide) (L2.PE.nox (q_var 1)))) qsx_nil)
  (qsx_cons (qsx_if (qt_eq C.room (q_var 0) q_int) (qsx_one (qsx_raise CX.room rfl tk I_NotDecided T_NotDecided rfl m_NotDecided (by decide) (L2.PE.nox (q_var 1)))) qsx_nil)
  (qsx_cons (qsx_if (qt_eq C.room (q_var 0) q_int) (qsx_one (qsx_raise CX.room rfl tk I_NotComparable T_NotComparable rfl m_NotComparable (by decide) (L2.PE.nox (q_var 1)))) qsx_nil)
  (qsx_cons (qsx_if (qt_eq C.room (q_var 0) q_int) (qsx_one (qsx_raise CX.room rfl tk I_TooManyCases T_TooManyCases rfl m_TooManyCases (by decide) (L2.PE.nox (q_var 1)))) qsx_nil)
  (qsx_cons (qsx_if (qt_eq C.room (q_var 0) q_int) (qsx_one (qsx_raise0 rfl tk x0_NothingToUndo T_NothingToUndo.kC (raises_own T_NothingToUndo.exC T_NothingToUndo.tyC) rfl m_NothingToUndo (by decide))) qsx_nil)
  (qsx_one (qsx_raise0 rfl tk x0_NothingToRedo T_NothingToRedo.kC (raises_own T_NothingToRedo.exC T_NothingToRedo.tyC) rfl m_NothingToRedo (by decide)))))))))))))))))))) p__law_raised
theorem w__law_caught {f : Addr} {fd : FuncData} (F0 : Fun K "_law_caught" "_law_caught" s__law_caught f fd) (hm : mg "_law_caught" = some (.ref f)) (B : Blt mg) (c__law_raised : CalX ["PatchDoesNotFit", "PictureTooLarge", "DuplicateName", "UnknownName", "WrongKind", "ChannelNeeded", "ChannelNotAllowed", "ScalesDoNotFit", "TooManyCategories", "TooManyRows", "NotReadable", "NotDecided", "NotComparable", "TooManyCases", "NothingToUndo", "NothingToRedo"] P w K mg base "_law_raised" 3 ["_law_at", "_law_worth"] F__law_raised) (XT : XTab K mg ["PatchDoesNotFit", "PictureTooLarge", "DuplicateName", "UnknownName", "WrongKind", "ChannelNeeded", "ChannelNotAllowed", "ScalesDoNotFit", "TooManyCategories", "TooManyRows", "NotReadable", "NotDecided", "NotComparable", "TooManyCases", "NothingToUndo", "NothingToRedo"] ["reason", "pixels", "name", "count"]) (A_ChartError : XAsk K mg ["PatchDoesNotFit", "PictureTooLarge", "DuplicateName", "UnknownName", "WrongKind", "ChannelNeeded", "ChannelNotAllowed", "ScalesDoNotFit", "TooManyCategories", "TooManyRows", "NotReadable", "NotDecided", "NotComparable", "TooManyCases", "NothingToUndo", "NothingToRedo"] "ChartError") (A_DuplicateName : XAsk K mg ["PatchDoesNotFit", "PictureTooLarge", "DuplicateName", "UnknownName", "WrongKind", "ChannelNeeded", "ChannelNotAllowed", "ScalesDoNotFit", "TooManyCategories", "TooManyRows", "NotReadable", "NotDecided", "NotComparable", "TooManyCases", "NothingToUndo", "NothingToRedo"] "DuplicateName") (A_PictureTooLarge : XAsk K mg ["PatchDoesNotFit", "PictureTooLarge", "DuplicateName", "UnknownName", "WrongKind", "ChannelNeeded", "ChannelNotAllowed", "ScalesDoNotFit", "TooManyCategories", "TooManyRows", "NotReadable", "NotDecided", "NotComparable", "TooManyCases", "NothingToUndo", "NothingToRedo"] "PictureTooLarge") (A_PatchDoesNotFit : XAsk K mg ["PatchDoesNotFit", "PictureTooLarge", "DuplicateName", "UnknownName", "WrongKind", "ChannelNeeded", "ChannelNotAllowed", "ScalesDoNotFit", "TooManyCategories", "TooManyRows", "NotReadable", "NotDecided", "NotComparable", "TooManyCases", "NothingToUndo", "NothingToRedo"] "PatchDoesNotFit") (A_ChannelNeeded : XAsk K mg ["PatchDoesNotFit", "PictureTooLarge", "DuplicateName", "UnknownName", "WrongKind", "ChannelNeeded", "ChannelNotAllowed", "ScalesDoNotFit", "TooManyCategories", "TooManyRows", "NotReadable", "NotDecided", "NotComparable", "TooManyCases", "NothingToUndo", "NothingToRedo"] "ChannelNeeded") (A_WrongKind : XAsk K mg ["PatchDoesNotFit", "PictureTooLarge", "DuplicateName", "UnknownName", "WrongKind", "ChannelNeeded", "ChannelNotAllowed", "ScalesDoNotFit", "TooManyCategories", "TooManyRows", "NotReadable", "NotDecided", "NotComparable", "TooManyCases", "NothingToUndo", "NothingToRedo"] "WrongKind") (A_UnknownName : XAsk K mg ["PatchDoesNotFit", "PictureTooLarge", "DuplicateName", "UnknownName", "WrongKind", "ChannelNeeded", "ChannelNotAllowed", "ScalesDoNotFit", "TooManyCategories", "TooManyRows", "NotReadable", "NotDecided", "NotComparable", "TooManyCases", "NothingToUndo", "NothingToRedo"] "UnknownName") (A_ScalesDoNotFit : XAsk K mg ["PatchDoesNotFit", "PictureTooLarge", "DuplicateName", "UnknownName", "WrongKind", "ChannelNeeded", "ChannelNotAllowed", "ScalesDoNotFit", "TooManyCategories", "TooManyRows", "NotReadable", "NotDecided", "NotComparable", "TooManyCases", "NothingToUndo", "NothingToRedo"] "ScalesDoNotFit") (A_ChannelNotAllowed : XAsk K mg ["PatchDoesNotFit", "PictureTooLarge", "DuplicateName", "UnknownName", "WrongKind", "ChannelNeeded", "ChannelNotAllowed", "ScalesDoNotFit", "TooManyCategories", "TooManyRows", "NotReadable", "NotDecided", "NotComparable", "TooManyCases", "NothingToUndo", "NothingToRedo"] "ChannelNotAllowed") (A_NotReadable : XAsk K mg ["PatchDoesNotFit", "PictureTooLarge", "DuplicateName", "UnknownName", "WrongKind", "ChannelNeeded", "ChannelNotAllowed", "ScalesDoNotFit", "TooManyCategories", "TooManyRows", "NotReadable", "NotDecided", "NotComparable", "TooManyCases", "NothingToUndo", "NothingToRedo"] "NotReadable") (A_TooManyRows : XAsk K mg ["PatchDoesNotFit", "PictureTooLarge", "DuplicateName", "UnknownName", "WrongKind", "ChannelNeeded", "ChannelNotAllowed", "ScalesDoNotFit", "TooManyCategories", "TooManyRows", "NotReadable", "NotDecided", "NotComparable", "TooManyCases", "NothingToUndo", "NothingToRedo"] "TooManyRows") (A_TooManyCategories : XAsk K mg ["PatchDoesNotFit", "PictureTooLarge", "DuplicateName", "UnknownName", "WrongKind", "ChannelNeeded", "ChannelNotAllowed", "ScalesDoNotFit", "TooManyCategories", "TooManyRows", "NotReadable", "NotDecided", "NotComparable", "TooManyCases", "NothingToUndo", "NothingToRedo"] "TooManyCategories") (A_TooManyCases : XAsk K mg ["PatchDoesNotFit", "PictureTooLarge", "DuplicateName", "UnknownName", "WrongKind", "ChannelNeeded", "ChannelNotAllowed", "ScalesDoNotFit", "TooManyCategories", "TooManyRows", "NotReadable", "NotDecided", "NotComparable", "TooManyCases", "NothingToUndo", "NothingToRedo"] "TooManyCases") (A_NotComparable : XAsk K mg ["PatchDoesNotFit", "PictureTooLarge", "DuplicateName", "UnknownName", "WrongKind", "ChannelNeeded", "ChannelNotAllowed", "ScalesDoNotFit", "TooManyCategories", "TooManyRows", "NotReadable", "NotDecided", "NotComparable", "TooManyCases", "NothingToUndo", "NothingToRedo"] "NotComparable") (A_NotDecided : XAsk K mg ["PatchDoesNotFit", "PictureTooLarge", "DuplicateName", "UnknownName", "WrongKind", "ChannelNeeded", "ChannelNotAllowed", "ScalesDoNotFit", "TooManyCategories", "TooManyRows", "NotReadable", "NotDecided", "NotComparable", "TooManyCases", "NothingToUndo", "NothingToRedo"] "NotDecided") (A_NothingToRedo : XAsk K mg ["PatchDoesNotFit", "PictureTooLarge", "DuplicateName", "UnknownName", "WrongKind", "ChannelNeeded", "ChannelNotAllowed", "ScalesDoNotFit", "TooManyCategories", "TooManyRows", "NotReadable", "NotDecided", "NotComparable", "TooManyCases", "NothingToUndo", "NothingToRedo"] "NothingToRedo") (A_NothingToUndo : XAsk K mg ["PatchDoesNotFit", "PictureTooLarge", "DuplicateName", "UnknownName", "WrongKind", "ChannelNeeded", "ChannelNotAllowed", "ScalesDoNotFit", "TooManyCategories", "TooManyRows", "NotReadable", "NotDecided", "NotComparable", "TooManyCases", "NothingToUndo", "NothingToRedo"] "NothingToUndo") (A_ValueError : XAsk K mg ["PatchDoesNotFit", "PictureTooLarge", "DuplicateName", "UnknownName", "WrongKind", "ChannelNeeded", "ChannelNotAllowed", "ScalesDoNotFit", "TooManyCategories", "TooManyRows", "NotReadable", "NotDecided", "NotComparable", "TooManyCases", "NothingToUndo", "NothingToRedo"] "ValueError") : Cal P w K mg base "_law_caught" 4 ["_law_at", "_law_worth"] F__law_caught :=
  cal_of (b := b__law_caught) F0 hm (F0.binds fun _ _ _ _ _ _ us hl => match us, hl with | [_, _], _ => rfl) sc__law_caught (by decide) (by unfold F__law_caught; exact len2) (fun cdv A outer s H E C => by
    exact (qs_cons (q_set (i := 2) C.nd rfl (by first | exact Or.inl rfl | exact Or.inr rfl) (q_lst qa_nil))
  (qs_cons (q_set (i := 3) C.nd rfl (by first | exact Or.inl rfl | exact Or.inr rfl) (q_var 1))
  (qs_cons (q_join (qsx_done (qsx_try rfl rfl C.nd rfl rfl rfl (by decide) A_ChartError takes0 (fun W1 pn xe tk po XP1 => have CX := C.tr pn xe; have C := CX.nox; (qsx_one (qsx_expr (qx_call CX tk c__law_raised (by decide) rfl (qax_cons (qx_lift (q_var 0)) (qax_cons (qx_lift (q_var 1)) qax_nil)))))) (fun a oe cls d pn hz hv xv xk => have CS := C.suite a ((a, oe) :: pn); (qs_cons (q_set (i := 2) C.nd rfl (by first | exact Or.inl rfl | exact Or.inr rfl) (q_lst (qa_cons (q_isx (i := 4) hz hv xk XT A_PatchDoesNotFit rfl (by first | exact Or.inl rfl | exact Or.inr (Or.inl rfl) | exact Or.inr (Or.inr rfl)) rfl B.isinstance rfl) (qa_cons (q_isx (i := 4) hz hv xk XT A_PictureTooLarge rfl (by first | exact Or.inl rfl | exact Or.inr (Or.inl rfl) | exact Or.inr (Or.inr rfl)) rfl B.isinstance rfl) (qa_cons (q_isx (i := 4) hz hv xk XT A_DuplicateName rfl (by first | exact Or.inl rfl | exact Or.inr (Or.inl rfl) | exact Or.inr (Or.inr rfl)) rfl B.isinstance rfl) qa_nil)))))
  (qs_cons (q_set (i := 2) C.nd rfl (by first | exact Or.inl rfl | exact Or.inr rfl) (q_add (q_var 2) (q_lst (qa_cons (q_isx (i := 4) hz hv xk XT A_UnknownName rfl (by first | exact Or.inl rfl | exact Or.inr (Or.inl rfl) | exact Or.inr (Or.inr rfl)) rfl B.isinstance rfl) (qa_cons (q_isx (i := 4) hz hv xk XT A_WrongKind rfl (by first | exact Or.inl rfl | exact Or.inr (Or.inl rfl) | exact Or.inr (Or.inr rfl)) rfl B.isinstance rfl) (qa_cons (q_isx (i := 4) hz hv xk XT A_ChannelNeeded rfl (by first | exact Or.inl rfl | exact Or.inr (Or.inl rfl) | exact Or.inr (Or.inr rfl)) rfl B.isinstance rfl) qa_nil))))))
  (qs_cons (q_set (i := 2) C.nd rfl (by first | exact Or.inl rfl | exact Or.inr rfl) (q_add (q_var 2) (q_lst (qa_cons (q_isx (i := 4) hz hv xk XT A_ChannelNotAllowed rfl (by first | exact Or.inl rfl | exact Or.inr (Or.inl rfl) | exact Or.inr (Or.inr rfl)) rfl B.isinstance rfl) (qa_cons (q_isx (i := 4) hz hv xk XT A_ScalesDoNotFit rfl (by first | exact Or.inl rfl | exact Or.inr (Or.inl rfl) | exact Or.inr (Or.inr rfl)) rfl B.isinstance rfl) qa_nil)))))
  (qs_cons (q_set (i := 2) C.nd rfl (by first | exact Or.inl rfl | exact Or.inr rfl) (q_add (q_var 2) (q_lst (qa_cons (q_isx (i := 4) hz hv xk XT A_TooManyCategories rfl (by first | exact Or.inl rfl | exact Or.inr (Or.inl rfl) | exact Or.inr (Or.inr rfl)) rfl B.isinstance rfl) (qa_cons (q_isx (i := 4) hz hv xk XT A_TooManyRows rfl (by first | exact Or.inl rfl | exact Or.inr (Or.inl rfl) | exact Or.inr (Or.inr rfl)) rfl B.isinstance rfl) (qa_cons (q_isx (i := 4) hz hv xk XT A_NotReadable rfl (by first | exact Or.inl rfl | exact Or.inr (Or.inl rfl) | exact Or.inr (Or.inr rfl)) rfl B.isinstance rfl) qa_nil))))))
  (qs_cons (q_set (i := 2) C.nd rfl (by first | exact Or.inl rfl | exact Or.inr rfl) (q_add (q_var 2) (q_lst (qa_cons (q_isx (i := 4) hz hv xk XT A_NotDecided rfl (by first | exact Or.inl rfl | exact Or.inr (Or.inl rfl) | exact Or.inr (Or.inr rfl)) rfl B.isinstance rfl) (qa_cons (q_isx (i := 4) hz hv xk XT A_NotComparable rfl (by first | exact Or.inl rfl | exact Or.inr (Or.inl rfl) | exact Or.inr (Or.inr rfl)) rfl B.isinstance rfl) (qa_cons (q_isx (i := 4) hz hv xk XT A_TooManyCases rfl (by first | exact Or.inl rfl | exact Or.inr (Or.inl rfl) | exact Or.inr (Or.inr rfl)) rfl B.isinstance rfl) qa_nil))))))
  (qs_cons (q_set (i := 2) C.nd rfl (by first | exact Or.inl rfl | exact Or.inr rfl) (q_add (q_var 2) (q_lst (qa_cons (q_isx (i := 4) hz hv xk XT A_NothingToUndo rfl (by first | exact Or.inl rfl | exact Or.inr (Or.inl rfl) | exact Or.inr (Or.inr rfl)) rfl B.isinstance rfl) (qa_cons (q_isx (i := 4) hz hv xk XT A_NothingToRedo rfl (by first | exact Or.inl rfl | exact Or.inr (Or.inl rfl) | exact Or.inr (Or.inr rfl)) rfl B.isinstance rfl) qa_nil)))))
  (qs_cons (q_if (qt_eqS CS (q_var 0) q_int) (qs_one (q_set (i := 3) C.nd rfl (by first | exact Or.inl rfl | exact Or.inr rfl) (q_xf (i := 4) hz hv xk XT (by decide) rfl (by first | exact Or.inl rfl | exact Or.inr (Or.inl rfl) | exact Or.inr (Or.inr rfl))))) (qs_one (q_if (qt_eqS CS (q_var 0) q_int) (qs_one (q_set (i := 3) C.nd rfl (by first | exact Or.inl rfl | exact Or.inr rfl) (q_xf (i := 4) hz hv xk XT (by decide) rfl (by first | exact Or.inl rfl | exact Or.inr (Or.inl rfl) | exact Or.inr (Or.inr rfl))))) (qs_one (q_if (qt_w (qw_or (qt_eqS CS (q_var 0) q_int) (qw_or1 (qt_eqS CS (q_var 0) q_int)))) (qs_one (q_set (i := 3) C.nd rfl (by first | exact Or.inl rfl | exact Or.inr rfl) (q_xf (i := 4) hz hv xk XT (by decide) rfl (by first | exact Or.inl rfl | exact Or.inr (Or.inl rfl) | exact Or.inr (Or.inr rfl))))) (qs_one (q_if (qt_lt (q_var 0) q_int) (qs_one (q_set (i := 3) C.nd rfl (by first | exact Or.inl rfl | exact Or.inr rfl) (q_xf (i := 4) hz hv xk XT (by decide) rfl (by first | exact Or.inl rfl | exact Or.inr (Or.inl rfl) | exact Or.inr (Or.inr rfl))))) qs_nil)))))))
  (qs_one (q_if (qt_not (qt_tru (q_isx (i := 4) hz hv xk XT A_ValueError rfl (by first | exact Or.inl rfl | exact Or.inr (Or.inl rfl) | exact Or.inr (Or.inr rfl)) rfl B.isinstance rfl))) (qs_one (q_ret q_bl)) qs_nil)))))))))))))
  (qs_one (q_ret (q_and (q_eq C.room (q_var 2) (q_comp C (own := [("_law_k", 5)]) (qi_rng1 rfl B.range (qa_cons q_int qa_nil)) (blkOk_by (N := ["_law_at", "_law_worth", "_law_kinds", "_law_told", "e", "_law_k"]) (sc := defScope s__law_caught) (by decide +kernel)) (gv_name (i := 5) (by decide)) (fun _ _ _ _ _ => (pg_name (i := 5) C.nd rfl (by first | exact Or.inl rfl | exact Or.inr rfl))) (fun _ _ _ _ _ => qts_nil) (fun _ _ _ _ _ => (q_eq C.room (q_var 5) (q_var 0))))) (q_one (q_eq C.room (q_blt (call_repr C) bf_repr rfl B.repr boot_repr (qa_cons (q_var 3) qa_nil)) (q_blt (call_repr C) bf_repr rfl B.repr boot_repr (qa_cons (q_var 1) qa_nil))))))))))) p__law_caught
theorem w_law {f : Addr} {fd : FuncData} (F0 : Fun K "law" "law" s_law f fd) (hm : mg "law" = some (.ref f)) (B : Blt mg) (c__law_tape : Cal P w K mg base "_law_tape" 1 ["_law_script"] F__law_tape) (c__law_word : Cal P w K mg base "_law_word" 2 ["_law_tape_here"] F__law_word) (c__law_draw : Cal P w K mg base "_law_draw" 1 ["_law_tape_here", "_law_many"] F__law_draw) (c__law_caught : Cal P w K mg base "_law_caught" 4 ["_law_at", "_law_worth"] F__law_caught) : Cal P w K mg base "law" 5 ["_law_script"] F_law :=
  cal_of (b := b_law) F0 hm (F0.binds fun _ _ _ _ _ _ us hl => match us, hl with | [_], _ => rfl) sc_law (by decide) (by unfold F_law; exact len1) (fun cdv A outer s H E C => by
    exact (qs_cons (q_set (i := 1) C.nd rfl (by first | exact Or.inl rfl | exact Or.inr rfl) (q_call C c__law_tape (by decide) rfl (qa_cons (q_var 0) qa_nil)))
  (qs_cons (q_for PassesOwn.never rfl (qi_rng1 rfl B.range (qa_cons q_int qa_nil)) (qg_name (i := 2) C.nd rfl (by first | exact Or.inl rfl | exact Or.inr rfl)) (qs_cons (q_set (i := 3) C.nd rfl (by first | exact Or.inl rfl | exact Or.inr rfl) (q_call C c__law_word (by decide) rfl (qa_cons (q_var 1) qa_nil)))
  (qs_cons (q_join (q_if (qt_eq C.room (q_var 2) q_int) (qs_one (q_set (i := 3) C.nd rfl (by first | exact Or.inl rfl | exact Or.inr rfl) (q_tup (qa_cons q_str (qa_cons (q_tup (qa_cons (q_call C c__law_draw (by decide) rfl (qa_cons (q_var 1) (qa_cons q_int qa_nil))) (qa_cons (q_var 3) (qa_cons (q_var 3) qa_nil)))) qa_nil))))) qs_nil))
  (qs_cons (q_join (q_if (qt_w (qw_or (qt_eq C.room (q_var 2) q_int) (qw_or (qt_eq C.room (q_var 2) q_int) (qw_or1 (qt_eq C.room (q_var 2) q_int))))) (qs_one (q_set (i := 3) C.nd rfl (by first | exact Or.inl rfl | exact Or.inr rfl) (q_call C c__law_draw (by decide) rfl (qa_cons (q_var 1) (qa_cons (q_pow q_int q_int) qa_nil))))) qs_nil))
  (qs_one (q_if (qt_not (qt_tru (q_call C c__law_caught (by decide) rfl (qa_cons (q_var 2) (qa_cons (q_var 3) qa_nil))))) (qs_one (q_ret q_bl)) qs_nil))))))
  (qs_one (q_ret q_bl))))) p_law
end
abbrev s_ini_PatchDoesNotFit : Stmt := (clsBodyS (topS 2)).getD 0 (.Pass ⟨0, 0, 0, 0⟩)
theorem sc_ini_PatchDoesNotFit : FnScope ["self", "reason"] ["self", "reason"] (defScope s_ini_PatchDoesNotFit) := ⟨rfl, rfl, rfl, by decide +kernel, rfl, by decide +kernel, by decide +kernel⟩
abbrev s_ini_PictureTooLarge : Stmt := (clsBodyS (topS 3)).getD 0 (.Pass ⟨0, 0, 0, 0⟩)
theorem sc_ini_PictureTooLarge : FnScope ["self", "pixels"] ["self", "pixels"] (defScope s_ini_PictureTooLarge) := ⟨rfl, rfl, rfl, by decide +kernel, rfl, by decide +kernel, by decide +kernel⟩
abbrev s_ini_DuplicateName : Stmt := (clsBodyS (topS 4)).getD 0 (.Pass ⟨0, 0, 0, 0⟩)
theorem sc_ini_DuplicateName : FnScope ["self", "name"] ["self", "name"] (defScope s_ini_DuplicateName) := ⟨rfl, rfl, rfl, by decide +kernel, rfl, by decide +kernel, by decide +kernel⟩
abbrev s_ini_UnknownName : Stmt := (clsBodyS (topS 5)).getD 0 (.Pass ⟨0, 0, 0, 0⟩)
theorem sc_ini_UnknownName : FnScope ["self", "name"] ["self", "name"] (defScope s_ini_UnknownName) := ⟨rfl, rfl, rfl, by decide +kernel, rfl, by decide +kernel, by decide +kernel⟩
abbrev s_ini_WrongKind : Stmt := (clsBodyS (topS 6)).getD 0 (.Pass ⟨0, 0, 0, 0⟩)
theorem sc_ini_WrongKind : FnScope ["self", "name"] ["self", "name"] (defScope s_ini_WrongKind) := ⟨rfl, rfl, rfl, by decide +kernel, rfl, by decide +kernel, by decide +kernel⟩
abbrev s_ini_ChannelNeeded : Stmt := (clsBodyS (topS 7)).getD 0 (.Pass ⟨0, 0, 0, 0⟩)
theorem sc_ini_ChannelNeeded : FnScope ["self", "name"] ["self", "name"] (defScope s_ini_ChannelNeeded) := ⟨rfl, rfl, rfl, by decide +kernel, rfl, by decide +kernel, by decide +kernel⟩
abbrev s_ini_ChannelNotAllowed : Stmt := (clsBodyS (topS 8)).getD 0 (.Pass ⟨0, 0, 0, 0⟩)
theorem sc_ini_ChannelNotAllowed : FnScope ["self", "name"] ["self", "name"] (defScope s_ini_ChannelNotAllowed) := ⟨rfl, rfl, rfl, by decide +kernel, rfl, by decide +kernel, by decide +kernel⟩
abbrev s_ini_ScalesDoNotFit : Stmt := (clsBodyS (topS 9)).getD 0 (.Pass ⟨0, 0, 0, 0⟩)
theorem sc_ini_ScalesDoNotFit : FnScope ["self", "name"] ["self", "name"] (defScope s_ini_ScalesDoNotFit) := ⟨rfl, rfl, rfl, by decide +kernel, rfl, by decide +kernel, by decide +kernel⟩
abbrev s_ini_TooManyCategories : Stmt := (clsBodyS (topS 10)).getD 0 (.Pass ⟨0, 0, 0, 0⟩)
theorem sc_ini_TooManyCategories : FnScope ["self", "count"] ["self", "count"] (defScope s_ini_TooManyCategories) := ⟨rfl, rfl, rfl, by decide +kernel, rfl, by decide +kernel, by decide +kernel⟩
abbrev s_ini_TooManyRows : Stmt := (clsBodyS (topS 11)).getD 0 (.Pass ⟨0, 0, 0, 0⟩)
theorem sc_ini_TooManyRows : FnScope ["self", "name"] ["self", "name"] (defScope s_ini_TooManyRows) := ⟨rfl, rfl, rfl, by decide +kernel, rfl, by decide +kernel, by decide +kernel⟩
abbrev s_ini_NotReadable : Stmt := (clsBodyS (topS 12)).getD 0 (.Pass ⟨0, 0, 0, 0⟩)
theorem sc_ini_NotReadable : FnScope ["self", "name"] ["self", "name"] (defScope s_ini_NotReadable) := ⟨rfl, rfl, rfl, by decide +kernel, rfl, by decide +kernel, by decide +kernel⟩
abbrev s_ini_NotDecided : Stmt := (clsBodyS (topS 13)).getD 0 (.Pass ⟨0, 0, 0, 0⟩)
theorem sc_ini_NotDecided : FnScope ["self", "name"] ["self", "name"] (defScope s_ini_NotDecided) := ⟨rfl, rfl, rfl, by decide +kernel, rfl, by decide +kernel, by decide +kernel⟩
abbrev s_ini_NotComparable : Stmt := (clsBodyS (topS 14)).getD 0 (.Pass ⟨0, 0, 0, 0⟩)
theorem sc_ini_NotComparable : FnScope ["self", "name"] ["self", "name"] (defScope s_ini_NotComparable) := ⟨rfl, rfl, rfl, by decide +kernel, rfl, by decide +kernel, by decide +kernel⟩
abbrev s_ini_TooManyCases : Stmt := (clsBodyS (topS 15)).getD 0 (.Pass ⟨0, 0, 0, 0⟩)
theorem sc_ini_TooManyCases : FnScope ["self", "count"] ["self", "count"] (defScope s_ini_TooManyCases) := ⟨rfl, rfl, rfl, by decide +kernel, rfl, by decide +kernel, by decide +kernel⟩
set_option maxHeartbeats 0 in
theorem all_mk {l : PySem.W.OpenLaw} {w : World} {K : PySem.W.Frag} {h : Heap} {mg : Str → Option Value} {fa : Addr} (X : K.In h) (G : h.Ns mainGlobals mg) (hfa : mg "law" = some (.ref fa)) {f0 : Addr} {oc0 kV0 dc0 pm0 cd0 ct0 : Value} {od0 an0 : Option Addr} {sl0 : Array (Option Value)} {f1 : Addr} {oc1 kV1 dc1 pm1 cd1 ct1 : Value} {od1 an1 : Option Addr} {sl1 : Array (Option Value)} {f2 : Addr} {oc2 kV2 dc2 pm2 cd2 ct2 : Value} {od2 an2 : Option Addr} {sl2 : Array (Option Value)} {f3 : Addr} {oc3 kV3 dc3 pm3 cd3 ct3 : Value} {od3 an3 : Option Addr} {sl3 : Array (Option Value)} {f4 : Addr} {oc4 kV4 dc4 pm4 cd4 ct4 : Value} {od4 an4 : Option Addr} {sl4 : Array (Option Value)} {f5 : Addr} {oc5 kV5 dc5 pm5 cd5 ct5 : Value} {od5 an5 : Option Addr} {sl5 : Array (Option Value)} {C_PatchDoesNotFit : Addr} {C_PictureTooLarge : Addr} {C_DuplicateName : Addr} {C_UnknownName : Addr} {C_WrongKind : Addr} {C_ChannelNeeded : Addr} {C_ChannelNotAllowed : Addr} {C_ScalesDoNotFit : Addr} {C_TooManyCategories : Addr} {C_TooManyRows : Addr} {C_NotReadable : Addr} {C_NotDecided : Addr} {C_NotComparable : Addr} {C_TooManyCases : Addr} {C_NothingToUndo : Addr} {C_NothingToRedo : Addr} {C_ChartError : Addr} {xnm_PatchDoesNotFit xq_PatchDoesNotFit : Str} {xN_PatchDoesNotFit : Addr} {xbs_PatchDoesNotFit xbm_PatchDoesNotFit : List Value} {xsn_PatchDoesNotFit : List Str} {xsub_PatchDoesNotFit : List Value} {xab_PatchDoesNotFit : Bool} {xcol_PatchDoesNotFit : Option Bool} {xdd_PatchDoesNotFit : Option Addr} {xk0_PatchDoesNotFit xk1_PatchDoesNotFit xk2_PatchDoesNotFit xk3_PatchDoesNotFit xk5_PatchDoesNotFit : Option Value} {fI_PatchDoesNotFit : Addr} {oc_PatchDoesNotFit kV_PatchDoesNotFit dc_PatchDoesNotFit pm_PatchDoesNotFit cd_PatchDoesNotFit ct_PatchDoesNotFit : Value} {od_PatchDoesNotFit an_PatchDoesNotFit : Option Addr} {sl_PatchDoesNotFit : Array (Option Value)} {xnm_PictureTooLarge xq_PictureTooLarge : Str} {xN_PictureTooLarge : Addr} {xbs_PictureTooLarge xbm_PictureTooLarge : List Value} {xsn_PictureTooLarge : List Str} {xsub_PictureTooLarge : List Value} {xab_PictureTooLarge : Bool} {xcol_PictureTooLarge : Option Bool} {xdd_PictureTooLarge : Option Addr} {xk0_PictureTooLarge xk1_PictureTooLarge xk2_PictureTooLarge xk3_PictureTooLarge xk5_PictureTooLarge : Option Value} {fI_PictureTooLarge : Addr} {oc_PictureTooLarge kV_PictureTooLarge dc_PictureTooLarge pm_PictureTooLarge cd_PictureTooLarge ct_PictureTooLarge : Value} {od_PictureTooLarge an_PictureTooLarge : Option Addr} {sl_PictureTooLarge : Array (Option Value)} {xnm_DuplicateName xq_DuplicateName : Str} {xN_DuplicateName : Addr} {xbs_DuplicateName xbm_DuplicateName : List Value} {xsn_DuplicateName : List Str} {xsub_DuplicateName : List Value} {xab_DuplicateName : Bool} {xcol_DuplicateName : Option Bool} {xdd_DuplicateName : Option Addr} {xk0_DuplicateName xk1_DuplicateName xk2_DuplicateName xk3_DuplicateName xk5_DuplicateName : Option Value} {fI_DuplicateName : Addr} {oc_DuplicateName kV_DuplicateName dc_DuplicateName pm_DuplicateName cd_DuplicateName ct_DuplicateName : Value} {od_DuplicateName an_DuplicateName : Option Addr} {sl_DuplicateName : Array (Option Value)} {xnm_UnknownName xq_UnknownName : Str} {xN_UnknownName : Addr} {xbs_UnknownName xbm_UnknownName : List Value} {xsn_UnknownName : List Str} {xsub_UnknownName : List Value} {xab_UnknownName : Bool} {xcol_UnknownName : Option Bool} {xdd_UnknownName : Option Addr} {xk0_UnknownName xk1_UnknownName xk2_UnknownName xk3_UnknownName xk5_UnknownName : Option Value} {fI_UnknownName : Addr} {oc_UnknownName kV_UnknownName dc_UnknownName pm_UnknownName cd_UnknownName ct_UnknownName : Value} {od_UnknownName an_UnknownName : Option Addr} {sl_UnknownName : Array (Option Value)} {xnm_WrongKind xq_WrongKind : Str} {xN_WrongKind : Addr} {xbs_WrongKind xbm_WrongKind : List Value} {xsn_WrongKind : List Str} {xsub_WrongKind : List Value} {xab_WrongKind : Bool} {xcol_WrongKind : Option Bool} {xdd_WrongKind : Option Addr} {xk0_WrongKind xk1_WrongKind xk2_WrongKind xk3_WrongKind xk5_WrongKind : Option Value} {fI_WrongKind : Addr} {oc_WrongKind kV_WrongKind dc_WrongKind pm_WrongKind cd_WrongKind ct_WrongKind : Value} {od_WrongKind an_WrongKind : Option Addr} {sl_WrongKind : Array (Option Value)} {xnm_ChannelNeeded xq_ChannelNeeded : Str} {xN_ChannelNeeded : Addr} {xbs_ChannelNeeded xbm_ChannelNeeded : List Value} {xsn_ChannelNeeded : List Str} {xsub_ChannelNeeded : List Value} {xab_ChannelNeeded : Bool} {xcol_ChannelNeeded : Option Bool} {xdd_ChannelNeeded : Option Addr} {xk0_ChannelNeeded xk1_ChannelNeeded xk2_ChannelNeeded xk3_ChannelNeeded xk5_ChannelNeeded : Option Value} {fI_ChannelNeeded : Addr} {oc_ChannelNeeded kV_ChannelNeeded dc_ChannelNeeded pm_ChannelNeeded cd_ChannelNeeded ct_ChannelNeeded : Value} {od_ChannelNeeded an_ChannelNeeded : Option Addr} {sl_ChannelNeeded : Array (Option Value)} {xnm_ChannelNotAllowed xq_ChannelNotAllowed : Str} {xN_ChannelNotAllowed : Addr} {xbs_ChannelNotAllowed xbm_ChannelNotAllowed : List Value} {xsn_ChannelNotAllowed : List Str} {xsub_ChannelNotAllowed : List Value} {xab_ChannelNotAllowed : Bool} {xcol_ChannelNotAllowed : Option Bool} {xdd_ChannelNotAllowed : Option Addr} {xk0_ChannelNotAllowed xk1_ChannelNotAllowed xk2_ChannelNotAllowed xk3_ChannelNotAllowed xk5_ChannelNotAllowed : Option Value} {fI_ChannelNotAllowed : Addr} {oc_ChannelNotAllowed kV_ChannelNotAllowed dc_ChannelNotAllowed pm_ChannelNotAllowed cd_ChannelNotAllowed ct_ChannelNotAllowed : Value} {od_ChannelNotAllowed an_ChannelNotAllowed : Option Addr} {sl_ChannelNotAllowed : Array (Option Value)} {xnm_ScalesDoNotFit xq_ScalesDoNotFit : Str} {xN_ScalesDoNotFit : Addr} {xbs_ScalesDoNotFit xbm_ScalesDoNotFit : List Value} {xsn_ScalesDoNotFit : List Str} {xsub_ScalesDoNotFit : List Value} {xab_ScalesDoNotFit : Bool} {xcol_ScalesDoNotFit : Option Bool} {xdd_ScalesDoNotFit : Option Addr} {xk0_ScalesDoNotFit xk1_ScalesDoNotFit xk2_ScalesDoNotFit xk3_ScalesDoNotFit xk5_ScalesDoNotFit : Option Value} {fI_ScalesDoNotFit : Addr} {oc_ScalesDoNotFit kV_ScalesDoNotFit dc_ScalesDoNotFit pm_ScalesDoNotFit cd_ScalesDoNotFit ct_ScalesDoNotFit : Value} {od_ScalesDoNotFit an_ScalesDoNotFit : Option Addr} {sl_ScalesDoNotFit : Array (Option Value)} {xnm_TooManyCategories xq_TooManyCategories : Str} {xN_TooManyCategories : Addr} {xbs_TooManyCategories xbm_TooManyCategories : List Value} {xsn_TooManyCategories : List Str} {xsub_TooManyCategories : List Value} {xab_TooManyCategories : Bool} {xcol_TooManyCategories : Option Bool} {xdd_TooManyCategories : Option Addr} {xk0_TooManyCategories xk1_TooManyCategories xk2_TooManyCategories xk3_TooManyCategories xk5_TooManyCategories : Option Value} {fI_TooManyCategories : Addr} {oc_TooManyCategories kV_TooManyCategories dc_TooManyCategories pm_TooManyCategories cd_TooManyCategories ct_TooManyCategories : Value} {od_TooManyCategories an_TooManyCategories : Option Addr} {sl_TooManyCategories : Array (Option Value)} {xnm_TooManyRows xq_TooManyRows : Str} {xN_TooManyRows : Addr} {xbs_TooManyRows xbm_TooManyRows : List Value} {xsn_TooManyRows : List Str} {xsub_TooManyRows : List Value} {xab_TooManyRows : Bool} {xcol_TooManyRows : Option Bool} {xdd_TooManyRows : Option Addr} {xk0_TooManyRows xk1_TooManyRows xk2_TooManyRows xk3_TooManyRows xk5_TooManyRows : Option Value} {fI_TooManyRows : Addr} {oc_TooManyRows kV_TooManyRows dc_TooManyRows pm_TooManyRows cd_TooManyRows ct_TooManyRows : Value} {od_TooManyRows an_TooManyRows : Option Addr} {sl_TooManyRows : Array (Option Value)} {xnm_NotReadable xq_NotReadable : Str} {xN_NotReadable : Addr} {xbs_NotReadable xbm_NotReadable : List Value} {xsn_NotReadable : List Str} {xsub_NotReadable : List Value} {xab_NotReadable : Bool} {xcol_NotReadable : Option Bool} {xdd_NotReadable : Option Addr} {xk0_NotReadable xk1_NotReadable xk2_NotReadable xk3_NotReadable xk5_NotReadable : Option Value} {fI_NotReadable : Addr} {oc_NotReadable kV_NotReadable dc_NotReadable pm_NotReadable cd_NotReadable ct_NotReadable : Value} {od_NotReadable an_NotReadable : Option Addr} {sl_NotReadable : Array (Option Value)} {xnm_NotDecided xq_NotDecided : Str} {xN_NotDecided : Addr} {xbs_NotDecided xbm_NotDecided : List Value} {xsn_NotDecided : List Str} {xsub_NotDecided : List Value} {xab_NotDecided : Bool} {xcol_NotDecided : Option Bool} {xdd_NotDecided : Option Addr} {xk0_NotDecided xk1_NotDecided xk2_NotDecided xk3_NotDecided xk5_NotDecided : Option Value} {fI_NotDecided : Addr} {oc_NotDecided kV_NotDecided dc_NotDecided pm_NotDecided cd_NotDecided ct_NotDecided : Value} {od_NotDecided an_NotDecided : Option Addr} {sl_NotDecided : Array (Option Value)} {xnm_NotComparable xq_NotComparable : Str} {xN_NotComparable : Addr} {xbs_NotComparable xbm_NotComparable : List Value} {xsn_NotComparable : List Str} {xsub_NotComparable : List Value} {xab_NotComparable : Bool} {xcol_NotComparable : Option Bool} {xdd_NotComparable : Option Addr} {xk0_NotComparable xk1_NotComparable xk2_NotComparable xk3_NotComparable xk5_NotComparable : Option Value} {fI_NotComparable : Addr} {oc_NotComparable kV_NotComparable dc_NotComparable pm_NotComparable cd_NotComparable ct_NotComparable : Value} {od_NotComparable an_NotComparable : Option Addr} {sl_NotComparable : Array (Option Value)} {xnm_TooManyCases xq_TooManyCases : Str} {xN_TooManyCases : Addr} {xbs_TooManyCases xbm_TooManyCases : List Value} {xsn_TooManyCases : List Str} {xsub_TooManyCases : List Value} {xab_TooManyCases : Bool} {xcol_TooManyCases : Option Bool} {xdd_TooManyCases : Option Addr} {xk0_TooManyCases xk1_TooManyCases xk2_TooManyCases xk3_TooManyCases xk5_TooManyCases : Option Value} {fI_TooManyCases : Addr} {oc_TooManyCases kV_TooManyCases dc_TooManyCases pm_TooManyCases cd_TooManyCases ct_TooManyCases : Value} {od_TooManyCases an_TooManyCases : Option Addr} {sl_TooManyCases : Array (Option Value)} {xnm_NothingToUndo xq_NothingToUndo : Str} {xN_NothingToUndo : Addr} {xbs_NothingToUndo xbm_NothingToUndo : List Value} {xsn_NothingToUndo : List Str} {xsub_NothingToUndo : List Value} {xab_NothingToUndo : Bool} {xcol_NothingToUndo : Option Bool} {xdd_NothingToUndo : Option Addr} {xk0_NothingToUndo xk1_NothingToUndo xk2_NothingToUndo xk3_NothingToUndo xk5_NothingToUndo : Option Value} {xnm_NothingToRedo xq_NothingToRedo : Str} {xN_NothingToRedo : Addr} {xbs_NothingToRedo xbm_NothingToRedo : List Value} {xsn_NothingToRedo : List Str} {xsub_NothingToRedo : List Value} {xab_NothingToRedo : Bool} {xcol_NothingToRedo : Option Bool} {xdd_NothingToRedo : Option Addr} {xk0_NothingToRedo xk1_NothingToRedo xk2_NothingToRedo xk3_NothingToRedo xk5_NothingToRedo : Option Value}
    (xn_PatchDoesNotFit : PySem.W.nsIn K mainGlobals "PatchDoesNotFit" = some (some (.ref C_PatchDoesNotFit)))
    (xb_PatchDoesNotFit : PySem.W.subIn K (.ref C_PatchDoesNotFit) (.type "BaseException") = some true)
    (xt_PatchDoesNotFit : PySem.W.typeIn K (.ref C_PatchDoesNotFit) = some (.type "type"))
    (xi_PatchDoesNotFit : PySem.W.isClsIn K C_PatchDoesNotFit = true)
    (xn_PictureTooLarge : PySem.W.nsIn K mainGlobals "PictureTooLarge" = some (some (.ref C_PictureTooLarge)))
    (xb_PictureTooLarge : PySem.W.subIn K (.ref C_PictureTooLarge) (.type "BaseException") = some true)
    (xt_PictureTooLarge : PySem.W.typeIn K (.ref C_PictureTooLarge) = some (.type "type"))
    (xi_PictureTooLarge : PySem.W.isClsIn K C_PictureTooLarge = true)
    (xn_DuplicateName : PySem.W.nsIn K mainGlobals "DuplicateName" = some (some (.ref C_DuplicateName)))
    (xb_DuplicateName : PySem.W.subIn K (.ref C_DuplicateName) (.type "BaseException") = some true)
    (xt_DuplicateName : PySem.W.typeIn K (.ref C_DuplicateName) = some (.type "type"))
    (xi_DuplicateName : PySem.W.isClsIn K C_DuplicateName = true)
    (xn_UnknownName : PySem.W.nsIn K mainGlobals "UnknownName" = some (some (.ref C_UnknownName)))
    (xb_UnknownName : PySem.W.subIn K (.ref C_UnknownName) (.type "BaseException") = some true)
    (xt_UnknownName : PySem.W.typeIn K (.ref C_UnknownName) = some (.type "type"))
    (xi_UnknownName : PySem.W.isClsIn K C_UnknownName = true)
    (xn_WrongKind : PySem.W.nsIn K mainGlobals "WrongKind" = some (some (.ref C_WrongKind)))
    (xb_WrongKind : PySem.W.subIn K (.ref C_WrongKind) (.type "BaseException") = some true)
    (xt_WrongKind : PySem.W.typeIn K (.ref C_WrongKind) = some (.type "type"))
    (xi_WrongKind : PySem.W.isClsIn K C_WrongKind = true)
    (xn_ChannelNeeded : PySem.W.nsIn K mainGlobals "ChannelNeeded" = some (some (.ref C_ChannelNeeded)))
    (xb_ChannelNeeded : PySem.W.subIn K (.ref C_ChannelNeeded) (.type "BaseException") = some true)
    (xt_ChannelNeeded : PySem.W.typeIn K (.ref C_ChannelNeeded) = some (.type "type"))
    (xi_ChannelNeeded : PySem.W.isClsIn K C_ChannelNeeded = true)
    (xn_ChannelNotAllowed : PySem.W.nsIn K mainGlobals "ChannelNotAllowed" = some (some (.ref C_ChannelNotAllowed)))
    (xb_ChannelNotAllowed : PySem.W.subIn K (.ref C_ChannelNotAllowed) (.type "BaseException") = some true)
    (xt_ChannelNotAllowed : PySem.W.typeIn K (.ref C_ChannelNotAllowed) = some (.type "type"))
    (xi_ChannelNotAllowed : PySem.W.isClsIn K C_ChannelNotAllowed = true)
    (xn_ScalesDoNotFit : PySem.W.nsIn K mainGlobals "ScalesDoNotFit" = some (some (.ref C_ScalesDoNotFit)))
    (xb_ScalesDoNotFit : PySem.W.subIn K (.ref C_ScalesDoNotFit) (.type "BaseException") = some true)
    (xt_ScalesDoNotFit : PySem.W.typeIn K (.ref C_ScalesDoNotFit) = some (.type "type"))
    (xi_ScalesDoNotFit : PySem.W.isClsIn K C_ScalesDoNotFit = true)
    (xn_TooManyCategories : PySem.W.nsIn K mainGlobals "TooManyCategories" = some (some (.ref C_TooManyCategories)))
    (xb_TooManyCategories : PySem.W.subIn K (.ref C_TooManyCategories) (.type "BaseException") = some true)
    (xt_TooManyCategories : PySem.W.typeIn K (.ref C_TooManyCategories) = some (.type "type"))
    (xi_TooManyCategories : PySem.W.isClsIn K C_TooManyCategories = true)
    (xn_TooManyRows : PySem.W.nsIn K mainGlobals "TooManyRows" = some (some (.ref C_TooManyRows)))
    (xb_TooManyRows : PySem.W.subIn K (.ref C_TooManyRows) (.type "BaseException") = some true)
    (xt_TooManyRows : PySem.W.typeIn K (.ref C_TooManyRows) = some (.type "type"))
    (xi_TooManyRows : PySem.W.isClsIn K C_TooManyRows = true)
    (xn_NotReadable : PySem.W.nsIn K mainGlobals "NotReadable" = some (some (.ref C_NotReadable)))
    (xb_NotReadable : PySem.W.subIn K (.ref C_NotReadable) (.type "BaseException") = some true)
    (xt_NotReadable : PySem.W.typeIn K (.ref C_NotReadable) = some (.type "type"))
    (xi_NotReadable : PySem.W.isClsIn K C_NotReadable = true)
    (xn_NotDecided : PySem.W.nsIn K mainGlobals "NotDecided" = some (some (.ref C_NotDecided)))
    (xb_NotDecided : PySem.W.subIn K (.ref C_NotDecided) (.type "BaseException") = some true)
    (xt_NotDecided : PySem.W.typeIn K (.ref C_NotDecided) = some (.type "type"))
    (xi_NotDecided : PySem.W.isClsIn K C_NotDecided = true)
    (xn_NotComparable : PySem.W.nsIn K mainGlobals "NotComparable" = some (some (.ref C_NotComparable)))
    (xb_NotComparable : PySem.W.subIn K (.ref C_NotComparable) (.type "BaseException") = some true)
    (xt_NotComparable : PySem.W.typeIn K (.ref C_NotComparable) = some (.type "type"))
    (xi_NotComparable : PySem.W.isClsIn K C_NotComparable = true)
    (xn_TooManyCases : PySem.W.nsIn K mainGlobals "TooManyCases" = some (some (.ref C_TooManyCases)))
    (xb_TooManyCases : PySem.W.subIn K (.ref C_TooManyCases) (.type "BaseException") = some true)
    (xt_TooManyCases : PySem.W.typeIn K (.ref C_TooManyCases) = some (.type "type"))
    (xi_TooManyCases : PySem.W.isClsIn K C_TooManyCases = true)
    (xn_NothingToUndo : PySem.W.nsIn K mainGlobals "NothingToUndo" = some (some (.ref C_NothingToUndo)))
    (xb_NothingToUndo : PySem.W.subIn K (.ref C_NothingToUndo) (.type "BaseException") = some true)
    (xt_NothingToUndo : PySem.W.typeIn K (.ref C_NothingToUndo) = some (.type "type"))
    (xi_NothingToUndo : PySem.W.isClsIn K C_NothingToUndo = true)
    (xn_NothingToRedo : PySem.W.nsIn K mainGlobals "NothingToRedo" = some (some (.ref C_NothingToRedo)))
    (xb_NothingToRedo : PySem.W.subIn K (.ref C_NothingToRedo) (.type "BaseException") = some true)
    (xt_NothingToRedo : PySem.W.typeIn K (.ref C_NothingToRedo) = some (.type "type"))
    (xi_NothingToRedo : PySem.W.isClsIn K C_NothingToRedo = true)
    (xn_ChartError : PySem.W.nsIn K mainGlobals "ChartError" = some (some (.ref C_ChartError)))
    (xb_ChartError : PySem.W.subIn K (.ref C_ChartError) (.type "BaseException") = some true)
    (xt_ChartError : PySem.W.typeIn K (.ref C_ChartError) = some (.type "type"))
    (xi_ChartError : PySem.W.isClsIn K C_ChartError = true)
    (xhn : PySem.W.specialIn K (.builtin "object.__class__") "__get__" = some (some (.builtin "getset_descriptor.__get__")))
    (xht : PySem.W.takesIn K (.builtin "object.__class__") = some true)
    (xl_PatchDoesNotFit : K.lookup C_PatchDoesNotFit = some (excClassObj xnm_PatchDoesNotFit xq_PatchDoesNotFit C_PatchDoesNotFit xN_PatchDoesNotFit xbs_PatchDoesNotFit xbm_PatchDoesNotFit true xsn_PatchDoesNotFit xsub_PatchDoesNotFit xab_PatchDoesNotFit xcol_PatchDoesNotFit xdd_PatchDoesNotFit xk0_PatchDoesNotFit xk1_PatchDoesNotFit xk2_PatchDoesNotFit xk3_PatchDoesNotFit xk5_PatchDoesNotFit "ValueError.__new__"))
    (xr_PatchDoesNotFit : PySem.HandSPX.refsVE xbm_PatchDoesNotFit = true)
    (xs_PatchDoesNotFit : PySem.W.findIn K (.ref C_PatchDoesNotFit) "__setattr__" = some (some (.builtin "object.__setattr__")))
    (xk_PatchDoesNotFit : PySem.W.keepIn K (.ref C_PatchDoesNotFit) = true)
    (xg_PatchDoesNotFit : PySem.W.findIn K (.ref C_PatchDoesNotFit) "__getattribute__" = some (some (.builtin "BaseException.__getattribute__")))
    (xgg_PatchDoesNotFit : PySem.W.findIn K (.ref C_PatchDoesNotFit) "__getattr__" = some none)
    (xd_PatchDoesNotFit : PySem.W.hasDictIn K C_PatchDoesNotFit = true)
    (xc_PatchDoesNotFit : PySem.W.findIn K (.ref C_PatchDoesNotFit) "__class__" = some (some (.builtin "object.__class__")))
    (xm_PatchDoesNotFit : PySem.W.mroIn K C_PatchDoesNotFit (.type "object") = some true)
    (xf_PatchDoesNotFit_reason : PySem.W.findIn K (.ref C_PatchDoesNotFit) "reason" = some none)
    (xf_PatchDoesNotFit_pixels : PySem.W.findIn K (.ref C_PatchDoesNotFit) "pixels" = some none)
    (xf_PatchDoesNotFit_name : PySem.W.findIn K (.ref C_PatchDoesNotFit) "name" = some none)
    (xf_PatchDoesNotFit_count : PySem.W.findIn K (.ref C_PatchDoesNotFit) "count" = some none)
    (xp_PatchDoesNotFit_ChartError : PySem.W.subIn K (.ref C_PatchDoesNotFit) (.ref C_ChartError) = some true)
    (xp_PatchDoesNotFit_DuplicateName : PySem.W.subIn K (.ref C_PatchDoesNotFit) (.ref C_DuplicateName) = some false)
    (xp_PatchDoesNotFit_PictureTooLarge : PySem.W.subIn K (.ref C_PatchDoesNotFit) (.ref C_PictureTooLarge) = some false)
    (xp_PatchDoesNotFit_PatchDoesNotFit : PySem.W.subIn K (.ref C_PatchDoesNotFit) (.ref C_PatchDoesNotFit) = some true)
    (xp_PatchDoesNotFit_ChannelNeeded : PySem.W.subIn K (.ref C_PatchDoesNotFit) (.ref C_ChannelNeeded) = some false)
    (xp_PatchDoesNotFit_WrongKind : PySem.W.subIn K (.ref C_PatchDoesNotFit) (.ref C_WrongKind) = some false)
    (xp_PatchDoesNotFit_UnknownName : PySem.W.subIn K (.ref C_PatchDoesNotFit) (.ref C_UnknownName) = some false)
    (xp_PatchDoesNotFit_ScalesDoNotFit : PySem.W.subIn K (.ref C_PatchDoesNotFit) (.ref C_ScalesDoNotFit) = some false)
    (xp_PatchDoesNotFit_ChannelNotAllowed : PySem.W.subIn K (.ref C_PatchDoesNotFit) (.ref C_ChannelNotAllowed) = some false)
    (xp_PatchDoesNotFit_NotReadable : PySem.W.subIn K (.ref C_PatchDoesNotFit) (.ref C_NotReadable) = some false)
    (xp_PatchDoesNotFit_TooManyRows : PySem.W.subIn K (.ref C_PatchDoesNotFit) (.ref C_TooManyRows) = some false)
    (xp_PatchDoesNotFit_TooManyCategories : PySem.W.subIn K (.ref C_PatchDoesNotFit) (.ref C_TooManyCategories) = some false)
    (xp_PatchDoesNotFit_TooManyCases : PySem.W.subIn K (.ref C_PatchDoesNotFit) (.ref C_TooManyCases) = some false)
    (xp_PatchDoesNotFit_NotComparable : PySem.W.subIn K (.ref C_PatchDoesNotFit) (.ref C_NotComparable) = some false)
    (xp_PatchDoesNotFit_NotDecided : PySem.W.subIn K (.ref C_PatchDoesNotFit) (.ref C_NotDecided) = some false)
    (xp_PatchDoesNotFit_NothingToRedo : PySem.W.subIn K (.ref C_PatchDoesNotFit) (.ref C_NothingToRedo) = some false)
    (xp_PatchDoesNotFit_NothingToUndo : PySem.W.subIn K (.ref C_PatchDoesNotFit) (.ref C_NothingToUndo) = some false)
    (xp_PatchDoesNotFit_ValueError : PySem.W.subIn K (.ref C_PatchDoesNotFit) (.type "ValueError") = some true)
    (xin_PatchDoesNotFit : PySem.W.findIn K (.ref C_PatchDoesNotFit) "__init__" = some (some (.ref fI_PatchDoesNotFit)))
    (xit_PatchDoesNotFit : PySem.W.typeIn K (.ref fI_PatchDoesNotFit) = some (.type "function"))
    (xil_PatchDoesNotFit : K.lookup fI_PatchDoesNotFit = some ⟨oc_PatchDoesNotFit, od_PatchDoesNotFit, .func (PySem.W.fnOf "__init__" "PatchDoesNotFit.__init__" (defArgs s_ini_PatchDoesNotFit) (defBody s_ini_PatchDoesNotFit) (defScope s_ini_PatchDoesNotFit) .none kV_PatchDoesNotFit dc_PatchDoesNotFit pm_PatchDoesNotFit an_PatchDoesNotFit cd_PatchDoesNotFit ct_PatchDoesNotFit), sl_PatchDoesNotFit⟩)
    (xic_PatchDoesNotFit : PySem.W.codeIn K cd_PatchDoesNotFit "PatchDoesNotFit.__init__" = true)
    (xik_PatchDoesNotFit : PySem.W.keepIn K (.ref fI_PatchDoesNotFit) = true)
    (xl_PictureTooLarge : K.lookup C_PictureTooLarge = some (excClassObj xnm_PictureTooLarge xq_PictureTooLarge C_PictureTooLarge xN_PictureTooLarge xbs_PictureTooLarge xbm_PictureTooLarge true xsn_PictureTooLarge xsub_PictureTooLarge xab_PictureTooLarge xcol_PictureTooLarge xdd_PictureTooLarge xk0_PictureTooLarge xk1_PictureTooLarge xk2_PictureTooLarge xk3_PictureTooLarge xk5_PictureTooLarge "ValueError.__new__"))
    (xr_PictureTooLarge : PySem.HandSPX.refsVE xbm_PictureTooLarge = true)
    (xs_PictureTooLarge : PySem.W.findIn K (.ref C_PictureTooLarge) "__setattr__" = some (some (.builtin "object.__setattr__")))
    (xk_PictureTooLarge : PySem.W.keepIn K (.ref C_PictureTooLarge) = true)
    (xg_PictureTooLarge : PySem.W.findIn K (.ref C_PictureTooLarge) "__getattribute__" = some (some (.builtin "BaseException.__getattribute__")))
    (xgg_PictureTooLarge : PySem.W.findIn K (.ref C_PictureTooLarge) "__getattr__" = some none)
    (xd_PictureTooLarge : PySem.W.hasDictIn K C_PictureTooLarge = true)
    (xc_PictureTooLarge : PySem.W.findIn K (.ref C_PictureTooLarge) "__class__" = some (some (.builtin "object.__class__")))
    (xm_PictureTooLarge : PySem.W.mroIn K C_PictureTooLarge (.type "object") = some true)
    (xf_PictureTooLarge_reason : PySem.W.findIn K (.ref C_PictureTooLarge) "reason" = some none)
    (xf_PictureTooLarge_pixels : PySem.W.findIn K (.ref C_PictureTooLarge) "pixels" = some none)
    (xf_PictureTooLarge_name : PySem.W.findIn K (.ref C_PictureTooLarge) "name" = some none)
    (xf_PictureTooLarge_count : PySem.W.findIn K (.ref C_PictureTooLarge) "count" = some none)
    (xp_PictureTooLarge_ChartError : PySem.W.subIn K (.ref C_PictureTooLarge) (.ref C_ChartError) = some true)
    (xp_PictureTooLarge_DuplicateName : PySem.W.subIn K (.ref C_PictureTooLarge) (.ref C_DuplicateName) = some false)
    (xp_PictureTooLarge_PictureTooLarge : PySem.W.subIn K (.ref C_PictureTooLarge) (.ref C_PictureTooLarge) = some true)
    (xp_PictureTooLarge_PatchDoesNotFit : PySem.W.subIn K (.ref C_PictureTooLarge) (.ref C_PatchDoesNotFit) = some false)
    (xp_PictureTooLarge_ChannelNeeded : PySem.W.subIn K (.ref C_PictureTooLarge) (.ref C_ChannelNeeded) = some false)
    (xp_PictureTooLarge_WrongKind : PySem.W.subIn K (.ref C_PictureTooLarge) (.ref C_WrongKind) = some false)
    (xp_PictureTooLarge_UnknownName : PySem.W.subIn K (.ref C_PictureTooLarge) (.ref C_UnknownName) = some false)
    (xp_PictureTooLarge_ScalesDoNotFit : PySem.W.subIn K (.ref C_PictureTooLarge) (.ref C_ScalesDoNotFit) = some false)
    (xp_PictureTooLarge_ChannelNotAllowed : PySem.W.subIn K (.ref C_PictureTooLarge) (.ref C_ChannelNotAllowed) = some false)
    (xp_PictureTooLarge_NotReadable : PySem.W.subIn K (.ref C_PictureTooLarge) (.ref C_NotReadable) = some false)
    (xp_PictureTooLarge_TooManyRows : PySem.W.subIn K (.ref C_PictureTooLarge) (.ref C_TooManyRows) = some false)
    (xp_PictureTooLarge_TooManyCategories : PySem.W.subIn K (.ref C_PictureTooLarge) (.ref C_TooManyCategories) = some false)
    (xp_PictureTooLarge_TooManyCases : PySem.W.subIn K (.ref C_PictureTooLarge) (.ref C_TooManyCases) = some false)
    (xp_PictureTooLarge_NotComparable : PySem.W.subIn K (.ref C_PictureTooLarge) (.ref C_NotComparable) = some false)
    (xp_PictureTooLarge_NotDecided : PySem.W.subIn K (.ref C_PictureTooLarge) (.ref C_NotDecided) = some false)
    (xp_PictureTooLarge_NothingToRedo : PySem.W.subIn K (.ref C_PictureTooLarge) (.ref C_NothingToRedo) = some false)
    (xp_PictureTooLarge_NothingToUndo : PySem.W.subIn K (.ref C_PictureTooLarge) (.ref C_NothingToUndo) = some false)
    (xp_PictureTooLarge_ValueError : PySem.W.subIn K (.ref C_PictureTooLarge) (.type "ValueError") = some true)
    (xin_PictureTooLarge : PySem.W.findIn K (.ref C_PictureTooLarge) "__init__" = some (some (.ref fI_PictureTooLarge)))
    (xit_PictureTooLarge : PySem.W.typeIn K (.ref fI_PictureTooLarge) = some (.type "function"))
    (xil_PictureTooLarge : K.lookup fI_PictureTooLarge = some ⟨oc_PictureTooLarge, od_PictureTooLarge, .func (PySem.W.fnOf "__init__" "PictureTooLarge.__init__" (defArgs s_ini_PictureTooLarge) (defBody s_ini_PictureTooLarge) (defScope s_ini_PictureTooLarge) .none kV_PictureTooLarge dc_PictureTooLarge pm_PictureTooLarge an_PictureTooLarge cd_PictureTooLarge ct_PictureTooLarge), sl_PictureTooLarge⟩)
    (xic_PictureTooLarge : PySem.W.codeIn K cd_PictureTooLarge "PictureTooLarge.__init__" = true)
    (xik_PictureTooLarge : PySem.W.keepIn K (.ref fI_PictureTooLarge) = true)
    (xl_DuplicateName : K.lookup C_DuplicateName = some (excClassObj xnm_DuplicateName xq_DuplicateName C_DuplicateName xN_DuplicateName xbs_DuplicateName xbm_DuplicateName true xsn_DuplicateName xsub_DuplicateName xab_DuplicateName xcol_DuplicateName xdd_DuplicateName xk0_DuplicateName xk1_DuplicateName xk2_DuplicateName xk3_DuplicateName xk5_DuplicateName "ValueError.__new__"))
    (xr_DuplicateName : PySem.HandSPX.refsVE xbm_DuplicateName = true)
    (xs_DuplicateName : PySem.W.findIn K (.ref C_DuplicateName) "__setattr__" = some (some (.builtin "object.__setattr__")))
    (xk_DuplicateName : PySem.W.keepIn K (.ref C_DuplicateName) = true)
    (xg_DuplicateName : PySem.W.findIn K (.ref C_DuplicateName) "__getattribute__" = some (some (.builtin "BaseException.__getattribute__")))
    (xgg_DuplicateName : PySem.W.findIn K (.ref C_DuplicateName) "__getattr__" = some none)
    (xd_DuplicateName : PySem.W.hasDictIn K C_DuplicateName = true)
    (xc_DuplicateName : PySem.W.findIn K (.ref C_DuplicateName) "__class__" = some (some (.builtin "object.__class__")))
    (xm_DuplicateName : PySem.W.mroIn K C_DuplicateName (.type "object") = some true)
    (xf_DuplicateName_reason : PySem.W.findIn K (.ref C_DuplicateName) "reason" = some none)
    (xf_DuplicateName_pixels : PySem.W.findIn K (.ref C_DuplicateName) "pixels" = some none)
    (xf_DuplicateName_name : PySem.W.findIn K (.ref C_DuplicateName) "name" = some none)
    (xf_DuplicateName_count : PySem.W.findIn K (.ref C_DuplicateName) "count" = some none)
    (xp_DuplicateName_ChartError : PySem.W.subIn K (.ref C_DuplicateName) (.ref C_ChartError) = some true)
    (xp_DuplicateName_DuplicateName : PySem.W.subIn K (.ref C_DuplicateName) (.ref C_DuplicateName) = some true)
    (xp_DuplicateName_PictureTooLarge : PySem.W.subIn K (.ref C_DuplicateName) (.ref C_PictureTooLarge) = some false)
    (xp_DuplicateName_PatchDoesNotFit : PySem.W.subIn K (.ref C_DuplicateName) (.ref C_PatchDoesNotFit) = some false)
    (xp_DuplicateName_ChannelNeeded : PySem.W.subIn K (.ref C_DuplicateName) (.ref C_ChannelNeeded) = some false)
    (xp_DuplicateName_WrongKind : PySem.W.subIn K (.ref C_DuplicateName) (.ref C_WrongKind) = some false)
    (xp_DuplicateName_UnknownName : PySem.W.subIn K (.ref C_DuplicateName) (.ref C_UnknownName) = some false)
    (xp_DuplicateName_ScalesDoNotFit : PySem.W.subIn K (.ref C_DuplicateName) (.ref C_ScalesDoNotFit) = some false)
    (xp_DuplicateName_ChannelNotAllowed : PySem.W.subIn K (.ref C_DuplicateName) (.ref C_ChannelNotAllowed) = some false)
    (xp_DuplicateName_NotReadable : PySem.W.subIn K (.ref C_DuplicateName) (.ref C_NotReadable) = some false)
    (xp_DuplicateName_TooManyRows : PySem.W.subIn K (.ref C_DuplicateName) (.ref C_TooManyRows) = some false)
    (xp_DuplicateName_TooManyCategories : PySem.W.subIn K (.ref C_DuplicateName) (.ref C_TooManyCategories) = some false)
    (xp_DuplicateName_TooManyCases : PySem.W.subIn K (.ref C_DuplicateName) (.ref C_TooManyCases) = some false)
    (xp_DuplicateName_NotComparable : PySem.W.subIn K (.ref C_DuplicateName) (.ref C_NotComparable) = some false)
    (xp_DuplicateName_NotDecided : PySem.W.subIn K (.ref C_DuplicateName) (.ref C_NotDecided) = some false)
    (xp_DuplicateName_NothingToRedo : PySem.W.subIn K (.ref C_DuplicateName) (.ref C_NothingToRedo) = some false)
    (xp_DuplicateName_NothingToUndo : PySem.W.subIn K (.ref C_DuplicateName) (.ref C_NothingToUndo) = some false)
    (xp_DuplicateName_ValueError : PySem.W.subIn K (.ref C_DuplicateName) (.type "ValueError") = some true)
    (xin_DuplicateName : PySem.W.findIn K (.ref C_DuplicateName) "__init__" = some (some (.ref fI_DuplicateName)))
    (xit_DuplicateName : PySem.W.typeIn K (.ref fI_DuplicateName) = some (.type "function"))
    (xil_DuplicateName : K.lookup fI_DuplicateName = some ⟨oc_DuplicateName, od_DuplicateName, .func (PySem.W.fnOf "__init__" "DuplicateName.__init__" (defArgs s_ini_DuplicateName) (defBody s_ini_DuplicateName) (defScope s_ini_DuplicateName) .none kV_DuplicateName dc_DuplicateName pm_DuplicateName an_DuplicateName cd_DuplicateName ct_DuplicateName), sl_DuplicateName⟩)
    (xic_DuplicateName : PySem.W.codeIn K cd_DuplicateName "DuplicateName.__init__" = true)
    (xik_DuplicateName : PySem.W.keepIn K (.ref fI_DuplicateName) = true)
    (xl_UnknownName : K.lookup C_UnknownName = some (excClassObj xnm_UnknownName xq_UnknownName C_UnknownName xN_UnknownName xbs_UnknownName xbm_UnknownName true xsn_UnknownName xsub_UnknownName xab_UnknownName xcol_UnknownName xdd_UnknownName xk0_UnknownName xk1_UnknownName xk2_UnknownName xk3_UnknownName xk5_UnknownName "ValueError.__new__"))
    (xr_UnknownName : PySem.HandSPX.refsVE xbm_UnknownName = true)
    (xs_UnknownName : PySem.W.findIn K (.ref C_UnknownName) "__setattr__" = some (some (.builtin "object.__setattr__")))
    (xk_UnknownName : PySem.W.keepIn K (.ref C_UnknownName) = true)
    (xg_UnknownName : PySem.W.findIn K (.ref C_UnknownName) "__getattribute__" = some (some (.builtin "BaseException.__getattribute__")))
    (xgg_UnknownName : PySem.W.findIn K (.ref C_UnknownName) "__getattr__" = some none)
    (xd_UnknownName : PySem.W.hasDictIn K C_UnknownName = true)
    (xc_UnknownName : PySem.W.findIn K (.ref C_UnknownName) "__class__" = some (some (.builtin "object.__class__")))
    (xm_UnknownName : PySem.W.mroIn K C_UnknownName (.type "object") = some true)
    (xf_UnknownName_reason : PySem.W.findIn K (.ref C_UnknownName) "reason" = some none)
    (xf_UnknownName_pixels : PySem.W.findIn K (.ref C_UnknownName) "pixels" = some none)
    (xf_UnknownName_name : PySem.W.findIn K (.ref C_UnknownName) "name" = some none)
    (xf_UnknownName_count : PySem.W.findIn K (.ref C_UnknownName) "count" = some none)
    (xp_UnknownName_ChartError : PySem.W.subIn K (.ref C_UnknownName) (.ref C_ChartError) = some true)
    (xp_UnknownName_DuplicateName : PySem.W.subIn K (.ref C_UnknownName) (.ref C_DuplicateName) = some false)
    (xp_UnknownName_PictureTooLarge : PySem.W.subIn K (.ref C_UnknownName) (.ref C_PictureTooLarge) = some false)
    (xp_UnknownName_PatchDoesNotFit : PySem.W.subIn K (.ref C_UnknownName) (.ref C_PatchDoesNotFit) = some false)
    (xp_UnknownName_ChannelNeeded : PySem.W.subIn K (.ref C_UnknownName) (.ref C_ChannelNeeded) = some false)
    (xp_UnknownName_WrongKind : PySem.W.subIn K (.ref C_UnknownName) (.ref C_WrongKind) = some false)
    (xp_UnknownName_UnknownName : PySem.W.subIn K (.ref C_UnknownName) (.ref C_UnknownName) = some true)
    (xp_UnknownName_ScalesDoNotFit : PySem.W.subIn K (.ref C_UnknownName) (.ref C_ScalesDoNotFit) = some false)
    (xp_UnknownName_ChannelNotAllowed : PySem.W.subIn K (.ref C_UnknownName) (.ref C_ChannelNotAllowed) = some false)
    (xp_UnknownName_NotReadable : PySem.W.subIn K (.ref C_UnknownName) (.ref C_NotReadable) = some false)
    (xp_UnknownName_TooManyRows : PySem.W.subIn K (.ref C_UnknownName) (.ref C_TooManyRows) = some false)
    (xp_UnknownName_TooManyCategories : PySem.W.subIn K (.ref C_UnknownName) (.ref C_TooManyCategories) = some false)
    (xp_UnknownName_TooManyCases : PySem.W.subIn K (.ref C_UnknownName) (.ref C_TooManyCases) = some false)
    (xp_UnknownName_NotComparable : PySem.W.subIn K (.ref C_UnknownName) (.ref C_NotComparable) = some false)
    (xp_UnknownName_NotDecided : PySem.W.subIn K (.ref C_UnknownName) (.ref C_NotDecided) = some false)
    (xp_UnknownName_NothingToRedo : PySem.W.subIn K (.ref C_UnknownName) (.ref C_NothingToRedo) = some false)
    (xp_UnknownName_NothingToUndo : PySem.W.subIn K (.ref C_UnknownName) (.ref C_NothingToUndo) = some false)
    (xp_UnknownName_ValueError : PySem.W.subIn K (.ref C_UnknownName) (.type "ValueError") = some true)
    (xin_UnknownName : PySem.W.findIn K (.ref C_UnknownName) "__init__" = some (some (.ref fI_UnknownName)))
    (xit_UnknownName : PySem.W.typeIn K (.ref fI_UnknownName) = some (.type "function"))
    (xil_UnknownName : K.lookup fI_UnknownName = some ⟨oc_UnknownName, od_UnknownName, .func (PySem.W.fnOf "__init__" "UnknownName.__init__" (defArgs s_ini_UnknownName) (defBody s_ini_UnknownName) (defScope s_ini_UnknownName) .none kV_UnknownName dc_UnknownName pm_UnknownName an_UnknownName cd_UnknownName ct_UnknownName), sl_UnknownName⟩)
    (xic_UnknownName : PySem.W.codeIn K cd_UnknownName "UnknownName.__init__" = true)
    (xik_UnknownName : PySem.W.keepIn K (.ref fI_UnknownName) = true)
    (xl_WrongKind : K.lookup C_WrongKind = some (excClassObj xnm_WrongKind xq_WrongKind C_WrongKind xN_WrongKind xbs_WrongKind xbm_WrongKind true xsn_WrongKind xsub_WrongKind xab_WrongKind xcol_WrongKind xdd_WrongKind xk0_WrongKind xk1_WrongKind xk2_WrongKind xk3_WrongKind xk5_WrongKind "ValueError.__new__"))
    (xr_WrongKind : PySem.HandSPX.refsVE xbm_WrongKind = true)
    (xs_WrongKind : PySem.W.findIn K (.ref C_WrongKind) "__setattr__" = some (some (.builtin "object.__setattr__")))
    (xk_WrongKind : PySem.W.keepIn K (.ref C_WrongKind) = true)
    (xg_WrongKind : PySem.W.findIn K (.ref C_WrongKind) "__getattribute__" = some (some (.builtin "BaseException.__getattribute__")))
    (xgg_WrongKind : PySem.W.findIn K (.ref C_WrongKind) "__getattr__" = some none)
    (xd_WrongKind : PySem.W.hasDictIn K C_WrongKind = true)
    (xc_WrongKind : PySem.W.findIn K (.ref C_WrongKind) "__class__" = some (some (.builtin "object.__class__")))
    (xm_WrongKind : PySem.W.mroIn K C_WrongKind (.type "object") = some true)
    (xf_WrongKind_reason : PySem.W.findIn K (.ref C_WrongKind) "reason" = some none)
    (xf_WrongKind_pixels : PySem.W.findIn K (.ref C_WrongKind) "pixels" = some none)
    (xf_WrongKind_name : PySem.W.findIn K (.ref C_WrongKind) "name" = some none)
    (xf_WrongKind_count : PySem.W.findIn K (.ref C_WrongKind) "count" = some none)
    (xp_WrongKind_ChartError : PySem.W.subIn K (.ref C_WrongKind) (.ref C_ChartError) = some true)
    (xp_WrongKind_DuplicateName : PySem.W.subIn K (.ref C_WrongKind) (.ref C_DuplicateName) = some false)
    (xp_WrongKind_PictureTooLarge : PySem.W.subIn K (.ref C_WrongKind) (.ref C_PictureTooLarge) = some false)
    (xp_WrongKind_PatchDoesNotFit : PySem.W.subIn K (.ref C_WrongKind) (.ref C_PatchDoesNotFit) = some false)
    (xp_WrongKind_ChannelNeeded : PySem.W.subIn K (.ref C_WrongKind) (.ref C_ChannelNeeded) = some false)
    (xp_WrongKind_WrongKind : PySem.W.subIn K (.ref C_WrongKind) (.ref C_WrongKind) = some true)
    (xp_WrongKind_UnknownName : PySem.W.subIn K (.ref C_WrongKind) (.ref C_UnknownName) = some false)
    (xp_WrongKind_ScalesDoNotFit : PySem.W.subIn K (.ref C_WrongKind) (.ref C_ScalesDoNotFit) = some false)
    (xp_WrongKind_ChannelNotAllowed : PySem.W.subIn K (.ref C_WrongKind) (.ref C_ChannelNotAllowed) = some false)
    (xp_WrongKind_NotReadable : PySem.W.subIn K (.ref C_WrongKind) (.ref C_NotReadable) = some false)
    (xp_WrongKind_TooManyRows : PySem.W.subIn K (.ref C_WrongKind) (.ref C_TooManyRows) = some false)
    (xp_WrongKind_TooManyCategories : PySem.W.subIn K (.ref C_WrongKind) (.ref C_TooManyCategories) = some false)
    (xp_WrongKind_TooManyCases : PySem.W.subIn K (.ref C_WrongKind) (.ref C_TooManyCases) = some false)
    (xp_WrongKind_NotComparable : PySem.W.subIn K (.ref C_WrongKind) (.ref C_NotComparable) = some false)
    (xp_WrongKind_NotDecided : PySem.W.subIn K (.ref C_WrongKind) (.ref C_NotDecided) = some false)
    (xp_WrongKind_NothingToRedo : PySem.W.subIn K (.ref C_WrongKind) (.ref C_NothingToRedo) = some false)
    (xp_WrongKind_NothingToUndo : PySem.W.subIn K (.ref C_WrongKind) (.ref C_NothingToUndo) = some false)
    (xp_WrongKind_ValueError : PySem.W.subIn K (.ref C_WrongKind) (.type "ValueError") = some true)
    (xin_WrongKind : PySem.W.findIn K (.ref C_WrongKind) "__init__" = some (some (.ref fI_WrongKind)))
    (xit_WrongKind : PySem.W.typeIn K (.ref fI_WrongKind) = some (.type "function"))
    (xil_WrongKind : K.lookup fI_WrongKind = some ⟨oc_WrongKind, od_WrongKind, .func (PySem.W.fnOf "__init__" "WrongKind.__init__" (defArgs s_ini_WrongKind) (defBody s_ini_WrongKind) (defScope s_ini_WrongKind) .none kV_WrongKind dc_WrongKind pm_WrongKind an_WrongKind cd_WrongKind ct_WrongKind), sl_WrongKind⟩)
    (xic_WrongKind : PySem.W.codeIn K cd_WrongKind "WrongKind.__init__" = true)
    (xik_WrongKind : PySem.W.keepIn K (.ref fI_WrongKind) = true)
    (xl_ChannelNeeded : K.lookup C_ChannelNeeded = some (excClassObj xnm_ChannelNeeded xq_ChannelNeeded C_ChannelNeeded xN_ChannelNeeded xbs_ChannelNeeded xbm_ChannelNeeded true xsn_ChannelNeeded xsub_ChannelNeeded xab_ChannelNeeded xcol_ChannelNeeded xdd_ChannelNeeded xk0_ChannelNeeded xk1_ChannelNeeded xk2_ChannelNeeded xk3_ChannelNeeded xk5_ChannelNeeded "ValueError.__new__"))
    (xr_ChannelNeeded : PySem.HandSPX.refsVE xbm_ChannelNeeded = true)
    (xs_ChannelNeeded : PySem.W.findIn K (.ref C_ChannelNeeded) "__setattr__" = some (some (.builtin "object.__setattr__")))
    (xk_ChannelNeeded : PySem.W.keepIn K (.ref C_ChannelNeeded) = true)
    (xg_ChannelNeeded : PySem.W.findIn K (.ref C_ChannelNeeded) "__getattribute__" = some (some (.builtin "BaseException.__getattribute__")))
    (xgg_ChannelNeeded : PySem.W.findIn K (.ref C_ChannelNeeded) "__getattr__" = some none)
    (xd_ChannelNeeded : PySem.W.hasDictIn K C_ChannelNeeded = true)
    (xc_ChannelNeeded : PySem.W.findIn K (.ref C_ChannelNeeded) "__class__" = some (some (.builtin "object.__class__")))
    (xm_ChannelNeeded : PySem.W.mroIn K C_ChannelNeeded (.type "object") = some true)
    (xf_ChannelNeeded_reason : PySem.W.findIn K (.ref C_ChannelNeeded) "reason" = some none)
    (xf_ChannelNeeded_pixels : PySem.W.findIn K (.ref C_ChannelNeeded) "pixels" = some none)
    (xf_ChannelNeeded_name : PySem.W.findIn K (.ref C_ChannelNeeded) "name" = some none)
    (xf_ChannelNeeded_count : PySem.W.findIn K (.ref C_ChannelNeeded) "count" = some none)
    (xp_ChannelNeeded_ChartError : PySem.W.subIn K (.ref C_ChannelNeeded) (.ref C_ChartError) = some true)
    (xp_ChannelNeeded_DuplicateName : PySem.W.subIn K (.ref C_ChannelNeeded) (.ref C_DuplicateName) = some false)
    (xp_ChannelNeeded_PictureTooLarge : PySem.W.subIn K (.ref C_ChannelNeeded) (.ref C_PictureTooLarge) = some false)
    (xp_ChannelNeeded_PatchDoesNotFit : PySem.W.subIn K (.ref C_ChannelNeeded) (.ref C_PatchDoesNotFit) = some false)
    (xp_ChannelNeeded_ChannelNeeded : PySem.W.subIn K (.ref C_ChannelNeeded) (.ref C_ChannelNeeded) = some true)
    (xp_ChannelNeeded_WrongKind : PySem.W.subIn K (.ref C_ChannelNeeded) (.ref C_WrongKind) = some false)
    (xp_ChannelNeeded_UnknownName : PySem.W.subIn K (.ref C_ChannelNeeded) (.ref C_UnknownName) = some false)
    (xp_ChannelNeeded_ScalesDoNotFit : PySem.W.subIn K (.ref C_ChannelNeeded) (.ref C_ScalesDoNotFit) = some false)
    (xp_ChannelNeeded_ChannelNotAllowed : PySem.W.subIn K (.ref C_ChannelNeeded) (.ref C_ChannelNotAllowed) = some false)
    (xp_ChannelNeeded_NotReadable : PySem.W.subIn K (.ref C_ChannelNeeded) (.ref C_NotReadable) = some false)
    (xp_ChannelNeeded_TooManyRows : PySem.W.subIn K (.ref C_ChannelNeeded) (.ref C_TooManyRows) = some false)
    (xp_ChannelNeeded_TooManyCategories : PySem.W.subIn K (.ref C_ChannelNeeded) (.ref C_TooManyCategories) = some false)
    (xp_ChannelNeeded_TooManyCases : PySem.W.subIn K (.ref C_ChannelNeeded) (.ref C_TooManyCases) = some false)
    (xp_ChannelNeeded_NotComparable : PySem.W.subIn K (.ref C_ChannelNeeded) (.ref C_NotComparable) = some false)
    (xp_ChannelNeeded_NotDecided : PySem.W.subIn K (.ref C_ChannelNeeded) (.ref C_NotDecided) = some false)
    (xp_ChannelNeeded_NothingToRedo : PySem.W.subIn K (.ref C_ChannelNeeded) (.ref C_NothingToRedo) = some false)
    (xp_ChannelNeeded_NothingToUndo : PySem.W.subIn K (.ref C_ChannelNeeded) (.ref C_NothingToUndo) = some false)
    (xp_ChannelNeeded_ValueError : PySem.W.subIn K (.ref C_ChannelNeeded) (.type "ValueError") = some true)
    (xin_ChannelNeeded : PySem.W.findIn K (.ref C_ChannelNeeded) "__init__" = some (some (.ref fI_ChannelNeeded)))
    (xit_ChannelNeeded : PySem.W.typeIn K (.ref fI_ChannelNeeded) = some (.type "function"))
    (xil_ChannelNeeded : K.lookup fI_ChannelNeeded = some ⟨oc_ChannelNeeded, od_ChannelNeeded, .func (PySem.W.fnOf "__init__" "ChannelNeeded.__init__" (defArgs s_ini_ChannelNeeded) (defBody s_ini_ChannelNeeded) (defScope s_ini_ChannelNeeded) .none kV_ChannelNeeded dc_ChannelNeeded pm_ChannelNeeded an_ChannelNeeded cd_ChannelNeeded ct_ChannelNeeded), sl_ChannelNeeded⟩)
    (xic_ChannelNeeded : PySem.W.codeIn K cd_ChannelNeeded "ChannelNeeded.__init__" = true)
    (xik_ChannelNeeded : PySem.W.keepIn K (.ref fI_ChannelNeeded) = true)
    (xl_ChannelNotAllowed : K.lookup C_ChannelNotAllowed = some (excClassObj xnm_ChannelNotAllowed xq_ChannelNotAllowed C_ChannelNotAllowed xN_ChannelNotAllowed xbs_ChannelNotAllowed xbm_ChannelNotAllowed true xsn_ChannelNotAllowed xsub_ChannelNotAllowed xab_ChannelNotAllowed xcol_ChannelNotAllowed xdd_ChannelNotAllowed xk0_ChannelNotAllowed xk1_ChannelNotAllowed xk2_ChannelNotAllowed xk3_ChannelNotAllowed xk5_ChannelNotAllowed "ValueError.__new__"))
    (xr_ChannelNotAllowed : PySem.HandSPX.refsVE xbm_ChannelNotAllowed = true)
    (xs_ChannelNotAllowed : PySem.W.findIn K (.ref C_ChannelNotAllowed) "__setattr__" = some (some (.builtin "object.__setattr__")))
    (xk_ChannelNotAllowed : PySem.W.keepIn K (.ref C_ChannelNotAllowed) = true)
    (xg_ChannelNotAllowed : PySem.W.findIn K (.ref C_ChannelNotAllowed) "__getattribute__" = some (some (.builtin "BaseException.__getattribute__")))
    (xgg_ChannelNotAllowed : PySem.W.findIn K (.ref C_ChannelNotAllowed) "__getattr__" = some none)
    (xd_ChannelNotAllowed : PySem.W.hasDictIn K C_ChannelNotAllowed = true)
    (xc_ChannelNotAllowed : PySem.W.findIn K (.ref C_ChannelNotAllowed) "__class__" = some (some (.builtin "object.__class__")))
    (xm_ChannelNotAllowed : PySem.W.mroIn K C_ChannelNotAllowed (.type "object") = some true)
    (xf_ChannelNotAllowed_reason : PySem.W.findIn K (.ref C_ChannelNotAllowed) "reason" = some none)
    (xf_ChannelNotAllowed_pixels : PySem.W.findIn K (.ref C_ChannelNotAllowed) "pixels" = some none)
    (xf_ChannelNotAllowed_name : PySem.W.findIn K (.ref C_ChannelNotAllowed) "name" = some none)
    (xf_ChannelNotAllowed_count : PySem.W.findIn K (.ref C_ChannelNotAllowed) "count" = some none)
    (xp_ChannelNotAllowed_ChartError : PySem.W.subIn K (.ref C_ChannelNotAllowed) (.ref C_ChartError) = some true)
    (xp_ChannelNotAllowed_DuplicateName : PySem.W.subIn K (.ref C_ChannelNotAllowed) (.ref C_DuplicateName) = some false)
    (xp_ChannelNotAllowed_PictureTooLarge : PySem.W.subIn K (.ref C_ChannelNotAllowed) (.ref C_PictureTooLarge) = some false)
    (xp_ChannelNotAllowed_PatchDoesNotFit : PySem.W.subIn K (.ref C_ChannelNotAllowed) (.ref C_PatchDoesNotFit) = some false)
    (xp_ChannelNotAllowed_ChannelNeeded : PySem.W.subIn K (.ref C_ChannelNotAllowed) (.ref C_ChannelNeeded) = some false)
    (xp_ChannelNotAllowed_WrongKind : PySem.W.subIn K (.ref C_ChannelNotAllowed) (.ref C_WrongKind) = some false)
    (xp_ChannelNotAllowed_UnknownName : PySem.W.subIn K (.ref C_ChannelNotAllowed) (.ref C_UnknownName) = some false)
    (xp_ChannelNotAllowed_ScalesDoNotFit : PySem.W.subIn K (.ref C_ChannelNotAllowed) (.ref C_ScalesDoNotFit) = some false)
    (xp_ChannelNotAllowed_ChannelNotAllowed : PySem.W.subIn K (.ref C_ChannelNotAllowed) (.ref C_ChannelNotAllowed) = some true)
    (xp_ChannelNotAllowed_NotReadable : PySem.W.subIn K (.ref C_ChannelNotAllowed) (.ref C_NotReadable) = some false)
    (xp_ChannelNotAllowed_TooManyRows : PySem.W.subIn K (.ref C_ChannelNotAllowed) (.ref C_TooManyRows) = some false)
    (xp_ChannelNotAllowed_TooManyCategories : PySem.W.subIn K (.ref C_ChannelNotAllowed) (.ref C_TooManyCategories) = some false)
    (xp_ChannelNotAllowed_TooManyCases : PySem.W.subIn K (.ref C_ChannelNotAllowed) (.ref C_TooManyCases) = some false)
    (xp_ChannelNotAllowed_NotComparable : PySem.W.subIn K (.ref C_ChannelNotAllowed) (.ref C_NotComparable) = some false)
    (xp_ChannelNotAllowed_NotDecided : PySem.W.subIn K (.ref C_ChannelNotAllowed) (.ref C_NotDecided) = some false)
    (xp_ChannelNotAllowed_NothingToRedo : PySem.W.subIn K (.ref C_ChannelNotAllowed) (.ref C_NothingToRedo) = some false)
    (xp_ChannelNotAllowed_NothingToUndo : PySem.W.subIn K (.ref C_ChannelNotAllowed) (.ref C_NothingToUndo) = some false)
    (xp_ChannelNotAllowed_ValueError : PySem.W.subIn K (.ref C_ChannelNotAllowed) (.type "ValueError") = some true)
    (xin_ChannelNotAllowed : PySem.W.findIn K (.ref C_ChannelNotAllowed) "__init__" = some (some (.ref fI_ChannelNotAllowed)))
    (xit_ChannelNotAllowed : PySem.W.typeIn K (.ref fI_ChannelNotAllowed) = some (.type "function"))
    (xil_ChannelNotAllowed : K.lookup fI_ChannelNotAllowed = some ⟨oc_ChannelNotAllowed, od_ChannelNotAllowed, .func (PySem.W.fnOf "__init__" "ChannelNotAllowed.__init__" (defArgs s_ini_ChannelNotAllowed) (defBody s_ini_ChannelNotAllowed) (defScope s_ini_ChannelNotAllowed) .none kV_ChannelNotAllowed dc_ChannelNotAllowed pm_ChannelNotAllowed an_ChannelNotAllowed cd_ChannelNotAllowed ct_ChannelNotAllowed), sl_ChannelNotAllowed⟩)
    (xic_ChannelNotAllowed : PySem.W.codeIn K cd_ChannelNotAllowed "ChannelNotAllowed.__init__" = true)
    (xik_ChannelNotAllowed : PySem.W.keepIn K (.ref fI_ChannelNotAllowed) = true)
    (xl_ScalesDoNotFit : K.lookup C_ScalesDoNotFit = some (excClassObj xnm_ScalesDoNotFit xq_ScalesDoNotFit C_ScalesDoNotFit xN_ScalesDoNotFit xbs_ScalesDoNotFit xbm_ScalesDoNotFit true xsn_ScalesDoNotFit xsub_ScalesDoNotFit xab_ScalesDoNotFit xcol_ScalesDoNotFit xdd_ScalesDoNotFit xk0_ScalesDoNotFit xk1_ScalesDoNotFit xk2_ScalesDoNotFit xk3_ScalesDoNotFit xk5_ScalesDoNotFit "ValueError.__new__"))
    (xr_ScalesDoNotFit : PySem.HandSPX.refsVE xbm_ScalesDoNotFit = true)
    (xs_ScalesDoNotFit : PySem.W.findIn K (.ref C_ScalesDoNotFit) "__setattr__" = some (some (.builtin "object.__setattr__")))
    (xk_ScalesDoNotFit : PySem.W.keepIn K (.ref C_ScalesDoNotFit) = true)
    (xg_ScalesDoNotFit : PySem.W.findIn K (.ref C_ScalesDoNotFit) "__getattribute__" = some (some (.builtin "BaseException.__getattribute__")))
    (xgg_ScalesDoNotFit : PySem.W.findIn K (.ref C_ScalesDoNotFit) "__getattr__" = some none)
    (xd_ScalesDoNotFit : PySem.W.hasDictIn K C_ScalesDoNotFit = true)
    (xc_ScalesDoNotFit : PySem.W.findIn K (.ref C_ScalesDoNotFit) "__class__" = some (some (.builtin "object.__class__")))
    (xm_ScalesDoNotFit : PySem.W.mroIn K C_ScalesDoNotFit (.type "object") = some true)
    (xf_ScalesDoNotFit_reason : PySem.W.findIn K (.ref C_ScalesDoNotFit) "reason" = some none)
    (xf_ScalesDoNotFit_pixels : PySem.W.findIn K (.ref C_ScalesDoNotFit) "pixels" = some none)
    (xf_ScalesDoNotFit_name : PySem.W.findIn K (.ref C_ScalesDoNotFit) "name" = some none)
    (xf_ScalesDoNotFit_count : PySem.W.findIn K (.ref C_ScalesDoNotFit) "count" = some none)
    (xp_ScalesDoNotFit_ChartError : PySem.W.subIn K (.ref C_ScalesDoNotFit) (.ref C_ChartError) = some true)
    (xp_ScalesDoNotFit_DuplicateName : PySem.W.subIn K (.ref C_ScalesDoNotFit) (.ref C_DuplicateName) = some false)
    (xp_ScalesDoNotFit_PictureTooLarge : PySem.W.subIn K (.ref C_ScalesDoNotFit) (.ref C_PictureTooLarge) = some false)
    (xp_ScalesDoNotFit_PatchDoesNotFit : PySem.W.subIn K (.ref C_ScalesDoNotFit) (.ref C_PatchDoesNotFit) = some false)
    (xp_ScalesDoNotFit_ChannelNeeded : PySem.W.subIn K (.ref C_ScalesDoNotFit) (.ref C_ChannelNeeded) = some false)
    (xp_ScalesDoNotFit_WrongKind : PySem.W.subIn K (.ref C_ScalesDoNotFit) (.ref C_WrongKind) = some false)
    (xp_ScalesDoNotFit_UnknownName : PySem.W.subIn K (.ref C_ScalesDoNotFit) (.ref C_UnknownName) = some false)
    (xp_ScalesDoNotFit_ScalesDoNotFit : PySem.W.subIn K (.ref C_ScalesDoNotFit) (.ref C_ScalesDoNotFit) = some true)
    (xp_ScalesDoNotFit_ChannelNotAllowed : PySem.W.subIn K (.ref C_ScalesDoNotFit) (.ref C_ChannelNotAllowed) = some false)
    (xp_ScalesDoNotFit_NotReadable : PySem.W.subIn K (.ref C_ScalesDoNotFit) (.ref C_NotReadable) = some false)
    (xp_ScalesDoNotFit_TooManyRows : PySem.W.subIn K (.ref C_ScalesDoNotFit) (.ref C_TooManyRows) = some false)
    (xp_ScalesDoNotFit_TooManyCategories : PySem.W.subIn K (.ref C_ScalesDoNotFit) (.ref C_TooManyCategories) = some false)
    (xp_ScalesDoNotFit_TooManyCases : PySem.W.subIn K (.ref C_ScalesDoNotFit) (.ref C_TooManyCases) = some false)
    (xp_ScalesDoNotFit_NotComparable : PySem.W.subIn K (.ref C_ScalesDoNotFit) (.ref C_NotComparable) = some false)
    (xp_ScalesDoNotFit_NotDecided : PySem.W.subIn K (.ref C_ScalesDoNotFit) (.ref C_NotDecided) = some false)
    (xp_ScalesDoNotFit_NothingToRedo : PySem.W.subIn K (.ref C_ScalesDoNotFit) (.ref C_NothingToRedo) = some false)
    (xp_ScalesDoNotFit_NothingToUndo : PySem.W.subIn K (.ref C_ScalesDoNotFit) (.ref C_NothingToUndo) = some false)
    (xp_ScalesDoNotFit_ValueError : PySem.W.subIn K (.ref C_ScalesDoNotFit) (.type "ValueError") = some true)
    (xin_ScalesDoNotFit : PySem.W.findIn K (.ref C_ScalesDoNotFit) "__init__" = some (some (.ref fI_ScalesDoNotFit)))
    (xit_ScalesDoNotFit : PySem.W.typeIn K (.ref fI_ScalesDoNotFit) = some (.type "function"))
    (xil_ScalesDoNotFit : K.lookup fI_ScalesDoNotFit = some ⟨oc_ScalesDoNotFit, od_ScalesDoNotFit, .func (PySem.W.fnOf "__init__" "ScalesDoNotFit.__init__" (defArgs s_ini_ScalesDoNotFit) (defBody s_ini_ScalesDoNotFit) (defScope s_ini_ScalesDoNotFit) .none kV_ScalesDoNotFit dc_ScalesDoNotFit pm_ScalesDoNotFit an_ScalesDoNotFit cd_ScalesDoNotFit ct_ScalesDoNotFit), sl_ScalesDoNotFit⟩)
    (xic_ScalesDoNotFit : PySem.W.codeIn K cd_ScalesDoNotFit "ScalesDoNotFit.__init__" = true)
    (xik_ScalesDoNotFit : PySem.W.keepIn K (.ref fI_ScalesDoNotFit) = true)
    (xl_TooManyCategories : K.lookup C_TooManyCategories = some (excClassObj xnm_TooManyCategories xq_TooManyCategories C_TooManyCategories xN_TooManyCategories xbs_TooManyCategories xbm_TooManyCategories true xsn_TooManyCategories xsub_TooManyCategories xab_TooManyCategories xcol_TooManyCategories xdd_TooManyCategories xk0_TooManyCategories xk1_TooManyCategories xk2_TooManyCategories xk3_TooManyCategories xk5_TooManyCategories "ValueError.__new__"))
    (xr_TooManyCategories : PySem.HandSPX.refsVE xbm_TooManyCategories = true)
    (xs_TooManyCategories : PySem.W.findIn K (.ref C_TooManyCategories) "__setattr__" = some (some (.builtin "object.__setattr__")))
    (xk_TooManyCategories : PySem.W.keepIn K (.ref C_TooManyCategories) = true)
    (xg_TooManyCategories : PySem.W.findIn K (.ref C_TooManyCategories) "__getattribute__" = some (some (.builtin "BaseException.__getattribute__")))
    (xgg_TooManyCategories : PySem.W.findIn K (.ref C_TooManyCategories) "__getattr__" = some none)
    (xd_TooManyCategories : PySem.W.hasDictIn K C_TooManyCategories = true)
    (xc_TooManyCategories : PySem.W.findIn K (.ref C_TooManyCategories) "__class__" = some (some (.builtin "object.__class__")))
    (xm_TooManyCategories : PySem.W.mroIn K C_TooManyCategories (.type "object") = some true)
    (xf_TooManyCategories_reason : PySem.W.findIn K (.ref C_TooManyCategories) "reason" = some none)
    (xf_TooManyCategories_pixels : PySem.W.findIn K (.ref C_TooManyCategories) "pixels" = some none)
    (xf_TooManyCategories_name : PySem.W.findIn K (.ref C_TooManyCategories) "name" = some none)
    (xf_TooManyCategories_count : PySem.W.findIn K (.ref C_TooManyCategories) "count" = some none)
    (xp_TooManyCategories_ChartError : PySem.W.subIn K (.ref C_TooManyCategories) (.ref C_ChartError) = some true)
    (xp_TooManyCategories_DuplicateName : PySem.W.subIn K (.ref C_TooManyCategories) (.ref C_DuplicateName) = some false)
    (xp_TooManyCategories_PictureTooLarge : PySem.W.subIn K (.ref C_TooManyCategories) (.ref C_PictureTooLarge) = some false)
    (xp_TooManyCategories_PatchDoesNotFit : PySem.W.subIn K (.ref C_TooManyCategories) (.ref C_PatchDoesNotFit) = some false)
    (xp_TooManyCategories_ChannelNeeded : PySem.W.subIn K (.ref C_TooManyCategories) (.ref C_ChannelNeeded) = some false)
    (xp_TooManyCategories_WrongKind : PySem.W.subIn K (.ref C_TooManyCategories) (.ref C_WrongKind) = some false)
    (xp_TooManyCategories_UnknownName : PySem.W.subIn K (.ref C_TooManyCategories) (.ref C_UnknownName) = some false)
    (xp_TooManyCategories_ScalesDoNotFit : PySem.W.subIn K (.ref C_TooManyCategories) (.ref C_ScalesDoNotFit) = some false)
    (xp_TooManyCategories_ChannelNotAllowed : PySem.W.subIn K (.ref C_TooManyCategories) (.ref C_ChannelNotAllowed) = some false)
    (xp_TooManyCategories_NotReadable : PySem.W.subIn K (.ref C_TooManyCategories) (.ref C_NotReadable) = some false)
    (xp_TooManyCategories_TooManyRows : PySem.W.subIn K (.ref C_TooManyCategories) (.ref C_TooManyRows) = some false)
    (xp_TooManyCategories_TooManyCategories : PySem.W.subIn K (.ref C_TooManyCategories) (.ref C_TooManyCategories) = some true)
    (xp_TooManyCategories_TooManyCases : PySem.W.subIn K (.ref C_TooManyCategories) (.ref C_TooManyCases) = some false)
    (xp_TooManyCategories_NotComparable : PySem.W.subIn K (.ref C_TooManyCategories) (.ref C_NotComparable) = some false)
    (xp_TooManyCategories_NotDecided : PySem.W.subIn K (.ref C_TooManyCategories) (.ref C_NotDecided) = some false)
    (xp_TooManyCategories_NothingToRedo : PySem.W.subIn K (.ref C_TooManyCategories) (.ref C_NothingToRedo) = some false)
    (xp_TooManyCategories_NothingToUndo : PySem.W.subIn K (.ref C_TooManyCategories) (.ref C_NothingToUndo) = some false)
    (xp_TooManyCategories_ValueError : PySem.W.subIn K (.ref C_TooManyCategories) (.type "ValueError") = some true)
    (xin_TooManyCategories : PySem.W.findIn K (.ref C_TooManyCategories) "__init__" = some (some (.ref fI_TooManyCategories)))
    (xit_TooManyCategories : PySem.W.typeIn K (.ref fI_TooManyCategories) = some (.type "function"))
    (xil_TooManyCategories : K.lookup fI_TooManyCategories = some ⟨oc_TooManyCategories, od_TooManyCategories, .func (PySem.W.fnOf "__init__" "TooManyCategories.__init__" (defArgs s_ini_TooManyCategories) (defBody s_ini_TooManyCategories) (defScope s_ini_TooManyCategories) .none kV_TooManyCategories dc_TooManyCategories pm_TooManyCategories an_TooManyCategories cd_TooManyCategories ct_TooManyCategories), sl_TooManyCategories⟩)
    (xic_TooManyCategories : PySem.W.codeIn K cd_TooManyCategories "TooManyCategories.__init__" = true)
    (xik_TooManyCategories : PySem.W.keepIn K (.ref fI_TooManyCategories) = true)
    (xl_TooManyRows : K.lookup C_TooManyRows = some (excClassObj xnm_TooManyRows xq_TooManyRows C_TooManyRows xN_TooManyRows xbs_TooManyRows xbm_TooManyRows true xsn_TooManyRows xsub_TooManyRows xab_TooManyRows xcol_TooManyRows xdd_TooManyRows xk0_TooManyRows xk1_TooManyRows xk2_TooManyRows xk3_TooManyRows xk5_TooManyRows "ValueError.__new__"))
    (xr_TooManyRows : PySem.HandSPX.refsVE xbm_TooManyRows = true)
    (xs_TooManyRows : PySem.W.findIn K (.ref C_TooManyRows) "__setattr__" = some (some (.builtin "object.__setattr__")))
    (xk_TooManyRows : PySem.W.keepIn K (.ref C_TooManyRows) = true)
    (xg_TooManyRows : PySem.W.findIn K (.ref C_TooManyRows) "__getattribute__" = some (some (.builtin "BaseException.__getattribute__")))
    (xgg_TooManyRows : PySem.W.findIn K (.ref C_TooManyRows) "__getattr__" = some none)
    (xd_TooManyRows : PySem.W.hasDictIn K C_TooManyRows = true)
    (xc_TooManyRows : PySem.W.findIn K (.ref C_TooManyRows) "__class__" = some (some (.builtin "object.__class__")))
    (xm_TooManyRows : PySem.W.mroIn K C_TooManyRows (.type "object") = some true)
    (xf_TooManyRows_reason : PySem.W.findIn K (.ref C_TooManyRows) "reason" = some none)
    (xf_TooManyRows_pixels : PySem.W.findIn K (.ref C_TooManyRows) "pixels" = some none)
    (xf_TooManyRows_name : PySem.W.findIn K (.ref C_TooManyRows) "name" = some none)
    (xf_TooManyRows_count : PySem.W.findIn K (.ref C_TooManyRows) "count" = some none)
    (xp_TooManyRows_ChartError : PySem.W.subIn K (.ref C_TooManyRows) (.ref C_ChartError) = some true)
    (xp_TooManyRows_DuplicateName : PySem.W.subIn K (.ref C_TooManyRows) (.ref C_DuplicateName) = some false)
    (xp_TooManyRows_PictureTooLarge : PySem.W.subIn K (.ref C_TooManyRows) (.ref C_PictureTooLarge) = some false)
    (xp_TooManyRows_PatchDoesNotFit : PySem.W.subIn K (.ref C_TooManyRows) (.ref C_PatchDoesNotFit) = some false)
    (xp_TooManyRows_ChannelNeeded : PySem.W.subIn K (.ref C_TooManyRows) (.ref C_ChannelNeeded) = some false)
    (xp_TooManyRows_WrongKind : PySem.W.subIn K (.ref C_TooManyRows) (.ref C_WrongKind) = some false)
    (xp_TooManyRows_UnknownName : PySem.W.subIn K (.ref C_TooManyRows) (.ref C_UnknownName) = some false)
    (xp_TooManyRows_ScalesDoNotFit : PySem.W.subIn K (.ref C_TooManyRows) (.ref C_ScalesDoNotFit) = some false)
    (xp_TooManyRows_ChannelNotAllowed : PySem.W.subIn K (.ref C_TooManyRows) (.ref C_ChannelNotAllowed) = some false)
    (xp_TooManyRows_NotReadable : PySem.W.subIn K (.ref C_TooManyRows) (.ref C_NotReadable) = some false)
    (xp_TooManyRows_TooManyRows : PySem.W.subIn K (.ref C_TooManyRows) (.ref C_TooManyRows) = some true)
    (xp_TooManyRows_TooManyCategories : PySem.W.subIn K (.ref C_TooManyRows) (.ref C_TooManyCategories) = some false)
    (xp_TooManyRows_TooManyCases : PySem.W.subIn K (.ref C_TooManyRows) (.ref C_TooManyCases) = some false)
    (xp_TooManyRows_NotComparable : PySem.W.subIn K (.ref C_TooManyRows) (.ref C_NotComparable) = some false)
    (xp_TooManyRows_NotDecided : PySem.W.subIn K (.ref C_TooManyRows) (.ref C_NotDecided) = some false)
    (xp_TooManyRows_NothingToRedo : PySem.W.subIn K (.ref C_TooManyRows) (.ref C_NothingToRedo) = some false)
    (xp_TooManyRows_NothingToUndo : PySem.W.subIn K (.ref C_TooManyRows) (.ref C_NothingToUndo) = some false)
    (xp_TooManyRows_ValueError : PySem.W.subIn K (.ref C_TooManyRows) (.type "ValueError") = some true)
    (xin_TooManyRows : PySem.W.findIn K (.ref C_TooManyRows) "__init__" = some (some (.ref fI_TooManyRows)))
    (xit_TooManyRows : PySem.W.typeIn K (.ref fI_TooManyRows) = some (.type "function"))
    (xil_TooManyRows : K.lookup fI_TooManyRows = some ⟨oc_TooManyRows, od_TooManyRows, .func (PySem.W.fnOf "__init__" "TooManyRows.__init__" (defArgs s_ini_TooManyRows) (defBody s_ini_TooManyRows) (defScope s_ini_TooManyRows) .none kV_TooManyRows dc_TooManyRows pm_TooManyRows an_TooManyRows cd_TooManyRows ct_TooManyRows), sl_TooManyRows⟩)
    (xic_TooManyRows : PySem.W.codeIn K cd_TooManyRows "TooManyRows.__init__" = true)
    (xik_TooManyRows : PySem.W.keepIn K (.ref fI_TooManyRows) = true)
    (xl_NotReadable : K.lookup C_NotReadable = some (excClassObj xnm_NotReadable xq_NotReadable C_NotReadable xN_NotReadable xbs_NotReadable xbm_NotReadable true xsn_NotReadable xsub_NotReadable xab_NotReadable xcol_NotReadable xdd_NotReadable xk0_NotReadable xk1_NotReadable xk2_NotReadable xk3_NotReadable xk5_NotReadable "ValueError.__new__"))
    (xr_NotReadable : PySem.HandSPX.refsVE xbm_NotReadable = true)
    (xs_NotReadable : PySem.W.findIn K (.ref C_NotReadable) "__setattr__" = some (some (.builtin "object.__setattr__")))
    (xk_NotReadable : PySem.W.keepIn K (.ref C_NotReadable) = true)
    (xg_NotReadable : PySem.W.findIn K (.ref C_NotReadable) "__getattribute__" = some (some (.builtin "BaseException.__getattribute__")))
    (xgg_NotReadable : PySem.W.findIn K (.ref C_NotReadable) "__getattr__" = some none)
    (xd_NotReadable : PySem.W.hasDictIn K C_NotReadable = true)
    (xc_NotReadable : PySem.W.findIn K (.ref C_NotReadable) "__class__" = some (some (.builtin "object.__class__")))
    (xm_NotReadable : PySem.W.mroIn K C_NotReadable (.type "object") = some true)
    (xf_NotReadable_reason : PySem.W.findIn K (.ref C_NotReadable) "reason" = some none)
    (xf_NotReadable_pixels : PySem.W.findIn K (.ref C_NotReadable) "pixels" = some none)
    (xf_NotReadable_name : PySem.W.findIn K (.ref C_NotReadable) "name" = some none)
    (xf_NotReadable_count : PySem.W.findIn K (.ref C_NotReadable) "count" = some none)
    (xp_NotReadable_ChartError : PySem.W.subIn K (.ref C_NotReadable) (.ref C_ChartError) = some true)
    (xp_NotReadable_DuplicateName : PySem.W.subIn K (.ref C_NotReadable) (.ref C_DuplicateName) = some false)
    (xp_NotReadable_PictureTooLarge : PySem.W.subIn K (.ref C_NotReadable) (.ref C_PictureTooLarge) = some false)
    (xp_NotReadable_PatchDoesNotFit : PySem.W.subIn K (.ref C_NotReadable) (.ref C_PatchDoesNotFit) = some false)
    (xp_NotReadable_ChannelNeeded : PySem.W.subIn K (.ref C_NotReadable) (.ref C_ChannelNeeded) = some false)
    (xp_NotReadable_WrongKind : PySem.W.subIn K (.ref C_NotReadable) (.ref C_WrongKind) = some false)
    (xp_NotReadable_UnknownName : PySem.W.subIn K (.ref C_NotReadable) (.ref C_UnknownName) = some false)
    (xp_NotReadable_ScalesDoNotFit : PySem.W.subIn K (.ref C_NotReadable) (.ref C_ScalesDoNotFit) = some false)
    (xp_NotReadable_ChannelNotAllowed : PySem.W.subIn K (.ref C_NotReadable) (.ref C_ChannelNotAllowed) = some false)
    (xp_NotReadable_NotReadable : PySem.W.subIn K (.ref C_NotReadable) (.ref C_NotReadable) = some true)
    (xp_NotReadable_TooManyRows : PySem.W.subIn K (.ref C_NotReadable) (.ref C_TooManyRows) = some false)
    (xp_NotReadable_TooManyCategories : PySem.W.subIn K (.ref C_NotReadable) (.ref C_TooManyCategories) = some false)
    (xp_NotReadable_TooManyCases : PySem.W.subIn K (.ref C_NotReadable) (.ref C_TooManyCases) = some false)
    (xp_NotReadable_NotComparable : PySem.W.subIn K (.ref C_NotReadable) (.ref C_NotComparable) = some false)
    (xp_NotReadable_NotDecided : PySem.W.subIn K (.ref C_NotReadable) (.ref C_NotDecided) = some false)
    (xp_NotReadable_NothingToRedo : PySem.W.subIn K (.ref C_NotReadable) (.ref C_NothingToRedo) = some false)
    (xp_NotReadable_NothingToUndo : PySem.W.subIn K (.ref C_NotReadable) (.ref C_NothingToUndo) = some false)
    (xp_NotReadable_ValueError : PySem.W.subIn K (.ref C_NotReadable) (.type "ValueError") = some true)
    (xin_NotReadable : PySem.W.findIn K (.ref C_NotReadable) "__init__" = some (some (.ref fI_NotReadable)))
    (xit_NotReadable : PySem.W.typeIn K (.ref fI_NotReadable) = some (.type "function"))
    (xil_NotReadable : K.lookup fI_NotReadable = some ⟨oc_NotReadable, od_NotReadable, .func (PySem.W.fnOf "__init__" "NotReadable.__init__" (defArgs s_ini_NotReadable) (defBody s_ini_NotReadable) (defScope s_ini_NotReadable) .none kV_NotReadable dc_NotReadable pm_NotReadable an_NotReadable cd_NotReadable ct_NotReadable), sl_NotReadable⟩)
    (xic_NotReadable : PySem.W.codeIn K cd_NotReadable "NotReadable.__init__" = true)
    (xik_NotReadable : PySem.W.keepIn K (.ref fI_NotReadable) = true)
    (xl_NotDecided : K.lookup C_NotDecided = some (excClassObj xnm_NotDecided xq_NotDecided C_NotDecided xN_NotDecided xbs_NotDecided xbm_NotDecided true xsn_NotDecided xsub_NotDecided xab_NotDecided xcol_NotDecided xdd_NotDecided xk0_NotDecided xk1_NotDecided xk2_NotDecided xk3_NotDecided xk5_NotDecided "ValueError.__new__"))
    (xr_NotDecided : PySem.HandSPX.refsVE xbm_NotDecided = true)
    (xs_NotDecided : PySem.W.findIn K (.ref C_NotDecided) "__setattr__" = some (some (.builtin "object.__setattr__")))
    (xk_NotDecided : PySem.W.keepIn K (.ref C_NotDecided) = true)
    (xg_NotDecided : PySem.W.findIn K (.ref C_NotDecided) "__getattribute__" = some (some (.builtin "BaseException.__getattribute__")))
    (xgg_NotDecided : PySem.W.findIn K (.ref C_NotDecided) "__getattr__" = some none)
    (xd_NotDecided : PySem.W.hasDictIn K C_NotDecided = true)
    (xc_NotDecided : PySem.W.findIn K (.ref C_NotDecided) "__class__" = some (some (.builtin "object.__class__")))
    (xm_NotDecided : PySem.W.mroIn K C_NotDecided (.type "object") = some true)
    (xf_NotDecided_reason : PySem.W.findIn K (.ref C_NotDecided) "reason" = some none)
    (xf_NotDecided_pixels : PySem.W.findIn K (.ref C_NotDecided) "pixels" = some none)
    (xf_NotDecided_name : PySem.W.findIn K (.ref C_NotDecided) "name" = some none)
    (xf_NotDecided_count : PySem.W.findIn K (.ref C_NotDecided) "count" = some none)
    (xp_NotDecided_ChartError : PySem.W.subIn K (.ref C_NotDecided) (.ref C_ChartError) = some true)
    (xp_NotDecided_DuplicateName : PySem.W.subIn K (.ref C_NotDecided) (.ref C_DuplicateName) = some false)
    (xp_NotDecided_PictureTooLarge : PySem.W.subIn K (.ref C_NotDecided) (.ref C_PictureTooLarge) = some false)
    (xp_NotDecided_PatchDoesNotFit : PySem.W.subIn K (.ref C_NotDecided) (.ref C_PatchDoesNotFit) = some false)
    (xp_NotDecided_ChannelNeeded : PySem.W.subIn K (.ref C_NotDecided) (.ref C_ChannelNeeded) = some false)
    (xp_NotDecided_WrongKind : PySem.W.subIn K (.ref C_NotDecided) (.ref C_WrongKind) = some false)
    (xp_NotDecided_UnknownName : PySem.W.subIn K (.ref C_NotDecided) (.ref C_UnknownName) = some false)
    (xp_NotDecided_ScalesDoNotFit : PySem.W.subIn K (.ref C_NotDecided) (.ref C_ScalesDoNotFit) = some false)
    (xp_NotDecided_ChannelNotAllowed : PySem.W.subIn K (.ref C_NotDecided) (.ref C_ChannelNotAllowed) = some false)
    (xp_NotDecided_NotReadable : PySem.W.subIn K (.ref C_NotDecided) (.ref C_NotReadable) = some false)
    (xp_NotDecided_TooManyRows : PySem.W.subIn K (.ref C_NotDecided) (.ref C_TooManyRows) = some false)
    (xp_NotDecided_TooManyCategories : PySem.W.subIn K (.ref C_NotDecided) (.ref C_TooManyCategories) = some false)
    (xp_NotDecided_TooManyCases : PySem.W.subIn K (.ref C_NotDecided) (.ref C_TooManyCases) = some false)
    (xp_NotDecided_NotComparable : PySem.W.subIn K (.ref C_NotDecided) (.ref C_NotComparable) = some false)
    (xp_NotDecided_NotDecided : PySem.W.subIn K (.ref C_NotDecided) (.ref C_NotDecided) = some true)
    (xp_NotDecided_NothingToRedo : PySem.W.subIn K (.ref C_NotDecided) (.ref C_NothingToRedo) = some false)
    (xp_NotDecided_NothingToUndo : PySem.W.subIn K (.ref C_NotDecided) (.ref C_NothingToUndo) = some false)
    (xp_NotDecided_ValueError : PySem.W.subIn K (.ref C_NotDecided) (.type "ValueError") = some true)
    (xin_NotDecided : PySem.W.findIn K (.ref C_NotDecided) "__init__" = some (some (.ref fI_NotDecided)))
    (xit_NotDecided : PySem.W.typeIn K (.ref fI_NotDecided) = some (.type "function"))
    (xil_NotDecided : K.lookup fI_NotDecided = some ⟨oc_NotDecided, od_NotDecided, .func (PySem.W.fnOf "__init__" "NotDecided.__init__" (defArgs s_ini_NotDecided) (defBody s_ini_NotDecided) (defScope s_ini_NotDecided) .none kV_NotDecided dc_NotDecided pm_NotDecided an_NotDecided cd_NotDecided ct_NotDecided), sl_NotDecided⟩)
    (xic_NotDecided : PySem.W.codeIn K cd_NotDecided "NotDecided.__init__" = true)
    (xik_NotDecided : PySem.W.keepIn K (.ref fI_NotDecided) = true)
    (xl_NotComparable : K.lookup C_NotComparable = some (excClassObj xnm_NotComparable xq_NotComparable C_NotComparable xN_NotComparable xbs_NotComparable xbm_NotComparable true xsn_NotComparable xsub_NotComparable xab_NotComparable xcol_NotComparable xdd_NotComparable xk0_NotComparable xk1_NotComparable xk2_NotComparable xk3_NotComparable xk5_NotComparable "ValueError.__new__"))
    (xr_NotComparable : PySem.HandSPX.refsVE xbm_NotComparable = true)
    (xs_NotComparable : PySem.W.findIn K (.ref C_NotComparable) "__setattr__" = some (some (.builtin "object.__setattr__")))
    (xk_NotComparable : PySem.W.keepIn K (.ref C_NotComparable) = true)
    (xg_NotComparable : PySem.W.findIn K (.ref C_NotComparable) "__getattribute__" = some (some (.builtin "BaseException.__getattribute__")))
    (xgg_NotComparable : PySem.W.findIn K (.ref C_NotComparable) "__getattr__" = some none)
    (xd_NotComparable : PySem.W.hasDictIn K C_NotComparable = true)
    (xc_NotComparable : PySem.W.findIn K (.ref C_NotComparable) "__class__" = some (some (.builtin "object.__class__")))
    (xm_NotComparable : PySem.W.mroIn K C_NotComparable (.type "object") = some true)
    (xf_NotComparable_reason : PySem.W.findIn K (.ref C_NotComparable) "reason" = some none)
    (xf_NotComparable_pixels : PySem.W.findIn K (.ref C_NotComparable) "pixels" = some none)
    (xf_NotComparable_name : PySem.W.findIn K (.ref C_NotComparable) "name" = some none)
    (xf_NotComparable_count : PySem.W.findIn K (.ref C_NotComparable) "count" = some none)
    (xp_NotComparable_ChartError : PySem.W.subIn K (.ref C_NotComparable) (.ref C_ChartError) = some true)
    (xp_NotComparable_DuplicateName : PySem.W.subIn K (.ref C_NotComparable) (.ref C_DuplicateName) = some false)
    (xp_NotComparable_PictureTooLarge : PySem.W.subIn K (.ref C_NotComparable) (.ref C_PictureTooLarge) = some false)
    (xp_NotComparable_PatchDoesNotFit : PySem.W.subIn K (.ref C_NotComparable) (.ref C_PatchDoesNotFit) = some false)
    (xp_NotComparable_ChannelNeeded : PySem.W.subIn K (.ref C_NotComparable) (.ref C_ChannelNeeded) = some false)
    (xp_NotComparable_WrongKind : PySem.W.subIn K (.ref C_NotComparable) (.ref C_WrongKind) = some false)
    (xp_NotComparable_UnknownName : PySem.W.subIn K (.ref C_NotComparable) (.ref C_UnknownName) = some false)
    (xp_NotComparable_ScalesDoNotFit : PySem.W.subIn K (.ref C_NotComparable) (.ref C_ScalesDoNotFit) = some false)
    (xp_NotComparable_ChannelNotAllowed : PySem.W.subIn K (.ref C_NotComparable) (.ref C_ChannelNotAllowed) = some false)
    (xp_NotComparable_NotReadable : PySem.W.subIn K (.ref C_NotComparable) (.ref C_NotReadable) = some false)
    (xp_NotComparable_TooManyRows : PySem.W.subIn K (.ref C_NotComparable) (.ref C_TooManyRows) = some false)
    (xp_NotComparable_TooManyCategories : PySem.W.subIn K (.ref C_NotComparable) (.ref C_TooManyCategories) = some false)
    (xp_NotComparable_TooManyCases : PySem.W.subIn K (.ref C_NotComparable) (.ref C_TooManyCases) = some false)
    (xp_NotComparable_NotComparable : PySem.W.subIn K (.ref C_NotComparable) (.ref C_NotComparable) = some true)
    (xp_NotComparable_NotDecided : PySem.W.subIn K (.ref C_NotComparable) (.ref C_NotDecided) = some false)
    (xp_NotComparable_NothingToRedo : PySem.W.subIn K (.ref C_NotComparable) (.ref C_NothingToRedo) = some false)
    (xp_NotComparable_NothingToUndo : PySem.W.subIn K (.ref C_NotComparable) (.ref C_NothingToUndo) = some false)
    (xp_NotComparable_ValueError : PySem.W.subIn K (.ref C_NotComparable) (.type "ValueError") = some true)
    (xin_NotComparable : PySem.W.findIn K (.ref C_NotComparable) "__init__" = some (some (.ref fI_NotComparable)))
    (xit_NotComparable : PySem.W.typeIn K (.ref fI_NotComparable) = some (.type "function"))
    (xil_NotComparable : K.lookup fI_NotComparable = some ⟨oc_NotComparable, od_NotComparable, .func (PySem.W.fnOf "__init__" "NotComparable.__init__" (defArgs s_ini_NotComparable) (defBody s_ini_NotComparable) (defScope s_ini_NotComparable) .none kV_NotComparable dc_NotComparable pm_NotComparable an_NotComparable cd_NotComparable ct_NotComparable), sl_NotComparable⟩)
    (xic_NotComparable : PySem.W.codeIn K cd_NotComparable "NotComparable.__init__" = true)
    (xik_NotComparable : PySem.W.keepIn K (.ref fI_NotComparable) = true)
    (xl_TooManyCases : K.lookup C_TooManyCases = some (excClassObj xnm_TooManyCases xq_TooManyCases C_TooManyCases xN_TooManyCases xbs_TooManyCases xbm_TooManyCases true xsn_TooManyCases xsub_TooManyCases xab_TooManyCases xcol_TooManyCases xdd_TooManyCases xk0_TooManyCases xk1_TooManyCases xk2_TooManyCases xk3_TooManyCases xk5_TooManyCases "ValueError.__new__"))
    (xr_TooManyCases : PySem.HandSPX.refsVE xbm_TooManyCases = true)
    (xs_TooManyCases : PySem.W.findIn K (.ref C_TooManyCases) "__setattr__" = some (some (.builtin "object.__setattr__")))
    (xk_TooManyCases : PySem.W.keepIn K (.ref C_TooManyCases) = true)
    (xg_TooManyCases : PySem.W.findIn K (.ref C_TooManyCases) "__getattribute__" = some (some (.builtin "BaseException.__getattribute__")))
    (xgg_TooManyCases : PySem.W.findIn K (.ref C_TooManyCases) "__getattr__" = some none)
    (xd_TooManyCases : PySem.W.hasDictIn K C_TooManyCases = true)
    (xc_TooManyCases : PySem.W.findIn K (.ref C_TooManyCases) "__class__" = some (some (.builtin "object.__class__")))
    (xm_TooManyCases : PySem.W.mroIn K C_TooManyCases (.type "object") = some true)
    (xf_TooManyCases_reason : PySem.W.findIn K (.ref C_TooManyCases) "reason" = some none)
    (xf_TooManyCases_pixels : PySem.W.findIn K (.ref C_TooManyCases) "pixels" = some none)
    (xf_TooManyCases_name : PySem.W.findIn K (.ref C_TooManyCases) "name" = some none)
    (xf_TooManyCases_count : PySem.W.findIn K (.ref C_TooManyCases) "count" = some none)
    (xp_TooManyCases_ChartError : PySem.W.subIn K (.ref C_TooManyCases) (.ref C_ChartError) = some true)
    (xp_TooManyCases_DuplicateName : PySem.W.subIn K (.ref C_TooManyCases) (.ref C_DuplicateName) = some false)
    (xp_TooManyCases_PictureTooLarge : PySem.W.subIn K (.ref C_TooManyCases) (.ref C_PictureTooLarge) = some false)
    (xp_TooManyCases_PatchDoesNotFit : PySem.W.subIn K (.ref C_TooManyCases) (.ref C_PatchDoesNotFit) = some false)
    (xp_TooManyCases_ChannelNeeded : PySem.W.subIn K (.ref C_TooManyCases) (.ref C_ChannelNeeded) = some false)
    (xp_TooManyCases_WrongKind : PySem.W.subIn K (.ref C_TooManyCases) (.ref C_WrongKind) = some false)
    (xp_TooManyCases_UnknownName : PySem.W.subIn K (.ref C_TooManyCases) (.ref C_UnknownName) = some false)
    (xp_TooManyCases_ScalesDoNotFit : PySem.W.subIn K (.ref C_TooManyCases) (.ref C_ScalesDoNotFit) = some false)
    (xp_TooManyCases_ChannelNotAllowed : PySem.W.subIn K (.ref C_TooManyCases) (.ref C_ChannelNotAllowed) = some false)
    (xp_TooManyCases_NotReadable : PySem.W.subIn K (.ref C_TooManyCases) (.ref C_NotReadable) = some false)
    (xp_TooManyCases_TooManyRows : PySem.W.subIn K (.ref C_TooManyCases) (.ref C_TooManyRows) = some false)
    (xp_TooManyCases_TooManyCategories : PySem.W.subIn K (.ref C_TooManyCases) (.ref C_TooManyCategories) = some false)
    (xp_TooManyCases_TooManyCases : PySem.W.subIn K (.ref C_TooManyCases) (.ref C_TooManyCases) = some true)
    (xp_TooManyCases_NotComparable : PySem.W.subIn K (.ref C_TooManyCases) (.ref C_NotComparable) = some false)
    (xp_TooManyCases_NotDecided : PySem.W.subIn K (.ref C_TooManyCases) (.ref C_NotDecided) = some false)
    (xp_TooManyCases_NothingToRedo : PySem.W.subIn K (.ref C_TooManyCases) (.ref C_NothingToRedo) = some false)
    (xp_TooManyCases_NothingToUndo : PySem.W.subIn K (.ref C_TooManyCases) (.ref C_NothingToUndo) = some false)
    (xp_TooManyCases_ValueError : PySem.W.subIn K (.ref C_TooManyCases) (.type "ValueError") = some true)
    (xin_TooManyCases : PySem.W.findIn K (.ref C_TooManyCases) "__init__" = some (some (.ref fI_TooManyCases)))
    (xit_TooManyCases : PySem.W.typeIn K (.ref fI_TooManyCases) = some (.type "function"))
    (xil_TooManyCases : K.lookup fI_TooManyCases = some ⟨oc_TooManyCases, od_TooManyCases, .func (PySem.W.fnOf "__init__" "TooManyCases.__init__" (defArgs s_ini_TooManyCases) (defBody s_ini_TooManyCases) (defScope s_ini_TooManyCases) .none kV_TooManyCases dc_TooManyCases pm_TooManyCases an_TooManyCases cd_TooManyCases ct_TooManyCases), sl_TooManyCases⟩)
    (xic_TooManyCases : PySem.W.codeIn K cd_TooManyCases "TooManyCases.__init__" = true)
    (xik_TooManyCases : PySem.W.keepIn K (.ref fI_TooManyCases) = true)
    (xl_NothingToUndo : K.lookup C_NothingToUndo = some (excClassObj xnm_NothingToUndo xq_NothingToUndo C_NothingToUndo xN_NothingToUndo xbs_NothingToUndo xbm_NothingToUndo true xsn_NothingToUndo xsub_NothingToUndo xab_NothingToUndo xcol_NothingToUndo xdd_NothingToUndo xk0_NothingToUndo xk1_NothingToUndo xk2_NothingToUndo xk3_NothingToUndo xk5_NothingToUndo "ValueError.__new__"))
    (xr_NothingToUndo : PySem.HandSPX.refsVE xbm_NothingToUndo = true)
    (xs_NothingToUndo : PySem.W.findIn K (.ref C_NothingToUndo) "__setattr__" = some (some (.builtin "object.__setattr__")))
    (xk_NothingToUndo : PySem.W.keepIn K (.ref C_NothingToUndo) = true)
    (xg_NothingToUndo : PySem.W.findIn K (.ref C_NothingToUndo) "__getattribute__" = some (some (.builtin "BaseException.__getattribute__")))
    (xgg_NothingToUndo : PySem.W.findIn K (.ref C_NothingToUndo) "__getattr__" = some none)
    (xd_NothingToUndo : PySem.W.hasDictIn K C_NothingToUndo = true)
    (xc_NothingToUndo : PySem.W.findIn K (.ref C_NothingToUndo) "__class__" = some (some (.builtin "object.__class__")))
    (xm_NothingToUndo : PySem.W.mroIn K C_NothingToUndo (.type "object") = some true)
    (xf_NothingToUndo_reason : PySem.W.findIn K (.ref C_NothingToUndo) "reason" = some none)
    (xf_NothingToUndo_pixels : PySem.W.findIn K (.ref C_NothingToUndo) "pixels" = some none)
    (xf_NothingToUndo_name : PySem.W.findIn K (.ref C_NothingToUndo) "name" = some none)
    (xf_NothingToUndo_count : PySem.W.findIn K (.ref C_NothingToUndo) "count" = some none)
    (xp_NothingToUndo_ChartError : PySem.W.subIn K (.ref C_NothingToUndo) (.ref C_ChartError) = some true)
    (xp_NothingToUndo_DuplicateName : PySem.W.subIn K (.ref C_NothingToUndo) (.ref C_DuplicateName) = some false)
    (xp_NothingToUndo_PictureTooLarge : PySem.W.subIn K (.ref C_NothingToUndo) (.ref C_PictureTooLarge) = some false)
    (xp_NothingToUndo_PatchDoesNotFit : PySem.W.subIn K (.ref C_NothingToUndo) (.ref C_PatchDoesNotFit) = some false)
    (xp_NothingToUndo_ChannelNeeded : PySem.W.subIn K (.ref C_NothingToUndo) (.ref C_ChannelNeeded) = some false)
    (xp_NothingToUndo_WrongKind : PySem.W.subIn K (.ref C_NothingToUndo) (.ref C_WrongKind) = some false)
    (xp_NothingToUndo_UnknownName : PySem.W.subIn K (.ref C_NothingToUndo) (.ref C_UnknownName) = some false)
    (xp_NothingToUndo_ScalesDoNotFit : PySem.W.subIn K (.ref C_NothingToUndo) (.ref C_ScalesDoNotFit) = some false)
    (xp_NothingToUndo_ChannelNotAllowed : PySem.W.subIn K (.ref C_NothingToUndo) (.ref C_ChannelNotAllowed) = some false)
    (xp_NothingToUndo_NotReadable : PySem.W.subIn K (.ref C_NothingToUndo) (.ref C_NotReadable) = some false)
    (xp_NothingToUndo_TooManyRows : PySem.W.subIn K (.ref C_NothingToUndo) (.ref C_TooManyRows) = some false)
    (xp_NothingToUndo_TooManyCategories : PySem.W.subIn K (.ref C_NothingToUndo) (.ref C_TooManyCategories) = some false)
    (xp_NothingToUndo_TooManyCases : PySem.W.subIn K (.ref C_NothingToUndo) (.ref C_TooManyCases) = some false)
    (xp_NothingToUndo_NotComparable : PySem.W.subIn K (.ref C_NothingToUndo) (.ref C_NotComparable) = some false)
    (xp_NothingToUndo_NotDecided : PySem.W.subIn K (.ref C_NothingToUndo) (.ref C_NotDecided) = some false)
    (xp_NothingToUndo_NothingToRedo : PySem.W.subIn K (.ref C_NothingToUndo) (.ref C_NothingToRedo) = some false)
    (xp_NothingToUndo_NothingToUndo : PySem.W.subIn K (.ref C_NothingToUndo) (.ref C_NothingToUndo) = some true)
    (xp_NothingToUndo_ValueError : PySem.W.subIn K (.ref C_NothingToUndo) (.type "ValueError") = some true)
    (x0_NothingToUndo : PySem.W.excIn K C_NothingToUndo [.type "ValueError", .type "Exception", .type "BaseException", .type "object"] "ValueError.__new__" = true)
    (xl_NothingToRedo : K.lookup C_NothingToRedo = some (excClassObj xnm_NothingToRedo xq_NothingToRedo C_NothingToRedo xN_NothingToRedo xbs_NothingToRedo xbm_NothingToRedo true xsn_NothingToRedo xsub_NothingToRedo xab_NothingToRedo xcol_NothingToRedo xdd_NothingToRedo xk0_NothingToRedo xk1_NothingToRedo xk2_NothingToRedo xk3_NothingToRedo xk5_NothingToRedo "ValueError.__new__"))
    (xr_NothingToRedo : PySem.HandSPX.refsVE xbm_NothingToRedo = true)
    (xs_NothingToRedo : PySem.W.findIn K (.ref C_NothingToRedo) "__setattr__" = some (some (.builtin "object.__setattr__")))
    (xk_NothingToRedo : PySem.W.keepIn K (.ref C_NothingToRedo) = true)
    (xg_NothingToRedo : PySem.W.findIn K (.ref C_NothingToRedo) "__getattribute__" = some (some (.builtin "BaseException.__getattribute__")))
    (xgg_NothingToRedo : PySem.W.findIn K (.ref C_NothingToRedo) "__getattr__" = some none)
    (xd_NothingToRedo : PySem.W.hasDictIn K C_NothingToRedo = true)
    (xc_NothingToRedo : PySem.W.findIn K (.ref C_NothingToRedo) "__class__" = some (some (.builtin "object.__class__")))
    (xm_NothingToRedo : PySem.W.mroIn K C_NothingToRedo (.type "object") = some true)
    (xf_NothingToRedo_reason : PySem.W.findIn K (.ref C_NothingToRedo) "reason" = some none)
    (xf_NothingToRedo_pixels : PySem.W.findIn K (.ref C_NothingToRedo) "pixels" = some none)
    (xf_NothingToRedo_name : PySem.W.findIn K (.ref C_NothingToRedo) "name" = some none)
    (xf_NothingToRedo_count : PySem.W.findIn K (.ref C_NothingToRedo) "count" = some none)
    (xp_NothingToRedo_ChartError : PySem.W.subIn K (.ref C_NothingToRedo) (.ref C_ChartError) = some true)
    (xp_NothingToRedo_DuplicateName : PySem.W.subIn K (.ref C_NothingToRedo) (.ref C_DuplicateName) = some false)
    (xp_NothingToRedo_PictureTooLarge : PySem.W.subIn K (.ref C_NothingToRedo) (.ref C_PictureTooLarge) = some false)
    (xp_NothingToRedo_PatchDoesNotFit : PySem.W.subIn K (.ref C_NothingToRedo) (.ref C_PatchDoesNotFit) = some false)
    (xp_NothingToRedo_ChannelNeeded : PySem.W.subIn K (.ref C_NothingToRedo) (.ref C_ChannelNeeded) = some false)
    (xp_NothingToRedo_WrongKind : PySem.W.subIn K (.ref C_NothingToRedo) (.ref C_WrongKind) = some false)
    (xp_NothingToRedo_UnknownName : PySem.W.subIn K (.ref C_NothingToRedo) (.ref C_UnknownName) = some false)
    (xp_NothingToRedo_ScalesDoNotFit : PySem.W.subIn K (.ref C_NothingToRedo) (.ref C_ScalesDoNotFit) = some false)
    (xp_NothingToRedo_ChannelNotAllowed : PySem.W.subIn K (.ref C_NothingToRedo) (.ref C_ChannelNotAllowed) = some false)
    (xp_NothingToRedo_NotReadable : PySem.W.subIn K (.ref C_NothingToRedo) (.ref C_NotReadable) = some false)
    (xp_NothingToRedo_TooManyRows : PySem.W.subIn K (.ref C_NothingToRedo) (.ref C_TooManyRows) = some false)
    (xp_NothingToRedo_TooManyCategories : PySem.W.subIn K (.ref C_NothingToRedo) (.ref C_TooManyCategories) = some false)
    (xp_NothingToRedo_TooManyCases : PySem.W.subIn K (.ref C_NothingToRedo) (.ref C_TooManyCases) = some false)
    (xp_NothingToRedo_NotComparable : PySem.W.subIn K (.ref C_NothingToRedo) (.ref C_NotComparable) = some false)
    (xp_NothingToRedo_NotDecided : PySem.W.subIn K (.ref C_NothingToRedo) (.ref C_NotDecided) = some false)
    (xp_NothingToRedo_NothingToRedo : PySem.W.subIn K (.ref C_NothingToRedo) (.ref C_NothingToRedo) = some true)
    (xp_NothingToRedo_NothingToUndo : PySem.W.subIn K (.ref C_NothingToRedo) (.ref C_NothingToUndo) = some false)
    (xp_NothingToRedo_ValueError : PySem.W.subIn K (.ref C_NothingToRedo) (.type "ValueError") = some true)
    (x0_NothingToRedo : PySem.W.excIn K C_NothingToRedo [.type "ValueError", .type "Exception", .type "BaseException", .type "object"] "ValueError.__new__" = true)
    (xp_ChartError_ChartError : PySem.W.subIn K (.ref C_ChartError) (.ref C_ChartError) = some true)
    (xve : PySem.W.nsIn K mainGlobals "ValueError" = some none)
    (a0 : PySem.W.nsIn K mainGlobals "_law_tape" = some (some (.ref f0)))
    (l0 : K.lookup f0 = some ⟨oc0, od0, .func (PySem.W.fnOf "_law_tape" "_law_tape" (defArgs s__law_tape) (defBody s__law_tape) (defScope s__law_tape) .none kV0 dc0 pm0 an0 cd0 ct0), sl0⟩)
    (c0 : PySem.W.codeIn K cd0 "_law_tape" = true)
    (k0 : PySem.W.keepIn K (.ref f0) = true)
    (a1 : PySem.W.nsIn K mainGlobals "_law_draw" = some (some (.ref f1)))
    (l1 : K.lookup f1 = some ⟨oc1, od1, .func (PySem.W.fnOf "_law_draw" "_law_draw" (defArgs s__law_draw) (defBody s__law_draw) (defScope s__law_draw) .none kV1 dc1 pm1 an1 cd1 ct1), sl1⟩)
    (c1 : PySem.W.codeIn K cd1 "_law_draw" = true)
    (k1 : PySem.W.keepIn K (.ref f1) = true)
    (a2 : PySem.W.nsIn K mainGlobals "_law_word" = some (some (.ref f2)))
    (l2 : K.lookup f2 = some ⟨oc2, od2, .func (PySem.W.fnOf "_law_word" "_law_word" (defArgs s__law_word) (defBody s__law_word) (defScope s__law_word) .none kV2 dc2 pm2 an2 cd2 ct2), sl2⟩)
    (c2 : PySem.W.codeIn K cd2 "_law_word" = true)
    (k2 : PySem.W.keepIn K (.ref f2) = true)
    (a3 : PySem.W.nsIn K mainGlobals "_law_raised" = some (some (.ref f3)))
    (l3 : K.lookup f3 = some ⟨oc3, od3, .func (PySem.W.fnOf "_law_raised" "_law_raised" (defArgs s__law_raised) (defBody s__law_raised) (defScope s__law_raised) .none kV3 dc3 pm3 an3 cd3 ct3), sl3⟩)
    (c3 : PySem.W.codeIn K cd3 "_law_raised" = true)
    (k3 : PySem.W.keepIn K (.ref f3) = true)
    (a4 : PySem.W.nsIn K mainGlobals "_law_caught" = some (some (.ref f4)))
    (l4 : K.lookup f4 = some ⟨oc4, od4, .func (PySem.W.fnOf "_law_caught" "_law_caught" (defArgs s__law_caught) (defBody s__law_caught) (defScope s__law_caught) .none kV4 dc4 pm4 an4 cd4 ct4), sl4⟩)
    (c4 : PySem.W.codeIn K cd4 "_law_caught" = true)
    (k4 : PySem.W.keepIn K (.ref f4) = true)
    (a5 : PySem.W.nsIn K mainGlobals "law" = some (some (.ref f5)))
    (l5 : K.lookup f5 = some ⟨oc5, od5, .func (PySem.W.fnOf "law" "law" (defArgs s_law) (defBody s_law) (defScope s_law) .none kV5 dc5 pm5 an5 cd5 ct5), sl5⟩)
    (c5 : PySem.W.codeIn K cd5 "law" = true)
    (k5 : PySem.W.keepIn K (.ref f5) = true)
    (z_len : PySem.W.nsIn K mainGlobals "len" = some none)
    (z_int : PySem.W.nsIn K mainGlobals "int" = some none)
    (z_abs : PySem.W.nsIn K mainGlobals "abs" = some none)
    (z_min : PySem.W.nsIn K mainGlobals "min" = some none)
    (z_max : PySem.W.nsIn K mainGlobals "max" = some none)
    (z_sum : PySem.W.nsIn K mainGlobals "sum" = some none)
    (z_str : PySem.W.nsIn K mainGlobals "str" = some none)
    (z_repr : PySem.W.nsIn K mainGlobals "repr" = some none)
    (z_list : PySem.W.nsIn K mainGlobals "list" = some none)
    (z_tuple : PySem.W.nsIn K mainGlobals "tuple" = some none)
    (z_range : PySem.W.nsIn K mainGlobals "range" = some none)
    (z_bool : PySem.W.nsIn K mainGlobals "bool" = some none)
    (z_reversed : PySem.W.nsIn K mainGlobals "reversed" = some none)
    (z_enumerate : PySem.W.nsIn K mainGlobals "enumerate" = some none)
    (z_zip : PySem.W.nsIn K mainGlobals "zip" = some none)
    (z_sorted : PySem.W.nsIn K mainGlobals "sorted" = some none)
    (z_any : PySem.W.nsIn K mainGlobals "any" = some none)
    (z_all : PySem.W.nsIn K mainGlobals "all" = some none)
    (z_isinstance : PySem.W.nsIn K mainGlobals "isinstance" = some none) :
    ∃ fd : FuncData, (∀ (s : Shared) (v : Value), BindsTo s fd ⟨[v], []⟩ [("_law_script", v)]) ∧ ∀ base : Heap, K.In base → base.Ns mainGlobals mg → FnG l.prog w K mg base 5 fa fd ["_law_script"] (lF ⟨K, l.prog, w⟩ F_law) := by
  have e := hfa.symm.trans (PySem.W.mg_of X G a5)
  cases e
  have B : Blt mg := ⟨PySem.W.mg_none_of X G z_len, PySem.W.mg_none_of X G z_int, PySem.W.mg_none_of X G z_abs, PySem.W.mg_none_of X G z_min, PySem.W.mg_none_of X G z_max, PySem.W.mg_none_of X G z_sum, PySem.W.mg_none_of X G z_str, PySem.W.mg_none_of X G z_repr, PySem.W.mg_none_of X G z_list, PySem.W.mg_none_of X G z_tuple, PySem.W.mg_none_of X G z_range, PySem.W.mg_none_of X G z_bool, PySem.W.mg_none_of X G z_reversed, PySem.W.mg_none_of X G z_enumerate, PySem.W.mg_none_of X G z_zip, PySem.W.mg_none_of X G z_sorted, PySem.W.mg_none_of X G z_any, PySem.W.mg_none_of X G z_all, PySem.W.mg_none_of X G z_isinstance⟩
  refine ⟨PySem.W.fnOf "law" "law" (defArgs s_law) (defBody s_law) (defScope s_law) .none kV5 dc5 pm5 an5 cd5 ct5, fun s v => .of_eq rfl, fun base _ _ => ?_⟩
  have m_PatchDoesNotFit : mg "PatchDoesNotFit" = some (.ref C_PatchDoesNotFit) := PySem.W.mg_of X G xn_PatchDoesNotFit
  have m_PictureTooLarge : mg "PictureTooLarge" = some (.ref C_PictureTooLarge) := PySem.W.mg_of X G xn_PictureTooLarge
  have m_DuplicateName : mg "DuplicateName" = some (.ref C_DuplicateName) := PySem.W.mg_of X G xn_DuplicateName
  have m_UnknownName : mg "UnknownName" = some (.ref C_UnknownName) := PySem.W.mg_of X G xn_UnknownName
  have m_WrongKind : mg "WrongKind" = some (.ref C_WrongKind) := PySem.W.mg_of X G xn_WrongKind
  have m_ChannelNeeded : mg "ChannelNeeded" = some (.ref C_ChannelNeeded) := PySem.W.mg_of X G xn_ChannelNeeded
  have m_ChannelNotAllowed : mg "ChannelNotAllowed" = some (.ref C_ChannelNotAllowed) := PySem.W.mg_of X G xn_ChannelNotAllowed
  have m_ScalesDoNotFit : mg "ScalesDoNotFit" = some (.ref C_ScalesDoNotFit) := PySem.W.mg_of X G xn_ScalesDoNotFit
  have m_TooManyCategories : mg "TooManyCategories" = some (.ref C_TooManyCategories) := PySem.W.mg_of X G xn_TooManyCategories
  have m_TooManyRows : mg "TooManyRows" = some (.ref C_TooManyRows) := PySem.W.mg_of X G xn_TooManyRows
  have m_NotReadable : mg "NotReadable" = some (.ref C_NotReadable) := PySem.W.mg_of X G xn_NotReadable
  have m_NotDecided : mg "NotDecided" = some (.ref C_NotDecided) := PySem.W.mg_of X G xn_NotDecided
  have m_NotComparable : mg "NotComparable" = some (.ref C_NotComparable) := PySem.W.mg_of X G xn_NotComparable
  have m_TooManyCases : mg "TooManyCases" = some (.ref C_TooManyCases) := PySem.W.mg_of X G xn_TooManyCases
  have m_NothingToUndo : mg "NothingToUndo" = some (.ref C_NothingToUndo) := PySem.W.mg_of X G xn_NothingToUndo
  have m_NothingToRedo : mg "NothingToRedo" = some (.ref C_NothingToRedo) := PySem.W.mg_of X G xn_NothingToRedo
  have m_ChartError : mg "ChartError" = some (.ref C_ChartError) := PySem.W.mg_of X G xn_ChartError
  have T_PatchDoesNotFit : OexC K C_PatchDoesNotFit := oex_mk xl_PatchDoesNotFit xr_PatchDoesNotFit xs_PatchDoesNotFit xb_PatchDoesNotFit xt_PatchDoesNotFit xk_PatchDoesNotFit
  have XB_PatchDoesNotFit : XcB K C_PatchDoesNotFit := xcb_mk T_PatchDoesNotFit xg_PatchDoesNotFit xgg_PatchDoesNotFit xd_PatchDoesNotFit xc_PatchDoesNotFit xhn xht xm_PatchDoesNotFit xi_PatchDoesNotFit
  have I_PatchDoesNotFit : Ini l.prog w K mg base C_PatchDoesNotFit "reason" := ini_of T_PatchDoesNotFit xf_PatchDoesNotFit_reason xin_PatchDoesNotFit xit_PatchDoesNotFit (fun_mk (st := s_ini_PatchDoesNotFit) xil_PatchDoesNotFit xic_PatchDoesNotFit xik_PatchDoesNotFit) ((fun_mk (st := s_ini_PatchDoesNotFit) xil_PatchDoesNotFit xic_PatchDoesNotFit xik_PatchDoesNotFit).binds fun _ _ _ _ _ _ us hl => match us, hl with | [_, _], _ => rfl) sc_ini_PatchDoesNotFit rfl
  have T_PictureTooLarge : OexC K C_PictureTooLarge := oex_mk xl_PictureTooLarge xr_PictureTooLarge xs_PictureTooLarge xb_PictureTooLarge xt_PictureTooLarge xk_PictureTooLarge
  have XB_PictureTooLarge : XcB K C_PictureTooLarge := xcb_mk T_PictureTooLarge xg_PictureTooLarge xgg_PictureTooLarge xd_PictureTooLarge xc_PictureTooLarge xhn xht xm_PictureTooLarge xi_PictureTooLarge
  have I_PictureTooLarge : Ini l.prog w K mg base C_PictureTooLarge "pixels" := ini_of T_PictureTooLarge xf_PictureTooLarge_pixels xin_PictureTooLarge xit_PictureTooLarge (fun_mk (st := s_ini_PictureTooLarge) xil_PictureTooLarge xic_PictureTooLarge xik_PictureTooLarge) ((fun_mk (st := s_ini_PictureTooLarge) xil_PictureTooLarge xic_PictureTooLarge xik_PictureTooLarge).binds fun _ _ _ _ _ _ us hl => match us, hl with | [_, _], _ => rfl) sc_ini_PictureTooLarge rfl
  have T_DuplicateName : OexC K C_DuplicateName := oex_mk xl_DuplicateName xr_DuplicateName xs_DuplicateName xb_DuplicateName xt_DuplicateName xk_DuplicateName
  have XB_DuplicateName : XcB K C_DuplicateName := xcb_mk T_DuplicateName xg_DuplicateName xgg_DuplicateName xd_DuplicateName xc_DuplicateName xhn xht xm_DuplicateName xi_DuplicateName
  have I_DuplicateName : Ini l.prog w K mg base C_DuplicateName "name" := ini_of T_DuplicateName xf_DuplicateName_name xin_DuplicateName xit_DuplicateName (fun_mk (st := s_ini_DuplicateName) xil_DuplicateName xic_DuplicateName xik_DuplicateName) ((fun_mk (st := s_ini_DuplicateName) xil_DuplicateName xic_DuplicateName xik_DuplicateName).binds fun _ _ _ _ _ _ us hl => match us, hl with | [_, _], _ => rfl) sc_ini_DuplicateName rfl
  have T_UnknownName : OexC K C_UnknownName := oex_mk xl_UnknownName xr_UnknownName xs_UnknownName xb_UnknownName xt_UnknownName xk_UnknownName
  have XB_UnknownName : XcB K C_UnknownName := xcb_mk T_UnknownName xg_UnknownName xgg_UnknownName xd_UnknownName xc_UnknownName xhn xht xm_UnknownName xi_UnknownName
  have I_UnknownName : Ini l.prog w K mg base C_UnknownName "name" := ini_of T_UnknownName xf_UnknownName_name xin_UnknownName xit_UnknownName (fun_mk (st := s_ini_UnknownName) xil_UnknownName xic_UnknownName xik_UnknownName) ((fun_mk (st := s_ini_UnknownName) xil_UnknownName xic_UnknownName xik_UnknownName).binds fun _ _ _ _ _ _ us hl => match us, hl with | [_, _], _ => rfl) sc_ini_UnknownName rfl
  have T_WrongKind : OexC K C_WrongKind := oex_mk xl_WrongKind xr_WrongKind xs_WrongKind xb_WrongKind xt_WrongKind xk_WrongKind
  have XB_WrongKind : XcB K C_WrongKind := xcb_mk T_WrongKind xg_WrongKind xgg_WrongKind xd_WrongKind xc_WrongKind xhn xht xm_WrongKind xi_WrongKind
  have I_WrongKind : Ini l.prog w K mg base C_WrongKind "name" := ini_of T_WrongKind xf_WrongKind_name xin_WrongKind xit_WrongKind (fun_mk (st := s_ini_WrongKind) xil_WrongKind xic_WrongKind xik_WrongKind) ((fun_mk (st := s_ini_WrongKind) xil_WrongKind xic_WrongKind xik_WrongKind).binds fun _ _ _ _ _ _ us hl => match us, hl with | [_, _], _ => rfl) sc_ini_WrongKind rfl
  have T_ChannelNeeded : OexC K C_ChannelNeeded := oex_mk xl_ChannelNeeded xr_ChannelNeeded xs_ChannelNeeded xb_ChannelNeeded xt_ChannelNeeded xk_ChannelNeeded
  have XB_ChannelNeeded : XcB K C_ChannelNeeded := xcb_mk T_ChannelNeeded xg_ChannelNeeded xgg_ChannelNeeded xd_ChannelNeeded xc_ChannelNeeded xhn xht xm_ChannelNeeded xi_ChannelNeeded
  have I_ChannelNeeded : Ini l.prog w K mg base C_ChannelNeeded "name" := ini_of T_ChannelNeeded xf_ChannelNeeded_name xin_ChannelNeeded xit_ChannelNeeded (fun_mk (st := s_ini_ChannelNeeded) xil_ChannelNeeded xic_ChannelNeeded xik_ChannelNeeded) ((fun_mk (st := s_ini_ChannelNeeded) xil_ChannelNeeded xic_ChannelNeeded xik_ChannelNeeded).binds fun _ _ _ _ _ _ us hl => match us, hl with | [_, _], _ => rfl) sc_ini_ChannelNeeded rfl
  have T_ChannelNotAllowed : OexC K C_ChannelNotAllowed := oex_mk xl_ChannelNotAllowed xr_ChannelNotAllowed xs_ChannelNotAllowed xb_ChannelNotAllowed xt_ChannelNotAllowed xk_ChannelNotAllowed
  have XB_ChannelNotAllowed : XcB K C_ChannelNotAllowed := xcb_mk T_ChannelNotAllowed xg_ChannelNotAllowed xgg_ChannelNotAllowed xd_ChannelNotAllowed xc_ChannelNotAllowed xhn xht xm_ChannelNotAllowed xi_ChannelNotAllowed
  have I_ChannelNotAllowed : Ini l.prog w K mg base C_ChannelNotAllowed "name" := ini_of T_ChannelNotAllowed xf_ChannelNotAllowed_name xin_ChannelNotAllowed xit_ChannelNotAllowed (fun_mk (st := s_ini_ChannelNotAllowed) xil_ChannelNotAllowed xic_ChannelNotAllowed xik_ChannelNotAllowed) ((fun_mk (st := s_ini_ChannelNotAllowed) xil_ChannelNotAllowed xic_ChannelNotAllowed xik_ChannelNotAllowed).binds fun _ _ _ _ _ _ us hl => match us, hl with | [_, _], _ => rfl) sc_ini_ChannelNotAllowed rfl
  have T_ScalesDoNotFit : OexC K C_ScalesDoNotFit := oex_mk xl_ScalesDoNotFit xr_ScalesDoNotFit xs_ScalesDoNotFit xb_ScalesDoNotFit xt_ScalesDoNotFit xk_ScalesDoNotFit
  have XB_ScalesDoNotFit : XcB K C_ScalesDoNotFit := xcb_mk T_ScalesDoNotFit xg_ScalesDoNotFit xgg_ScalesDoNotFit xd_ScalesDoNotFit xc_ScalesDoNotFit xhn xht xm_ScalesDoNotFit xi_ScalesDoNotFit
  have I_ScalesDoNotFit : Ini l.prog w K mg base C_ScalesDoNotFit "name" := ini_of T_ScalesDoNotFit xf_ScalesDoNotFit_name xin_ScalesDoNotFit xit_ScalesDoNotFit (fun_mk (st := s_ini_ScalesDoNotFit) xil_ScalesDoNotFit xic_ScalesDoNotFit xik_ScalesDoNotFit) ((fun_mk (st := s_ini_ScalesDoNotFit) xil_ScalesDoNotFit xic_ScalesDoNotFit xik_ScalesDoNotFit).binds fun _ _ _ _ _ _ us hl => match us, hl with | [_, _], _ => rfl) sc_ini_ScalesDoNotFit rfl
  have T_TooManyCategories : OexC K C_TooManyCategories := oex_mk xl_TooManyCategories xr_TooManyCategories xs_TooManyCategories xb_TooManyCategories xt_TooManyCategories xk_TooManyCategories
  have XB_TooManyCategories : XcB K C_TooManyCategories := xcb_mk T_TooManyCategories xg_TooManyCategories xgg_TooManyCategories xd_TooManyCategories xc_TooManyCategories xhn xht xm_TooManyCategories xi_TooManyCategories
  have I_TooManyCategories : Ini l.prog w K mg base C_TooManyCategories "count" := ini_of T_TooManyCategories xf_TooManyCategories_count xin_TooManyCategories xit_TooManyCategories (fun_mk (st := s_ini_TooManyCategories) xil_TooManyCategories xic_TooManyCategories xik_TooManyCategories) ((fun_mk (st := s_ini_TooManyCategories) xil_TooManyCategories xic_TooManyCategories xik_TooManyCategories).binds fun _ _ _ _ _ _ us hl => match us, hl with | [_, _], _ => rfl) sc_ini_TooManyCategories rfl
  have T_TooManyRows : OexC K C_TooManyRows := oex_mk xl_TooManyRows xr_TooManyRows xs_TooManyRows xb_TooManyRows xt_TooManyRows xk_TooManyRows
  have XB_TooManyRows : XcB K C_TooManyRows := xcb_mk T_TooManyRows xg_TooManyRows xgg_TooManyRows xd_TooManyRows xc_TooManyRows xhn xht xm_TooManyRows xi_TooManyRows
  have I_TooManyRows : Ini l.prog w K mg base C_TooManyRows "name" := ini_of T_TooManyRows xf_TooManyRows_name xin_TooManyRows xit_TooManyRows (fun_mk (st := s_ini_TooManyRows) xil_TooManyRows xic_TooManyRows xik_TooManyRows) ((fun_mk (st := s_ini_TooManyRows) xil_TooManyRows xic_TooManyRows xik_TooManyRows).binds fun _ _ _ _ _ _ us hl => match us, hl with | [_, _], _ => rfl) sc_ini_TooManyRows rfl
  have T_NotReadable : OexC K C_NotReadable := oex_mk xl_NotReadable xr_NotReadable xs_NotReadable xb_NotReadable xt_NotReadable xk_NotReadable
  have XB_NotReadable : XcB K C_NotReadable := xcb_mk T_NotReadable xg_NotReadable xgg_NotReadable xd_NotReadable xc_NotReadable xhn xht xm_NotReadable xi_NotReadable
  have I_NotReadable : Ini l.prog w K mg base C_NotReadable "name" := ini_of T_NotReadable xf_NotReadable_name xin_NotReadable xit_NotReadable (fun_mk (st := s_ini_NotReadable) xil_NotReadable xic_NotReadable xik_NotReadable) ((fun_mk (st := s_ini_NotReadable) xil_NotReadable xic_NotReadable xik_NotReadable).binds fun _ _ _ _ _ _ us hl => match us, hl with | [_, _], _ => rfl) sc_ini_NotReadable rfl
  have T_NotDecided : OexC K C_NotDecided := oex_mk xl_NotDecided xr_NotDecided xs_NotDecided xb_NotDecided xt_NotDecided xk_NotDecided
  have XB_NotDecided : XcB K C_NotDecided := xcb_mk T_NotDecided xg_NotDecided xgg_NotDecided xd_NotDecided xc_NotDecided xhn xht xm_NotDecided xi_NotDecided
  have I_NotDecided : Ini l.prog w K mg base C_NotDecided "name" := ini_of T_NotDecided xf_NotDecided_name xin_NotDecided xit_NotDecided (fun_mk (st := s_ini_NotDecided) xil_NotDecided xic_NotDecided xik_NotDecided) ((fun_mk (st := s_ini_NotDecided) xil_NotDecided xic_NotDecided xik_NotDecided).binds fun _ _ _ _ _ _ us hl => match us, hl with | [_, _], _ => rfl) sc_ini_NotDecided rfl
  have T_NotComparable : OexC K C_NotComparable := oex_mk xl_NotComparable xr_NotComparable xs_NotComparable xb_NotComparable xt_NotComparable xk_NotComparable
  have XB_NotComparable : XcB K C_NotComparable := xcb_mk T_NotComparable xg_NotComparable xgg_NotComparable xd_NotComparable xc_NotComparable xhn xht xm_NotComparable xi_NotComparable
  have I_NotComparable : Ini l.prog w K mg base C_NotComparable "name" := ini_of T_NotComparable xf_NotComparable_name xin_NotComparable xit_NotComparable (fun_mk (st := s_ini_NotComparable) xil_NotComparable xic_NotComparable xik_NotComparable) ((fun_mk (st := s_ini_NotComparable) xil_NotComparable xic_NotComparable xik_NotComparable).binds fun _ _ _ _ _ _ us hl => match us, hl with | [_, _], _ => rfl) sc_ini_NotComparable rfl
  have T_TooManyCases : OexC K C_TooManyCases := oex_mk xl_TooManyCases xr_TooManyCases xs_TooManyCases xb_TooManyCases xt_TooManyCases xk_TooManyCases
  have XB_TooManyCases : XcB K C_TooManyCases := xcb_mk T_TooManyCases xg_TooManyCases xgg_TooManyCases xd_TooManyCases xc_TooManyCases xhn xht xm_TooManyCases xi_TooManyCases
  have I_TooManyCases : Ini l.prog w K mg base C_TooManyCases "count" := ini_of T_TooManyCases xf_TooManyCases_count xin_TooManyCases xit_TooManyCases (fun_mk (st := s_ini_TooManyCases) xil_TooManyCases xic_TooManyCases xik_TooManyCases) ((fun_mk (st := s_ini_TooManyCases) xil_TooManyCases xic_TooManyCases xik_TooManyCases).binds fun _ _ _ _ _ _ us hl => match us, hl with | [_, _], _ => rfl) sc_ini_TooManyCases rfl
  have T_NothingToUndo : OexC K C_NothingToUndo := oex_mk xl_NothingToUndo xr_NothingToUndo xs_NothingToUndo xb_NothingToUndo xt_NothingToUndo xk_NothingToUndo
  have XB_NothingToUndo : XcB K C_NothingToUndo := xcb_mk T_NothingToUndo xg_NothingToUndo xgg_NothingToUndo xd_NothingToUndo xc_NothingToUndo xhn xht xm_NothingToUndo xi_NothingToUndo
  have T_NothingToRedo : OexC K C_NothingToRedo := oex_mk xl_NothingToRedo xr_NothingToRedo xs_NothingToRedo xb_NothingToRedo xt_NothingToRedo xk_NothingToRedo
  have XB_NothingToRedo : XcB K C_NothingToRedo := xcb_mk T_NothingToRedo xg_NothingToRedo xgg_NothingToRedo xd_NothingToRedo xc_NothingToRedo xhn xht xm_NothingToRedo xi_NothingToRedo
  have XT : XTab K mg ["PatchDoesNotFit", "PictureTooLarge", "DuplicateName", "UnknownName", "WrongKind", "ChannelNeeded", "ChannelNotAllowed", "ScalesDoNotFit", "TooManyCategories", "TooManyRows", "NotReadable", "NotDecided", "NotComparable", "TooManyCases", "NothingToUndo", "NothingToRedo"] ["reason", "pixels", "name", "count"] := ⟨fun c hc => by
    simp only [List.mem_cons, List.not_mem_nil, or_false] at hc
    rcases hc with rfl | rfl | rfl | rfl | rfl | rfl | rfl | rfl | rfl | rfl | rfl | rfl | rfl | rfl | rfl | rfl
    · refine ⟨C_PatchDoesNotFit, m_PatchDoesNotFit, XB_PatchDoesNotFit, fun f hf => ?_⟩
      simp only [List.mem_cons, List.not_mem_nil, or_false] at hf
      rcases hf with rfl | rfl | rfl | rfl <;> assumption
    · refine ⟨C_PictureTooLarge, m_PictureTooLarge, XB_PictureTooLarge, fun f hf => ?_⟩
      simp only [List.mem_cons, List.not_mem_nil, or_false] at hf
      rcases hf with rfl | rfl | rfl | rfl <;> assumption
    · refine ⟨C_DuplicateName, m_DuplicateName, XB_DuplicateName, fun f hf => ?_⟩
      simp only [List.mem_cons, List.not_mem_nil, or_false] at hf
      rcases hf with rfl | rfl | rfl | rfl <;> assumption
    · refine ⟨C_UnknownName, m_UnknownName, XB_UnknownName, fun f hf => ?_⟩
      simp only [List.mem_cons, List.not_mem_nil, or_false] at hf
      rcases hf with rfl | rfl | rfl | rfl <;> assumption
    · refine ⟨C_WrongKind, m_WrongKind, XB_WrongKind, fun f hf => ?_⟩
      simp only [List.mem_cons, List.not_mem_nil, or_false] at hf
      rcases hf with rfl | rfl | rfl | rfl <;> assumption
    · refine ⟨C_ChannelNeeded, m_ChannelNeeded, XB_ChannelNeeded, fun f hf => ?_⟩
      simp only [List.mem_cons, List.not_mem_nil, or_false] at hf
      rcases hf with rfl | rfl | rfl | rfl <;> assumption
    · refine ⟨C_ChannelNotAllowed, m_ChannelNotAllowed, XB_ChannelNotAllowed, fun f hf => ?_⟩
      simp only [List.mem_cons, List.not_mem_nil, or_false] at hf
      rcases hf with rfl | rfl | rfl | rfl <;> assumption
    · refine ⟨C_ScalesDoNotFit, m_ScalesDoNotFit, XB_ScalesDoNotFit, fun f hf => ?_⟩
      simp only [List.mem_cons, List.not_mem_nil, or_false] at hf
      rcases hf with rfl | rfl | rfl | rfl <;> assumption
    · refine ⟨C_TooManyCategories, m_TooManyCategories, XB_TooManyCategories, fun f hf => ?_⟩
      simp only [List.mem_cons, List.not_mem_nil, or_false] at hf
      rcases hf with rfl | rfl | rfl | rfl <;> assumption
    · refine ⟨C_TooManyRows, m_TooManyRows, XB_TooManyRows, fun f hf => ?_⟩
      simp only [List.mem_cons, List.not_mem_nil, or_false] at hf
      rcases hf with rfl | rfl | rfl | rfl <;> assumption
    · refine ⟨C_NotReadable, m_NotReadable, XB_NotReadable, fun f hf => ?_⟩
      simp only [List.mem_cons, List.not_mem_nil, or_false] at hf
      rcases hf with rfl | rfl | rfl | rfl <;> assumption
    · refine ⟨C_NotDecided, m_NotDecided, XB_NotDecided, fun f hf => ?_⟩
      simp only [List.mem_cons, List.not_mem_nil, or_false] at hf
      rcases hf with rfl | rfl | rfl | rfl <;> assumption
    · refine ⟨C_NotComparable, m_NotComparable, XB_NotComparable, fun f hf => ?_⟩
      simp only [List.mem_cons, List.not_mem_nil, or_false] at hf
      rcases hf with rfl | rfl | rfl | rfl <;> assumption
    · refine ⟨C_TooManyCases, m_TooManyCases, XB_TooManyCases, fun f hf => ?_⟩
      simp only [List.mem_cons, List.not_mem_nil, or_false] at hf
      rcases hf with rfl | rfl | rfl | rfl <;> assumption
    · refine ⟨C_NothingToUndo, m_NothingToUndo, XB_NothingToUndo, fun f hf => ?_⟩
      simp only [List.mem_cons, List.not_mem_nil, or_false] at hf
      rcases hf with rfl | rfl | rfl | rfl <;> assumption
    · refine ⟨C_NothingToRedo, m_NothingToRedo, XB_NothingToRedo, fun f hf => ?_⟩
      simp only [List.mem_cons, List.not_mem_nil, or_false] at hf
      rcases hf with rfl | rfl | rfl | rfl <;> assumption⟩
  have A_ChartError : XAsk K mg ["PatchDoesNotFit", "PictureTooLarge", "DuplicateName", "UnknownName", "WrongKind", "ChannelNeeded", "ChannelNotAllowed", "ScalesDoNotFit", "TooManyCategories", "TooManyRows", "NotReadable", "NotDecided", "NotComparable", "TooManyCases", "NothingToUndo", "NothingToRedo"] "ChartError" := xask_own m_ChartError xi_ChartError xt_ChartError xb_ChartError xp_ChartError_ChartError fun c hc => by
    simp only [List.mem_cons, List.not_mem_nil, or_false] at hc
    rcases hc with rfl | rfl | rfl | rfl | rfl | rfl | rfl | rfl | rfl | rfl | rfl | rfl | rfl | rfl | rfl | rfl
    · exact ⟨_, m_PatchDoesNotFit, xp_PatchDoesNotFit_ChartError⟩
    · exact ⟨_, m_PictureTooLarge, xp_PictureTooLarge_ChartError⟩
    · exact ⟨_, m_DuplicateName, xp_DuplicateName_ChartError⟩
    · exact ⟨_, m_UnknownName, xp_UnknownName_ChartError⟩
    · exact ⟨_, m_WrongKind, xp_WrongKind_ChartError⟩
    · exact ⟨_, m_ChannelNeeded, xp_ChannelNeeded_ChartError⟩
    · exact ⟨_, m_ChannelNotAllowed, xp_ChannelNotAllowed_ChartError⟩
    · exact ⟨_, m_ScalesDoNotFit, xp_ScalesDoNotFit_ChartError⟩
    · exact ⟨_, m_TooManyCategories, xp_TooManyCategories_ChartError⟩
    · exact ⟨_, m_TooManyRows, xp_TooManyRows_ChartError⟩
    · exact ⟨_, m_NotReadable, xp_NotReadable_ChartError⟩
    · exact ⟨_, m_NotDecided, xp_NotDecided_ChartError⟩
    · exact ⟨_, m_NotComparable, xp_NotComparable_ChartError⟩
    · exact ⟨_, m_TooManyCases, xp_TooManyCases_ChartError⟩
    · exact ⟨_, m_NothingToUndo, xp_NothingToUndo_ChartError⟩
    · exact ⟨_, m_NothingToRedo, xp_NothingToRedo_ChartError⟩
  have A_DuplicateName : XAsk K mg ["PatchDoesNotFit", "PictureTooLarge", "DuplicateName", "UnknownName", "WrongKind", "ChannelNeeded", "ChannelNotAllowed", "ScalesDoNotFit", "TooManyCategories", "TooManyRows", "NotReadable", "NotDecided", "NotComparable", "TooManyCases", "NothingToUndo", "NothingToRedo"] "DuplicateName" := xask_own m_DuplicateName xi_DuplicateName xt_DuplicateName xb_DuplicateName xp_DuplicateName_DuplicateName fun c hc => by
    simp only [List.mem_cons, List.not_mem_nil, or_false] at hc
    rcases hc with rfl | rfl | rfl | rfl | rfl | rfl | rfl | rfl | rfl | rfl | rfl | rfl | rfl | rfl | rfl | rfl
    · exact ⟨_, m_PatchDoesNotFit, xp_PatchDoesNotFit_DuplicateName⟩
    · exact ⟨_, m_PictureTooLarge, xp_PictureTooLarge_DuplicateName⟩
    · exact ⟨_, m_DuplicateName, xp_DuplicateName_DuplicateName⟩
    · exact ⟨_, m_UnknownName, xp_UnknownName_DuplicateName⟩
    · exact ⟨_, m_WrongKind, xp_WrongKind_DuplicateName⟩
    · exact ⟨_, m_ChannelNeeded, xp_ChannelNeeded_DuplicateName⟩
    · exact ⟨_, m_ChannelNotAllowed, xp_ChannelNotAllowed_DuplicateName⟩
    · exact ⟨_, m_ScalesDoNotFit, xp_ScalesDoNotFit_DuplicateName⟩
    · exact ⟨_, m_TooManyCategories, xp_TooManyCategories_DuplicateName⟩
    · exact ⟨_, m_TooManyRows, xp_TooManyRows_DuplicateName⟩
    · exact ⟨_, m_NotReadable, xp_NotReadable_DuplicateName⟩
    · exact ⟨_, m_NotDecided, xp_NotDecided_DuplicateName⟩
    · exact ⟨_, m_NotComparable, xp_NotComparable_DuplicateName⟩
    · exact ⟨_, m_TooManyCases, xp_TooManyCases_DuplicateName⟩
    · exact ⟨_, m_NothingToUndo, xp_NothingToUndo_DuplicateName⟩
    · exact ⟨_, m_NothingToRedo, xp_NothingToRedo_DuplicateName⟩
  have A_PictureTooLarge : XAsk K mg ["PatchDoesNotFit", "PictureTooLarge", "DuplicateName", "UnknownName", "WrongKind", "ChannelNeeded", "ChannelNotAllowed", "ScalesDoNotFit", "TooManyCategories", "TooManyRows", "NotReadable", "NotDecided", "NotComparable", "TooManyCases", "NothingToUndo", "NothingToRedo"] "PictureTooLarge" := xask_own m_PictureTooLarge xi_PictureTooLarge xt_PictureTooLarge xb_PictureTooLarge xp_PictureTooLarge_PictureTooLarge fun c hc => by
    simp only [List.mem_cons, List.not_mem_nil, or_false] at hc
    rcases hc with rfl | rfl | rfl | rfl | rfl | rfl | rfl | rfl | rfl | rfl | rfl | rfl | rfl | rfl | rfl | rfl
    · exact ⟨_, m_PatchDoesNotFit, xp_PatchDoesNotFit_PictureTooLarge⟩
    · exact ⟨_, m_PictureTooLarge, xp_PictureTooLarge_PictureTooLarge⟩
    · exact ⟨_, m_DuplicateName, xp_DuplicateName_PictureTooLarge⟩
    · exact ⟨_, m_UnknownName, xp_UnknownName_PictureTooLarge⟩
    · exact ⟨_, m_WrongKind, xp_WrongKind_PictureTooLarge⟩
    · exact ⟨_, m_ChannelNeeded, xp_ChannelNeeded_PictureTooLarge⟩
    · exact ⟨_, m_ChannelNotAllowed, xp_ChannelNotAllowed_PictureTooLarge⟩
    · exact ⟨_, m_ScalesDoNotFit, xp_ScalesDoNotFit_PictureTooLarge⟩
    · exact ⟨_, m_TooManyCategories, xp_TooManyCategories_PictureTooLarge⟩
    · exact ⟨_, m_TooManyRows, xp_TooManyRows_PictureTooLarge⟩
    · exact ⟨_, m_NotReadable, xp_NotReadable_PictureTooLarge⟩
    · exact ⟨_, m_NotDecided, xp_NotDecided_PictureTooLarge⟩
    · exact ⟨_, m_NotComparable, xp_NotComparable_PictureTooLarge⟩
    · exact ⟨_, m_TooManyCases, xp_TooManyCases_PictureTooLarge⟩
    · exact ⟨_, m_NothingToUndo, xp_NothingToUndo_PictureTooLarge⟩
    · exact ⟨_, m_NothingToRedo, xp_NothingToRedo_PictureTooLarge⟩
  have A_PatchDoesNotFit : XAsk K mg ["PatchDoesNotFit", "PictureTooLarge", "DuplicateName", "UnknownName", "WrongKind", "ChannelNeeded", "ChannelNotAllowed", "ScalesDoNotFit", "TooManyCategories", "TooManyRows", "NotReadable", "NotDecided", "NotComparable", "TooManyCases", "NothingToUndo", "NothingToRedo"] "PatchDoesNotFit" := xask_own m_PatchDoesNotFit xi_PatchDoesNotFit xt_PatchDoesNotFit xb_PatchDoesNotFit xp_PatchDoesNotFit_PatchDoesNotFit fun c hc => by
    simp only [List.mem_cons, List.not_mem_nil, or_false] at hc
    rcases hc with rfl | rfl | rfl | rfl | rfl | rfl | rfl | rfl | rfl | rfl | rfl | rfl | rfl | rfl | rfl | rfl
    · exact ⟨_, m_PatchDoesNotFit, xp_PatchDoesNotFit_PatchDoesNotFit⟩
    · exact ⟨_, m_PictureTooLarge, xp_PictureTooLarge_PatchDoesNotFit⟩
    · exact ⟨_, m_DuplicateName, xp_DuplicateName_PatchDoesNotFit⟩
    · exact ⟨_, m_UnknownName, xp_UnknownName_PatchDoesNotFit⟩
    · exact ⟨_, m_WrongKind, xp_WrongKind_PatchDoesNotFit⟩
    · exact ⟨_, m_ChannelNeeded, xp_ChannelNeeded_PatchDoesNotFit⟩
    · exact ⟨_, m_ChannelNotAllowed, xp_ChannelNotAllowed_PatchDoesNotFit⟩
    · exact ⟨_, m_ScalesDoNotFit, xp_ScalesDoNotFit_PatchDoesNotFit⟩
    · exact ⟨_, m_TooManyCategories, xp_TooManyCategories_PatchDoesNotFit⟩
    · exact ⟨_, m_TooManyRows, xp_TooManyRows_PatchDoesNotFit⟩
    · exact ⟨_, m_NotReadable, xp_NotReadable_PatchDoesNotFit⟩
    · exact ⟨_, m_NotDecided, xp_NotDecided_PatchDoesNotFit⟩
    · exact ⟨_, m_NotComparable, xp_NotComparable_PatchDoesNotFit⟩
    · exact ⟨_, m_TooManyCases, xp_TooManyCases_PatchDoesNotFit⟩
    · exact ⟨_, m_NothingToUndo, xp_NothingToUndo_PatchDoesNotFit⟩
    · exact ⟨_, m_NothingToRedo, xp_NothingToRedo_PatchDoesNotFit⟩
  have A_ChannelNeeded : XAsk K mg ["PatchDoesNotFit", "PictureTooLarge", "DuplicateName", "UnknownName", "WrongKind", "ChannelNeeded", "ChannelNotAllowed", "ScalesDoNotFit", "TooManyCategories", "TooManyRows", "NotReadable", "NotDecided", "NotComparable", "TooManyCases", "NothingToUndo", "NothingToRedo"] "ChannelNeeded" := xask_own m_ChannelNeeded xi_ChannelNeeded xt_ChannelNeeded xb_ChannelNeeded xp_ChannelNeeded_ChannelNeeded fun c hc => by
    simp only [List.mem_cons, List.not_mem_nil, or_false] at hc
    rcases hc with rfl | rfl | rfl | rfl | rfl | rfl | rfl | rfl | rfl | rfl | rfl | rfl | rfl | rfl | rfl | rfl
    · exact ⟨_, m_PatchDoesNotFit, xp_PatchDoesNotFit_ChannelNeeded⟩
    · exact ⟨_, m_PictureTooLarge, xp_PictureTooLarge_ChannelNeeded⟩
    · exact ⟨_, m_DuplicateName, xp_DuplicateName_ChannelNeeded⟩
    · exact ⟨_, m_UnknownName, xp_UnknownName_ChannelNeeded⟩
    · exact ⟨_, m_WrongKind, xp_WrongKind_ChannelNeeded⟩
    · exact ⟨_, m_ChannelNeeded, xp_ChannelNeeded_ChannelNeeded⟩
    · exact ⟨_, m_ChannelNotAllowed, xp_ChannelNotAllowed_ChannelNeeded⟩
    · exact ⟨_, m_ScalesDoNotFit, xp_ScalesDoNotFit_ChannelNeeded⟩
    · exact ⟨_, m_TooManyCategories, xp_TooManyCategories_ChannelNeeded⟩
    · exact ⟨_, m_TooManyRows, xp_TooManyRows_ChannelNeeded⟩
    · exact ⟨_, m_NotReadable, xp_NotReadable_ChannelNeeded⟩
    · exact ⟨_, m_NotDecided, xp_NotDecided_ChannelNeeded⟩
    · exact ⟨_, m_NotComparable, xp_NotComparable_ChannelNeeded⟩
    · exact ⟨_, m_TooManyCases, xp_TooManyCases_ChannelNeeded⟩
    · exact ⟨_, m_NothingToUndo, xp_NothingToUndo_ChannelNeeded⟩
    · exact ⟨_, m_NothingToRedo, xp_NothingToRedo_ChannelNeeded⟩
  have A_WrongKind : XAsk K mg ["PatchDoesNotFit", "PictureTooLarge", "DuplicateName", "UnknownName", "WrongKind", "ChannelNeeded", "ChannelNotAllowed", "ScalesDoNotFit", "TooManyCategories", "TooManyRows", "NotReadable", "NotDecided", "NotComparable", "TooManyCases", "NothingToUndo", "NothingToRedo"] "WrongKind" := xask_own m_WrongKind xi_WrongKind xt_WrongKind xb_WrongKind xp_WrongKind_WrongKind fun c hc => by
    simp only [List.mem_cons, List.not_mem_nil, or_false] at hc
    rcases hc with rfl | rfl | rfl | rfl | rfl | rfl | rfl | rfl | rfl | rfl | rfl | rfl | rfl | rfl | rfl | rfl
    · exact ⟨_, m_PatchDoesNotFit, xp_PatchDoesNotFit_WrongKind⟩
    · exact ⟨_, m_PictureTooLarge, xp_PictureTooLarge_WrongKind⟩
    · exact ⟨_, m_DuplicateName, xp_DuplicateName_WrongKind⟩
    · exact ⟨_, m_UnknownName, xp_UnknownName_WrongKind⟩
    · exact ⟨_, m_WrongKind, xp_WrongKind_WrongKind⟩
    · exact ⟨_, m_ChannelNeeded, xp_ChannelNeeded_WrongKind⟩
    · exact ⟨_, m_ChannelNotAllowed, xp_ChannelNotAllowed_WrongKind⟩
    · exact ⟨_, m_ScalesDoNotFit, xp_ScalesDoNotFit_WrongKind⟩
    · exact ⟨_, m_TooManyCategories, xp_TooManyCategories_WrongKind⟩
    · exact ⟨_, m_TooManyRows, xp_TooManyRows_WrongKind⟩
    · exact ⟨_, m_NotReadable, xp_NotReadable_WrongKind⟩
    · exact ⟨_, m_NotDecided, xp_NotDecided_WrongKind⟩
    · exact ⟨_, m_NotComparable, xp_NotComparable_WrongKind⟩
    · exact ⟨_, m_TooManyCases, xp_TooManyCases_WrongKind⟩
    · exact ⟨_, m_NothingToUndo, xp_NothingToUndo_WrongKind⟩
    · exact ⟨_, m_NothingToRedo, xp_NothingToRedo_WrongKind⟩
  have A_UnknownName : XAsk K mg ["PatchDoesNotFit", "PictureTooLarge", "DuplicateName", "UnknownName", "WrongKind", "ChannelNeeded", "ChannelNotAllowed", "ScalesDoNotFit", "TooManyCategories", "TooManyRows", "NotReadable", "NotDecided", "NotComparable", "TooManyCases", "NothingToUndo", "NothingToRedo"] "UnknownName" := xask_own m_UnknownName xi_UnknownName xt_UnknownName xb_UnknownName xp_UnknownName_UnknownName fun c hc => by
    simp only [List.mem_cons, List.not_mem_nil, or_false] at hc
    rcases hc with rfl | rfl | rfl | rfl | rfl | rfl | rfl | rfl | rfl | rfl | rfl | rfl | rfl | rfl | rfl | rfl
    · exact ⟨_, m_PatchDoesNotFit, xp_PatchDoesNotFit_UnknownName⟩
    · exact ⟨_, m_PictureTooLarge, xp_PictureTooLarge_UnknownName⟩
    · exact ⟨_, m_DuplicateName, xp_DuplicateName_UnknownName⟩
    · exact ⟨_, m_UnknownName, xp_UnknownName_UnknownName⟩
    · exact ⟨_, m_WrongKind, xp_WrongKind_UnknownName⟩
    · exact ⟨_, m_ChannelNeeded, xp_ChannelNeeded_UnknownName⟩
    · exact ⟨_, m_ChannelNotAllowed, xp_ChannelNotAllowed_UnknownName⟩
    · exact ⟨_, m_ScalesDoNotFit, xp_ScalesDoNotFit_UnknownName⟩
    · exact ⟨_, m_TooManyCategories, xp_TooManyCategories_UnknownName⟩
    · exact ⟨_, m_TooManyRows, xp_TooManyRows_UnknownName⟩
    · exact ⟨_, m_NotReadable, xp_NotReadable_UnknownName⟩
    · exact ⟨_, m_NotDecided, xp_NotDecided_UnknownName⟩
    · exact ⟨_, m_NotComparable, xp_NotComparable_UnknownName⟩
    · exact ⟨_, m_TooManyCases, xp_TooManyCases_UnknownName⟩
    · exact ⟨_, m_NothingToUndo, xp_NothingToUndo_UnknownName⟩
    · exact ⟨_, m_NothingToRedo, xp_NothingToRedo_UnknownName⟩
  have A_ScalesDoNotFit : XAsk K mg ["PatchDoesNotFit", "PictureTooLarge", "DuplicateName", "UnknownName", "WrongKind", "ChannelNeeded", "ChannelNotAllowed", "ScalesDoNotFit", "TooManyCategories", "TooManyRows", "NotReadable", "NotDecided", "NotComparable", "TooManyCases", "NothingToUndo", "NothingToRedo"] "ScalesDoNotFit" := xask_own m_ScalesDoNotFit xi_ScalesDoNotFit xt_ScalesDoNotFit xb_ScalesDoNotFit xp_ScalesDoNotFit_ScalesDoNotFit fun c hc => by
    simp only [List.mem_cons, List.not_mem_nil, or_false] at hc
    rcases hc with rfl | rfl | rfl | rfl | rfl | rfl | rfl | rfl | rfl | rfl | rfl | rfl | rfl | rfl | rfl | rfl
    · exact ⟨_, m_PatchDoesNotFit, xp_PatchDoesNotFit_ScalesDoNotFit⟩
    · exact ⟨_, m_PictureTooLarge, xp_PictureTooLarge_ScalesDoNotFit⟩
    · exact ⟨_, m_DuplicateName, xp_DuplicateName_ScalesDoNotFit⟩
    · exact ⟨_, m_UnknownName, xp_UnknownName_ScalesDoNotFit⟩
    · exact ⟨_, m_WrongKind, xp_WrongKind_ScalesDoNotFit⟩
    · exact ⟨_, m_ChannelNeeded, xp_ChannelNeeded_ScalesDoNotFit⟩
    · exact ⟨_, m_ChannelNotAllowed, xp_ChannelNotAllowed_ScalesDoNotFit⟩
    · exact ⟨_, m_ScalesDoNotFit, xp_ScalesDoNotFit_ScalesDoNotFit⟩
    · exact ⟨_, m_TooManyCategories, xp_TooManyCategories_ScalesDoNotFit⟩
    · exact ⟨_, m_TooManyRows, xp_TooManyRows_ScalesDoNotFit⟩
    · exact ⟨_, m_NotReadable, xp_NotReadable_ScalesDoNotFit⟩
    · exact ⟨_, m_NotDecided, xp_NotDecided_ScalesDoNotFit⟩
    · exact ⟨_, m_NotComparable, xp_NotComparable_ScalesDoNotFit⟩
    · exact ⟨_, m_TooManyCases, xp_TooManyCases_ScalesDoNotFit⟩
    · exact ⟨_, m_NothingToUndo, xp_NothingToUndo_ScalesDoNotFit⟩
    · exact ⟨_, m_NothingToRedo, xp_NothingToRedo_ScalesDoNotFit⟩
  have A_ChannelNotAllowed : XAsk K mg ["PatchDoesNotFit", "PictureTooLarge", "DuplicateName", "UnknownName", "WrongKind", "ChannelNeeded", "ChannelNotAllowed", "ScalesDoNotFit", "TooManyCategories", "TooManyRows", "NotReadable", "NotDecided", "NotComparable", "TooManyCases", "NothingToUndo", "NothingToRedo"] "ChannelNotAllowed" := xask_own m_ChannelNotAllowed xi_ChannelNotAllowed xt_ChannelNotAllowed xb_ChannelNotAllowed xp_ChannelNotAllowed_ChannelNotAllowed fun c hc => by
    simp only [List.mem_cons, List.not_mem_nil, or_false] at hc
    rcases hc with rfl | rfl | rfl | rfl | rfl | rfl | rfl | rfl | rfl | rfl | rfl | rfl | rfl | rfl | rfl | rfl
    · exact ⟨_, m_PatchDoesNotFit, xp_PatchDoesNotFit_ChannelNotAllowed⟩
    · exact ⟨_, m_PictureTooLarge, xp_PictureTooLarge_ChannelNotAllowed⟩
    · exact ⟨_, m_DuplicateName, xp_DuplicateName_ChannelNotAllowed⟩
    · exact ⟨_, m_UnknownName, xp_UnknownName_ChannelNotAllowed⟩
    · exact ⟨_, m_WrongKind, xp_WrongKind_ChannelNotAllowed⟩
    · exact ⟨_, m_ChannelNeeded, xp_ChannelNeeded_ChannelNotAllowed⟩
    · exact ⟨_, m_ChannelNotAllowed, xp_ChannelNotAllowed_ChannelNotAllowed⟩
    · exact ⟨_, m_ScalesDoNotFit, xp_ScalesDoNotFit_ChannelNotAllowed⟩
    · exact ⟨_, m_TooManyCategories, xp_TooManyCategories_ChannelNotAllowed⟩
    · exact ⟨_, m_TooManyRows, xp_TooManyRows_ChannelNotAllowed⟩
    · exact ⟨_, m_NotReadable, xp_NotReadable_ChannelNotAllowed⟩
    · exact ⟨_, m_NotDecided, xp_NotDecided_ChannelNotAllowed⟩
    · exact ⟨_, m_NotComparable, xp_NotComparable_ChannelNotAllowed⟩
    · exact ⟨_, m_TooManyCases, xp_TooManyCases_ChannelNotAllowed⟩
    · exact ⟨_, m_NothingToUndo, xp_NothingToUndo_ChannelNotAllowed⟩
    · exact ⟨_, m_NothingToRedo, xp_NothingToRedo_ChannelNotAllowed⟩
  have A_NotReadable : XAsk K mg ["PatchDoesNotFit", "PictureTooLarge", "DuplicateName", "UnknownName", "WrongKind", "ChannelNeeded", "ChannelNotAllowed", "ScalesDoNotFit", "TooManyCategories", "TooManyRows", "NotReadable", "NotDecided", "NotComparable", "TooManyCases", "NothingToUndo", "NothingToRedo"] "NotReadable" := xask_own m_NotReadable xi_NotReadable xt_NotReadable xb_NotReadable xp_NotReadable_NotReadable fun c hc => by
    simp only [List.mem_cons, List.not_mem_nil, or_false] at hc
    rcases hc with rfl | rfl | rfl | rfl | rfl | rfl | rfl | rfl | rfl | rfl | rfl | rfl | rfl | rfl | rfl | rfl
    · exact ⟨_, m_PatchDoesNotFit, xp_PatchDoesNotFit_NotReadable⟩
    · exact ⟨_, m_PictureTooLarge, xp_PictureTooLarge_NotReadable⟩
    · exact ⟨_, m_DuplicateName, xp_DuplicateName_NotReadable⟩
    · exact ⟨_, m_UnknownName, xp_UnknownName_NotReadable⟩
    · exact ⟨_, m_WrongKind, xp_WrongKind_NotReadable⟩
    · exact ⟨_, m_ChannelNeeded, xp_ChannelNeeded_NotReadable⟩
    · exact ⟨_, m_ChannelNotAllowed, xp_ChannelNotAllowed_NotReadable⟩
    · exact ⟨_, m_ScalesDoNotFit, xp_ScalesDoNotFit_NotReadable⟩
    · exact ⟨_, m_TooManyCategories, xp_TooManyCategories_NotReadable⟩
    · exact ⟨_, m_TooManyRows, xp_TooManyRows_NotReadable⟩
    · exact ⟨_, m_NotReadable, xp_NotReadable_NotReadable⟩
    · exact ⟨_, m_NotDecided, xp_NotDecided_NotReadable⟩
    · exact ⟨_, m_NotComparable, xp_NotComparable_NotReadable⟩
    · exact ⟨_, m_TooManyCases, xp_TooManyCases_NotReadable⟩
    · exact ⟨_, m_NothingToUndo, xp_NothingToUndo_NotReadable⟩
    · exact ⟨_, m_NothingToRedo, xp_NothingToRedo_NotReadable⟩
  have A_TooManyRows : XAsk K mg ["PatchDoesNotFit", "PictureTooLarge", "DuplicateName", "UnknownName", "WrongKind", "ChannelNeeded", "ChannelNotAllowed", "ScalesDoNotFit", "TooManyCategories", "TooManyRows", "NotReadable", "NotDecided", "NotComparable", "TooManyCases", "NothingToUndo", "NothingToRedo"] "TooManyRows" := xask_own m_TooManyRows xi_TooManyRows xt_TooManyRows xb_TooManyRows xp_TooManyRows_TooManyRows fun c hc => by
    simp only [List.mem_cons, List.not_mem_nil, or_false] at hc
    rcases hc with rfl | rfl | rfl | rfl | rfl | rfl | rfl | rfl | rfl | rfl | rfl | rfl | rfl | rfl | rfl | rfl
    · exact ⟨_, m_PatchDoesNotFit, xp_PatchDoesNotFit_TooManyRows⟩
    · exact ⟨_, m_PictureTooLarge, xp_PictureTooLarge_TooManyRows⟩
    · exact ⟨_, m_DuplicateName, xp_DuplicateName_TooManyRows⟩
    · exact ⟨_, m_UnknownName, xp_UnknownName_TooManyRows⟩
    · exact ⟨_, m_WrongKind, xp_WrongKind_TooManyRows⟩
    · exact ⟨_, m_ChannelNeeded, xp_ChannelNeeded_TooManyRows⟩
    · exact ⟨_, m_ChannelNotAllowed, xp_ChannelNotAllowed_TooManyRows⟩
    · exact ⟨_, m_ScalesDoNotFit, xp_ScalesDoNotFit_TooManyRows⟩
    · exact ⟨_, m_TooManyCategories, xp_TooManyCategories_TooManyRows⟩
    · exact ⟨_, m_TooManyRows, xp_TooManyRows_TooManyRows⟩
    · exact ⟨_, m_NotReadable, xp_NotReadable_TooManyRows⟩
    · exact ⟨_, m_NotDecided, xp_NotDecided_TooManyRows⟩
    · exact ⟨_, m_NotComparable, xp_NotComparable_TooManyRows⟩
    · exact ⟨_, m_TooManyCases, xp_TooManyCases_TooManyRows⟩
    · exact ⟨_, m_NothingToUndo, xp_NothingToUndo_TooManyRows⟩
    · exact ⟨_, m_NothingToRedo, xp_NothingToRedo_TooManyRows⟩
  have A_TooManyCategories : XAsk K mg ["PatchDoesNotFit", "PictureTooLarge", "DuplicateName", "UnknownName", "WrongKind", "ChannelNeeded", "ChannelNotAllowed", "ScalesDoNotFit", "TooManyCategories", "TooManyRows", "NotReadable", "NotDecided", "NotComparable", "TooManyCases", "NothingToUndo", "NothingToRedo"] "TooManyCategories" := xask_own m_TooManyCategories xi_TooManyCategories xt_TooManyCategories xb_TooManyCategories xp_TooManyCategories_TooManyCategories fun c hc => by
    simp only [List.mem_cons, List.not_mem_nil, or_false] at hc
    rcases hc with rfl | rfl | rfl | rfl | rfl | rfl | rfl | rfl | rfl | rfl | rfl | rfl | rfl | rfl | rfl | rfl
    · exact ⟨_, m_PatchDoesNotFit, xp_PatchDoesNotFit_TooManyCategories⟩
    · exact ⟨_, m_PictureTooLarge, xp_PictureTooLarge_TooManyCategories⟩
    · exact ⟨_, m_DuplicateName, xp_DuplicateName_TooManyCategories⟩
    · exact ⟨_, m_UnknownName, xp_UnknownName_TooManyCategories⟩
    · exact ⟨_, m_WrongKind, xp_WrongKind_TooManyCategories⟩
    · exact ⟨_, m_ChannelNeeded, xp_ChannelNeeded_TooManyCategories⟩
    · exact ⟨_, m_ChannelNotAllowed, xp_ChannelNotAllowed_TooManyCategories⟩
    · exact ⟨_, m_ScalesDoNotFit, xp_ScalesDoNotFit_TooManyCategories⟩
    · exact ⟨_, m_TooManyCategories, xp_TooManyCategories_TooManyCategories⟩
    · exact ⟨_, m_TooManyRows, xp_TooManyRows_TooManyCategories⟩
    · exact ⟨_, m_NotReadable, xp_NotReadable_TooManyCategories⟩
    · exact ⟨_, m_NotDecided, xp_NotDecided_TooManyCategories⟩
    · exact ⟨_, m_NotComparable, xp_NotComparable_TooManyCategories⟩
    · exact ⟨_, m_TooManyCases, xp_TooManyCases_TooManyCategories⟩
    · exact ⟨_, m_NothingToUndo, xp_NothingToUndo_TooManyCategories⟩
    · exact ⟨_, m_NothingToRedo, xp_NothingToRedo_TooManyCategories⟩
  have A_TooManyCases : XAsk K mg ["PatchDoesNotFit", "PictureTooLarge", "DuplicateName", "UnknownName", "WrongKind", "ChannelNeeded", "ChannelNotAllowed", "ScalesDoNotFit", "TooManyCategories", "TooManyRows", "NotReadable", "NotDecided", "NotComparable", "TooManyCases", "NothingToUndo", "NothingToRedo"] "TooManyCases" := xask_own m_TooManyCases xi_TooManyCases xt_TooManyCases xb_TooManyCases xp_TooManyCases_TooManyCases fun c hc => by
    simp only [List.mem_cons, List.not_mem_nil, or_false] at hc
    rcases hc with rfl | rfl | rfl | rfl | rfl | rfl | rfl | rfl | rfl | rfl | rfl | rfl | rfl | rfl | rfl | rfl
    · exact ⟨_, m_PatchDoesNotFit, xp_PatchDoesNotFit_TooManyCases⟩
    · exact ⟨_, m_PictureTooLarge, xp_PictureTooLarge_TooManyCases⟩
    · exact ⟨_, m_DuplicateName, xp_DuplicateName_TooManyCases⟩
    · exact ⟨_, m_UnknownName, xp_UnknownName_TooManyCases⟩
    · exact ⟨_, m_WrongKind, xp_WrongKind_TooManyCases⟩
    · exact ⟨_, m_ChannelNeeded, xp_ChannelNeeded_TooManyCases⟩
    · exact ⟨_, m_ChannelNotAllowed, xp_ChannelNotAllowed_TooManyCases⟩
    · exact ⟨_, m_ScalesDoNotFit, xp_ScalesDoNotFit_TooManyCases⟩
    · exact ⟨_, m_TooManyCategories, xp_TooManyCategories_TooManyCases⟩
    · exact ⟨_, m_TooManyRows, xp_TooManyRows_TooManyCases⟩
    · exact ⟨_, m_NotReadable, xp_NotReadable_TooManyCases⟩
    · exact ⟨_, m_NotDecided, xp_NotDecided_TooManyCases⟩
    · exact ⟨_, m_NotComparable, xp_NotComparable_TooManyCases⟩
    · exact ⟨_, m_TooManyCases, xp_TooManyCases_TooManyCases⟩
    · exact ⟨_, m_NothingToUndo, xp_NothingToUndo_TooManyCases⟩
    · exact ⟨_, m_NothingToRedo, xp_NothingToRedo_TooManyCases⟩
  have A_NotComparable : XAsk K mg ["PatchDoesNotFit", "PictureTooLarge", "DuplicateName", "UnknownName", "WrongKind", "ChannelNeeded", "ChannelNotAllowed", "ScalesDoNotFit", "TooManyCategories", "TooManyRows", "NotReadable", "NotDecided", "NotComparable", "TooManyCases", "NothingToUndo", "NothingToRedo"] "NotComparable" := xask_own m_NotComparable xi_NotComparable xt_NotComparable xb_NotComparable xp_NotComparable_NotComparable fun c hc => by
    simp only [List.mem_cons, List.not_mem_nil, or_false] at hc
    rcases hc with rfl | rfl | rfl | rfl | rfl | rfl | rfl | rfl | rfl | rfl | rfl | rfl | rfl | rfl | rfl | rfl
    · exact ⟨_, m_PatchDoesNotFit, xp_PatchDoesNotFit_NotComparable⟩
    · exact ⟨_, m_PictureTooLarge, xp_PictureTooLarge_NotComparable⟩
    · exact ⟨_, m_DuplicateName, xp_DuplicateName_NotComparable⟩
    · exact ⟨_, m_UnknownName, xp_UnknownName_NotComparable⟩
    · exact ⟨_, m_WrongKind, xp_WrongKind_NotComparable⟩
    · exact ⟨_, m_ChannelNeeded, xp_ChannelNeeded_NotComparable⟩
    · exact ⟨_, m_ChannelNotAllowed, xp_ChannelNotAllowed_NotComparable⟩
    · exact ⟨_, m_ScalesDoNotFit, xp_ScalesDoNotFit_NotComparable⟩
    · exact ⟨_, m_TooManyCategories, xp_TooManyCategories_NotComparable⟩
    · exact ⟨_, m_TooManyRows, xp_TooManyRows_NotComparable⟩
    · exact ⟨_, m_NotReadable, xp_NotReadable_NotComparable⟩
    · exact ⟨_, m_NotDecided, xp_NotDecided_NotComparable⟩
    · exact ⟨_, m_NotComparable, xp_NotComparable_NotComparable⟩
    · exact ⟨_, m_TooManyCases, xp_TooManyCases_NotComparable⟩
    · exact ⟨_, m_NothingToUndo, xp_NothingToUndo_NotComparable⟩
    · exact ⟨_, m_NothingToRedo, xp_NothingToRedo_NotComparable⟩
  have A_NotDecided : XAsk K mg ["PatchDoesNotFit", "PictureTooLarge", "DuplicateName", "UnknownName", "WrongKind", "ChannelNeeded", "ChannelNotAllowed", "ScalesDoNotFit", "TooManyCategories", "TooManyRows", "NotReadable", "NotDecided", "NotComparable", "TooManyCases", "NothingToUndo", "NothingToRedo"] "NotDecided" := xask_own m_NotDecided xi_NotDecided xt_NotDecided xb_NotDecided xp_NotDecided_NotDecided fun c hc => by
    simp only [List.mem_cons, List.not_mem_nil, or_false] at hc
    rcases hc with rfl | rfl | rfl | rfl | rfl | rfl | rfl | rfl | rfl | rfl | rfl | rfl | rfl | rfl | rfl | rfl
    · exact ⟨_, m_PatchDoesNotFit, xp_PatchDoesNotFit_NotDecided⟩
    · exact ⟨_, m_PictureTooLarge, xp_PictureTooLarge_NotDecided⟩
    · exact ⟨_, m_DuplicateName, xp_DuplicateName_NotDecided⟩
    · exact ⟨_, m_UnknownName, xp_UnknownName_NotDecided⟩
    · exact ⟨_, m_WrongKind, xp_WrongKind_NotDecided⟩
    · exact ⟨_, m_ChannelNeeded, xp_ChannelNeeded_NotDecided⟩
    · exact ⟨_, m_ChannelNotAllowed, xp_ChannelNotAllowed_NotDecided⟩
    · exact ⟨_, m_ScalesDoNotFit, xp_ScalesDoNotFit_NotDecided⟩
    · exact ⟨_, m_TooManyCategories, xp_TooManyCategories_NotDecided⟩
    · exact ⟨_, m_TooManyRows, xp_TooManyRows_NotDecided⟩
    · exact ⟨_, m_NotReadable, xp_NotReadable_NotDecided⟩
    · exact ⟨_, m_NotDecided, xp_NotDecided_NotDecided⟩
    · exact ⟨_, m_NotComparable, xp_NotComparable_NotDecided⟩
    · exact ⟨_, m_TooManyCases, xp_TooManyCases_NotDecided⟩
    · exact ⟨_, m_NothingToUndo, xp_NothingToUndo_NotDecided⟩
    · exact ⟨_, m_NothingToRedo, xp_NothingToRedo_NotDecided⟩
  have A_NothingToRedo : XAsk K mg ["PatchDoesNotFit", "PictureTooLarge", "DuplicateName", "UnknownName", "WrongKind", "ChannelNeeded", "ChannelNotAllowed", "ScalesDoNotFit", "TooManyCategories", "TooManyRows", "NotReadable", "NotDecided", "NotComparable", "TooManyCases", "NothingToUndo", "NothingToRedo"] "NothingToRedo" := xask_own m_NothingToRedo xi_NothingToRedo xt_NothingToRedo xb_NothingToRedo xp_NothingToRedo_NothingToRedo fun c hc => by
    simp only [List.mem_cons, List.not_mem_nil, or_false] at hc
    rcases hc with rfl | rfl | rfl | rfl | rfl | rfl | rfl | rfl | rfl | rfl | rfl | rfl | rfl | rfl | rfl | rfl
    · exact ⟨_, m_PatchDoesNotFit, xp_PatchDoesNotFit_NothingToRedo⟩
    · exact ⟨_, m_PictureTooLarge, xp_PictureTooLarge_NothingToRedo⟩
    · exact ⟨_, m_DuplicateName, xp_DuplicateName_NothingToRedo⟩
    · exact ⟨_, m_UnknownName, xp_UnknownName_NothingToRedo⟩
    · exact ⟨_, m_WrongKind, xp_WrongKind_NothingToRedo⟩
    · exact ⟨_, m_ChannelNeeded, xp_ChannelNeeded_NothingToRedo⟩
    · exact ⟨_, m_ChannelNotAllowed, xp_ChannelNotAllowed_NothingToRedo⟩
    · exact ⟨_, m_ScalesDoNotFit, xp_ScalesDoNotFit_NothingToRedo⟩
    · exact ⟨_, m_TooManyCategories, xp_TooManyCategories_NothingToRedo⟩
    · exact ⟨_, m_TooManyRows, xp_TooManyRows_NothingToRedo⟩
    · exact ⟨_, m_NotReadable, xp_NotReadable_NothingToRedo⟩
    · exact ⟨_, m_NotDecided, xp_NotDecided_NothingToRedo⟩
    · exact ⟨_, m_NotComparable, xp_NotComparable_NothingToRedo⟩
    · exact ⟨_, m_TooManyCases, xp_TooManyCases_NothingToRedo⟩
    · exact ⟨_, m_NothingToUndo, xp_NothingToUndo_NothingToRedo⟩
    · exact ⟨_, m_NothingToRedo, xp_NothingToRedo_NothingToRedo⟩
  have A_NothingToUndo : XAsk K mg ["PatchDoesNotFit", "PictureTooLarge", "DuplicateName", "UnknownName", "WrongKind", "ChannelNeeded", "ChannelNotAllowed", "ScalesDoNotFit", "TooManyCategories", "TooManyRows", "NotReadable", "NotDecided", "NotComparable", "TooManyCases", "NothingToUndo", "NothingToRedo"] "NothingToUndo" := xask_own m_NothingToUndo xi_NothingToUndo xt_NothingToUndo xb_NothingToUndo xp_NothingToUndo_NothingToUndo fun c hc => by
    simp only [List.mem_cons, List.not_mem_nil, or_false] at hc
    rcases hc with rfl | rfl | rfl | rfl | rfl | rfl | rfl | rfl | rfl | rfl | rfl | rfl | rfl | rfl | rfl | rfl
    · exact ⟨_, m_PatchDoesNotFit, xp_PatchDoesNotFit_NothingToUndo⟩
    · exact ⟨_, m_PictureTooLarge, xp_PictureTooLarge_NothingToUndo⟩
    · exact ⟨_, m_DuplicateName, xp_DuplicateName_NothingToUndo⟩
    · exact ⟨_, m_UnknownName, xp_UnknownName_NothingToUndo⟩
    · exact ⟨_, m_WrongKind, xp_WrongKind_NothingToUndo⟩
    · exact ⟨_, m_ChannelNeeded, xp_ChannelNeeded_NothingToUndo⟩
    · exact ⟨_, m_ChannelNotAllowed, xp_ChannelNotAllowed_NothingToUndo⟩
    · exact ⟨_, m_ScalesDoNotFit, xp_ScalesDoNotFit_NothingToUndo⟩
    · exact ⟨_, m_TooManyCategories, xp_TooManyCategories_NothingToUndo⟩
    · exact ⟨_, m_TooManyRows, xp_TooManyRows_NothingToUndo⟩
    · exact ⟨_, m_NotReadable, xp_NotReadable_NothingToUndo⟩
    · exact ⟨_, m_NotDecided, xp_NotDecided_NothingToUndo⟩
    · exact ⟨_, m_NotComparable, xp_NotComparable_NothingToUndo⟩
    · exact ⟨_, m_TooManyCases, xp_TooManyCases_NothingToUndo⟩
    · exact ⟨_, m_NothingToUndo, xp_NothingToUndo_NothingToUndo⟩
    · exact ⟨_, m_NothingToRedo, xp_NothingToRedo_NothingToUndo⟩
  have A_ValueError : XAsk K mg ["PatchDoesNotFit", "PictureTooLarge", "DuplicateName", "UnknownName", "WrongKind", "ChannelNeeded", "ChannelNotAllowed", "ScalesDoNotFit", "TooManyCategories", "TooManyRows", "NotReadable", "NotDecided", "NotComparable", "TooManyCases", "NothingToUndo", "NothingToRedo"] "ValueError" := xask_ve (PySem.W.mg_none_of X G xve) fun c hc => by
    simp only [List.mem_cons, List.not_mem_nil, or_false] at hc
    rcases hc with rfl | rfl | rfl | rfl | rfl | rfl | rfl | rfl | rfl | rfl | rfl | rfl | rfl | rfl | rfl | rfl
    · exact ⟨_, m_PatchDoesNotFit, xp_PatchDoesNotFit_ValueError⟩
    · exact ⟨_, m_PictureTooLarge, xp_PictureTooLarge_ValueError⟩
    · exact ⟨_, m_DuplicateName, xp_DuplicateName_ValueError⟩
    · exact ⟨_, m_UnknownName, xp_UnknownName_ValueError⟩
    · exact ⟨_, m_WrongKind, xp_WrongKind_ValueError⟩
    · exact ⟨_, m_ChannelNeeded, xp_ChannelNeeded_ValueError⟩
    · exact ⟨_, m_ChannelNotAllowed, xp_ChannelNotAllowed_ValueError⟩
    · exact ⟨_, m_ScalesDoNotFit, xp_ScalesDoNotFit_ValueError⟩
    · exact ⟨_, m_TooManyCategories, xp_TooManyCategories_ValueError⟩
    · exact ⟨_, m_TooManyRows, xp_TooManyRows_ValueError⟩
    · exact ⟨_, m_NotReadable, xp_NotReadable_ValueError⟩
    · exact ⟨_, m_NotDecided, xp_NotDecided_ValueError⟩
    · exact ⟨_, m_NotComparable, xp_NotComparable_ValueError⟩
    · exact ⟨_, m_TooManyCases, xp_TooManyCases_ValueError⟩
    · exact ⟨_, m_NothingToUndo, xp_NothingToUndo_ValueError⟩
    · exact ⟨_, m_NothingToRedo, xp_NothingToRedo_ValueError⟩
  have C__law_tape : Cal l.prog w K mg base "_law_tape" 1 ["_law_script"] F__law_tape := tape_abs (w__law_tape (fun_mk (st := s__law_tape) l0 c0 k0) (PySem.W.mg_of X G a0) B )
  have C__law_draw : Cal l.prog w K mg base "_law_draw" 1 ["_law_tape_here", "_law_many"] F__law_draw := draw_abs (w__law_draw (fun_mk (st := s__law_draw) l1 c1 k1) (PySem.W.mg_of X G a1) B )
  have C__law_word : Cal l.prog w K mg base "_law_word" 2 ["_law_tape_here"] F__law_word := w__law_word (fun_mk (st := s__law_word) l2 c2 k2) (PySem.W.mg_of X G a2) B C__law_draw
  have C__law_raised : CalX ["PatchDoesNotFit", "PictureTooLarge", "DuplicateName", "UnknownName", "WrongKind", "ChannelNeeded", "ChannelNotAllowed", "ScalesDoNotFit", "TooManyCategories", "TooManyRows", "NotReadable", "NotDecided", "NotComparable", "TooManyCases", "NothingToUndo", "NothingToRedo"] l.prog w K mg base "_law_raised" 3 ["_law_at", "_law_worth"] F__law_raised := w__law_raised (fun_mk (st := s__law_raised) l3 c3 k3) (PySem.W.mg_of X G a3) B m_PatchDoesNotFit T_PatchDoesNotFit I_PatchDoesNotFit m_PictureTooLarge T_PictureTooLarge I_PictureTooLarge m_DuplicateName T_DuplicateName I_DuplicateName m_UnknownName T_UnknownName I_UnknownName m_WrongKind T_WrongKind I_WrongKind m_ChannelNeeded T_ChannelNeeded I_ChannelNeeded m_ChannelNotAllowed T_ChannelNotAllowed I_ChannelNotAllowed m_ScalesDoNotFit T_ScalesDoNotFit I_ScalesDoNotFit m_TooManyCategories T_TooManyCategories I_TooManyCategories m_TooManyRows T_TooManyRows I_TooManyRows m_NotReadable T_NotReadable I_NotReadable m_NotDecided T_NotDecided I_NotDecided m_NotComparable T_NotComparable I_NotComparable m_TooManyCases T_TooManyCases I_TooManyCases m_NothingToUndo T_NothingToUndo x0_NothingToUndo m_NothingToRedo T_NothingToRedo x0_NothingToRedo
  have C__law_caught : Cal l.prog w K mg base "_law_caught" 4 ["_law_at", "_law_worth"] F__law_caught := w__law_caught (fun_mk (st := s__law_caught) l4 c4 k4) (PySem.W.mg_of X G a4) B C__law_raised XT A_ChartError A_DuplicateName A_PictureTooLarge A_PatchDoesNotFit A_ChannelNeeded A_WrongKind A_UnknownName A_ScalesDoNotFit A_ChannelNotAllowed A_NotReadable A_TooManyRows A_TooManyCategories A_TooManyCases A_NotComparable A_NotDecided A_NothingToRedo A_NothingToUndo A_ValueError
  exact fnd_of (st := s_law) (b := b_law) l5 c5 sc_law (by decide) len1 (fun A outer s H E C => by
    have c__law_tape := C__law_tape
    have c__law_word := C__law_word
    have c__law_draw := C__law_draw
    have c__law_caught := C__law_caught
    exact (qs_cons (q_set (i := 1) C.nd rfl (by first | exact Or.inl rfl | exact Or.inr rfl) (q_call C c__law_tape (by decide) rfl (qa_cons (q_var 0) qa_nil)))
  (qs_cons (q_for PassesOwn.never rfl (qi_rng1 rfl B.range (qa_cons q_int qa_nil)) (qg_name (i := 2) C.nd rfl (by first | exact Or.inl rfl | exact Or.inr rfl)) (qs_cons (q_set (i := 3) C.nd rfl (by first | exact Or.inl rfl | exact Or.inr rfl) (q_call C c__law_word (by decide) rfl (qa_cons (q_var 1) qa_nil)))
  (qs_cons (q_join (q_if (qt_eq C.room (q_var 2) q_int) (qs_one (q_set (i := 3) C.nd rfl (by first | exact Or.inl rfl | exact Or.inr rfl) (q_tup (qa_cons q_str (qa_cons (q_tup (qa_cons (q_call C c__law_draw (by decide) rfl (qa_cons (q_var 1) (qa_cons q_int qa_nil))) (qa_cons (q_var 3) (qa_cons (q_var 3) qa_nil)))) qa_nil))))) qs_nil))
  (qs_cons (q_join (q_if (qt_w (qw_or (qt_eq C.room (q_var 2) q_int) (qw_or (qt_eq C.room (q_var 2) q_int) (qw_or1 (qt_eq C.room (q_var 2) q_int))))) (qs_one (q_set (i := 3) C.nd rfl (by first | exact Or.inl rfl | exact Or.inr rfl) (q_call C c__law_draw (by decide) rfl (qa_cons (q_var 1) (qa_cons (q_pow q_int q_int) qa_nil))))) qs_nil))
  (qs_one (q_if (qt_not (qt_tru (q_call C c__law_caught (by decide) rfl (qa_cons (q_var 2) (qa_cons (q_var 3) qa_nil))))) (qs_one (q_ret q_bl)) qs_nil))))))
  (qs_one (q_ret q_bl))))) p_law
end DL

open PySem PySem.W PyProof.Rows in
set_option maxRecDepth 100000 in
set_option maxHeartbeats 0 in
theorem PySem.Challenge.cw_chartspec_k39_errors_stand_apart_holds : PySem.Challenge.rw_chartspec_k39_errors_stand_apart.Holds := by
  w_on; o_law; k_head; (case hw => w_witness2)
  k_fill
  refine DL.walk_ofG (l := PySem.Challenge.rw_chartspec_k39_errors_stand_apart) (x := PySem.Str.ofString "_law_script") rfl rfl (DL.room_law 5 (by decide)) (fun w h Y => PySem.W.kIn_of Y) ?F
  case F =>
    intro w mg fa h KX G hmg
    refine' DL.all_mk KX G hmg ?xn_PatchDoesNotFit ?xb_PatchDoesNotFit ?xt_PatchDoesNotFit ?xi_PatchDoesNotFit ?xn_PictureTooLarge ?xb_PictureTooLarge ?xt_PictureTooLarge ?xi_PictureTooLarge ?xn_DuplicateName ?xb_DuplicateName ?xt_DuplicateName ?xi_DuplicateName ?xn_UnknownName ?xb_UnknownName ?xt_UnknownName ?xi_UnknownName ?xn_WrongKind ?xb_WrongKind ?xt_WrongKind ?xi_WrongKind ?xn_ChannelNeeded ?xb_ChannelNeeded ?xt_ChannelNeeded ?xi_ChannelNeeded ?xn_ChannelNotAllowed ?xb_ChannelNotAllowed ?xt_ChannelNotAllowed ?xi_ChannelNotAllowed ?xn_ScalesDoNotFit ?xb_ScalesDoNotFit ?xt_ScalesDoNotFit ?xi_ScalesDoNotFit ?xn_TooManyCategories ?xb_TooManyCategories ?xt_TooManyCategories ?xi_TooManyCategories ?xn_TooManyRows ?xb_TooManyRows ?xt_TooManyRows ?xi_TooManyRows ?xn_NotReadable ?xb_NotReadable ?xt_NotReadable ?xi_NotReadable ?xn_NotDecided ?xb_NotDecided ?xt_NotDecided ?xi_NotDecided ?xn_NotComparable ?xb_NotComparable ?xt_NotComparable ?xi_NotComparable ?xn_TooManyCases ?xb_TooManyCases ?xt_TooManyCases ?xi_TooManyCases ?xn_NothingToUndo ?xb_NothingToUndo ?xt_NothingToUndo ?xi_NothingToUndo ?xn_NothingToRedo ?xb_NothingToRedo ?xt_NothingToRedo ?xi_NothingToRedo ?xn_ChartError ?xb_ChartError ?xt_ChartError ?xi_ChartError ?xhn ?xht ?xl_PatchDoesNotFit ?xr_PatchDoesNotFit ?xs_PatchDoesNotFit ?xk_PatchDoesNotFit ?xg_PatchDoesNotFit ?xgg_PatchDoesNotFit ?xd_PatchDoesNotFit ?xc_PatchDoesNotFit ?xm_PatchDoesNotFit ?xf_PatchDoesNotFit_reason ?xf_PatchDoesNotFit_pixels ?xf_PatchDoesNotFit_name ?xf_PatchDoesNotFit_count ?xp_PatchDoesNotFit_ChartError ?xp_PatchDoesNotFit_DuplicateName ?xp_PatchDoesNotFit_PictureTooLarge ?xp_PatchDoesNotFit_PatchDoesNotFit ?xp_PatchDoesNotFit_ChannelNeeded ?xp_PatchDoesNotFit_WrongKind ?xp_PatchDoesNotFit_UnknownName ?xp_PatchDoesNotFit_ScalesDoNotFit ?xp_PatchDoesNotFit_ChannelNotAllowed ?xp_PatchDoesNotFit_NotReadable ?xp_PatchDoesNotFit_TooManyRows ?xp_PatchDoesNotFit_TooManyCategories ?xp_PatchDoesNotFit_TooManyCases ?xp_PatchDoesNotFit_NotComparable ?xp_PatchDoesNotFit_NotDecided ?xp_PatchDoesNotFit_NothingToRedo ?xp_PatchDoesNotFit_NothingToUndo ?xp_PatchDoesNotFit_ValueError ?xin_PatchDoesNotFit ?xit_PatchDoesNotFit ?xil_PatchDoesNotFit ?xic_PatchDoesNotFit ?xik_PatchDoesNotFit ?xl_PictureTooLarge ?xr_PictureTooLarge ?xs_PictureTooLarge ?xk_PictureTooLarge ?xg_PictureTooLarge ?xgg_PictureTooLarge ?xd_PictureTooLarge ?xc_PictureTooLarge ?xm_PictureTooLarge ?xf_PictureTooLarge_reason ?xf_PictureTooLarge_pixels ?xf_PictureTooLarge_name ?xf_PictureTooLarge_count ?xp_PictureTooLarge_ChartError ?xp_PictureTooLarge_DuplicateName ?xp_PictureTooLarge_PictureTooLarge ?xp_PictureTooLarge_PatchDoesNotFit ?xp_PictureTooLarge_ChannelNeeded ?xp_PictureTooLarge_WrongKind ?xp_PictureTooLarge_UnknownName ?xp_PictureTooLarge_ScalesDoNotFit ?xp_PictureTooLarge_ChannelNotAllowed ?xp_PictureTooLarge_NotReadable ?xp_PictureTooLarge_TooManyRows ?xp_PictureTooLarge_TooManyCategories ?xp_PictureTooLarge_TooManyCases ?xp_PictureTooLarge_NotComparable ?xp_PictureTooLarge_NotDecided ?xp_PictureTooLarge_NothingToRedo ?xp_PictureTooLarge_NothingToUndo ?xp_PictureTooLarge_ValueError ?xin_PictureTooLarge ?xit_PictureTooLarge ?xil_PictureTooLarge ?xic_PictureTooLarge ?xik_PictureTooLarge ?xl_DuplicateName ?xr_DuplicateName ?xs_DuplicateName ?xk_DuplicateName ?xg_DuplicateName ?xgg_DuplicateName ?xd_DuplicateName ?xc_DuplicateName ?xm_DuplicateName ?xf_DuplicateName_reason ?xf_DuplicateName_pixels ?xf_DuplicateName_name ?xf_DuplicateName_count ?xp_DuplicateName_ChartError ?xp_DuplicateName_DuplicateName ?xp_DuplicateName_PictureTooLarge ?xp_DuplicateName_PatchDoesNotFit ?xp_DuplicateName_ChannelNeeded ?xp_DuplicateName_WrongKind ?xp_DuplicateName_UnknownName ?xp_DuplicateName_ScalesDoNotFit ?xp_DuplicateName_ChannelNotAllowed ?xp_DuplicateName_NotReadable ?xp_DuplicateName_TooManyRows ?xp_DuplicateName_TooManyCategories ?xp_DuplicateName_TooManyCases ?xp_DuplicateName_NotComparable ?xp_DuplicateName_NotDecided ?xp_DuplicateName_NothingToRedo ?xp_DuplicateName_NothingToUndo ?xp_DuplicateName_ValueError ?xin_DuplicateName ?xit_DuplicateName ?xil_DuplicateName ?xic_DuplicateName ?xik_DuplicateName ?xl_UnknownName ?xr_UnknownName ?xs_UnknownName ?xk_UnknownName ?xg_UnknownName ?xgg_UnknownName ?xd_UnknownName ?xc_UnknownName ?xm_UnknownName ?xf_UnknownName_reason ?xf_UnknownName_pixels ?xf_UnknownName_name ?xf_UnknownName_count ?xp_UnknownName_ChartError ?xp_UnknownName_DuplicateName ?xp_UnknownName_PictureTooLarge ?xp_UnknownName_PatchDoesNotFit ?xp_UnknownName_ChannelNeeded ?xp_UnknownName_WrongKind ?xp_UnknownName_UnknownName ?xp_UnknownName_ScalesDoNotFit ?xp_UnknownName_ChannelNotAllowed ?xp_UnknownName_NotReadable ?xp_UnknownName_TooManyRows ?xp_UnknownName_TooManyCategories ?xp_UnknownName_TooManyCases ?xp_UnknownName_NotComparable ?xp_UnknownName_NotDecided ?xp_UnknownName_NothingToRedo ?xp_UnknownName_NothingToUndo ?xp_UnknownName_ValueError ?xin_UnknownName ?xit_UnknownName ?xil_UnknownName ?xic_UnknownName ?xik_UnknownName ?xl_WrongKind ?xr_WrongKind ?xs_WrongKind ?xk_WrongKind ?xg_WrongKind ?xgg_WrongKind ?xd_WrongKind ?xc_WrongKind ?xm_WrongKind ?xf_WrongKind_reason ?xf_WrongKind_pixels ?xf_WrongKind_name ?xf_WrongKind_count ?xp_WrongKind_ChartError ?xp_WrongKind_DuplicateName ?xp_WrongKind_PictureTooLarge ?xp_WrongKind_PatchDoesNotFit ?xp_WrongKind_ChannelNeeded ?xp_WrongKind_WrongKind ?xp_WrongKind_UnknownName ?xp_WrongKind_ScalesDoNotFit ?xp_WrongKind_ChannelNotAllowed ?xp_WrongKind_NotReadable ?xp_WrongKind_TooManyRows ?xp_WrongKind_TooManyCategories ?xp_WrongKind_TooManyCases ?xp_WrongKind_NotComparable ?xp_WrongKind_NotDecided ?xp_WrongKind_NothingToRedo ?xp_WrongKind_NothingToUndo ?xp_WrongKind_ValueError ?xin_WrongKind ?xit_WrongKind ?xil_WrongKind ?xic_WrongKind ?xik_WrongKind ?xl_ChannelNeeded ?xr_ChannelNeeded ?xs_ChannelNeeded ?xk_ChannelNeeded ?xg_ChannelNeeded ?xgg_ChannelNeeded ?xd_ChannelNeeded ?xc_ChannelNeeded ?xm_ChannelNeeded ?xf_ChannelNeeded_reason ?xf_ChannelNeeded_pixels ?xf_ChannelNeeded_name ?xf_ChannelNeeded_count ?xp_ChannelNeeded_ChartError ?xp_ChannelNeeded_DuplicateName ?xp_ChannelNeeded_PictureTooLarge ?xp_ChannelNeeded_PatchDoesNotFit ?xp_ChannelNeeded_ChannelNeeded ?xp_ChannelNeeded_WrongKind ?xp_ChannelNeeded_UnknownName ?xp_ChannelNeeded_ScalesDoNotFit ?xp_ChannelNeeded_ChannelNotAllowed ?xp_ChannelNeeded_NotReadable ?xp_ChannelNeeded_TooManyRows ?xp_ChannelNeeded_TooManyCategories ?xp_ChannelNeeded_TooManyCases ?xp_ChannelNeeded_NotComparable ?xp_ChannelNeeded_NotDecided ?xp_ChannelNeeded_NothingToRedo ?xp_ChannelNeeded_NothingToUndo ?xp_ChannelNeeded_ValueError ?xin_ChannelNeeded ?xit_ChannelNeeded ?xil_ChannelNeeded ?xic_ChannelNeeded ?xik_ChannelNeeded ?xl_ChannelNotAllowed ?xr_ChannelNotAllowed ?xs_ChannelNotAllowed ?xk_ChannelNotAllowed ?xg_ChannelNotAllowed ?xgg_ChannelNotAllowed ?xd_ChannelNotAllowed ?xc_ChannelNotAllowed ?xm_ChannelNotAllowed ?xf_ChannelNotAllowed_reason ?xf_ChannelNotAllowed_pixels ?xf_ChannelNotAllowed_name ?xf_ChannelNotAllowed_count ?xp_ChannelNotAllowed_ChartError ?xp_ChannelNotAllowed_DuplicateName ?xp_ChannelNotAllowed_PictureTooLarge ?xp_ChannelNotAllowed_PatchDoesNotFit ?xp_ChannelNotAllowed_ChannelNeeded ?xp_ChannelNotAllowed_WrongKind ?xp_ChannelNotAllowed_UnknownName ?xp_ChannelNotAllowed_ScalesDoNotFit ?xp_ChannelNotAllowed_ChannelNotAllowed ?xp_ChannelNotAllowed_NotReadable ?xp_ChannelNotAllowed_TooManyRows ?xp_ChannelNotAllowed_TooManyCategories ?xp_ChannelNotAllowed_TooManyCases ?xp_ChannelNotAllowed_NotComparable ?xp_ChannelNotAllowed_NotDecided ?xp_ChannelNotAllowed_NothingToRedo ?xp_ChannelNotAllowed_NothingToUndo ?xp_ChannelNotAllowed_ValueError ?xin_ChannelNotAllowed ?xit_ChannelNotAllowed ?xil_ChannelNotAllowed ?xic_ChannelNotAllowed ?xik_ChannelNotAllowed ?xl_ScalesDoNotFit ?xr_ScalesDoNotFit ?xs_ScalesDoNotFit ?xk_ScalesDoNotFit ?xg_ScalesDoNotFit ?xgg_ScalesDoNotFit ?xd_ScalesDoNotFit ?xc_ScalesDoNotFit ?xm_ScalesDoNotFit ?xf_ScalesDoNotFit_reason ?xf_ScalesDoNotFit_pixels ?xf_ScalesDoNotFit_name ?xf_ScalesDoNotFit_count ?xp_ScalesDoNotFit_ChartError ?xp_ScalesDoNotFit_DuplicateName ?xp_ScalesDoNotFit_PictureTooLarge ?xp_ScalesDoNotFit_PatchDoesNotFit ?xp_ScalesDoNotFit_ChannelNeeded ?xp_ScalesDoNotFit_WrongKind ?xp_ScalesDoNotFit_UnknownName ?xp_ScalesDoNotFit_ScalesDoNotFit ?xp_ScalesDoNotFit_ChannelNotAllowed ?xp_ScalesDoNotFit_NotReadable ?xp_ScalesDoNotFit_TooManyRows ?xp_ScalesDoNotFit_TooManyCategories ?xp_ScalesDoNotFit_TooManyCases ?xp_ScalesDoNotFit_NotComparable ?xp_ScalesDoNotFit_NotDecided ?xp_ScalesDoNotFit_NothingToRedo ?xp_ScalesDoNotFit_NothingToUndo ?xp_ScalesDoNotFit_ValueError ?xin_ScalesDoNotFit ?xit_ScalesDoNotFit ?xil_ScalesDoNotFit ?xic_ScalesDoNotFit ?xik_ScalesDoNotFit ?xl_TooManyCategories ?xr_TooManyCategories ?xs_TooManyCategories ?xk_TooManyCategories ?xg_TooManyCategories ?xgg_TooManyCategories ?xd_TooManyCategories ?xc_TooManyCategories ?xm_TooManyCategories ?xf_TooManyCategories_reason ?xf_TooManyCategories_pixels ?xf_TooManyCategories_name ?xf_TooManyCategories_count ?xp_TooManyCategories_ChartError ?xp_TooManyCategories_DuplicateName ?xp_TooManyCategories_PictureTooLarge ?xp_TooManyCategories_PatchDoesNotFit ?xp_TooManyCategories_ChannelNeeded ?xp_TooManyCategories_WrongKind ?xp_TooManyCategories_UnknownName ?xp_TooManyCategories_ScalesDoNotFit ?xp_TooManyCategories_ChannelNotAllowed ?xp_TooManyCategories_NotReadable ?xp_TooManyCategories_TooManyRows ?xp_TooManyCategories_TooManyCategories ?xp_TooManyCategories_TooManyCases ?xp_TooManyCategories_NotComparable ?xp_TooManyCategories_NotDecided ?xp_TooManyCategories_NothingToRedo ?xp_TooManyCategories_NothingToUndo ?xp_TooManyCategories_ValueError ?xin_TooManyCategories ?xit_TooManyCategories ?xil_TooManyCategories ?xic_TooManyCategories ?xik_TooManyCategories ?xl_TooManyRows ?xr_TooManyRows ?xs_TooManyRows ?xk_TooManyRows ?xg_TooManyRows ?xgg_TooManyRows ?xd_TooManyRows ?xc_TooManyRows ?xm_TooManyRows ?xf_TooManyRows_reason ?xf_TooManyRows_pixels ?xf_TooManyRows_name ?xf_TooManyRows_count ?xp_TooManyRows_ChartError ?xp_TooManyRows_DuplicateName ?xp_TooManyRows_PictureTooLarge ?xp_TooManyRows_PatchDoesNotFit ?xp_TooManyRows_ChannelNeeded ?xp_TooManyRows_WrongKind ?xp_TooManyRows_UnknownName ?xp_TooManyRows_ScalesDoNotFit ?xp_TooManyRows_ChannelNotAllowed ?xp_TooManyRows_NotReadable ?xp_TooManyRows_TooManyRows ?xp_TooManyRows_TooManyCategories ?xp_TooManyRows_TooManyCases ?xp_TooManyRows_NotComparable ?xp_TooManyRows_NotDecided ?xp_TooManyRows_NothingToRedo ?xp_TooManyRows_NothingToUndo ?xp_TooManyRows_ValueError ?xin_TooManyRows ?xit_TooManyRows ?xil_TooManyRows ?xic_TooManyRows ?xik_TooManyRows ?xl_NotReadable ?xr_NotReadable ?xs_NotReadable ?xk_NotReadable ?xg_NotReadable ?xgg_NotReadable ?xd_NotReadable ?xc_NotReadable ?xm_NotReadable ?xf_NotReadable_reason ?xf_NotReadable_pixels ?xf_NotReadable_name ?xf_NotReadable_count ?xp_NotReadable_ChartError ?xp_NotReadable_DuplicateName ?xp_NotReadable_PictureTooLarge ?xp_NotReadable_PatchDoesNotFit ?xp_NotReadable_ChannelNeeded ?xp_NotReadable_WrongKind ?xp_NotReadable_UnknownName ?xp_NotReadable_ScalesDoNotFit ?xp_NotReadable_ChannelNotAllowed ?xp_NotReadable_NotReadable ?xp_NotReadable_TooManyRows ?xp_NotReadable_TooManyCategories ?xp_NotReadable_TooManyCases ?xp_NotReadable_NotComparable ?xp_NotReadable_NotDecided ?xp_NotReadable_NothingToRedo ?xp_NotReadable_NothingToUndo ?xp_NotReadable_ValueError ?xin_NotReadable ?xit_NotReadable ?xil_NotReadable ?xic_NotReadable ?xik_NotReadable ?xl_NotDecided ?xr_NotDecided ?xs_NotDecided ?xk_NotDecided ?xg_NotDecided ?xgg_NotDecided ?xd_NotDecided ?xc_NotDecided ?xm_NotDecided ?xf_NotDecided_reason ?xf_NotDecided_pixels ?xf_NotDecided_name ?xf_NotDecided_count ?xp_NotDecided_ChartError ?xp_NotDecided_DuplicateName ?xp_NotDecided_PictureTooLarge ?xp_NotDecided_PatchDoesNotFit ?xp_NotDecided_ChannelNeeded ?xp_NotDecided_WrongKind ?xp_NotDecided_UnknownName ?xp_NotDecided_ScalesDoNotFit ?xp_NotDecided_ChannelNotAllowed ?xp_NotDecided_NotReadable ?xp_NotDecided_TooManyRows ?xp_NotDecided_TooManyCategories ?xp_NotDecided_TooManyCases ?xp_NotDecided_NotComparable ?xp_NotDecided_NotDecided ?xp_NotDecided_NothingToRedo ?xp_NotDecided_NothingToUndo ?xp_NotDecided_ValueError ?xin_NotDecided ?xit_NotDecided ?xil_NotDecided ?xic_NotDecided ?xik_NotDecided ?xl_NotComparable ?xr_NotComparable ?xs_NotComparable ?xk_NotComparable ?xg_NotComparable ?xgg_NotComparable ?xd_NotComparable ?xc_NotComparable ?xm_NotComparable ?xf_NotComparable_reason ?xf_NotComparable_pixels ?xf_NotComparable_name ?xf_NotComparable_count ?xp_NotComparable_ChartError ?xp_NotComparable_DuplicateName ?xp_NotComparable_PictureTooLarge ?xp_NotComparable_PatchDoesNotFit ?xp_NotComparable_ChannelNeeded ?xp_NotComparable_WrongKind ?xp_NotComparable_UnknownName ?xp_NotComparable_ScalesDoNotFit ?xp_NotComparable_ChannelNotAllowed ?xp_NotComparable_NotReadable ?xp_NotComparable_TooManyRows ?xp_NotComparable_TooManyCategories ?xp_NotComparable_TooManyCases ?xp_NotComparable_NotComparable ?xp_NotComparable_NotDecided ?xp_NotComparable_NothingToRedo ?xp_NotComparable_NothingToUndo ?xp_NotComparable_ValueError ?xin_NotComparable ?xit_NotComparable ?xil_NotComparable ?xic_NotComparable ?xik_NotComparable ?xl_TooManyCases ?xr_TooManyCases ?xs_TooManyCases ?xk_TooManyCases ?xg_TooManyCases ?xgg_TooManyCases ?xd_TooManyCases ?xc_TooManyCases ?xm_TooManyCases ?xf_TooManyCases_reason ?xf_TooManyCases_pixels ?xf_TooManyCases_name ?xf_TooManyCases_count ?xp_TooManyCases_ChartError ?xp_TooManyCases_DuplicateName ?xp_TooManyCases_PictureTooLarge ?xp_TooManyCases_PatchDoesNotFit ?xp_TooManyCases_ChannelNeeded ?xp_TooManyCases_WrongKind ?xp_TooManyCases_UnknownName ?xp_TooManyCases_ScalesDoNotFit ?xp_TooManyCases_ChannelNotAllowed ?xp_TooManyCases_NotReadable ?xp_TooManyCases_TooManyRows ?xp_TooManyCases_TooManyCategories ?xp_TooManyCases_TooManyCases ?xp_TooManyCases_NotComparable ?xp_TooManyCases_NotDecided ?xp_TooManyCases_NothingToRedo ?xp_TooManyCases_NothingToUndo ?xp_TooManyCases_ValueError ?xin_TooManyCases ?xit_TooManyCases ?xil_TooManyCases ?xic_TooManyCases ?xik_TooManyCases ?xl_NothingToUndo ?xr_NothingToUndo ?xs_NothingToUndo ?xk_NothingToUndo ?xg_NothingToUndo ?xgg_NothingToUndo ?xd_NothingToUndo ?xc_NothingToUndo ?xm_NothingToUndo ?xf_NothingToUndo_reason ?xf_NothingToUndo_pixels ?xf_NothingToUndo_name ?xf_NothingToUndo_count ?xp_NothingToUndo_ChartError ?xp_NothingToUndo_DuplicateName ?xp_NothingToUndo_PictureTooLarge ?xp_NothingToUndo_PatchDoesNotFit ?xp_NothingToUndo_ChannelNeeded ?xp_NothingToUndo_WrongKind ?xp_NothingToUndo_UnknownName ?xp_NothingToUndo_ScalesDoNotFit ?xp_NothingToUndo_ChannelNotAllowed ?xp_NothingToUndo_NotReadable ?xp_NothingToUndo_TooManyRows ?xp_NothingToUndo_TooManyCategories ?xp_NothingToUndo_TooManyCases ?xp_NothingToUndo_NotComparable ?xp_NothingToUndo_NotDecided ?xp_NothingToUndo_NothingToRedo ?xp_NothingToUndo_NothingToUndo ?xp_NothingToUndo_ValueError ?x0_NothingToUndo ?xl_NothingToRedo ?xr_NothingToRedo ?xs_NothingToRedo ?xk_NothingToRedo ?xg_NothingToRedo ?xgg_NothingToRedo ?xd_NothingToRedo ?xc_NothingToRedo ?xm_NothingToRedo ?xf_NothingToRedo_reason ?xf_NothingToRedo_pixels ?xf_NothingToRedo_name ?xf_NothingToRedo_count ?xp_NothingToRedo_ChartError ?xp_NothingToRedo_DuplicateName ?xp_NothingToRedo_PictureTooLarge ?xp_NothingToRedo_PatchDoesNotFit ?xp_NothingToRedo_ChannelNeeded ?xp_NothingToRedo_WrongKind ?xp_NothingToRedo_UnknownName ?xp_NothingToRedo_ScalesDoNotFit ?xp_NothingToRedo_ChannelNotAllowed ?xp_NothingToRedo_NotReadable ?xp_NothingToRedo_TooManyRows ?xp_NothingToRedo_TooManyCategories ?xp_NothingToRedo_TooManyCases ?xp_NothingToRedo_NotComparable ?xp_NothingToRedo_NotDecided ?xp_NothingToRedo_NothingToRedo ?xp_NothingToRedo_NothingToUndo ?xp_NothingToRedo_ValueError ?x0_NothingToRedo ?xp_ChartError_ChartError ?xve ?a0 ?l0 ?c0 ?k0 ?a1 ?l1 ?c1 ?k1 ?a2 ?l2 ?c2 ?k2 ?a3 ?l3 ?c3 ?k3 ?a4 ?l4 ?c4 ?k4 ?a5 ?l5 ?c5 ?k5 ?z_len ?z_int ?z_abs ?z_min ?z_max ?z_sum ?z_str ?z_repr ?z_list ?z_tuple ?z_range ?z_bool ?z_reversed ?z_enumerate ?z_zip ?z_sorted ?z_any ?z_all ?z_isinstance
    (case xn_PatchDoesNotFit => k_is)
    (case xb_PatchDoesNotFit => k_is)
    (case xt_PatchDoesNotFit => k_is)
    (case xi_PatchDoesNotFit => k_is)
    (case xn_PictureTooLarge => k_is)
    (case xb_PictureTooLarge => k_is)
    (case xt_PictureTooLarge => k_is)
    (case xi_PictureTooLarge => k_is)
    (case xn_DuplicateName => k_is)
    (case xb_DuplicateName => k_is)
    (case xt_DuplicateName => k_is)
    (case xi_DuplicateName => k_is)
    (case xn_UnknownName => k_is)
    (case xb_UnknownName => k_is)
    (case xt_UnknownName => k_is)
    (case xi_UnknownName => k_is)
    (case xn_WrongKind => k_is)
    (case xb_WrongKind => k_is)
    (case xt_WrongKind => k_is)
    (case xi_WrongKind => k_is)
    (case xn_ChannelNeeded => k_is)
    (case xb_ChannelNeeded => k_is)
    (case xt_ChannelNeeded => k_is)
    (case xi_ChannelNeeded => k_is)
    (case xn_ChannelNotAllowed => k_is)
    (case xb_ChannelNotAllowed => k_is)
    (case xt_ChannelNotAllowed => k_is)
    (case xi_ChannelNotAllowed => k_is)
    (case xn_ScalesDoNotFit => k_is)
    (case xb_ScalesDoNotFit => k_is)
    (case xt_ScalesDoNotFit => k_is)
    (case xi_ScalesDoNotFit => k_is)
    (case xn_TooManyCategories => k_is)
    (case xb_TooManyCategories => k_is)
    (case xt_TooManyCategories => k_is)
    (case xi_TooManyCategories => k_is)
    (case xn_TooManyRows => k_is)
    (case xb_TooManyRows => k_is)
    (case xt_TooManyRows => k_is)
    (case xi_TooManyRows => k_is)
    (case xn_NotReadable => k_is)
    (case xb_NotReadable => k_is)
    (case xt_NotReadable => k_is)
    (case xi_NotReadable => k_is)
    (case xn_NotDecided => k_is)
    (case xb_NotDecided => k_is)
    (case xt_NotDecided => k_is)
    (case xi_NotDecided => k_is)
    (case xn_NotComparable => k_is)
    (case xb_NotComparable => k_is)
    (case xt_NotComparable => k_is)
    (case xi_NotComparable => k_is)
    (case xn_TooManyCases => k_is)
    (case xb_TooManyCases => k_is)
    (case xt_TooManyCases => k_is)
    (case xi_TooManyCases => k_is)
    (case xn_NothingToUndo => k_is)
    (case xb_NothingToUndo => k_is)
    (case xt_NothingToUndo => k_is)
    (case xi_NothingToUndo => k_is)
    (case xn_NothingToRedo => k_is)
    (case xb_NothingToRedo => k_is)
    (case xt_NothingToRedo => k_is)
    (case xi_NothingToRedo => k_is)
    (case xn_ChartError => k_is)
    (case xb_ChartError => k_is)
    (case xt_ChartError => k_is)
    (case xi_ChartError => k_is)
    (case xhn => k_is)
    (case xht => k_is)
    (case xl_PatchDoesNotFit => k_is)
    (case xr_PatchDoesNotFit => exact Eq.refl true)
    (case xs_PatchDoesNotFit => k_is)
    (case xk_PatchDoesNotFit => k_is)
    (case xg_PatchDoesNotFit => k_is)
    (case xgg_PatchDoesNotFit => k_is)
    (case xd_PatchDoesNotFit => k_is)
    (case xc_PatchDoesNotFit => k_is)
    (case xm_PatchDoesNotFit => k_is)
    (case xf_PatchDoesNotFit_reason => k_is)
    (case xf_PatchDoesNotFit_pixels => k_is)
    (case xf_PatchDoesNotFit_name => k_is)
    (case xf_PatchDoesNotFit_count => k_is)
    (case xp_PatchDoesNotFit_ChartError => k_is)
    (case xp_PatchDoesNotFit_DuplicateName => k_is)
    (case xp_PatchDoesNotFit_PictureTooLarge => k_is)
    (case xp_PatchDoesNotFit_PatchDoesNotFit => k_is)
    (case xp_PatchDoesNotFit_ChannelNeeded => k_is)
    (case xp_PatchDoesNotFit_WrongKind => k_is)
    (case xp_PatchDoesNotFit_UnknownName => k_is)
    (case xp_PatchDoesNotFit_ScalesDoNotFit => k_is)
    (case xp_PatchDoesNotFit_ChannelNotAllowed => k_is)
    (case xp_PatchDoesNotFit_NotReadable => k_is)
    (case xp_PatchDoesNotFit_TooManyRows => k_is)
    (case xp_PatchDoesNotFit_TooManyCategories => k_is)
    (case xp_PatchDoesNotFit_TooManyCases => k_is)
    (case xp_PatchDoesNotFit_NotComparable => k_is)
    (case xp_PatchDoesNotFit_NotDecided => k_is)
    (case xp_PatchDoesNotFit_NothingToRedo => k_is)
    (case xp_PatchDoesNotFit_NothingToUndo => k_is)
    (case xp_PatchDoesNotFit_ValueError => k_is)
    (case xin_PatchDoesNotFit => k_is)
    (case xit_PatchDoesNotFit => k_is)
    (case xil_PatchDoesNotFit => k_is)
    (case xic_PatchDoesNotFit => k_is)
    (case xik_PatchDoesNotFit => k_is)
    (case xl_PictureTooLarge => k_is)
    (case xr_PictureTooLarge => exact Eq.refl true)
    (case xs_PictureTooLarge => k_is)
    (case xk_PictureTooLarge => k_is)
    (case xg_PictureTooLarge => k_is)
    (case xgg_PictureTooLarge => k_is)
    (case xd_PictureTooLarge => k_is)
    (case xc_PictureTooLarge => k_is)
    (case xm_PictureTooLarge => k_is)
    (case xf_PictureTooLarge_reason => k_is)
    (case xf_PictureTooLarge_pixels => k_is)
    (case xf_PictureTooLarge_name => k_is)
    (case xf_PictureTooLarge_count => k_is)
    (case xp_PictureTooLarge_ChartError => k_is)
    (case xp_PictureTooLarge_DuplicateName => k_is)
    (case xp_PictureTooLarge_PictureTooLarge => k_is)
    (case xp_PictureTooLarge_PatchDoesNotFit => k_is)
    (case xp_PictureTooLarge_ChannelNeeded => k_is)
    (case xp_PictureTooLarge_WrongKind => k_is)
    (case xp_PictureTooLarge_UnknownName => k_is)
    (case xp_PictureTooLarge_ScalesDoNotFit => k_is)
    (case xp_PictureTooLarge_ChannelNotAllowed => k_is)
    (case xp_PictureTooLarge_NotReadable => k_is)
    (case xp_PictureTooLarge_TooManyRows => k_is)
    (case xp_PictureTooLarge_TooManyCategories => k_is)
    (case xp_PictureTooLarge_TooManyCases => k_is)
    (case xp_PictureTooLarge_NotComparable => k_is)
    (case xp_PictureTooLarge_NotDecided => k_is)
    (case xp_PictureTooLarge_NothingToRedo => k_is)
    (case xp_PictureTooLarge_NothingToUndo => k_is)
    (case xp_PictureTooLarge_ValueError => k_is)
    (case xin_PictureTooLarge => k_is)
    (case xit_PictureTooLarge => k_is)
    (case xil_PictureTooLarge => k_is)
    (case xic_PictureTooLarge => k_is)
    (case xik_PictureTooLarge => k_is)
    (case xl_DuplicateName => k_is)
    (case xr_DuplicateName => exact Eq.refl true)
    (case xs_DuplicateName => k_is)
    (case xk_DuplicateName => k_is)
    (case xg_DuplicateName => k_is)
    (case xgg_DuplicateName => k_is)
    (case xd_DuplicateName => k_is)
    (case xc_DuplicateName => k_is)
    (case xm_DuplicateName => k_is)
    (case xf_DuplicateName_reason => k_is)
    (case xf_DuplicateName_pixels => k_is)
    (case xf_DuplicateName_name => k_is)
    (case xf_DuplicateName_count => k_is)
    (case xp_DuplicateName_ChartError => k_is)
    (case xp_DuplicateName_DuplicateName => k_is)
    (case xp_DuplicateName_PictureTooLarge => k_is)
    (case xp_DuplicateName_PatchDoesNotFit => k_is)
    (case xp_DuplicateName_ChannelNeeded => k_is)
    (case xp_DuplicateName_WrongKind => k_is)
    (case xp_DuplicateName_UnknownName => k_is)
    (case xp_DuplicateName_ScalesDoNotFit => k_is)
    (case xp_DuplicateName_ChannelNotAllowed => k_is)
    (case xp_DuplicateName_NotReadable => k_is)
    (case xp_DuplicateName_TooManyRows => k_is)
    (case xp_DuplicateName_TooManyCategories => k_is)
    (case xp_DuplicateName_TooManyCases => k_is)
    (case xp_DuplicateName_NotComparable => k_is)
    (case xp_DuplicateName_NotDecided => k_is)
    (case xp_DuplicateName_NothingToRedo => k_is)
    (case xp_DuplicateName_NothingToUndo => k_is)
    (case xp_DuplicateName_ValueError => k_is)
    (case xin_DuplicateName => k_is)
    (case xit_DuplicateName => k_is)
    (case xil_DuplicateName => k_is)
    (case xic_DuplicateName => k_is)
    (case xik_DuplicateName => k_is)
    (case xl_UnknownName => k_is)
    (case xr_UnknownName => exact Eq.refl true)
    (case xs_UnknownName => k_is)
    (case xk_UnknownName => k_is)
    (case xg_UnknownName => k_is)
    (case xgg_UnknownName => k_is)
    (case xd_UnknownName => k_is)
    (case xc_UnknownName => k_is)
    (case xm_UnknownName => k_is)
    (case xf_UnknownName_reason => k_is)
    (case xf_UnknownName_pixels => k_is)
    (case xf_UnknownName_name => k_is)
    (case xf_UnknownName_count => k_is)
    (case xp_UnknownName_ChartError => k_is)
    (case xp_UnknownName_DuplicateName => k_is)
    (case xp_UnknownName_PictureTooLarge => k_is)
    (case xp_UnknownName_PatchDoesNotFit => k_is)
    (case xp_UnknownName_ChannelNeeded => k_is)
    (case xp_UnknownName_WrongKind => k_is)
    (case xp_UnknownName_UnknownName => k_is)
    (case xp_UnknownName_ScalesDoNotFit => k_is)
    (case xp_UnknownName_ChannelNotAllowed => k_is)
    (case xp_UnknownName_NotReadable => k_is)
    (case xp_UnknownName_TooManyRows => k_is)
    (case xp_UnknownName_TooManyCategories => k_is)
    (case xp_UnknownName_TooManyCases => k_is)
    (case xp_UnknownName_NotComparable => k_is)
    (case xp_UnknownName_NotDecided => k_is)
    (case xp_UnknownName_NothingToRedo => k_is)
    (case xp_UnknownName_NothingToUndo => k_is)
    (case xp_UnknownName_ValueError => k_is)
    (case xin_UnknownName => k_is)
    (case xit_UnknownName => k_is)
    (case xil_UnknownName => k_is)
    (case xic_UnknownName => k_is)
    (case xik_UnknownName => k_is)
    (case xl_WrongKind => k_is)
    (case xr_WrongKind => exact Eq.refl true)
    (case xs_WrongKind => k_is)
    (case xk_WrongKind => k_is)
    (case xg_WrongKind => k_is)
    (case xgg_WrongKind => k_is)
    (case xd_WrongKind => k_is)
    (case xc_WrongKind => k_is)
    (case xm_WrongKind => k_is)
    (case xf_WrongKind_reason => k_is)
    (case xf_WrongKind_pixels => k_is)
    (case xf_WrongKind_name => k_is)
    (case xf_WrongKind_count => k_is)
    (case xp_WrongKind_ChartError => k_is)
    (case xp_WrongKind_DuplicateName => k_is)
    (case xp_WrongKind_PictureTooLarge => k_is)
    (case xp_WrongKind_PatchDoesNotFit => k_is)
    (case xp_WrongKind_ChannelNeeded => k_is)
    (case xp_WrongKind_WrongKind => k_is)
    (case xp_WrongKind_UnknownName => k_is)
    (case xp_WrongKind_ScalesDoNotFit => k_is)
    (case xp_WrongKind_ChannelNotAllowed => k_is)
    (case xp_WrongKind_NotReadable => k_is)
    (case xp_WrongKind_TooManyRows => k_is)
    (case xp_WrongKind_TooManyCategories => k_is)
    (case xp_WrongKind_TooManyCases => k_is)
    (case xp_WrongKind_NotComparable => k_is)
    (case xp_WrongKind_NotDecided => k_is)
    (case xp_WrongKind_NothingToRedo => k_is)
    (case xp_WrongKind_NothingToUndo => k_is)
    (case xp_WrongKind_ValueError => k_is)
    (case xin_WrongKind => k_is)
    (case xit_WrongKind => k_is)
    (case xil_WrongKind => k_is)
    (case xic_WrongKind => k_is)
    (case xik_WrongKind => k_is)
    (case xl_ChannelNeeded => k_is)
    (case xr_ChannelNeeded => exact Eq.refl true)
    (case xs_ChannelNeeded => k_is)
    (case xk_ChannelNeeded => k_is)
    (case xg_ChannelNeeded => k_is)
    (case xgg_ChannelNeeded => k_is)
    (case xd_ChannelNeeded => k_is)
    (case xc_ChannelNeeded => k_is)
    (case xm_ChannelNeeded => k_is)
    (case xf_ChannelNeeded_reason => k_is)
    (case xf_ChannelNeeded_pixels => k_is)
    (case xf_ChannelNeeded_name => k_is)
    (case xf_ChannelNeeded_count => k_is)
    (case xp_ChannelNeeded_ChartError => k_is)
    (case xp_ChannelNeeded_DuplicateName => k_is)
    (case xp_ChannelNeeded_PictureTooLarge => k_is)
    (case xp_ChannelNeeded_PatchDoesNotFit => k_is)
    (case xp_ChannelNeeded_ChannelNeeded => k_is)
    (case xp_ChannelNeeded_WrongKind => k_is)
    (case xp_ChannelNeeded_UnknownName => k_is)
    (case xp_ChannelNeeded_ScalesDoNotFit => k_is)
    (case xp_ChannelNeeded_ChannelNotAllowed => k_is)
    (case xp_ChannelNeeded_NotReadable => k_is)
    (case xp_ChannelNeeded_TooManyRows => k_is)
    (case xp_ChannelNeeded_TooManyCategories => k_is)
    (case xp_ChannelNeeded_TooManyCases => k_is)
    (case xp_ChannelNeeded_NotComparable => k_is)
    (case xp_ChannelNeeded_NotDecided => k_is)
    (case xp_ChannelNeeded_NothingToRedo => k_is)
    (case xp_ChannelNeeded_NothingToUndo => k_is)
    (case xp_ChannelNeeded_ValueError => k_is)
    (case xin_ChannelNeeded => k_is)
    (case xit_ChannelNeeded => k_is)
    (case xil_ChannelNeeded => k_is)
    (case xic_ChannelNeeded => k_is)
    (case xik_ChannelNeeded => k_is)
    (case xl_ChannelNotAllowed => k_is)
    (case xr_ChannelNotAllowed => exact Eq.refl true)
    (case xs_ChannelNotAllowed => k_is)
    (case xk_ChannelNotAllowed => k_is)
    (case xg_ChannelNotAllowed => k_is)
    (case xgg_ChannelNotAllowed => k_is)
    (case xd_ChannelNotAllowed => k_is)
    (case xc_ChannelNotAllowed => k_is)
    (case xm_ChannelNotAllowed => k_is)
    (case xf_ChannelNotAllowed_reason => k_is)
    (case xf_ChannelNotAllowed_pixels => k_is)
    (case xf_ChannelNotAllowed_name => k_is)
    (case xf_ChannelNotAllowed_count => k_is)
    (case xp_ChannelNotAllowed_ChartError => k_is)
    (case xp_ChannelNotAllowed_DuplicateName => k_is)
    (case xp_ChannelNotAllowed_PictureTooLarge => k_is)
    (case xp_ChannelNotAllowed_PatchDoesNotFit => k_is)
    (case xp_ChannelNotAllowed_ChannelNeeded => k_is)
    (case xp_ChannelNotAllowed_WrongKind => k_is)
    (case xp_ChannelNotAllowed_UnknownName => k_is)
    (case xp_ChannelNotAllowed_ScalesDoNotFit => k_is)
    (case xp_ChannelNotAllowed_ChannelNotAllowed => k_is)
    (case xp_ChannelNotAllowed_NotReadable => k_is)
    (case xp_ChannelNotAllowed_TooManyRows => k_is)
    (case xp_ChannelNotAllowed_TooManyCategories => k_is)
    (case xp_ChannelNotAllowed_TooManyCases => k_is)
    (case xp_ChannelNotAllowed_NotComparable => k_is)
    (case xp_ChannelNotAllowed_NotDecided => k_is)
    (case xp_ChannelNotAllowed_NothingToRedo => k_is)
    (case xp_ChannelNotAllowed_NothingToUndo => k_is)
    (case xp_ChannelNotAllowed_ValueError => k_is)
    (case xin_ChannelNotAllowed => k_is)
    (case xit_ChannelNotAllowed => k_is)
    (case xil_ChannelNotAllowed => k_is)
    (case xic_ChannelNotAllowed => k_is)
    (case xik_ChannelNotAllowed => k_is)
    (case xl_ScalesDoNotFit => k_is)
    (case xr_ScalesDoNotFit => exact Eq.refl true)
    (case xs_ScalesDoNotFit => k_is)
    (case xk_ScalesDoNotFit => k_is)
    (case xg_ScalesDoNotFit => k_is)
    (case xgg_ScalesDoNotFit => k_is)
    (case xd_ScalesDoNotFit => k_is)
    (case xc_ScalesDoNotFit => k_is)
    (case xm_ScalesDoNotFit => k_is)
    (case xf_ScalesDoNotFit_reason => k_is)
    (case xf_ScalesDoNotFit_pixels => k_is)
    (case xf_ScalesDoNotFit_name => k_is)
    (case xf_ScalesDoNotFit_count => k_is)
    (case xp_ScalesDoNotFit_ChartError => k_is)
    (case xp_ScalesDoNotFit_DuplicateName => k_is)
    (case xp_ScalesDoNotFit_PictureTooLarge => k_is)
    (case xp_ScalesDoNotFit_PatchDoesNotFit => k_is)
    (case xp_ScalesDoNotFit_ChannelNeeded => k_is)
    (case xp_ScalesDoNotFit_WrongKind => k_is)
    (case xp_ScalesDoNotFit_UnknownName => k_is)
    (case xp_ScalesDoNotFit_ScalesDoNotFit => k_is)
    (case xp_ScalesDoNotFit_ChannelNotAllowed => k_is)
    (case xp_ScalesDoNotFit_NotReadable => k_is)
    (case xp_ScalesDoNotFit_TooManyRows => k_is)
    (case xp_ScalesDoNotFit_TooManyCategories => k_is)
    (case xp_ScalesDoNotFit_TooManyCases => k_is)
    (case xp_ScalesDoNotFit_NotComparable => k_is)
    (case xp_ScalesDoNotFit_NotDecided => k_is)
    (case xp_ScalesDoNotFit_NothingToRedo => k_is)
    (case xp_ScalesDoNotFit_NothingToUndo => k_is)
    (case xp_ScalesDoNotFit_ValueError => k_is)
    (case xin_ScalesDoNotFit => k_is)
    (case xit_ScalesDoNotFit => k_is)
    (case xil_ScalesDoNotFit => k_is)
    (case xic_ScalesDoNotFit => k_is)
    (case xik_ScalesDoNotFit => k_is)
    (case xl_TooManyCategories => k_is)
    (case xr_TooManyCategories => exact Eq.refl true)
    (case xs_TooManyCategories => k_is)
    (case xk_TooManyCategories => k_is)
    (case xg_TooManyCategories => k_is)
    (case xgg_TooManyCategories => k_is)
    (case xd_TooManyCategories => k_is)
    (case xc_TooManyCategories => k_is)
    (case xm_TooManyCategories => k_is)
    (case xf_TooManyCategories_reason => k_is)
    (case xf_TooManyCategories_pixels => k_is)
    (case xf_TooManyCategories_name => k_is)
    (case xf_TooManyCategories_count => k_is)
    (case xp_TooManyCategories_ChartError => k_is)
    (case xp_TooManyCategories_DuplicateName => k_is)
    (case xp_TooManyCategories_PictureTooLarge => k_is)
    (case xp_TooManyCategories_PatchDoesNotFit => k_is)
    (case xp_TooManyCategories_ChannelNeeded => k_is)
    (case xp_TooManyCategories_WrongKind => k_is)
    (case xp_TooManyCategories_UnknownName => k_is)
    (case xp_TooManyCategories_ScalesDoNotFit => k_is)
    (case xp_TooManyCategories_ChannelNotAllowed => k_is)
    (case xp_TooManyCategories_NotReadable => k_is)
    (case xp_TooManyCategories_TooManyRows => k_is)
    (case xp_TooManyCategories_TooManyCategories => k_is)
    (case xp_TooManyCategories_TooManyCases => k_is)
    (case xp_TooManyCategories_NotComparable => k_is)
    (case xp_TooManyCategories_NotDecided => k_is)
    (case xp_TooManyCategories_NothingToRedo => k_is)
    (case xp_TooManyCategories_NothingToUndo => k_is)
    (case xp_TooManyCategories_ValueError => k_is)
    (case xin_TooManyCategories => k_is)
    (case xit_TooManyCategories => k_is)
    (case xil_TooManyCategories => k_is)
    (case xic_TooManyCategories => k_is)
    (case xik_TooManyCategories => k_is)
    (case xl_TooManyRows => k_is)
    (case xr_TooManyRows => exact Eq.refl true)
    (case xs_TooManyRows => k_is)
    (case xk_TooManyRows => k_is)
    (case xg_TooManyRows => k_is)
    (case xgg_TooManyRows => k_is)
    (case xd_TooManyRows => k_is)
    (case xc_TooManyRows => k_is)
    (case xm_TooManyRows => k_is)
    (case xf_TooManyRows_reason => k_is)
    (case xf_TooManyRows_pixels => k_is)
    (case xf_TooManyRows_name => k_is)
    (case xf_TooManyRows_count => k_is)
    (case xp_TooManyRows_ChartError => k_is)
    (case xp_TooManyRows_DuplicateName => k_is)
    (case xp_TooManyRows_PictureTooLarge => k_is)
    (case xp_TooManyRows_PatchDoesNotFit => k_is)
    (case xp_TooManyRows_ChannelNeeded => k_is)
    (case xp_TooManyRows_WrongKind => k_is)
    (case xp_TooManyRows_UnknownName => k_is)
    (case xp_TooManyRows_ScalesDoNotFit => k_is)
    (case xp_TooManyRows_ChannelNotAllowed => k_is)
    (case xp_TooManyRows_NotReadable => k_is)
    (case xp_TooManyRows_TooManyRows => k_is)
    (case xp_TooManyRows_TooManyCategories => k_is)
    (case xp_TooManyRows_TooManyCases => k_is)
    (case xp_TooManyRows_NotComparable => k_is)
    (case xp_TooManyRows_NotDecided => k_is)
    (case xp_TooManyRows_NothingToRedo => k_is)
    (case xp_TooManyRows_NothingToUndo => k_is)
    (case xp_TooManyRows_ValueError => k_is)
    (case xin_TooManyRows => k_is)
    (case xit_TooManyRows => k_is)
    (case xil_TooManyRows => k_is)
    (case xic_TooManyRows => k_is)
    (case xik_TooManyRows => k_is)
    (case xl_NotReadable => k_is)
    (case xr_NotReadable => exact Eq.refl true)
    (case xs_NotReadable => k_is)
    (case xk_NotReadable => k_is)
    (case xg_NotReadable => k_is)
    (case xgg_NotReadable => k_is)
    (case xd_NotReadable => k_is)
    (case xc_NotReadable => k_is)
    (case xm_NotReadable => k_is)
    (case xf_NotReadable_reason => k_is)
    (case xf_NotReadable_pixels => k_is)
    (case xf_NotReadable_name => k_is)
    (case xf_NotReadable_count => k_is)
    (case xp_NotReadable_ChartError => k_is)
    (case xp_NotReadable_DuplicateName => k_is)
    (case xp_NotReadable_PictureTooLarge => k_is)
    (case xp_NotReadable_PatchDoesNotFit => k_is)
    (case xp_NotReadable_ChannelNeeded => k_is)
    (case xp_NotReadable_WrongKind => k_is)
    (case xp_NotReadable_UnknownName => k_is)
    (case xp_NotReadable_ScalesDoNotFit => k_is)
    (case xp_NotReadable_ChannelNotAllowed => k_is)
    (case xp_NotReadable_NotReadable => k_is)
    (case xp_NotReadable_TooManyRows => k_is)
    (case xp_NotReadable_TooManyCategories => k_is)
    (case xp_NotReadable_TooManyCases => k_is)
    (case xp_NotReadable_NotComparable => k_is)
    (case xp_NotReadable_NotDecided => k_is)
    (case xp_NotReadable_NothingToRedo => k_is)
    (case xp_NotReadable_NothingToUndo => k_is)
    (case xp_NotReadable_ValueError => k_is)
    (case xin_NotReadable => k_is)
    (case xit_NotReadable => k_is)
    (case xil_NotReadable => k_is)
    (case xic_NotReadable => k_is)
    (case xik_NotReadable => k_is)
    (case xl_NotDecided => k_is)
    (case xr_NotDecided => exact Eq.refl true)
    (case xs_NotDecided => k_is)
    (case xk_NotDecided => k_is)
    (case xg_NotDecided => k_is)
    (case xgg_NotDecided => k_is)
    (case xd_NotDecided => k_is)
    (case xc_NotDecided => k_is)
    (case xm_NotDecided => k_is)
    (case xf_NotDecided_reason => k_is)
    (case xf_NotDecided_pixels => k_is)
    (case xf_NotDecided_name => k_is)
    (case xf_NotDecided_count => k_is)
    (case xp_NotDecided_ChartError => k_is)
    (case xp_NotDecided_DuplicateName => k_is)
    (case xp_NotDecided_PictureTooLarge => k_is)
    (case xp_NotDecided_PatchDoesNotFit => k_is)
    (case xp_NotDecided_ChannelNeeded => k_is)
    (case xp_NotDecided_WrongKind => k_is)
    (case xp_NotDecided_UnknownName => k_is)
    (case xp_NotDecided_ScalesDoNotFit => k_is)
    (case xp_NotDecided_ChannelNotAllowed => k_is)
    (case xp_NotDecided_NotReadable => k_is)
    (case xp_NotDecided_TooManyRows => k_is)
    (case xp_NotDecided_TooManyCategories => k_is)
    (case xp_NotDecided_TooManyCases => k_is)
    (case xp_NotDecided_NotComparable => k_is)
    (case xp_NotDecided_NotDecided => k_is)
    (case xp_NotDecided_NothingToRedo => k_is)
    (case xp_NotDecided_NothingToUndo => k_is)
    (case xp_NotDecided_ValueError => k_is)
    (case xin_NotDecided => k_is)
    (case xit_NotDecided => k_is)
    (case xil_NotDecided => k_is)
    (case xic_NotDecided => k_is)
    (case xik_NotDecided => k_is)
    (case xl_NotComparable => k_is)
    (case xr_NotComparable => exact Eq.refl true)
    (case xs_NotComparable => k_is)
    (case xk_NotComparable => k_is)
    (case xg_NotComparable => k_is)
    (case xgg_NotComparable => k_is)
    (case xd_NotComparable => k_is)
    (case xc_NotComparable => k_is)
    (case xm_NotComparable => k_is)
    (case xf_NotComparable_reason => k_is)
    (case xf_NotComparable_pixels => k_is)
    (case xf_NotComparable_name => k_is)
    (case xf_NotComparable_count => k_is)
    (case xp_NotComparable_ChartError => k_is)
    (case xp_NotComparable_DuplicateName => k_is)
    (case xp_NotComparable_PictureTooLarge => k_is)
    (case xp_NotComparable_PatchDoesNotFit => k_is)
    (case xp_NotComparable_ChannelNeeded => k_is)
    (case xp_NotComparable_WrongKind => k_is)
    (case xp_NotComparable_UnknownName => k_is)
    (case xp_NotComparable_ScalesDoNotFit => k_is)
    (case xp_NotComparable_ChannelNotAllowed => k_is)
    (case xp_NotComparable_NotReadable => k_is)
    (case xp_NotComparable_TooManyRows => k_is)
    (case xp_NotComparable_TooManyCategories => k_is)
    (case xp_NotComparable_TooManyCases => k_is)
    (case xp_NotComparable_NotComparable => k_is)
    (case xp_NotComparable_NotDecided => k_is)
    (case xp_NotComparable_NothingToRedo => k_is)
    (case xp_NotComparable_NothingToUndo => k_is)
    (case xp_NotComparable_ValueError => k_is)
    (case xin_NotComparable => k_is)
    (case xit_NotComparable => k_is)
    (case xil_NotComparable => k_is)
    (case xic_NotComparable => k_is)
    (case xik_NotComparable => k_is)
    (case xl_TooManyCases => k_is)
    (case xr_TooManyCases => exact Eq.refl true)
    (case xs_TooManyCases => k_is)
    (case xk_TooManyCases => k_is)
    (case xg_TooManyCases => k_is)
    (case xgg_TooManyCases => k_is)
    (case xd_TooManyCases => k_is)
    (case xc_TooManyCases => k_is)
    (case xm_TooManyCases => k_is)
    (case xf_TooManyCases_reason => k_is)
    (case xf_TooManyCases_pixels => k_is)
    (case xf_TooManyCases_name => k_is)
    (case xf_TooManyCases_count => k_is)
    (case xp_TooManyCases_ChartError => k_is)
    (case xp_TooManyCases_DuplicateName => k_is)
    (case xp_TooManyCases_PictureTooLarge => k_is)
    (case xp_TooManyCases_PatchDoesNotFit => k_is)
    (case xp_TooManyCases_ChannelNeeded => k_is)
    (case xp_TooManyCases_WrongKind => k_is)
    (case xp_TooManyCases_UnknownName => k_is)
    (case xp_TooManyCases_ScalesDoNotFit => k_is)
    (case xp_TooManyCases_ChannelNotAllowed => k_is)
    (case xp_TooManyCases_NotReadable => k_is)
    (case xp_TooManyCases_TooManyRows => k_is)
    (case xp_TooManyCases_TooManyCategories => k_is)
    (case xp_TooManyCases_TooManyCases => k_is)
    (case xp_TooManyCases_NotComparable => k_is)
    (case xp_TooManyCases_NotDecided => k_is)
    (case xp_TooManyCases_NothingToRedo => k_is)
    (case xp_TooManyCases_NothingToUndo => k_is)
    (case xp_TooManyCases_ValueError => k_is)
    (case xin_TooManyCases => k_is)
    (case xit_TooManyCases => k_is)
    (case xil_TooManyCases => k_is)
    (case xic_TooManyCases => k_is)
    (case xik_TooManyCases => k_is)
    (case xl_NothingToUndo => k_is)
    (case xr_NothingToUndo => exact Eq.refl true)
    (case xs_NothingToUndo => k_is)
    (case xk_NothingToUndo => k_is)
    (case xg_NothingToUndo => k_is)
    (case xgg_NothingToUndo => k_is)
    (case xd_NothingToUndo => k_is)
    (case xc_NothingToUndo => k_is)
    (case xm_NothingToUndo => k_is)
    (case xf_NothingToUndo_reason => k_is)
    (case xf_NothingToUndo_pixels => k_is)
    (case xf_NothingToUndo_name => k_is)
    (case xf_NothingToUndo_count => k_is)
    (case xp_NothingToUndo_ChartError => k_is)
    (case xp_NothingToUndo_DuplicateName => k_is)
    (case xp_NothingToUndo_PictureTooLarge => k_is)
    (case xp_NothingToUndo_PatchDoesNotFit => k_is)
    (case xp_NothingToUndo_ChannelNeeded => k_is)
    (case xp_NothingToUndo_WrongKind => k_is)
    (case xp_NothingToUndo_UnknownName => k_is)
    (case xp_NothingToUndo_ScalesDoNotFit => k_is)
    (case xp_NothingToUndo_ChannelNotAllowed => k_is)
    (case xp_NothingToUndo_NotReadable => k_is)
    (case xp_NothingToUndo_TooManyRows => k_is)
    (case xp_NothingToUndo_TooManyCategories => k_is)
    (case xp_NothingToUndo_TooManyCases => k_is)
    (case xp_NothingToUndo_NotComparable => k_is)
    (case xp_NothingToUndo_NotDecided => k_is)
    (case xp_NothingToUndo_NothingToRedo => k_is)
    (case xp_NothingToUndo_NothingToUndo => k_is)
    (case xp_NothingToUndo_ValueError => k_is)
    (case x0_NothingToUndo => kernel_rfl)
    (case xl_NothingToRedo => k_is)
    (case xr_NothingToRedo => exact Eq.refl true)
    (case xs_NothingToRedo => k_is)
    (case xk_NothingToRedo => k_is)
    (case xg_NothingToRedo => k_is)
    (case xgg_NothingToRedo => k_is)
    (case xd_NothingToRedo => k_is)
    (case xc_NothingToRedo => k_is)
    (case xm_NothingToRedo => k_is)
    (case xf_NothingToRedo_reason => k_is)
    (case xf_NothingToRedo_pixels => k_is)
    (case xf_NothingToRedo_name => k_is)
    (case xf_NothingToRedo_count => k_is)
    (case xp_NothingToRedo_ChartError => k_is)
    (case xp_NothingToRedo_DuplicateName => k_is)
    (case xp_NothingToRedo_PictureTooLarge => k_is)
    (case xp_NothingToRedo_PatchDoesNotFit => k_is)
    (case xp_NothingToRedo_ChannelNeeded => k_is)
    (case xp_NothingToRedo_WrongKind => k_is)
    (case xp_NothingToRedo_UnknownName => k_is)
    (case xp_NothingToRedo_ScalesDoNotFit => k_is)
    (case xp_NothingToRedo_ChannelNotAllowed => k_is)
    (case xp_NothingToRedo_NotReadable => k_is)
    (case xp_NothingToRedo_TooManyRows => k_is)
    (case xp_NothingToRedo_TooManyCategories => k_is)
    (case xp_NothingToRedo_TooManyCases => k_is)
    (case xp_NothingToRedo_NotComparable => k_is)
    (case xp_NothingToRedo_NotDecided => k_is)
    (case xp_NothingToRedo_NothingToRedo => k_is)
    (case xp_NothingToRedo_NothingToUndo => k_is)
    (case xp_NothingToRedo_ValueError => k_is)
    (case x0_NothingToRedo => kernel_rfl)
    (case xp_ChartError_ChartError => k_is)
    (case xve => k_is)
    (case a0 => k_is)
    (case l0 => k_is)
    (case c0 => k_is)
    (case k0 => k_is)
    (case a1 => k_is)
    (case l1 => k_is)
    (case c1 => k_is)
    (case k1 => k_is)
    (case a2 => k_is)
    (case l2 => k_is)
    (case c2 => k_is)
    (case k2 => k_is)
    (case a3 => k_is)
    (case l3 => k_is)
    (case c3 => k_is)
    (case k3 => k_is)
    (case a4 => k_is)
    (case l4 => k_is)
    (case c4 => k_is)
    (case k4 => k_is)
    (case a5 => k_is)
    (case l5 => k_is)
    (case c5 => k_is)
    (case k5 => k_is)
    (case z_len => k_is)
    (case z_int => k_is)
    (case z_abs => k_is)
    (case z_min => k_is)
    (case z_max => k_is)
    (case z_sum => k_is)
    (case z_str => k_is)
    (case z_repr => k_is)
    (case z_list => k_is)
    (case z_tuple => k_is)
    (case z_range => k_is)
    (case z_bool => k_is)
    (case z_reversed => k_is)
    (case z_enumerate => k_is)
    (case z_zip => k_is)
    (case z_sorted => k_is)
    (case z_any => k_is)
    (case z_all => k_is)
    (case z_isinstance => k_is)
#print axioms PySem.Challenge.cw_chartspec_k39_errors_stand_apart_holds
