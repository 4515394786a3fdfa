import PyProof.Rows.All
import Wide.All
import OpenK.AllK
import Wide.FinOn
import HandS.ForMost
import HandS.Wide
import HandS.WideMore
import HandS.TupAny
import HandS.TupLe
import HandS.Style
import HandS.Flow
import HandS.Rev
import HandS.IsInst
import HandS.RaiseMore
import HandS.Deep
import HandS.Gcd
import HandS.Iter
import HandS.Conv
import KE.DatumOrd
import KE.KDictKeyed
import KE.KDictCopyH
import KE.KDictWalk
import HandS.DictComp
import HandS.TupLen
import HandS.SetKeys
import HandS.More
import HandS.TupMul
import HandS.TupSets
import HandS.Exc
import HandS.ExcInit
import HandS.ExcField
import HandS.ExcIs
import HandS.ExcOwn
import HandS.WordsExc
import KE.KExcIs
import HandS.TryOnly
import HandS.SortInts
import KE.KDictZip
import KE.GoesMore
import KE.DataAny
import HandS.Text
import HandS.Replace
import HandS.StrMore
import HandS.FStr
import KE.IntTextLaws
import HandS.ReplaceLit
import KE.KRevSl
import PyProof.Rows.StrStrike
import PySem.Challenge.RW_chartspec_k21_number_labels_read_back
set_option Elab.async false
set_option linter.all false
set_option maxRecDepth 100000

/-! DL: values as data (D), a store of lists (Sto), and what is asked of each construct over them: no program, no machine in sight. -/
namespace DL
open PySem

inductive D where
  | non
  | bl (b : Bool)
  | int (i : Int)
  | str (x : Str)
  | tup (xs : List D)
  | ref (a : Addr)
  /-- a list that nobody changes (the script) -/
  | frz (xs : List D)
  | ty (n : String)
  /-- a caught exception: it stands at a, its dict at d, with the one field f -/
  | exc (a d : Addr) (f : Str) (v : D)

/-- an object of the store: a list that may change; the law's tape, over the list at q -/
inductive LO where
  | lst (xs : List D)
  | tape (q : Addr)
  /-- a dict: the object as it stands, its keys and values -/
  | dic (o : Obj) (kvs : List (D × D))
  /-- a set of tuples: the object as it stands, its members -/
  | st (o : Obj) (ks : List D)

/-! ### keys of dicts -/
mutual
def nkD : D → NestedKey
  | .non => .none
  | .bl b => .num (if b = true then 1 else 0)
  | .int i => .num i
  | .str x => .text x
  | .tup xs => .tup (nkDs xs)
  | .ref _ | .frz _ | .ty _ | .exc _ _ _ _ => .none
def nkDs : List D → List NestedKey
  | [] => []
  | x :: xs => nkD x :: nkDs xs
end
mutual
/-- what may stand in a key -/
def kyD : D → Bool
  | .non | .bl _ | .int _ | .str _ => true
  | .tup xs => kyDs xs
  | .ref _ | .frz _ | .ty _ | .exc _ _ _ _ => false
def kyDs : List D → Bool
  | [] => true
  | x :: xs => kyD x && kyDs xs
end
/-- a key that is a tuple; one that is none -/
def keyT (d : D) : Bool := match d with
  | .tup xs => kyDs xs && decide ((nkD d).depth ≤ 8)
  | _ => false
def keyL : D → Bool
  | .non | .int _ | .str _ => true
  | _ => false
def leafD : D → Leaf
  | .int i => .num i
  | .str x => .text x
  | _ => .none
/-- a key that fits a dict's keys -/
def keyOk (kvs : List (D × D)) (k : D) : Bool := (keyT k && kvs.all fun kv => keyT kv.1) || (keyL k && kvs.all fun kv => keyL kv.1)
def dicGet (kvs : List (D × D)) (k : D) : Option D := (kvs.find? fun kv => decide (nkD kv.1 = nkD k)).map (·.2)
def dicPut (kvs : List (D × D)) (k v : D) : List (D × D) :=
  if (dicGet kvs k).isSome then kvs.map fun kv => if nkD kv.1 = nkD k then (kv.1, v) else kv else kvs ++ [(k, v)]

abbrev Sto := List (Addr × LO)
def sget : Sto → Addr → Option LO
  | [], _ => none
  | (p, o) :: r, a => if a = p then some o else sget r a
def sset : Sto → Addr → LO → Sto
  | [], _, _ => []
  | (p, o') :: r, a, o => if a = p then (p, o) :: r else (p, o') :: sset r a o

theorem sget_nil (a : Addr) : sget [] a = none := rfl
theorem sget_cons (p : Addr) (o : LO) (r : Sto) (a : Addr) : sget ((p, o) :: r) a = if a = p then some o else sget r a := rfl
theorem sget_self (p : Addr) (o : LO) (r : Sto) : sget ((p, o) :: r) p = some o := by rw [sget_cons, if_pos rfl]
theorem sget_ne {p a : Addr} {o : LO} {r : Sto} (h : a ≠ p) : sget ((p, o) :: r) a = sget r a := by rw [sget_cons, if_neg h]
theorem sset_self (p : Addr) (o o' : LO) (r : Sto) : sset ((p, o') :: r) p o = (p, o) :: r := by
  show (if p = p then _ else _) = _
  rw [if_pos rfl]
theorem sset_ne {p a : Addr} {o o' : LO} {r : Sto} (h : a ≠ p) : sset ((p, o') :: r) a o = (p, o') :: sset r a o := by
  show (if a = p then _ else _) = _
  rw [if_neg h]
theorem sset_cons (p : Addr) (o' : LO) (r : Sto) (a : Addr) (o : LO) : sset ((p, o') :: r) a o = if a = p then (p, o) :: r else (p, o') :: sset r a o := rfl
theorem sget_sset : ∀ (S : Sto) (a b : Addr) (o : LO), (sget S a).isSome = true → sget (sset S a o) b = if b = a then some o else sget S b
  | [], a, b, o, h => by cases h
  | (p, u) :: r, a, b, o, h => by
    by_cases hp : a = p
    · subst hp
      rw [sset_self, sget_cons, sget_cons]
      by_cases hb : b = a
      · rw [if_pos hb, if_pos hb]
      · rw [if_neg hb, if_neg hb, if_neg hb]
    · rw [sset_ne hp, sget_cons]
      rw [sget_ne hp] at h
      by_cases hb : b = p
      · subst hb
        rw [if_pos rfl, if_neg (Ne.symm hp), sget_self]
      · rw [if_neg hb, sget_sset r a b o h, sget_ne hb]

/-- with the list at a -/
def onL (S : Sto) (a : Addr) (k : List D → Prop) : Prop := match sget S a with
  | some (.lst xs) => k xs
  | _ => False
theorem onL_iff {S : Sto} {a : Addr} {k : List D → Prop} : onL S a k ↔ ∃ xs, sget S a = some (.lst xs) ∧ k xs := by
  unfold onL
  constructor
  · intro h
    split at h
    · exact ⟨_, ‹_›, h⟩
    · exact h.elim
  · rintro ⟨xs, e, h⟩
    rw [e]
    exact h
theorem onL_in {S : Sto} {a : Addr} {k : List D → Prop} {xs : List D} (e : sget S a = some (.lst xs)) (h : k xs) : onL S a k := onL_iff.mpr ⟨xs, e, h⟩
/-- all that S0 names, S1 names alike -/
def Sub (S0 S1 : Sto) : Prop := ∀ a o, sget S0 a = some o → sget S1 a = some o
theorem Sub.refl (S : Sto) : Sub S S := fun _ _ h => h
theorem Sub.trans {S0 S1 S2 : Sto} (a : Sub S0 S1) (b : Sub S1 S2) : Sub S0 S2 := fun c o h => b c o (a c o h)
theorem Sub.new {S : Sto} {p : Addr} {o : LO} (h : sget S p = none) : Sub S ((p, o) :: S) := fun a u e => by
  rw [sget_ne (fun z => by subst z; rw [h] at e; cases e)]
  exact e
/-- P holds once some of the store is forgotten -/
structure UpS (P : Sto → Prop) (S' : Sto) : Prop where
  ex : ∃ S0, Sub S0 S' ∧ P S0
theorem UpS.here {P : Sto → Prop} {S : Sto} (h : P S) : UpS P S := ⟨S, .refl S, h⟩
theorem UpS.new {P : Sto → Prop} {S : Sto} {p : Addr} {o : LO} (hp : sget S p = none) (h : UpS P S) : UpS P ((p, o) :: S) := by
  obtain ⟨S0, a, b⟩ := h.ex
  exact ⟨S0, a.trans (.new hp), b⟩
theorem UpS.sub {P : Sto → Prop} {S S' : Sto} (h : UpS P S) (s : Sub S S') : UpS P S' := by
  obtain ⟨S0, a, b⟩ := h.ex
  exact ⟨S0, a.trans s, b⟩
/-- one of two, by a truth value (it stays as it is until the value is known) -/
def ifB (b : Bool) (A B : Prop) : Prop := match b with
  | true => A
  | false => B
theorem ifB_in {b : Bool} {A B : Prop} (h1 : b = true → A) (h2 : b = false → B) : ifB b A B := by
  cases b with
  | true => exact h1 rfl
  | false => exact h2 rfl
theorem ifB_dec {c : Prop} [Decidable c] {A B : Prop} (h1 : c → A) (h2 : ¬ c → B) : ifB (decide c) A B := ifB_in (fun h => h1 (of_decide_eq_true h)) fun h => h2 (of_decide_eq_false h)
theorem ifB_ndec {c : Prop} [Decidable c] {A B : Prop} (h1 : ¬ c → A) (h2 : c → B) : ifB (!decide c) A B := ifB_in (fun h => h1 (by simpa using h)) fun h => h2 (by simpa using h)
theorem ifB_t {b : Bool} {A B : Prop} (e : b = true) (h : A) : ifB b A B := by rw [e]; exact h
theorem ifB_f {b : Bool} {A B : Prop} (e : b = false) (h : B) : ifB b A B := by rw [e]; exact h
abbrev EV := List (Option D)
abbrev WQ := D → Sto → Prop
abbrev WE := EV → Sto → WQ → Prop
abbrev WT := EV → Sto → (Bool → Sto → Prop) → Prop
abbrev WA := EV → Sto → (List D → Sto → Prop) → Prop
abbrev WO := EV → Sto → (Option Int → Sto → Prop) → Prop
structure En where
  nx : EV → Sto → Prop
  rt : WQ
  bk : EV → Sto → Prop := fun _ _ => False
  ct : EV → Sto → Prop := fun _ _ => False
abbrev WS := En → EV → Sto → Prop
abbrev WG := D → EV → Sto → (EV → Sto → Prop) → Prop
abbrev WGs := List D → EV → Sto → (EV → Sto → Prop) → Prop
/-- what a loop walks: its items, and what must stay so at each turn -/
structure It where
  xs : List D
  chk : Sto → Prop := fun _ => True
abbrev WI := EV → Sto → (It → Sto → Prop) → Prop
/-- what a def is asked: its arguments, the store, the wish -/
abbrev WF := List D → Sto → WQ → Prop

/-! ### names, constants -/
def eVar (i : Nat) : WE := fun env S Q => match env[i]? with
  | some (some d) => Q d S
  | _ => False
def eC (d : D) : WE := fun _ S Q => Q d S

/-! ### numbers, texts, tuples, lists under + - * // % -/
/-- the size that a product may have -/
def mulOk (i j : Int) : Prop := i.natAbs < 2 ^ 64 ∨ j.natAbs < 2 ^ 64 ∨ i.natAbs.log2 + j.natAbs.log2 ≤ 900000
def dAdd (x y : D) (S : Sto) (Q : WQ) : Prop := match x, y with
  | .int i, .int j => Q (.int (i + j)) S
  | .int i, .bl b => Q (.int (i + if b then 1 else 0)) S
  | .str a, .str b => a.length + b.length ≤ sizeLine ∧ Q (.str (a ++ b)) S
  | .tup a, .tup b => a.length + b.length ≤ sizeLine ∧ Q (.tup (a ++ b)) S
  | .ref a, .ref b => onL S a fun xs => onL S b fun ys => xs.length + ys.length ≤ sizeLine ∧ ∀ p, sget S p = none → Q (.ref p) ((p, .lst (xs ++ ys)) :: S)
  | _, _ => False
def dSub (x y : D) (S : Sto) (Q : WQ) : Prop := match x, y with
  | .int i, .int j => Q (.int (i - j)) S
  | _, _ => False
def dMul (x y : D) (S : Sto) (Q : WQ) : Prop := match x, y with
  | .int i, .int j => mulOk i j ∧ Q (.int (i * j)) S
  | .str z, .int k => (-(2 ^ 63) ≤ k ∧ k < 2 ^ 63 ∧ z.length * k.toNat ≤ sizeLine) ∧ Q (.str (Txt.mul z k)) S
  | .ref a, .int k => onL S a fun xs => (-(2 ^ 63) ≤ k ∧ k < 2 ^ 63 ∧ xs.length * k.toNat ≤ sizeLine) ∧ ∀ p, sget S p = none → Q (.ref p) ((p, .lst (List.replicate k.toNat xs).flatten) :: S)
  | .tup xs, .int k => (xs ≠ [] ∧ 2 ≤ k ∧ k ≤ 1000 ∧ xs.length ≤ 1000) ∧ Q (.tup (List.replicate k.toNat xs).flatten) S
  | _, _ => False
def dDiv (x y : D) (S : Sto) (Q : WQ) : Prop := match x, y with
  | .int i, .int j => (0 < j ∧ j.natAbs.log2 < 8000) ∧ Q (.int (i / j)) S
  | _, _ => False
/-- // by a divisor of either sign -/
def dFdiv (x y : D) (S : Sto) (Q : WQ) : Prop := match x, y with
  | .int i, .int j => (j ≠ 0 ∧ j.natAbs.log2 < 8000) ∧ Q (.int (i.fdiv j)) S
  | _, _ => False
def dMod (x y : D) (S : Sto) (Q : WQ) : Prop := match x, y with
  | .int i, .int j => 0 < j ∧ Q (.int (i % j)) S
  | _, _ => False
def dPow (x y : D) (S : Sto) (Q : WQ) : Prop := match x, y with
  | .int i, .int j => (0 ≤ j ∧ j ≤ 1000000 ∧ i.natAbs < 2 ^ 64) ∧ Q (.int (i ^ j.toNat)) S
  | _, _ => False
def eBin (r : D → D → Sto → WQ → Prop) (ta tb : WE) : WE := fun env S Q => ta env S fun x S1 => tb env S1 fun y S2 => r x y S2 Q
def eNeg (ta : WE) : WE := fun env S Q => ta env S fun x S1 => match x with
  | .int i => Q (.int (-i)) S1
  | _ => False

/-! ### comparisons -/
def dCmp (f : Int → Int → Bool) (x y : D) (S : Sto) (Q : WQ) : Prop := match x, y with
  | .int i, .int j => Q (.bl (f i j)) S
  | _, _ => False
mutual
/-- == of data (no lists): True equals 1 -/
def eqD : D → D → Bool
  | .non, .non => true
  | .bl a, .bl b => a == b
  | .bl a, .int j => (if a then 1 else 0) == j
  | .int i, .bl b => i == (if b then 1 else 0)
  | .int i, .int j => i == j
  | .str x, .str y => x == y
  | .tup xs, .tup ys => eqDs xs ys
  | _, _ => false
def eqDs : List D → List D → Bool
  | [], [] => true
  | x :: xs, y :: ys => eqD x y && eqDs xs ys
  | _, _ => false
end
mutual
/-- data that == may compare at any depth: no lists, texts that can be laid, not too deep -/
def cmpOk : D → Bool
  | .non | .bl _ | .int _ => true
  | .str x => PyData.strOk x
  | .tup xs => cmpOks xs
  | .ref _ | .frz _ | .ty _ | .exc _ _ _ _ => false
def cmpOks : List D → Bool
  | [] => true
  | x :: xs => cmpOk x && cmpOks xs
end
mutual
def depD : D → Nat
  | .tup xs => depDs xs + 1
  | _ => 0
def depDs : List D → Nat
  | [] => 0
  | x :: xs => max (depD x) (depDs xs)
end

/-- data without parts -/
def flatD : D → Bool
  | .non | .bl _ | .int _ | .str _ => true
  | _ => false
def memD (x : D) (ys : List D) : Bool := ys.any fun y => eqD y x
/-- in, not in (u: the truth value turned or not) -/
def dInB (u : Bool → Bool) (x y : D) (S : Sto) (Q : WQ) : Prop := match y with
  | .str z => ∃ c : Nat, x = .str ⟨#[c]⟩ ∧ Q (.bl (u (decide (c ∈ z.cps.toList)))) S
  | .tup ys => ((flatD x = true ∧ ys.all flatD = true) ∨ (cmpOk x = true ∧ depD x ≤ 50 ∧ cmpOks ys = true ∧ depDs ys ≤ 50)) ∧ Q (.bl (u (memD x ys))) S
  | .ref a => onL S a fun ys => ((flatD x = true ∧ ys.all flatD = true) ∨ (cmpOk x = true ∧ depD x ≤ 50 ∧ cmpOks ys = true ∧ depDs ys ≤ 50)) ∧ Q (.bl (u (memD x ys))) S
  | _ => False
abbrev dIn := dInB fun b => b
abbrev dNotIn := dInB fun b => !b
/-- == as a rule: scalars at once, else data of any depth -/
def dEq (x y : D) (S : Sto) (Q : WQ) : Prop := match x, y with
  | .int i, .int j => Q (.bl (decide (i = j))) S
  | .str a, .str b => Q (.bl (decide (a = b))) S
  | .bl a, .bl b => Q (.bl (decide (a = b))) S
  | .ref a, .ref b => onL S a fun xs => onL S b fun ys => (cmpOks xs = true ∧ depDs xs ≤ 50 ∧ cmpOks ys = true ∧ depDs ys ≤ 50) ∧ Q (.bl (eqDs xs ys)) S
  | x, y => (cmpOk x = true ∧ depD x ≤ 60 ∧ cmpOk y = true ∧ depD y ≤ 60) ∧ Q (.bl (eqD x y)) S
def dNe (x y : D) (S : Sto) (Q : WQ) : Prop := match x, y with
  | .int i, .int j => Q (.bl (!decide (i = j))) S
  | .str a, .str b => Q (.bl (!decide (a = b))) S
  | .bl a, .bl b => Q (.bl (!decide (a = b))) S
  | .ref a, .ref b => onL S a fun xs => onL S b fun ys => (cmpOks xs = true ∧ depDs xs ≤ 50 ∧ cmpOks ys = true ∧ depDs ys ≤ 50) ∧ Q (.bl (!eqDs xs ys)) S
  | x, y => (cmpOk x = true ∧ depD x ≤ 60 ∧ cmpOk y = true ∧ depD y ≤ 60) ∧ Q (.bl (!eqD x y)) S
abbrev dLt := dCmp fun i j => decide (i < j)
abbrev dLe := dCmp fun i j => decide (i ≤ j)
abbrev dGt := dCmp fun i j => decide (j < i)
abbrev dGe := dCmp fun i j => decide (j ≤ i)
def isNon : D → Bool
  | .non => true
  | _ => false
/-- x is None, x is not None -/
def eIsN (ta : WE) : WE := fun env S Q => ta env S fun x S1 => Q (.bl (isNon x)) S1
def eNotN (ta : WE) : WE := fun env S Q => ta env S fun x S1 => Q (.bl (!isNon x)) S1
/-- x is b for a written truth value: only asked of truth values -/
def eIsB (b : Bool) (ta : WE) : WE := fun env S Q => ta env S fun x S1 => match x with
  | .bl a => Q (.bl (decide (a = b))) S1
  | _ => False
def eNotB (b : Bool) (ta : WE) : WE := fun env S Q => ta env S fun x S1 => match x with
  | .bl a => Q (.bl (!decide (a = b))) S1
  | _ => False
/-- a < b < c -/
def eChain (r r' : D → D → Sto → WQ → Prop) (ta tb tc : WE) : WE := fun env S Q => ta env S fun x S1 => tb env S1 fun y S2 => r x y S2 fun z S3 => match z with
  | .bl k => ifB k (tc env S3 fun u S4 => r' y u S4 Q) (Q (.bl false) S3)
  | _ => False

/-! ### truth -/
def dTru (x : D) (S : Sto) (Q : Bool → Sto → Prop) : Prop := match x with
  | .non => Q false S
  | .bl b => Q b S
  | .int i => Q (i != 0) S
  | .str y => y.length ≤ sizeLine ∧ Q (y.length != 0) S
  | .tup xs => Q (!xs.isEmpty) S
  | .ref a => onL S a fun xs => Q (!xs.isEmpty) S
  | _ => False
def tTru (t : WE) : WT := fun env S Q => t env S fun x S1 => dTru x S1 Q
/-- a test whose value is a truth value -/
def tB (t : WE) : WT := fun env S Q => t env S fun x S1 => match x with
  | .bl b => Q b S1
  | _ => False
def tNot (t : WT) : WT := fun env S Q => t env S fun b S1 => Q (!b) S1
def tAnd (t u : WT) : WT := fun env S Q => t env S fun b S1 => ifB b (u env S1 Q) (Q false S1)
def tOr (t u : WT) : WT := fun env S Q => t env S fun b S1 => ifB b (Q true S1) (u env S1 Q)
def eNot (t : WE) : WE := fun env S Q => t env S fun x S1 => dTru x S1 fun b S2 => Q (.bl (!b)) S2
/-- a and b, a or b as values: the first one's value where it decides -/
def eAnd (ta tb : WE) : WE := fun env S Q => ta env S fun x S1 => dTru x S1 fun b S2 => ifB b (tb env S2 Q) (Q x S2)
def eOr (ta tb : WE) : WE := fun env S Q => ta env S fun x S1 => dTru x S1 fun b S2 => ifB b (Q x S2) (tb env S2 Q)
def eIf (t : WT) (ta tb : WE) : WE := fun env S Q => t env S fun b S1 => ifB b (ta env S1 Q) (tb env S1 Q)

/-! ### displays, places, slices -/
def aNil : WA := fun _ S Q => Q [] S
def aCons (t : WE) (u : WA) : WA := fun env S Q => t env S fun x S1 => u env S1 fun xs S2 => Q (x :: xs) S2
def eTup (t : WA) : WE := fun env S Q => t env S fun xs S1 => xs.length ≤ 1000 ∧ Q (.tup xs) S1
def eLst (t : WA) : WE := fun env S Q => t env S fun xs S1 => xs.length ≤ 1000 ∧ ∀ p, sget S1 p = none → Q (.ref p) ((p, .lst xs) :: S1)
/-- what is asked behind [..][_law_draw(tape, m)], the list (at a) still there -/
def pickK (i : Nat) (m : Int) (env : EV) (Q : WQ) (x : D) (S' : Sto) : Prop := match x with
  | .ref a => ∃ (p q : Addr) (ns : List Int) (xs : List D), env[i]? = some (some (.ref p)) ∧ sget S' p = some (.tape q) ∧ sget S' q = some (.lst (ns.map D.int)) ∧ sget S' a = some (.lst xs) ∧ 0 < m ∧ m.toNat ≤ xs.length ∧ m < 1000000 ∧ ∀ d ∈ xs, UpS (Q d) S'
  | _ => False
/-- [..][_law_draw(tape, m)]: the list is not kept -/
structure ePick (i : Nat) (m : Int) (t : WA) (env : EV) (S : Sto) (Q : WQ) : Prop where
  run : eLst t env S (pickK i m env Q)
theorem pick_in {i : Nat} {m : Int} {t : WA} {env : EV} {S : Sto} {Q : WQ} (h : t env S fun xs S1 => xs.length ≤ 1000 ∧ ∀ p, sget S1 p = none → pickK i m env Q (.ref p) ((p, .lst xs) :: S1)) : ePick i m t env S Q := ⟨h⟩
theorem pk_in {i : Nat} {m : Int} {env : EV} {Q : WQ} {S1 : Sto} {xs : List D} {p q : Addr} {ns : List Int} (hv : env[i]? = some (some (.ref p))) (hp : sget S1 p = some (.tape q)) (hq : sget S1 q = some (.lst (ns.map D.int)))
    (h0 : 0 < m) (h1 : m.toNat ≤ xs.length) (h2 : m < 1000000) (h : ∀ d ∈ xs, Q d S1) : ∀ a, sget S1 a = none → pickK i m env Q (.ref a) ((a, .lst xs) :: S1) := fun a ha =>
  ⟨p, q, ns, xs, hv, Sub.new ha _ _ hp, Sub.new ha _ _ hq, sget_self _ _ _, h0, h1, h2, fun d hd => .new ha (.here (h d hd))⟩
/-- the item at a place that may count from the end -/
def atD {α : Type} (xs : List α) (i : Int) : Option α := if 0 ≤ i then xs[i.toNat]? else if -(xs.length : Int) ≤ i then xs[(i + xs.length).toNat]? else none
def seqOf (S : Sto) : D → Option (List D)
  | .tup xs => some xs
  | .frz xs => some xs
  | .ref a => match sget S a with
    | some (.lst xs) => some xs
    | _ => none
  | _ => none
/-- with the items of a list or tuple -/
def onSeq (S : Sto) (x : D) (k : List D → Prop) : Prop := match x with
  | .tup xs => k xs
  | .frz xs => k xs
  | .ref a => onL S a k
  | _ => False
theorem onSeq_iff {S : Sto} {x : D} {k : List D → Prop} : onSeq S x k ↔ ∃ xs, seqOf S x = some xs ∧ k xs := by
  cases x with
  | tup xs => exact ⟨fun h => ⟨xs, rfl, h⟩, fun ⟨_, e, h⟩ => by cases e; exact h⟩
  | frz xs => exact ⟨fun h => ⟨xs, rfl, h⟩, fun ⟨_, e, h⟩ => by cases e; exact h⟩
  | ref a =>
    refine onL_iff.trans ⟨fun ⟨xs, e, h⟩ => ⟨xs, by show (match sget S a with | some (.lst xs) => some xs | _ => none) = _; rw [e], h⟩, fun ⟨xs, e, h⟩ => ⟨xs, ?_, h⟩⟩
    have e : (match sget S a with | some (.lst xs) => some xs | _ => none) = some xs := e
    split at e
    · cases e
      assumption
    · cases e
  | _ => exact ⟨fun h => h.elim, fun ⟨_, e, _⟩ => by cases e⟩
/-- with the item at a place -/
def onAt {α : Type} (xs : List α) (i : Int) (k : α → Prop) : Prop := match atD xs i with
  | some d => k d
  | none => False
theorem onAt_iff {α : Type} {xs : List α} {i : Int} {k : α → Prop} : onAt xs i k ↔ ∃ d, atD xs i = some d ∧ k d := by
  unfold onAt
  constructor
  · intro h
    split at h
    · exact ⟨_, ‹_›, h⟩
    · exact h.elim
  · rintro ⟨d, e, h⟩
    rw [e]
    exact h
theorem onAt_in {α : Type} {xs : List α} {i : Int} {k : α → Prop} {d : α} (e : atD xs i = some d) (h : k d) : onAt xs i k := onAt_iff.mpr ⟨d, e, h⟩
theorem atD_nat {α : Type} {xs : List α} {j : Nat} {d : α} (h : xs[j]? = some d) : atD xs (j : Int) = some d := by
  unfold atD
  rw [if_pos (Int.natCast_nonneg j), Int.toNat_natCast]
  exact h
def dIx (x y : D) (S : Sto) (Q : WQ) : Prop := match y with
  | .int i => match x with
    | .str z => z.length ≤ sizeLine ∧ onAt z.cps.toList i fun c => Q (.str ⟨#[c]⟩) S
    | x => onSeq S x fun xs => onAt xs i fun d => Q d S
  | _ => False
def oNone : WO := fun _ S Q => Q none S
def oSome (t : WE) : WO := fun env S Q => t env S fun x S1 => match x with
  | .int i => Q (some i) S1
  | _ => False
/-- where a slice begins, ends -/
abbrev cutAt := HT.sIx
def cut {α : Type} (xs : List α) (lo hi : Option Int) : List α := (xs.drop (cutAt xs.length 0 lo)).take (cutAt xs.length xs.length hi - cutAt xs.length 0 lo)
def dSl (x : D) (lo hi : Option Int) (S : Sto) (Q : WQ) : Prop := match x with
  | .tup xs => Q (.tup (cut xs lo hi)) S
  | .ref a => onL S a fun xs => ∀ p, sget S p = none → Q (.ref p) ((p, .lst (cut xs lo hi)) :: S)
  | .str z => z.length ≤ sizeLine ∧ Q (.str ⟨(cut z.cps.toList lo hi).toArray⟩) S
  | _ => False
def eSl (te : WE) (tl th : WO) : WE := fun env S Q => te env S fun x S1 => tl env S1 fun l S2 => th env S2 fun u S3 => dSl x l u S3 Q

/-! ### calls -/
def eCall (F : WF) (t : WA) : WE := fun env S Q => t env S fun ds S1 => F ds S1 Q
abbrev WB := List D → Sto → WQ → Prop
def bAbs : WB := fun ds S Q => match ds with
  | [.int i] => Q (.int (if i < 0 then -i else i)) S
  | _ => False
def bInt : WB := fun ds S Q => match ds with
  | [.int i] => Q (.int i) S
  | [.bl k] => Q (.int (if k then 1 else 0)) S
  | _ => False
def bGcd : WB := fun ds S Q => match ds with
  | [.int i, .int j] => Q (.int ((Nat.gcd i.natAbs j.natAbs : Nat) : Int)) S
  | _ => False
def bMax2 : WB := fun ds S Q => match ds with
  | [.int i, .int j] => Q (.int (max i j)) S
  | _ => False
def bMin2 : WB := fun ds S Q => match ds with
  | [.int i, .int j] => Q (.int (min i j)) S
  | _ => False
def bLen : WB := fun ds S Q => match ds with
  | [.str z] => z.length ≤ sizeLine ∧ Q (.int z.length) S
  | [x] => onSeq S x fun xs => Q (.int xs.length) S
  | _ => False
def bTuple : WB := fun ds S Q => match ds with
  | [x] => onSeq S x fun xs => Q (.tup xs) S
  | _ => False
def bList : WB := fun ds S Q => match ds with
  | [x] => onSeq S x fun xs => ∀ p, sget S p = none → Q (.ref p) ((p, .lst xs) :: S)
  | _ => False
def dInt (ns : List Int) : List D := ns.map D.int
/-- the list or tuple in hand holds ints -/
def bFold (C : List Int → Prop) (m : List Int → Int → Prop) : WB := fun ds S Q => match ds with
  | [.ref a] => onL S a fun xs => ∃ ns, xs = dInt ns ∧ C ns ∧ ∀ r, m ns r → Q (.int r) S
  | _ => False
def bSum : WB := bFold (fun _ => True) fun ns r => r = ns.sum
def bFoldS (C : List Int → Prop) (m : List Int → Int → Prop) : WB := fun ds S Q => match ds with
  | [x] => onSeq S x fun xs => ∃ ns, xs = dInt ns ∧ C ns ∧ ∀ r, m ns r → Q (.int r) S
  | _ => False
def bMax : WB := bFoldS (fun ns => ns ≠ []) fun ns r => r ∈ ns ∧ ∀ y, y ∈ ns → y ≤ r
def bMin : WB := bFoldS (fun ns => ns ≠ []) fun ns r => r ∈ ns ∧ ∀ y, y ∈ ns → r ≤ y

/-! ### what is walked -/
/-- a list, a tuple or a text -/
def dWalk (x : D) (S : Sto) (R : It → Sto → Prop) : Prop := match x with
  | .tup xs => xs.length ≤ sizeLine → R ⟨xs, fun _ => True⟩ S
  | .frz xs => xs.length ≤ sizeLine → R ⟨xs, fun _ => True⟩ S
  | .ref a => onL S a fun xs => xs.length ≤ sizeLine → R ⟨xs, fun S => sget S a = some (.lst xs)⟩ S
  | .str z => z.length ≤ sizeLine ∧ R ⟨z.cps.toList.map fun c => .str ⟨#[c]⟩, fun _ => True⟩ S
  | _ => False
def iSeq (t : WE) : WI := fun env S R => t env S fun x S1 => dWalk x S1 R
/-- reversed(..) of a list or a tuple -/
def iRev (t : WE) : WI := fun env S R => t env S fun x S1 => match x with
  | .tup xs => xs.length ≤ sizeLine → R ⟨xs.reverse, fun _ => True⟩ S1
  | .ref a => onL S1 a fun xs => xs.length ≤ sizeLine → R ⟨xs.reverse, fun S => sget S a = some (.lst xs)⟩ S1
  | _ => False
def rngD (lo : Int) (n : Nat) : List D := (List.range n).map fun i : Nat => D.int (lo + (i : Int))
def iRng (t : WA) : WI := fun env S R => t env S fun ds S1 => match ds with
  | [.int j] => (-1000000 ≤ j ∧ j ≤ 1000000) ∧ R ⟨rngD 0 j.toNat, fun _ => True⟩ S1
  | _ => False
def rngC (lo c : Int) (n : Nat) : List D := (List.range n).map fun k : Nat => D.int (lo + (k : Int) * c)
/-- the number of turns of range(i, j, c) -/
def cntC (i j c : Int) : Nat := if i < j then ((j - i - 1) / c + 1).toNat else 0
/-- range(i, j, c) with c a whole number above 0 -/
def iRng3 (t : WA) : WI := fun env S R => t env S fun ds S1 => match ds with
  | [.int i, .int j, .int c] => (0 < c ∧ c < 1000 ∧ -(2 ^ 62) ≤ i ∧ i < 2 ^ 62 ∧ -(2 ^ 62) ≤ j ∧ j < 2 ^ 62 ∧ j - i ≤ 1000000) ∧ R ⟨rngC i c (cntC i j c), fun _ => True⟩ S1
  | _ => False
def iRng2 (t : WA) : WI := fun env S R => t env S fun ds S1 => match ds with
  | [.int i, .int j] => (-(2 ^ 62) ≤ i ∧ i < 2 ^ 62 ∧ -(2 ^ 62) ≤ j ∧ j < 2 ^ 62 ∧ j - i ≤ 1000000) ∧ R ⟨rngD i (j - i).toNat, fun _ => True⟩ S1
  | _ => False

/-! ### targets -/
def gName (i : Nat) : WG := fun d env S Q => Q (env.set i (some d)) S
def gsNil : WGs := fun ds env S Q => ds = [] ∧ Q env S
def gsCons (g : WG) (u : WGs) : WGs := fun ds env S Q => match ds with
  | d :: r => g d env S fun env1 S1 => u r env1 S1 Q
  | [] => False
def gTup (n : Nat) (u : WGs) : WG := fun d env S Q => match d with
  | .tup xs => xs.length = n ∧ u xs env S Q
  | _ => False
/-- a[i] = .. -/
def gSub (ta ti : WE) : WG := fun d env S Q => ta env S fun x S1 => ti env S1 fun y S2 => match x, y with
  | .ref a, .int i => onL S2 a fun xs => match L2.ixN xs.length i with
    | some k => Q env (sset S2 a (.lst (xs.set k d)))
    | none => False
  | _, _ => False

/-! ### comprehensions -/
def wipe (env : EV) : List Nat → EV
  | [] => env
  | v :: vs => (wipe env vs).set v none
/-- [elt for .. in .. if ..]; vs: the slots of its own names -/
@[irreducible] def eComp (it : WI) (g : WG) (c : WT) (elt : WE) (vs : List Nat) : WE := fun env S Q => it env S fun J S0 =>
  ∃ W : Nat → List D → Sto → Prop, W 0 [] S0 ∧
    (∀ i x acc S, J.xs[i]? = some x → W i acc S → J.chk S ∧ g x (wipe env vs) S fun env2 S2 => c env2 S2 fun b S3 =>
      ifB b (elt env2 S3 fun y S4 => UpS (W (i + 1) (acc ++ [y])) S4) (UpS (W (i + 1) acc) S3)) ∧
    ∀ acc S, W J.xs.length acc S → J.chk S ∧ ∀ p, sget S p = none → Q (.ref p) ((p, .lst acc) :: S)
def tYes : WT := fun _ S Q => Q true S

/-! ### methods of lists -/
def mAppend (x : D) (ds : List D) (S : Sto) (Q : WQ) : Prop := match x, ds with
  | .ref a, [y] => onL S a fun xs => xs.length < sizeLine ∧ Q .non (sset S a (.lst (xs ++ [y])))
  | _, _ => False
/-- with what is found -/
def onFound (o : Option Nat) (k : Nat → Prop) : Prop := match o with
  | some j => k j
  | none => False
theorem onFound_in {o : Option Nat} {k : Nat → Prop} {j : Nat} (e : o = some j) (h : k j) : onFound o k := by rw [e]; exact h
def mIndex (x : D) (ds : List D) (S : Sto) (Q : WQ) : Prop := match x, ds with
  | .ref a, [y] => onL S a fun xs => ((flatD y = true ∧ xs.all flatD = true) ∨ (cmpOk y = true ∧ depD y ≤ 50 ∧ cmpOks xs = true ∧ depDs xs ≤ 50)) ∧ onFound (xs.findIdx? fun z => eqD z y) fun j => Q (.int (j : Int)) S
  | _, _ => False
/-- a method of a list -/
def eMethL (m : D → List D → Sto → WQ → Prop) (to : WE) (t : WA) : WE := fun env S Q => to env S fun x S1 => match x with
  | .ref a => onL S1 a fun _ => t env S1 fun ds S2 => m (.ref a) ds S2 Q
  | _ => False
/-- a method of a text -/
def eMethS (m : D → List D → Sto → WQ → Prop) (to : WE) (t : WA) : WE := fun env S Q => to env S fun x S1 => match x with
  | .str z => t env S1 fun ds S2 => m (.str z) ds S2 Q
  | _ => False

/-! ### statements -/
def sNil : WS := fun D env S => D.nx env S
/-- t, then what P says of its end (and no more) -/
@[irreducible] def sJoin (t : WS) : WS := fun D env S => ∃ P : EV → Sto → Prop, t { D with nx := fun env S => UpS (P env) S } env S ∧ ∀ env S, P env S → D.nx env S
def sSeq (t u : WS) : WS := fun D env S => t { D with nx := u D } env S
def sDrop (t : WE) : WS := fun D env S => t env S fun _ S1 => D.nx env S1
def sRet (t : WE) : WS := fun D env S => t env S D.rt
def sRetN : WS := fun D _ S => D.rt .non S
def sAsg (t : WE) (g : WG) : WS := fun D env S => t env S fun x S1 => g x env S1 D.nx
def sIf (c : WT) (t u : WS) : WS := fun D env S => c env S fun b S1 => ifB b (t D env S1) (u D env S1)
def sBrk : WS := fun D env S => D.bk env S
def sCnt : WS := fun D env S => D.ct env S
def sPar (i j : Nat) (t : WA) : WS := fun D env S => t env S fun ds S1 => match ds with
  | [x, y] => D.nx ((env.set i (some x)).set j (some y)) S1
  | _ => False
def sAug (i : Nat) (r : D → D → Sto → WQ → Prop) (t : WE) : WS := fun D env S => match env[i]? with
  | some (some x) => t env S fun y S1 => r x y S1 fun z S2 => D.nx (env.set i (some z)) S2
  | _ => False
@[irreducible] def sWhile (c : WT) (b : WS) : WS := fun D env S => ∃ W : Nat → EV → Sto → Prop, (∃ m, W m env S) ∧ ∀ m env S, W m env S →
  c env S fun k S1 => ifB k (b { D with nx := fun env' S' => UpS (fun S' => ∃ m', m' < m ∧ W m' env' S') S', ct := fun env' S' => UpS (fun S' => ∃ m', m' < m ∧ W m' env' S') S', bk := D.nx } env S1) (D.nx env S1)
@[irreducible] def sFor (it : WI) (g : WG) (b : WS) : WS := fun D env S => it env S fun J S0 => ∃ W : Nat → EV → Sto → Prop, W 0 env S0 ∧
  (∀ i x env S, J.xs[i]? = some x → W i env S → J.chk S ∧ g x env S fun env2 S2 => b { D with nx := fun env S => UpS (W (i + 1) env) S, ct := fun env S => UpS (W (i + 1) env) S, bk := D.nx } env2 S2) ∧
  ∀ env S, W J.xs.length env S → J.chk S ∧ D.nx env S

/-! ### list(range(..)), tuple(range(..)) -/
abbrev WR := EV → Sto → (Int → Int → Sto → Prop) → Prop
def rRg1 (ta : WE) : WR := fun env S Q => ta env S fun x S1 => match x with
  | .int n => Q 0 n S1
  | _ => False
def rRg2 (ta tb : WE) : WR := fun env S Q => ta env S fun x S1 => tb env S1 fun y S2 => match x, y with
  | .int i, .int j => Q i j S2
  | _, _ => False
def rgOk (a b : Int) : Prop := -(2 ^ 62) ≤ a ∧ a < 2 ^ 62 ∧ -(2 ^ 62) ≤ b ∧ b < 2 ^ 62 ∧ b - a ≤ 1000000
def eLstRg (t : WR) : WE := fun env S Q => t env S fun a b S1 => rgOk a b ∧ ∀ p, sget S1 p = none → Q (.ref p) ((p, .lst (rngD a (b - a).toNat)) :: S1)
def eTupRg (t : WR) : WE := fun env S Q => t env S fun a b S1 => rgOk a b ∧ Q (.tup (rngD a (b - a).toNat)) S1

/-! ### repr, isinstance -/
mutual
/-- x is the data pd, its lists as they stand in S -/
inductive PyR (S : Sto) : D → PyData → Prop
  | non : PyR S .non .none
  | bl (b : Bool) : PyR S (.bl b) (.bool b)
  | int (i : Int) : PyR S (.int i) (.int i)
  | str (x : Str) : PyR S (.str x) (.str x)
  | tup {xs : List D} {ps : List PyData} : PyRs S xs ps → PyR S (.tup xs) (.tuple ps)
  | lst {a : Addr} {xs : List D} {ps : List PyData} : sget S a = some (.lst xs) → PyRs S xs ps → PyR S (.ref a) (.list ps)
inductive PyRs (S : Sto) : List D → List PyData → Prop
  | nil : PyRs S [] []
  | cons {x : D} {xs : List D} {p : PyData} {ps : List PyData} : PyR S x p → PyRs S xs ps → PyRs S (x :: xs) (p :: ps)
end
/-- it can be shown -/
def rpOk (p : PyData) : Prop := p.showable = true ∧ p.shown.length ≤ sizeLine ∧ p.depth ≤ 60
/-- a datum's text: it stays closed -/
@[irreducible] def shw (p : PyData) : Str := p.shown
def bRepr : WB := fun ds S Q => match ds with
  | [x] => ∃ p, PyR S x p ∧ rpOk p ∧ Q (.str (shw p)) S
  | _ => False
def bStr : WB := fun ds S Q => match ds with
  | [.int i] => i.natAbs.log2 < 1920 ∧ Q (.str (toString i)) S
  | [.str a] => Q (.str a) S
  | _ => False
/-- is a value of the type a one of the type b -/
def tyIs (a b : String) : Option Bool :=
  if a = b then some true
  else if a = "bool" ∧ b = "int" then some true
  else if (a = "NoneType" ∨ a = "bool" ∨ a = "int" ∨ a = "str" ∨ a = "tuple" ∨ a = "list") ∧ (b = "bool" ∨ b = "int" ∨ b = "str" ∨ b = "tuple" ∨ b = "list") then some false
  else none
def tyOf (S : Sto) : D → String
  | .non => "NoneType"
  | .bl _ => "bool"
  | .int _ => "int"
  | .str _ => "str"
  | .tup _ => "tuple"
  | .frz _ => "list"
  | .ref a => match sget S a with
    | some (.lst _) => "list"
    | _ => "?"
  | .ty _ | .exc _ _ _ _ => "?"
/-- isinstance(e, n) -/
def eIsi (n : String) (t : WE) : WE := fun env S Q => t env S fun x S1 => match tyIs (tyOf S1 x) n with
  | some b => Q (.bl b) S1
  | none => False
/-- tuple(reversed(e)) -/
def eTupRev (t : WE) : WE := fun env S Q => t env S fun x S1 => match x with
  | .ref a => onL S1 a fun xs => Q (.tup xs.reverse) S1
  | _ => False

/-- a def's slots at its entry -/
def start (n : Nat) (ds : List D) : EV := ds.map some ++ List.replicate (n - ds.length) none
def enOf (Q : WQ) : En := { nx := fun _ S => UpS (Q .non) S, rt := fun d S => UpS (Q d) S }
end DL

namespace DL
open PySem PySem.Spec PyProof.Rows L2

/-- what is known, and the program and world that it is known of -/
structure Kw where
  K : PySem.W.Frag
  P : Program
  w : World
instance : Coe Kw PySem.W.Frag := ⟨Kw.K⟩
abbrev _root_.L2.Cx.kw (X : Cx) : Kw := ⟨X.K, X.prog, X.w⟩
/-! ### values read as data -/
/-- a list that is known to the object, or the module's -/
def FxL (K : Kw) (H : Hp) (a : Addr) (xs : List V) : Prop := (∃ o, H a = some (.frz o (.lst xs))) ∨
    ∃ (o : Obj) (its : Array Value) (n : Nat), K.K.lookup a = some o ∧ o.cls = .type "list" ∧ o.dict = none ∧ o.data = .seq its n ∧ its.size ≤ sizeLine ∧ Vals xs its.toList
theorem FxL.sq {K : Kw} {H : Hp} {a : Addr} {xs : List V} (h : FxL K H a xs) : SqL K H a xs := h.imp .inr id
mutual
inductive Rp (K : Kw) (H : Hp) : V → D → Prop
  | non : Rp K H .non .non
  | bl (b : Bool) : Rp K H (.bl b) (.bl b)
  | int (i : Int) : Rp K H (.int i) (.int i)
  | str (x : Str) : Rp K H (.str x) (.str x)
  | tup {a : Addr} {xs : List V} {ds : List D} : SqT K H a xs → RpAll K H xs ds → ds.length ≤ sizeLine → Rp K H (.ref a) (.tup ds)
  | ref (a : Addr) : Rp K H (.ref a) (.ref a)
  | frz {a : Addr} {xs : List V} {ds : List D} : FxL K H a xs → RpAll K H xs ds → ds.length ≤ sizeLine → Rp K H (.ref a) (.frz ds)
  | ty (n : String) : Rp K H (.ty n) (.ty n)
  | exc {a d : Addr} {f : Str} {u : V} {v : D} : H d = some (.xd [(f, u)]) → Rp K H u v → Rp K H (.ref a) (.exc a d f v)
inductive RpAll (K : Kw) (H : Hp) : List V → List D → Prop
  | nil : RpAll K H [] []
  | cons {v : V} {vs : List V} {d : D} {ds : List D} : Rp K H v d → RpAll K H vs ds → RpAll K H (v :: vs) (d :: ds)
end
/-- the tuples stay, and what is known -/
structure Tk (H H' : Hp) : Prop where
  tup : ∀ a xs, Rd H a (.tup xs) → Rd H' a (.tup xs)
  frz : ∀ a o u, H a = some (.frz o u) → H' a = some (.frz o u)
  xds : ∀ a fs, H a = some (.xd fs) → H' a = some (.xd fs)
theorem Tk.refl (H : Hp) : Tk H H := ⟨fun _ _ h => h, fun _ _ _ h => h, fun _ _ h => h⟩
theorem Tk.trans {H H1 H2 : Hp} (a : Tk H H1) (b : Tk H1 H2) : Tk H H2 := ⟨fun c xs h => b.tup c xs (a.tup c xs h), fun c o u h => b.frz c o u (a.frz c o u h), fun c fs h => b.xds c fs (a.xds c fs h)⟩
theorem Tk.sq {K : Kw} {H H' : Hp} {a : Addr} {xs : List V} (t : Tk H H') (h : SqT K H a xs) : SqT K H' a xs := h.imp (t.tup a xs) id
theorem Tk.fx {K : Kw} {H H' : Hp} {a : Addr} {xs : List V} (t : Tk H H') (h : FxL K H a xs) : FxL K H' a xs := h.imp (fun ⟨o, e⟩ => ⟨o, t.frz _ _ _ e⟩) id
mutual
theorem Rp.mono {K : Kw} {H H' : Hp} (t : Tk H H') : ∀ {v : V} {d : D}, Rp K H v d → Rp K H' v d
  | _, _, .non => .non
  | _, _, .bl b => .bl b
  | _, _, .int i => .int i
  | _, _, .str x => .str x
  | _, _, .tup h hs hz => .tup (t.sq h) (RpAll.mono t hs) hz
  | _, _, .ref a => .ref a
  | _, _, .frz h hs hz => .frz (t.fx h) (RpAll.mono t hs) hz
  | _, _, .ty n => .ty n
  | _, _, .exc h r => .exc (t.xds _ _ h) (Rp.mono t r)
theorem RpAll.mono {K : Kw} {H H' : Hp} (t : Tk H H') : ∀ {vs : List V} {ds : List D}, RpAll K H vs ds → RpAll K H' vs ds
  | _, _, .nil => .nil
  | _, _, .cons h hs => .cons (Rp.mono t h) (RpAll.mono t hs)
end
section
variable {K : Kw} {H : Hp}
theorem RpAll.length : ∀ {vs : List V} {ds : List D}, RpAll K H vs ds → vs.length = ds.length
  | _, _, .nil => rfl
  | _, _, .cons _ t => congrArg (· + 1) t.length
theorem RpAll.get : ∀ {vs : List V} {ds : List D} {i : Nat} {d : D}, RpAll K H vs ds → ds[i]? = some d → ∃ v, vs[i]? = some v ∧ Rp K H v d
  | _, _, _, _, .nil, e => by simp at e
  | _, _, 0, _, .cons r _, e => by simp at e; subst e; exact ⟨_, rfl, r⟩
  | _, _, i + 1, d, .cons _ t, e => by
    obtain ⟨u, h1, h2⟩ := RpAll.get (i := i) (d := d) t (by simpa using e)
    exact ⟨u, by simpa using h1, h2⟩
theorem RpAll.getV : ∀ {vs : List V} {ds : List D} {i : Nat} {v : V}, RpAll K H vs ds → vs[i]? = some v → ∃ d, ds[i]? = some d ∧ Rp K H v d
  | _, _, _, _, .nil, e => by simp at e
  | _, _, 0, _, .cons r _, e => by simp at e; subst e; exact ⟨_, rfl, r⟩
  | _, _, i + 1, d, .cons _ t, e => by
    obtain ⟨u, h1, h2⟩ := RpAll.getV (i := i) (v := d) t (by simpa using e)
    exact ⟨u, by simpa using h1, h2⟩
theorem RpAll.append : ∀ {xs : List V} {ds : List D} {ys : List V} {es : List D}, RpAll K H xs ds → RpAll K H ys es → RpAll K H (xs ++ ys) (ds ++ es)
  | _, _, _, _, .nil, s => s
  | _, _, _, _, .cons r t, s => .cons r (t.append s)
theorem RpAll.rep {xs : List V} {ds : List D} (r : RpAll K H xs ds) : ∀ n : Nat, RpAll K H (List.replicate n xs).flatten (List.replicate n ds).flatten
  | 0 => .nil
  | n + 1 => by
    rw [List.replicate_succ, List.flatten_cons, List.replicate_succ, List.flatten_cons]
    exact r.append (RpAll.rep r n)
theorem RpAll.take : ∀ {xs : List V} {ds : List D} (n : Nat), RpAll K H xs ds → RpAll K H (xs.take n) (ds.take n)
  | _, _, 0, _ => .nil
  | _, _, _ + 1, .nil => .nil
  | _, _, n + 1, .cons r t => .cons r (t.take n)
theorem RpAll.drop : ∀ {xs : List V} {ds : List D} (n : Nat), RpAll K H xs ds → RpAll K H (xs.drop n) (ds.drop n)
  | _, _, 0, r => r
  | _, _, _ + 1, .nil => .nil
  | _, _, n + 1, .cons _ t => t.drop n
theorem RpAll.set {v : V} {d : D} (r : Rp K H v d) : ∀ {xs : List V} {ds : List D} (i : Nat), RpAll K H xs ds → RpAll K H (xs.set i v) (ds.set i d)
  | _, _, _, .nil => .nil
  | _, _, 0, .cons _ t => .cons r t
  | _, _, i + 1, .cons q t => .cons q (t.set r i)
theorem RpAll.ints : ∀ {ns : List Int} {vs : List V}, RpAll K H vs (dInt ns) → vs = ns.map V.int
  | [], _, h => by cases h; rfl
  | n :: ns, _, h => by
    cases h with
    | cons h1 h2 =>
      cases h1
      rw [RpAll.ints h2]
      rfl
theorem RpAll.ofInts : ∀ (ns : List Int), RpAll K H (ns.map V.int) (dInt ns)
  | [] => .nil
  | n :: ns => .cons (.int n) (RpAll.ofInts ns)
end

/-! ### the store -/
/-- keys that are no tuples and no truth values -/
def noB : Value → Bool
  | .bool _ => false
  | _ => true
def k3 (P : Program) (w : World) : KeyKind P w Leaf where
  is := fun k v => (leafKind P w).is k v && noB v
  hash := (leafKind P w).hash
  inj := fun v a b ha hb => (leafKind P w).inj v a b (Bool.and_eq_true_iff.mp ha).1 (Bool.and_eq_true_iff.mp hb).1
  byValue := fun k v h => (leafKind P w).byValue k v (Bool.and_eq_true_iff.mp h).1
  pyHash := fun h q => (leafKind P w).pyHash (Bool.and_eq_true_iff.mp h).1 q
  eqBool := fun ha hb q => (leafKind P w).eqBool (Bool.and_eq_true_iff.mp ha).1 (Bool.and_eq_true_iff.mp hb).1 q
  «strs» := fun k x t v h => by
    have e := (leafKind P w).strs k x t v (Bool.and_eq_true_iff.mp h).1
    rw [e]
    cases v <;> first | exact Bool.and_true _ | rfl
/-- the object at a is o -/
def DicO (a : Addr) (o : Obj) : HO := .ext fun h => h.get? a = some o
structure KvT (K : Kw) (H : Hp) (kv : D × D) (x : NestedKey × Addr × Value) : Prop where
  ok : keyT kv.1 = true
  eq : x.1 = nkD kv.1
  key : Rp K H (.ref x.2.1) kv.1
  val : ∃ v, RelV v x.2.2 ∧ Rp K H v kv.2
structure KvL (K : Kw) (H : Hp) (kv : D × D) (y : Leaf × Value) : Prop where
  ok : keyL kv.1 = true
  eq : y.1 = leafD kv.1
  val : ∃ v, RelV v y.2 ∧ Rp K H v kv.2
/-- a dict's object, read -/
def DicR (K : Kw) (H : Hp) (o : Obj) (kvs : List (D × D)) : Prop := ∃ es ep, o.ExactDict ∧ o.data = .dict es ep ∧
  ((∃ xs, es.toList = xs.map (entryOfKey (nestedKind K.P K.w)) ∧ (xs.map (·.1)).Nodup ∧ Paired (KvT K H) kvs xs) ∨
   ∃ ys, KeysOf (k3 K.P K.w) es ∧ Pairs (k3 K.P K.w) es.toList ys ∧ (ys.map (·.1)).Nodup ∧ Paired (KvL K H) kvs ys)
theorem KvT.mono {K : Kw} {H H' : Hp} (t : Tk H H') {kv : D × D} {x : NestedKey × Addr × Value} (h : KvT K H kv x) : KvT K H' kv x := ⟨h.ok, h.eq, h.key.mono t, let ⟨v, a, b⟩ := h.val; ⟨v, a, b.mono t⟩⟩
theorem KvL.mono {K : Kw} {H H' : Hp} (t : Tk H H') {kv : D × D} {x : Leaf × Value} (h : KvL K H kv x) : KvL K H' kv x := ⟨h.ok, h.eq, let ⟨v, a, b⟩ := h.val; ⟨v, a, b.mono t⟩⟩
theorem DicR.mono {K : Kw} {H H' : Hp} {o : Obj} {kvs : List (D × D)} (t : Tk H H') (h : DicR K H o kvs) : DicR K H' o kvs := by
  obtain ⟨es, ep, h1, h2, h3⟩ := h
  refine ⟨es, ep, h1, h2, h3.imp ?_ ?_⟩
  · rintro ⟨xs, a, b, c⟩
    exact ⟨xs, a, b, Paired.mapP c fun _ _ z => z.mono t⟩
  · rintro ⟨ys, a, b, c, d⟩
    exact ⟨ys, a, b, c, Paired.mapP d fun _ _ z => z.mono t⟩
/-- a set's object, read -/
def SetD (K : Kw) (H : Hp) (o : Obj) (ks : List D) : Prop := ∃ (L : List (Addr × NestedKey)) (es : Array (Int × Value)) (ep : Nat) (t : SetTable), o.ExactSet ∧ o.data = .set es ep t ∧ es.toList = (L.map fun p => (p.2.hash K.w, Value.ref p.1)) ∧ TabOk t (L.map fun p => p.2.hash K.w) ∧ (L.map (·.2)).Nodup ∧
  L.length * 5 < t.mask * 3 ∧ L.length < 64 ∧ (L.map (·.2)).Perm (ks.map nkD) ∧ ∀ p ∈ L, ∃ d, keyT d = true ∧ p.2 = nkD d ∧ Rp K H (.ref p.1) d
theorem SetD.mono {K : Kw} {H H' : Hp} {o : Obj} {ks : List D} (t : Tk H H') (h : SetD K H o ks) : SetD K H' o ks := by
  obtain ⟨L, es, ep, tb, h1, h2, h3, h4, h5, h6, h7, h8, h9⟩ := h
  exact ⟨L, es, ep, tb, h1, h2, h3, h4, h5, h6, h7, h8, fun p hp => let ⟨d, a, b, c⟩ := h9 p hp; ⟨d, a, b, c.mono t⟩⟩
def LR (K : Kw) (H : Hp) (a : Addr) : LO → Prop
  | .st o ks => H a = some (DicO a o) ∧ SetD K H o ks
  | .dic o kvs => H a = some (DicO a o) ∧ (a == sysModules) = false ∧ kvs.length ≤ sizeLine ∧ DicR K H o kvs
  | .lst xs => ∃ vs, H a = some (.lst vs) ∧ RpAll K H vs xs ∧ xs.length ≤ sizeLine
  | .tape q => ∃ (k b t : Int), H a = some (.lst [.ref q, .int k, .int b, .int t]) ∧ 0 ≤ k ∧ 0 ≤ b ∧ 0 ≤ t ∧ t < 2 ^ 31
def SOk (K : Kw) (H : Hp) (S : Sto) : Prop := ∀ a o, sget S a = some o → LR K H a o
theorem LR.there {K : Kw} {H : Hp} {a : Addr} {o : LO} (h : LR K H a o) : H a ≠ none := by
  cases o with
  | lst xs => obtain ⟨vs, e, _⟩ := h; rw [e]; intro z; cases z
  | tape q => obtain ⟨k, b, t, e, _⟩ := h; rw [e]; intro z; cases z
  | dic o kvs => rw [h.1]; intro z; cases z
  | st o ks => rw [h.1]; intro z; cases z
theorem LR.notup {K : Kw} {H : Hp} {a : Addr} {o : LO} {ys : List V} (h : LR K H a o) : ¬ Rd H a (.tup ys) := by
  rintro (z | ⟨u, z⟩)
  · cases o with
    | lst xs => obtain ⟨vs, e, _⟩ := h; rw [e] at z; cases z
    | tape q => obtain ⟨k, b, t, e, _⟩ := h; rw [e] at z; cases z
    | dic o kvs => rw [h.1] at z; cases z
    | st o ks => rw [h.1] at z; cases z
  · cases o with
    | lst xs => obtain ⟨vs, e, _⟩ := h; rw [e] at z; cases z
    | tape q => obtain ⟨k, b, t, e, _⟩ := h; rw [e] at z; cases z
    | dic o kvs => rw [h.1] at z; cases z
    | st o ks => rw [h.1] at z; cases z
theorem SOk.none {K : Kw} {H : Hp} {S : Sto} (s : SOk K H S) {p : Addr} (h : H p = none) : sget S p = none := by
  cases e : sget S p with
  | none => rfl
  | some o => exact absurd h (s p o e).there
/-- the frame: what S does not name stays, and stays unnamed; the tuples stay -/
structure Fr (S S' : Sto) (H H' : Hp) : Prop where
  keep : ∀ a o, H a = some o → sget S a = none → H' a = some o ∧ sget S' a = none
  tk : Tk H H'
theorem Fr.refl (S : Sto) (H : Hp) : Fr S S H H := ⟨fun _ _ e n => ⟨e, n⟩, .refl H⟩
theorem Fr.trans {S S1 S2 : Sto} {H H1 H2 : Hp} (a : Fr S S1 H H1) (b : Fr S1 S2 H1 H2) : Fr S S2 H H2 :=
  ⟨fun c o e n => let ⟨e1, n1⟩ := a.keep c o e n; b.keep c o e1 n1, a.tk.trans b.tk⟩
theorem LR.mono {K : Kw} {H H' : Hp} {a : Addr} {o : LO} (t : Tk H H') (e : H' a = H a) (h : LR K H a o) : LR K H' a o := by
  cases o with
  | lst xs => obtain ⟨vs, h1, h2, hz⟩ := h; exact ⟨vs, e.trans h1, h2.mono t, hz⟩
  | tape q => obtain ⟨k, b, t', h1, h2⟩ := h; exact ⟨k, b, t', e.trans h1, h2⟩
  | dic ob kvs => exact ⟨e.trans h.1, h.2.1, h.2.2.1, h.2.2.2.mono t⟩
  | st ob ks => exact ⟨e.trans h.1, h.2.mono t⟩
theorem SOk.sub {K : Kw} {H : Hp} {S0 S1 : Sto} (s : SOk K H S1) (b : Sub S0 S1) : SOk K H S0 := fun a o e => s a o (b a o e)
theorem Sub.none {S0 S1 : Sto} (b : Sub S0 S1) {a : Addr} (n1 : sget S1 a = none) : sget S0 a = none := by
  cases h : sget S0 a with
  | none => rfl
  | some u =>
    have := b a u h
    rw [n1] at this
    cases this
theorem Fr.sub {S S0 S1 : Sto} {H H' : Hp} (f : Fr S S1 H H') (b : Sub S0 S1) : Fr S S0 H H' := ⟨fun a o e n => ⟨(f.keep a o e n).1, b.none (f.keep a o e n).2⟩, f.tk⟩
section
variable {K : Kw} {H : Hp} {S : Sto} {p : Addr} {vs : List V} {xs : List D} {h : HO}
theorem Tk.new (hp : H p = Option.none) : Tk H (upd H p h) := ⟨fun b ys q => by
  rcases q with q | ⟨u, q⟩
  · exact .inl (by rw [upd_ne (ne_of_none q hp)]; exact q)
  · exact .inr ⟨u, by rw [upd_ne (ne_of_none q hp)]; exact q⟩, fun b o u q => by rw [upd_ne (ne_of_none q hp)]; exact q, fun b u q => by rw [upd_ne (ne_of_none q hp)]; exact q⟩
/-- a new object that the store does not name -/
theorem SOk.off (s : SOk K H S) (hp : H p = Option.none) : SOk K (upd H p h) S := fun b o e => by
  have nb : b ≠ p := fun z => (s b o e).there (by rw [z]; exact hp)
  exact (s b o e).mono (.new hp) (upd_ne nb)
theorem Fr.off (S : Sto) (hp : H p = Option.none) : Fr S S H (upd H p h) := ⟨fun a o e n => ⟨by rw [upd_ne (ne_of_none e hp)]; exact e, n⟩, .new hp⟩
/-- a new list, named -/
theorem SOk.new (s : SOk K H S) (hp : H p = Option.none) (r : RpAll K H vs xs) (hz : xs.length ≤ sizeLine) : SOk K (upd H p (.lst vs)) ((p, .lst xs) :: S) := fun b o e => by
  by_cases hb : b = p
  · subst hb
    rw [sget_self] at e
    cases e
    exact ⟨vs, upd_same, r.mono (.new hp), hz⟩
  · rw [sget_ne hb] at e
    exact (s b o e).mono (.new hp) (upd_ne hb)
theorem Fr.new {o : LO} (S : Sto) (hp : H p = Option.none) : Fr S ((p, o) :: S) H (upd H p h) :=
  ⟨fun a u e n => ⟨by rw [upd_ne (ne_of_none e hp)]; exact e, by rw [sget_ne (ne_of_none e hp)]; exact n⟩, .new hp⟩
theorem Tk.set {ws : List V} (hp : H p = some (.lst vs)) : Tk H (upd H p (.lst ws)) := ⟨fun b ys q => by
  have nb : b ≠ p := fun z => by
    subst z
    rcases q with q | ⟨u, q⟩
    · rw [hp] at q; cases q
    · rw [hp] at q; cases q
  rcases q with q | ⟨u, q⟩
  · exact .inl (by rw [upd_ne nb]; exact q)
  · exact .inr ⟨u, by rw [upd_ne nb]; exact q⟩, fun b o u q => by
  have nb : b ≠ p := fun z => by subst z; rw [hp] at q; cases q
  rw [upd_ne nb]; exact q, fun b u q => by
  have nb : b ≠ p := fun z => by subst z; rw [hp] at q; cases q
  rw [upd_ne nb]; exact q⟩
/-- anything new, named -/
theorem SOk.newO {o : LO} (s : SOk K H S) (hp : H p = Option.none) (r : LR K (upd H p h) p o) : SOk K (upd H p h) ((p, o) :: S) := fun b u e => by
  by_cases hb : b = p
  · subst hb
    rw [sget_self] at e
    cases e
    exact r
  · rw [sget_ne hb] at e
    exact (s b u e).mono (.new hp) (upd_ne hb)
theorem Tk.setX {g g' : HO} (hp : H p = some g) (h1 : ∀ ys, g ≠ .tup ys) (h2 : ∀ o u, g ≠ .frz o u) (h3 : ∀ fs, g ≠ .xd fs := by intro fs z; nomatch z) : Tk H (upd H p g') := ⟨fun b ys q => by
  have nb : b ≠ p := fun z => by
    subst z
    rcases q with q | ⟨u, q⟩
    · rw [hp] at q; cases q; exact h1 _ rfl
    · rw [hp] at q; cases q; exact h2 _ _ rfl
  rcases q with q | ⟨u, q⟩
  · exact .inl (by rw [upd_ne nb]; exact q)
  · exact .inr ⟨u, by rw [upd_ne nb]; exact q⟩, fun b o u q => by
  have nb : b ≠ p := fun z => by subst z; rw [hp] at q; cases q; exact h2 _ _ rfl
  rw [upd_ne nb]; exact q, fun b u q => by
  have nb : b ≠ p := fun z => by subst z; rw [hp] at q; cases q; exact h3 _ rfl
  rw [upd_ne nb]; exact q⟩
theorem SOk.setX {g' : HO} {o o' : LO} (s : SOk K H S) (hs : sget S p = some o) (t : Tk H (upd H p g')) (r : LR K (upd H p g') p o') : SOk K (upd H p g') (sset S p o') := fun b u e => by
  rw [sget_sset S p b _ (by rw [hs]; rfl)] at e
  by_cases hb : b = p
  · subst hb
    rw [if_pos rfl] at e
    cases e
    exact r
  · rw [if_neg hb] at e
    exact (s b u e).mono t (upd_ne hb)
theorem Fr.setX {g' : HO} {o o' : LO} (hs : sget S p = some o) (t : Tk H (upd H p g')) : Fr S (sset S p o') H (upd H p g') :=
  ⟨fun a u e n => by
    have na : a ≠ p := fun z => by subst z; rw [hs] at n; cases n
    exact ⟨by rw [upd_ne na]; exact e, by rw [sget_sset S p a _ (by rw [hs]; rfl), if_neg na]; exact n⟩, t⟩
/-- a list changed -/
theorem SOk.set {o : LO} {ws : List V} (s : SOk K H S) (hs : sget S p = some o) (hp : H p = some (.lst vs)) (r : RpAll K H ws xs) (hz : xs.length ≤ sizeLine) : SOk K (upd H p (.lst ws)) (sset S p (.lst xs)) := fun b u e => by
  rw [sget_sset S p b _ (by rw [hs]; rfl)] at e
  by_cases hb : b = p
  · subst hb
    rw [if_pos rfl] at e
    cases e
    exact ⟨ws, upd_same, r.mono (.set hp), hz⟩
  · rw [if_neg hb] at e
    exact (s b u e).mono (.set hp) (upd_ne hb)
theorem Fr.set {o o' : LO} {ws : List V} (hs : sget S p = some o) (hp : H p = some (.lst vs)) : Fr S (sset S p o') H (upd H p (.lst ws)) :=
  ⟨fun a u e n => by
    have na : a ≠ p := fun z => by subst z; rw [hs] at n; cases n
    exact ⟨by rw [upd_ne na]; exact e, by rw [sget_sset S p a _ (by rw [hs]; rfl), if_neg na]; exact n⟩, .set hp⟩
end

/-! ### slots -/
def RO (K : Kw) (H : Hp) (o : Option V) (e : Option D) : Prop := ∀ d, e = some d → ∃ v, o = some v ∧ Rp K H v d
def ER (K : Kw) (H : Hp) (σ : L2.St) (env : EV) : Prop := σ.length = env.length ∧ ∀ (i : Nat) d, env[i]? = some (some d) → ∃ v, σ[i]? = some (some v) ∧ Rp K H v d
section
variable {K : Kw} {H H' : Hp} {σ : L2.St} {env : EV}
theorem ER.mono (t : Tk H H') (e : ER K H σ env) : ER K H' σ env := ⟨e.1, fun i d h => let ⟨v, a, b⟩ := e.2 i d h; ⟨v, a, b.mono t⟩⟩
theorem ER.set (e : ER K H σ env) (i : Nat) {v : V} {d : D} (r : Rp K H v d) : ER K H (σ.set i (some v)) (env.set i (some d)) := by
  refine ⟨by simp [e.1], fun j d' h => ?_⟩
  by_cases hj : i = j
  · subst hj
    by_cases hi : i < env.length
    · rw [List.getElem?_set_self hi] at h
      cases h
      exact ⟨v, List.getElem?_set_self (by rw [e.1]; exact hi), r⟩
    · rw [List.getElem?_eq_none (by simpa using hi)] at h
      cases h
  · rw [List.getElem?_set_ne hj] at h ⊢
    exact e.2 j d' h
theorem ER.setN (e : ER K H σ env) (i : Nat) : ER K H (σ.set i none) (env.set i none) := by
  refine ⟨by simp [e.1], fun j d' h => ?_⟩
  by_cases hj : i = j
  · subst hj
    by_cases hi : i < env.length
    · rw [List.getElem?_set_self hi] at h
      cases h
    · rw [List.getElem?_eq_none (by simpa using hi)] at h
      cases h
  · rw [List.getElem?_set_ne hj] at h ⊢
    exact e.2 j d' h
theorem ER.wipe (e : ER K H σ env) : ∀ vs : List Nat, ER K H (L2.wipe σ vs) (DL.wipe env vs)
  | [] => e
  | v :: vs => (e.wipe vs).setN v
end

/-! ### what is asked over data, as what is asked over values -/
/-- what follows a value -/
def PostE (K : Kw) (S : Sto) (H : Hp) (Q0 : WQ) (Q : VK) : Prop := ∀ d S', Q0 d S' → ∀ v H', Rp K H' v d → SOk K H' S' → Fr S S' H H' → Q v H'
def lE (K : Kw) (t : WE) : TE := fun σ H Q => ∃ env S Q0, ER K H σ env ∧ SOk K H S ∧ t env S Q0 ∧ PostE K S H Q0 Q
def lT (K : Kw) (t : WT) : TT := fun σ H Q => ∃ env S Q0, ER K H σ env ∧ SOk K H S ∧ t env S Q0 ∧ ∀ b S', Q0 b S' → ∀ H', SOk K H' S' → Fr S S' H H' → Q b H'
def lA (K : Kw) (t : WA) : TA := fun σ H Q => ∃ env S Q0, ER K H σ env ∧ SOk K H S ∧ t env S Q0 ∧ ∀ ds S', Q0 ds S' → ∀ vs H', RpAll K H' vs ds → SOk K H' S' → Fr S S' H H' → Q vs H'
def lO (K : Kw) (t : WO) : TO := fun σ H Q => ∃ env S Q0, ER K H σ env ∧ SOk K H S ∧ t env S Q0 ∧ ∀ o S', Q0 o S' → ∀ H', SOk K H' S' → Fr S S' H H' → Q o H'
structure PostS (K : Kw) (S : Sto) (H : Hp) (D0 : En) (D : L2.Ends) : Prop where
  nx : ∀ env' S', D0.nx env' S' → ∀ σ' H', ER K H' σ' env' → SOk K H' S' → Fr S S' H H' → D.nx σ' H'
  rt : PostE K S H D0.rt D.rt
  bk : ∀ env' S', D0.bk env' S' → ∀ σ' H', ER K H' σ' env' → SOk K H' S' → Fr S S' H H' → D.bk σ' H'
  ct : ∀ env' S', D0.ct env' S' → ∀ σ' H', ER K H' σ' env' → SOk K H' S' → Fr S S' H H' → D.ct σ' H'
def lS (K : Kw) (t : WS) : TS := fun D σ H => ∃ env S D0, ER K H σ env ∧ SOk K H S ∧ t D0 env S ∧ PostS K S H D0 D
def lG (K : Kw) (g : WG) : TG := fun v σ H Q => ∃ d env S Q0, Rp K H v d ∧ ER K H σ env ∧ SOk K H S ∧ g d env S Q0 ∧ ∀ env' S', Q0 env' S' → ∀ σ' H', ER K H' σ' env' → SOk K H' S' → Fr S S' H H' → Q σ' H'
def lGs (K : Kw) (g : WGs) : TGs := fun vs σ H Q => ∃ ds env S Q0, RpAll K H vs ds ∧ ER K H σ env ∧ SOk K H S ∧ g ds env S Q0 ∧ ∀ env' S', Q0 env' S' → ∀ σ' H', ER K H' σ' env' → SOk K H' S' → Fr S S' H H' → Q σ' H'
theorem PostE.trans {K : Kw} {S S1 : Sto} {H H1 : Hp} {Q0 : WQ} {Q : VK} (p : PostE K S H Q0 Q) (f : Fr S S1 H H1) : PostE K S1 H1 Q0 Q := fun d S' h v H' r s g => p d S' h v H' r s (f.trans g)
theorem PostS.trans {K : Kw} {S S1 : Sto} {H H1 : Hp} {D0 : En} {D : L2.Ends} (p : PostS K S H D0 D) (f : Fr S S1 H H1) : PostS K S1 H1 D0 D :=
  ⟨fun e S' h σ' H' r s g => p.nx e S' h σ' H' r s (f.trans g), p.rt.trans f, fun e S' h σ' H' r s g => p.bk e S' h σ' H' r s (f.trans g), fun e S' h σ' H' r s g => p.ct e S' h σ' H' r s (f.trans g)⟩

abbrev QE (X : Cx) (e : Expr) (t : WE) : Prop := PE X e (lE X.kw t)
abbrev QT (X : Cx) (e : Expr) (t : WT) : Prop := PT X e (lT X.kw t)
abbrev QA (X : Cx) (es : List Expr) (t : WA) : Prop := PA X es (lA X.kw t)
abbrev QO (X : Cx) (e : Option Expr) (t : WO) : Prop := PO X e (lO X.kw t)
abbrev QS (X : Cx) (s : Stmt) (t : WS) : Prop := PS X s (lS X.kw t)
abbrev QSs (X : Cx) (s : List Stmt) (t : WS) : Prop := PSs X s (lS X.kw t)
abbrev QG (X : Cx) (e : Expr) (g : WG) : Prop := PG X e (lG X.kw g)
abbrev QGs (X : Cx) (es : List Expr) (g : WGs) : Prop := PGs X es (lGs X.kw g)

theorem _root_.L2.PE.imp' {X : Cx} {e : Expr} {t u : TE} (h : PE X e t) (i : ∀ σ H Q, u σ H Q → t σ H Q) : PE X e u := ⟨fun pins s σ H Q I q => h.run pins s σ H Q I (i σ H Q q)⟩
theorem _root_.L2.PT.imp' {X : Cx} {e : Expr} {t u : TT} (h : PT X e t) (i : ∀ σ H Q, u σ H Q → t σ H Q) : PT X e u := ⟨fun pins s σ H Q I q => h.run pins s σ H Q I (i σ H Q q)⟩
theorem _root_.L2.PW.imp' {X : Cx} {e : Expr} {t u : TT} (h : PW X e t) (i : ∀ σ H Q, u σ H Q → t σ H Q) : PW X e u := ⟨fun wh pins s σ H Q I q => h.run wh pins s σ H Q I (i σ H Q q)⟩
theorem _root_.L2.PA.imp' {X : Cx} {e : List Expr} {t u : TA} (h : PA X e t) (i : ∀ σ H Q, u σ H Q → t σ H Q) : PA X e u := ⟨fun ps pins s σ H Q I q => h.run ps pins s σ H Q I (i σ H Q q)⟩
theorem _root_.L2.PO.imp' {X : Cx} {e : Option Expr} {t u : TO} (h : PO X e t) (i : ∀ σ H Q, u σ H Q → t σ H Q) : PO X e u := by
  first
    | exact ⟨fun pins s σ H Q I q => h.run pins s σ H Q I (i σ H Q q)⟩
    | (cases e <;> exact ⟨fun pins s σ H Q I q => h.run pins s σ H Q I (i σ H Q q)⟩)
theorem _root_.L2.PS.imp' {X : Cx} {e : Stmt} {t u : TS} (h : PS X e t) (i : ∀ D σ H, u D σ H → t D σ H) : PS X e u := ⟨fun pins s σ H D I q => h.run pins s σ H D I (i D σ H q)⟩
theorem _root_.L2.PSs.imp' {X : Cx} {e : List Stmt} {t u : TS} (h : PSs X e t) (i : ∀ D σ H, u D σ H → t D σ H) : PSs X e u := ⟨fun pins s σ H D I q => h.run pins s σ H D I (i D σ H q)⟩
theorem _root_.L2.PG.imp' {X : Cx} {e : Expr} {t u : TG} (h : PG X e t) (i : ∀ v σ H Q, u v σ H Q → t v σ H Q) : PG X e u := ⟨fun pins s σ H v w Q I r q => h.run pins s σ H v w Q I r (i v σ H Q q)⟩
theorem _root_.L2.PGs.imp' {X : Cx} {e : List Expr} {t u : TGs} (h : PGs X e t) (i : ∀ v σ H Q, u v σ H Q → t v σ H Q) : PGs X e u := ⟨fun pins s σ H v w Q I r q => h.run pins s σ H v w Q I r (i v σ H Q q)⟩
end DL

namespace DL
open PySem PySem.Spec PyProof.Rows L2
section
variable {K : Kw} {σ : L2.St} {H : Hp}
/-! ### plumbing -/
theorem lE_un {ta : WE} {Q : VK} {R : D → Sto → WQ → Prop} {RR : V → Hp → Prop}
    (h : lE K (fun env S Q => ta env S fun x S1 => R x S1 Q) σ H Q)
    (hR : ∀ x S1 Q0 v H1, R x S1 Q0 → Rp K H1 v x → SOk K H1 S1 → PostE K S1 H1 Q0 Q → RR v H1) : lE K ta σ H RR := by
  obtain ⟨env, S, Q0, er, so, q, ps⟩ := h
  exact ⟨env, S, fun x S1 => R x S1 Q0, er, so, q, fun x S1 h1 v H1 rv s1 f1 => hR x S1 Q0 v H1 h1 rv s1 (ps.trans f1)⟩
theorem lE_bin {ta tb : WE} {Q : VK} {R : D → D → Sto → WQ → Prop} {RR : V → V → Hp → Prop}
    (h : lE K (eBin R ta tb) σ H Q)
    (hR : ∀ x y S2 Q0 v u H2, R x y S2 Q0 → Rp K H2 v x → Rp K H2 u y → SOk K H2 S2 → PostE K S2 H2 Q0 Q → RR v u H2) :
    lE K ta σ H fun v H1 => lE K tb σ H1 fun u H2 => RR v u H2 := by
  obtain ⟨env, S, Q0, er, so, q, ps⟩ := h
  refine ⟨env, S, fun x S1 => tb env S1 fun y S2 => R x y S2 Q0, er, so, q, fun x S1 h1 v H1 rv s1 f1 => ?_⟩
  refine ⟨env, S1, fun y S2 => R x y S2 Q0, er.mono f1.tk, s1, h1, fun y S2 h2 u H2 ru s2 f2 => ?_⟩
  exact hR x y S2 Q0 v u H2 h2 (rv.mono f2.tk) ru s2 (ps.trans (f1.trans f2))
/-- what is handed on without a change of the store -/
theorem PostE.here {S : Sto} {Q0 : WQ} {Q : VK} {d : D} {v : V} (ps : PostE K S H Q0 Q) (so : SOk K H S) (q : Q0 d S) (r : Rp K H v d) : Q v H := ps d S q v H r so (.refl S H)
/-- a list made, handed on -/
theorem PostE.made {S : Sto} {Q0 : WQ} {Q : VK} {vs : List V} {xs : List D} (ps : PostE K S H Q0 Q) (so : SOk K H S) (r : RpAll K H vs xs) (hz : xs.length ≤ sizeLine)
    (q : ∀ p, sget S p = Option.none → Q0 (.ref p) ((p, .lst xs) :: S)) : ∀ p, H p = Option.none → Q (.ref p) (upd H p (.lst vs)) := fun p hp =>
  ps _ _ (q p (so.none hp)) _ _ (.ref p) (so.new hp r hz) (.new S hp)
/-- a tuple made, handed on -/
theorem PostE.tup {S : Sto} {Q0 : WQ} {Q : VK} {vs : List V} {xs : List D} (ps : PostE K S H Q0 Q) (so : SOk K H S) (r : RpAll K H vs xs) (hz : xs.length ≤ sizeLine) (q : Q0 (.tup xs) S) :
    ∀ p, H p = Option.none → Q (.ref p) (upd H p (.tup vs)) := fun p hp =>
  ps _ _ q _ _ (.tup (SqT.of upd_same) (r.mono (.new hp)) hz) (so.off hp) (.off S hp)
end

section
variable {X : Cx} {a b c : Expr} {ta tb tc : WE} {pos : Pos}
/-! ### names, constants -/
theorem q_var (i : Nat) {x : Str} {pos : Pos} (hN : X.N[i]? = some x := by rfl) (hv : Vis X.env.scope x := by first | exact Or.inl rfl | exact Or.inr (Or.inl rfl) | exact Or.inr (Or.inr rfl)) (hd : (x == ("__debug__" : Str)) = false := by decide)
    (hcd : (x == ("__classdict__" : Str)) = false := by decide) : QE X (.Name x pos) (eVar i) := (pe_var hN hv hd hcd).imp' fun σ H Q ⟨env, S, Q0, er, so, q, ps⟩ => by
  unfold eVar at q
  split at q
  · rename_i d e
    obtain ⟨v, e', r⟩ := er.2 i d e
    exact ⟨v, e', ps.here so q r⟩
  · exact q.elim
theorem lE_C {K : Kw} {σ : L2.St} {H : Hp} {Q : VK} {d : D} {v : V} (r : ∀ H, Rp K H v d) (h : lE K (eC d) σ H Q) : Q v H := by
  obtain ⟨env, S, Q0, er, so, q, ps⟩ := h
  exact ps.here so q (r H)
theorem q_int {i j pos} : QE X (.Constant (.int i) j pos) (eC (.int i)) := pe_int.imp' fun _ _ _ h => lE_C (fun _ => .int i) h
theorem q_bl {b j pos} : QE X (.Constant (.bool b) j pos) (eC (.bl b)) := pe_bl.imp' fun _ _ _ h => lE_C (fun _ => .bl b) h
theorem q_non {j pos} : QE X (.Constant .none j pos) (eC .non) := pe_non.imp' fun _ _ _ h => lE_C (fun _ => .non) h
theorem q_str {x j pos} : QE X (.Constant (.str x) j pos) (eC (.str x)) := pe_str.imp' fun _ _ _ h => lE_C (fun _ => .str x) h
/-- a module's constant -/
theorem q_glob {x : Str} {d : D} {v : V} {u : Value} {pos : Pos} (hg : Gl X x) (hm : X.mg x = some u) (r : RelV v u) (rp : ∀ H, Rp X.kw H v d) (hd : (x == ("__debug__" : Str)) = false := by decide) : QE X (.Name x pos) (eC d) :=
  (pe_glob hg hm r hd).imp' fun _ _ _ h => lE_C rp h

theorem q_globI {x : Str} {i : Int} {t : Tok} {pos : Pos} (hg : Gl X x) (hm : X.mg x = some (.int i t)) (hd : (x == ("__debug__" : Str)) = false := by decide) : QE X (.Name x pos) (eC (.int i)) := q_glob (v := .int i) hg hm ⟨t, rfl⟩ (fun _ => .int _) hd
theorem q_globS {x : Str} {z : Str} {t : Tok} {pos : Pos} (hg : Gl X x) (hm : X.mg x = some (.str z t)) (hd : (x == ("__debug__" : Str)) = false := by decide) : QE X (.Name x pos) (eC (.str z)) := q_glob (v := .str z) hg hm ⟨t, rfl⟩ (fun _ => .str _) hd

theorem q_globT {x : Str} {a : Addr} {ds : List D} {pos : Pos} (hg : Gl X x) (hm : X.mg x = some (.ref a)) (r : ∀ H, Rp X.kw H (.ref a) (.tup ds)) (hd : (x == ("__debug__" : Str)) = false := by decide) : QE X (.Name x pos) (eC (.tup ds)) := q_glob (v := .ref a) hg hm rfl r hd
/-- an item of a tuple that K knows -/
inductive Kt (K : Kw) : Value → D → Prop
  | int (i : Int) (t : Tok) : Kt K (.int i t) (.int i)
  | str (x : Str) (t : Tok) : Kt K (.str x t) (.str x)
  | bl (b : Bool) : Kt K (.bool b) (.bl b)
  | non : Kt K .none .non
  | ref {b : Addr} {d : D} (h : ∀ H, Rp K H (.ref b) d) : Kt K (.ref b) d
inductive KtAll (K : Kw) : List Value → List D → Prop
  | nil : KtAll K [] []
  | cons {v : Value} {vs : List Value} {d : D} {ds : List D} : Kt K v d → KtAll K vs ds → KtAll K (v :: vs) (d :: ds)
theorem KtAll.vals {K : Kw} (H : Hp) : ∀ {us : List Value} {ds : List D}, KtAll K us ds → ∃ vs, Vals vs us ∧ RpAll K H vs ds
  | _, _, .nil => ⟨[], .nil, .nil⟩
  | _, _, .cons h t => by
    obtain ⟨vs, a, b⟩ := KtAll.vals H t
    cases h with
    | int i t => exact ⟨.int i :: vs, .cons ⟨_, rfl⟩ a, .cons (.int i) b⟩
    | str x t => exact ⟨.str x :: vs, .cons ⟨_, rfl⟩ a, .cons (.str x) b⟩
    | bl k => exact ⟨.bl k :: vs, .cons rfl a, .cons (.bl k) b⟩
    | non => exact ⟨.non :: vs, .cons rfl a, .cons .non b⟩
    | ref h => exact ⟨V.ref _ :: vs, .cons rfl a, .cons (h H) b⟩
theorem rp_kt {K : Kw} {a : Addr} {o : Obj} {us : List Value} {n : Nat} {ds : List D} (lk : K.K.lookup a = some o) (hc : o.cls = .type "tuple") (hd : o.data = .seq us.toArray n) (hz : us.length ≤ 1000) (h : KtAll K us ds) : ∀ H, Rp K H (.ref a) (.tup ds) := fun H => by
  obtain ⟨vs, h1, h2⟩ := h.vals H
  have e1 := h1.length
  have e2 := h2.length
  have big : 1000 ≤ sizeLine := by decide
  exact .tup (.inr ⟨o, us.toArray, n, lk, hc, hd, by rw [List.size_toArray]; omega, by simpa using h1⟩) h2 (by omega)

/-! ### + - * // % ** -/
/-- an operator: its rule over values follows from its rule over data -/
def Opr (X : Cx) (r : R2) (R : D → D → Sto → WQ → Prop) : Prop := ∀ x y S Q0 v u H Q, R x y S Q0 → Rp X.kw H v x → Rp X.kw H u y → SOk X.kw H S → PostE X.kw S H Q0 Q → r v u H Q
theorem q_bin {op : Operator} {r : R2} {R : D → D → Sto → WQ → Prop} (ho : OpR X (binaryOp op) r) (hr : Opr X r R) (ha : QE X a ta) (hb : QE X b tb) : QE X (.BinOp a op b pos) (eBin R ta tb) :=
  (pe_op ho ha hb).imp' fun σ H Q h => lE_bin h fun x y S2 Q0 v u H2 => hr x y S2 Q0 v u H2 Q
theorem opr_sub : Opr X (rI0 fun i j => .int (i - j)) dSub := fun x y S Q0 v u H Q h rv ru so ps => by
  unfold dSub at h
  split at h
  · cases rv; cases ru
    exact ⟨_, _, rfl, rfl, ps.here so h (.int _)⟩
  · exact h.elim
theorem opr_mod : Opr X (rI (fun _ j => 0 < j) fun i j => .int (i % j)) dMod := fun x y S Q0 v u H Q h rv ru so ps => by
  unfold dMod at h
  split at h
  · cases rv; cases ru
    exact ⟨_, _, rfl, rfl, h.1, ps.here so h.2 (.int _)⟩
  · exact h.elim
theorem opr_pow : Opr X (rI CPow fun i j => .int (i ^ j.toNat)) dPow := fun x y S Q0 v u H Q h rv ru so ps => by
  unfold dPow at h
  split at h
  · cases rv; cases ru
    exact ⟨_, _, rfl, rfl, h.1, ps.here so h.2 (.int _)⟩
  · exact h.elim

theorem op_rep_str : OpR X (binaryOp .Mult) (fun x y H Q => ∃ z k, x = .str z ∧ y = .int k ∧ (-(2 ^ 63) ≤ k ∧ k < 2 ^ 63 ∧ z.length * k.toNat ≤ sizeLine) ∧ Q (.str (Txt.mul z k)) H) := by
  intro pins s σ H x y v u Q I rx ry h
  obtain ⟨z, k, rfl, rfl, ⟨h1, h2, hz⟩, q⟩ := h
  obtain ⟨t, rfl⟩ := rx
  obtain ⟨t', rfl⟩ := ry
  refine SB.mul ⟨?_, fun h _ => ?_, fun h _ => ?_⟩ fun t' tk => ⟨.str _, H, I.tok _, ⟨_, rfl⟩, q⟩
  · rw [decide_eq_false (by omega), decide_eq_false (by omega)]; rfl
  · have e : (z.length : Int) * k = (z.length * k.toNat : Nat) := by
      rw [Int.natCast_mul, Int.toNat_of_nonneg (by omega)]
    have hs : (sizeLine : Int) ≤ 2 ^ 63 - 1 := by decide
    have := Int.le_ediv_of_mul_le (a := (z.length : Int)) (b := 2 ^ 63 - 1) (c := k) (by omega) (by omega)
    omega
  · unfold Builtin.Str.tooLong
    exact decide_eq_false (by omega)
theorem opr_mul : Opr X (fun x y H Q => (rI CMul (fun i j => .int (i * j)) x y H Q ∨ rI CMulW (fun i j => .int (i * j)) x y H Q) ∨ ((∃ z k, x = V.str z ∧ y = V.int k ∧ (-(2 ^ 63) ≤ k ∧ k < 2 ^ 63 ∧ z.length * k.toNat ≤ sizeLine) ∧ Q (.str (Txt.mul z k)) H) ∨ (L2.rRep x y H Q ∨ rRepT X.K x y H Q))) dMul := fun x y S Q0 v u H Q h rv ru so ps => by
  unfold dMul at h
  split at h
  · cases rv; cases ru
    rcases h with ⟨h | h | h, q⟩
    · exact .inl <| .inl ⟨_, _, rfl, rfl, .inl (by omega), ps.here so q (.int _)⟩
    · exact .inl <| .inl ⟨_, _, rfl, rfl, .inr (by omega), ps.here so q (.int _)⟩
    · exact .inl <| .inr ⟨_, _, rfl, rfl, Nat.lt_of_le_of_lt h (by decide), ps.here so q (.int _)⟩
  · cases rv; cases ru
    exact .inr <| .inl ⟨_, _, rfl, rfl, h.1, ps.here so h.2 (.str _)⟩
  · cases rv; cases ru
    obtain ⟨xs, e1, h3, h⟩ := onL_iff.mp h
    obtain ⟨vs, h1, r1, _⟩ := so _ _ e1
    exact .inr <| .inr <| .inl ⟨_, _, _, rfl, rfl, h1, h3.1, h3.2.1, by rw [r1.length]; exact h3.2.2, ps.made so (r1.rep _) (by rw [List.length_flatten]; simpa using by rw [Nat.mul_comm]; exact h3.2.2) h⟩
  · cases ru
    cases rv with
    | tup h1 r1 hz =>
      obtain ⟨⟨h2, h3, h4, h5⟩, q⟩ := h
      refine .inr <| .inr <| .inr ⟨_, _, _, rfl, rfl, h1, fun e => h2 (by rw [e] at r1; cases r1; rfl), h3, h4, by rw [r1.length]; exact h5, ps.tup so (r1.rep _) ?_ q⟩
      rw [List.length_flatten]
      rename_i xs k _ _
      have : k.toNat * xs.length ≤ 1000 * 1000 := Nat.mul_le_mul (by omega) h5
      have hb : 1000 * 1000 ≤ sizeLine := by decide
      simp
      omega
  · exact h.elim
theorem opr_div : Opr X (rI CDivW fun i j => .int (i / j)) dDiv := fun x y S Q0 v u H Q h rv ru so ps => by
  unfold dDiv at h
  split at h
  · cases rv; cases ru
    exact ⟨_, _, rfl, rfl, ⟨h.1.1, Nat.lt_trans h.1.2 (by decide)⟩, ps.here so h.2 (.int _)⟩
  · exact h.elim
theorem op_fdivX : OpR X (binaryOp .FloorDiv) (rI (fun _ j => j ≠ 0 ∧ j.natAbs.log2 < 9000) fun i j => .int (i.fdiv j)) := opI fun i j _ _ _ _ _ hc q =>
  floordiv_int hc.1 q (.inl (PyProof.noPylong_of_log2 hc.2))
theorem opr_fdiv : Opr X (rI (fun _ j => j ≠ 0 ∧ j.natAbs.log2 < 9000) fun i j => .int (i.fdiv j)) dFdiv := fun x y S Q0 v u H Q h rv ru so ps => by
  unfold dFdiv at h
  split at h
  · cases rv; cases ru
    exact ⟨_, _, rfl, rfl, ⟨h.1.1, Nat.lt_trans h.1.2 (by decide)⟩, ps.here so h.2 (.int _)⟩
  · exact h.elim
/-- + by what is added -/
def rAddAny (X : Cx) : R2 := fun x y H Q => (rI0 (fun i j => .int (i + j)) x y H Q ∨ (∃ i k, x = V.int i ∧ y = V.bl k ∧ Q (.int (i + b2i k)) H)) ∨
  (∃ i j, x = V.str i ∧ y = V.str j ∧ i.length + j.length ≤ sizeLine ∧ Q (.str (i ++ j)) H) ∨ L2.rCat x y H Q ∨ rCatA X.K x y H Q
theorem op_addAny : OpR X (binaryOp .Add) (rAddAny X) := ((op_add.or op_add_ib).or (op_add_str.or (op_cat.or op_catA)))
theorem SOk.lst {K : Kw} {H : Hp} {S : Sto} {a : Addr} {xs : List D} (so : SOk K H S) (e : sget S a = some (.lst xs)) : ∃ vs, H a = some (.lst vs) ∧ RpAll K H vs xs ∧ xs.length ≤ sizeLine := so a _ e
theorem opr_add : Opr X (rAddAny X) dAdd := fun x y S Q0 v u H Q h rv ru so ps => by
  unfold dAdd at h
  split at h
  · cases rv; cases ru
    exact .inl (.inl ⟨_, _, rfl, rfl, ps.here so h (.int _)⟩)
  · cases rv; cases ru
    rename_i b
    refine .inl (.inr ⟨_, b, rfl, rfl, ps.here so h ?_⟩)
    cases b <;> exact .int _
  · cases rv; cases ru
    exact .inr (.inl ⟨_, _, rfl, rfl, h.1, ps.here so h.2 (.str _)⟩)
  · rename_i a b
    cases rv with
    | tup h1 r1 z1 =>
      cases ru with
      | tup h2 r2 z2 =>
        refine .inr (.inr (.inr ⟨_, _, _, _, rfl, rfl, h1, h2, by rw [r1.length, r2.length]; exact h.1, fun e => ?_, fun _ e => ?_, fun _ _ => ?_⟩))
        · subst e
          cases r1
          exact ps.here so h.2 (.tup h2 r2 z2)
        · subst e
          cases r2
          refine ps.here so h.2 ?_
          rw [List.append_nil]
          exact .tup h1 r1 z1
        · exact ps.tup so (r1.append r2) (by rw [List.length_append]; exact h.1) h.2
  · cases rv; cases ru
    · obtain ⟨xs, e1, h⟩ := onL_iff.mp h
      obtain ⟨ys, e2, h⟩ := onL_iff.mp h
      obtain ⟨vs, h1, r1, _⟩ := so.lst e1
      obtain ⟨ws, h2, r2, _⟩ := so.lst e2
      exact .inr (.inr (.inl ⟨_, _, _, _, rfl, rfl, h1, h2, by rw [r1.length, r2.length]; exact h.1, ps.made so (r1.append r2) (by rw [List.length_append]; exact h.1) h.2⟩))
  · exact h.elim
theorem q_add (ha : QE X a ta) (hb : QE X b tb) : QE X (.BinOp a .Add b pos) (eBin dAdd ta tb) := q_bin op_addAny opr_add ha hb
theorem q_sub (ha : QE X a ta) (hb : QE X b tb) : QE X (.BinOp a .Sub b pos) (eBin dSub ta tb) := q_bin op_sub opr_sub ha hb
theorem q_mul (ha : QE X a ta) (hb : QE X b tb) : QE X (.BinOp a .Mult b pos) (eBin dMul ta tb) := q_bin ((op_mul.or op_mulW).or (op_rep_str.or (op_rep.or op_repT))) opr_mul ha hb
theorem q_div (ha : QE X a ta) (hb : QE X b tb) : QE X (.BinOp a .FloorDiv b pos) (eBin dDiv ta tb) := q_bin op_fdivW opr_div ha hb
theorem q_fdiv (ha : QE X a ta) (hb : QE X b tb) : QE X (.BinOp a .FloorDiv b pos) (eBin dFdiv ta tb) := q_bin op_fdivX opr_fdiv ha hb
theorem q_mod (ha : QE X a ta) (hb : QE X b tb) : QE X (.BinOp a .Mod b pos) (eBin dMod ta tb) := q_bin op_mod opr_mod ha hb
theorem q_pow (ha : QE X a ta) (hb : QE X b tb) : QE X (.BinOp a .Pow b pos) (eBin dPow ta tb) := q_bin op_pow opr_pow ha hb
theorem q_neg (ha : QE X a ta) : QE X (.UnaryOp .USub a pos) (eNeg ta) := (pe_un un_neg ha).imp' fun σ H Q h => lE_un (R := fun x S1 Q => match x with | .int i => Q (.int (-i)) S1 | _ => False) h fun x S1 Q0 v H1 h rv so ps => by
  split at h
  · cases rv
    exact ⟨_, rfl, ps.here so h (.int _)⟩
  · exact h.elim

/-! ### comparisons -/
theorem opr_cmp {f : Int → Int → Bool} : Opr X (rI0 fun i j => .bl (f i j)) (dCmp f) := fun x y S Q0 v u H Q h rv ru so ps => by
  unfold dCmp at h
  split at h
  · cases rv; cases ru
    exact ⟨_, _, rfl, rfl, ps.here so h (.bl _)⟩
  · exact h.elim
theorem q_cmp {op : CmpOp} {r : R2} {R : D → D → Sto → WQ → Prop} (ho : OpR X (compareOp op) r) (hr : Opr X r R) (ha : QE X a ta) (hb : QE X b tb) (hm : behindInMarks op b = false) : QE X (.Compare a [op] [b] pos) (eBin R ta tb) :=
  (pe_cmpR ho ha hb hm).imp' fun σ H Q h => lE_bin h fun x y S2 Q0 v u H2 => hr x y S2 Q0 v u H2 Q
theorem q_lt (ha : QE X a ta) (hb : QE X b tb) : QE X (.Compare a [.Lt] [b] pos) (eBin dLt ta tb) := q_cmp op_lt opr_cmp ha hb (nomark _)
theorem q_le (ha : QE X a ta) (hb : QE X b tb) : QE X (.Compare a [.LtE] [b] pos) (eBin dLe ta tb) := q_cmp op_le opr_cmp ha hb (nomark _)
theorem q_gt (ha : QE X a ta) (hb : QE X b tb) : QE X (.Compare a [.Gt] [b] pos) (eBin dGt ta tb) := q_cmp op_gt opr_cmp ha hb (nomark _)
theorem q_ge (ha : QE X a ta) (hb : QE X b tb) : QE X (.Compare a [.GtE] [b] pos) (eBin dGe ta tb) := q_cmp op_ge opr_cmp ha hb (nomark _)
/-! == over data of any depth -/
mutual
def pyD : D → PyData
  | .non => .none
  | .bl b => .bool b
  | .int i => .int i
  | .str x => .str x
  | .tup xs => .tuple (pyDs xs)
  | .ref _ | .frz _ | .ty _ | .exc _ _ _ _ => .none
def pyDs : List D → List PyData
  | [] => []
  | x :: xs => pyD x :: pyDs xs
end
mutual
theorem Rp.dp {K : Kw} {H : Hp} : ∀ {v : V} {d : D}, Rp K H v d → cmpOk d = true → Dp K H v (pyD d)
  | _, _, .non, _ => by unfold pyD; exact .non
  | _, _, .bl b, _ => by unfold pyD; exact .bl b
  | _, _, .int i, _ => by unfold pyD; exact .int i
  | _, _, .str x, _ => by unfold pyD; exact .str x
  | _, _, .tup h hs _, c => by unfold cmpOk at c; unfold pyD; exact .tup h (RpAll.dp hs c)
  | _, _, .ref a, c => by unfold cmpOk at c; cases c
  | _, _, .frz _ _ _, c => by unfold cmpOk at c; cases c
  | _, _, .ty _, c => by unfold cmpOk at c; cases c
  | _, _, .exc _ _, c => by unfold cmpOk at c; cases c
theorem RpAll.dp {K : Kw} {H : Hp} : ∀ {vs : List V} {ds : List D}, RpAll K H vs ds → cmpOks ds = true → DpAll K H vs (pyDs ds)
  | _, _, .nil, _ => by unfold pyDs; exact .nil
  | _, _, .cons h hs, c => by
    unfold cmpOks at c
    rw [Bool.and_eq_true] at c
    unfold pyDs
    exact .cons (Rp.dp h c.1) (RpAll.dp hs c.2)
end
mutual
theorem cmp_lay : ∀ (d : D), cmpOk d = true → (pyD d).canLay0 = true
  | .non, _ => by simp [pyD, PyData.canLay0]
  | .bl b, _ => by simp [pyD, PyData.canLay0]
  | .int i, _ => by simp [pyD, PyData.canLay0]
  | .str x, c => by unfold cmpOk at c; simp [pyD, PyData.canLay0, c]
  | .tup xs, c => by unfold cmpOk at c; simp [pyD, PyData.canLay0, cmps_lay xs c]
  | .ref a, c => by unfold cmpOk at c; cases c
  | .frz _, c => by unfold cmpOk at c; cases c
  | .ty _, c => by unfold cmpOk at c; cases c
  | .exc _ _ _ _, c => by unfold cmpOk at c; cases c
theorem cmps_lay : ∀ (ds : List D), cmpOks ds = true → PyData.canLayAll0 (pyDs ds) = true
  | [], _ => by simp [pyDs, PyData.canLayAll0]
  | d :: ds, c => by
    unfold cmpOks at c
    rw [Bool.and_eq_true] at c
    simp [pyDs, PyData.canLayAll0, cmp_lay d c.1, cmps_lay ds c.2]
end
mutual
theorem pyD_depth : ∀ (d : D), (pyD d).depth = depD d
  | .non => by simp [pyD, PyData.depth, depD]
  | .bl b => by simp [pyD, PyData.depth, depD]
  | .int i => by simp [pyD, PyData.depth, depD]
  | .str x => by simp [pyD, PyData.depth, depD]
  | .tup xs => by simp [pyD, PyData.depth, depD, pyDs_depth xs]
  | .ref a => by simp [pyD, PyData.depth, depD]
  | .frz _ => by simp [pyD, PyData.depth, depD]
  | .ty _ => by simp [pyD, PyData.depth, depD]
  | .exc _ _ _ _ => by simp [pyD, PyData.depth, depD]
theorem pyDs_depth : ∀ (ds : List D), PyData.depthAll (pyDs ds) = depDs ds
  | [] => by simp [pyDs, PyData.depthAll, depDs]
  | d :: ds => by simp [pyDs, PyData.depthAll, depDs, pyD_depth d, pyDs_depth ds]
end
mutual
theorem pyD_eqv : ∀ (d e : D), cmpOk d = true → cmpOk e = true → PyData.eqv (pyD d) (pyD e) = eqD d e
  | d, e, hd, he => by
    cases d <;> cases e <;> first
      | (simp only [pyD, PyData.eqv, eqD]; done)
      | (unfold cmpOk at hd he; simp only [pyD, PyData.eqv, eqD]; exact pyDs_eqv _ _ hd he)
      | (exfalso; simp [cmpOk] at hd; done)
      | (exfalso; simp [cmpOk] at he; done)
theorem pyDs_eqv : ∀ (ds es : List D), cmpOks ds = true → cmpOks es = true → PyData.eqvAll (pyDs ds) (pyDs es) = eqDs ds es
  | [], [], _, _ => by simp only [pyDs, PyData.eqvAll, eqDs]
  | [], _ :: _, _, _ => by simp only [pyDs, PyData.eqvAll, eqDs]
  | _ :: _, [], _, _ => by simp only [pyDs, PyData.eqvAll, eqDs]
  | d :: ds, e :: es, hd, he => by
    unfold cmpOks at hd he
    rw [Bool.and_eq_true] at hd he
    simp only [pyDs, PyData.eqvAll, eqDs, pyD_eqv d e hd.1 he.1, pyDs_eqv ds es hd.2 he.2]
end
theorem cmp_shaped {d : D} (h : cmpOk d = true) (hd : depD d ≤ 60) : SeqAt.shaped (pyD d) = true := by
  unfold SeqAt.shaped
  rw [cmp_lay d h, pyD_depth, Bool.true_and, decide_eq_true_eq]
  omega
theorem cmps_shaped {ds : List D} (h : cmpOks ds = true) (hd : depDs ds ≤ 50) : SeqAt.shaped (.list (pyDs ds)) = true := by
  unfold SeqAt.shaped
  rw [Bool.and_eq_true, decide_eq_true_eq]
  refine ⟨by simp only [PyData.canLay0]; exact cmps_lay ds h, ?_⟩
  simp only [PyData.depth]
  rw [pyDs_depth]
  omega
def rEqAny (X : Cx) : R2 := fun x y H Q => rEq x y H Q ∨ rEqD X.K x y H Q
def rNeAny (X : Cx) : R2 := fun x y H Q => rNe x y H Q ∨ rNeD X.K x y H Q
theorem opr_eqD : Opr X (rEqD X.K) fun x y S Q => (cmpOk x = true ∧ depD x ≤ 60 ∧ cmpOk y = true ∧ depD y ≤ 60) ∧ Q (.bl (eqD x y)) S := fun x y S Q0 v u H Q h rv ru so ps => by
  obtain ⟨⟨h1, h2, h3, h4⟩, q⟩ := h
  refine ⟨_, _, rv.dp h1, ru.dp h3, cmp_shaped h1 h2, cmp_shaped h3 h4, ?_⟩
  rw [pyD_eqv _ _ h1 h3]
  exact ps.here so q (.bl _)
theorem opr_neD : Opr X (rNeD X.K) fun x y S Q => (cmpOk x = true ∧ depD x ≤ 60 ∧ cmpOk y = true ∧ depD y ≤ 60) ∧ Q (.bl (!eqD x y)) S := fun x y S Q0 v u H Q h rv ru so ps => by
  obtain ⟨⟨h1, h2, h3, h4⟩, q⟩ := h
  refine ⟨_, _, rv.dp h1, ru.dp h3, cmp_shaped h1 h2, cmp_shaped h3 h4, ?_⟩
  rw [pyD_eqv _ _ h1 h3]
  exact ps.here so q (.bl _)
theorem opr_eq : Opr X (rEqAny X) dEq := fun x y S Q0 v u H Q h rv ru so ps => by
  unfold dEq at h
  split at h
  · cases rv; cases ru
    refine .inl ⟨rfl, ?_⟩
    rw [dec_int, Bool.beq_eq_decide_eq]
    exact ps.here so h (.bl _)
  · cases rv; cases ru
    refine .inl ⟨rfl, ?_⟩
    rw [dec_str, Bool.beq_eq_decide_eq]
    exact ps.here so h (.bl _)
  · cases rv; cases ru
    refine .inl ⟨rfl, ?_⟩
    rw [dec_bl, Bool.beq_eq_decide_eq]
    exact ps.here so h (.bl _)
  · cases rv; cases ru
    obtain ⟨xs, e1, h⟩ := onL_iff.mp h
    obtain ⟨ys, e2, ⟨h1, h2, h3, h4⟩, q⟩ := onL_iff.mp h
    obtain ⟨vs, g1, r1, _⟩ := so _ _ e1
    obtain ⟨ws, g2, r2, _⟩ := so _ _ e2
    refine .inr ⟨_, _, .lst (SqL.of g1) (r1.dp h1), .lst (SqL.of g2) (r2.dp h3), cmps_shaped h1 h2, cmps_shaped h3 h4, ?_⟩
    have e : PyData.eqv (.list (pyDs xs)) (.list (pyDs ys)) = eqDs xs ys := by simp only [PyData.eqv, pyDs_eqv xs ys h1 h3]
    rw [e]
    exact ps.here so q (.bl _)
  · exact .inr (opr_eqD x y S Q0 v u H Q h rv ru so ps)
theorem opr_ne : Opr X (rNeAny X) dNe := fun x y S Q0 v u H Q h rv ru so ps => by
  unfold dNe at h
  split at h
  · cases rv; cases ru
    refine .inl ⟨rfl, ?_⟩
    rw [dec_int, Bool.beq_eq_decide_eq]
    exact ps.here so h (.bl _)
  · cases rv; cases ru
    refine .inl ⟨rfl, ?_⟩
    rw [dec_str, Bool.beq_eq_decide_eq]
    exact ps.here so h (.bl _)
  · cases rv; cases ru
    refine .inl ⟨rfl, ?_⟩
    rw [dec_bl, Bool.beq_eq_decide_eq]
    exact ps.here so h (.bl _)
  · cases rv; cases ru
    obtain ⟨xs, e1, h⟩ := onL_iff.mp h
    obtain ⟨ys, e2, ⟨h1, h2, h3, h4⟩, q⟩ := onL_iff.mp h
    obtain ⟨vs, g1, r1, _⟩ := so _ _ e1
    obtain ⟨ws, g2, r2, _⟩ := so _ _ e2
    refine .inr ⟨_, _, .lst (SqL.of g1) (r1.dp h1), .lst (SqL.of g2) (r2.dp h3), cmps_shaped h1 h2, cmps_shaped h3 h4, ?_⟩
    have e : PyData.eqv (.list (pyDs xs)) (.list (pyDs ys)) = eqDs xs ys := by simp only [PyData.eqv, pyDs_eqv xs ys h1 h3]
    rw [e]
    exact ps.here so q (.bl _)
  · exact .inr (opr_neD x y S Q0 v u H Q h rv ru so ps)
theorem q_eq {k : Nat} (hr : Room k X.A) (ha : QE X a ta) (hb : QE X b tb) : QE X (.Compare a [.Eq] [b] pos) (eBin dEq ta tb) := q_cmp (op_eq.or (op_eqD hr.units)) opr_eq ha hb (nomark _)
theorem q_ne {k : Nat} (hr : Room k X.A) (ha : QE X a ta) (hb : QE X b tb) : QE X (.Compare a [.NotEq] [b] pos) (eBin dNe ta tb) := q_cmp (op_ne.or (op_neD hr.units)) opr_ne ha hb (nomark _)
/-! in, not in -/
theorem flat_V {K : Kw} {H : Hp} {v : V} {d : D} (r : Rp K H v d) (h : flatD d = true) : flatV v = true := by
  cases r <;> first | rfl | cases h
theorem flats_V {K : Kw} {H : Hp} : ∀ {vs : List V} {ds : List D}, RpAll K H vs ds → ds.all flatD = true → vs.all flatV = true
  | _, _, .nil, _ => rfl
  | _, _, .cons r t, h => by
    rw [List.all_cons, Bool.and_eq_true] at h ⊢
    exact ⟨flat_V r h.1, flats_V t h.2⟩
theorem eqV_D {K : Kw} {H : Hp} {v u : V} {d e : D} (r : Rp K H v d) (s : Rp K H u e) (h1 : flatD d = true) (h2 : flatD e = true) : eqV v u = eqD d e := by
  cases r <;> cases s <;> first | (simp only [eqV, eqD]; done) | cases h1 | cases h2
theorem inV_D {K : Kw} {H : Hp} {u : V} {e : D} (s : Rp K H u e) (h2 : flatD e = true) : ∀ {vs : List V} {ds : List D}, RpAll K H vs ds → ds.all flatD = true → inV u vs = memD e ds
  | _, _, .nil, _ => rfl
  | _, _, .cons r t, h => by
    rw [List.all_cons, Bool.and_eq_true] at h
    have := inV_D s h2 t h.2
    unfold inV memD at this ⊢
    rw [List.any_cons, List.any_cons, eqV_D r s h.1 h2, this]
theorem memD_py {e : D} (he : cmpOk e = true) : ∀ {ds : List D}, cmpOks ds = true → ((pyDs ds).any fun z => PyData.eqv z (pyD e)) = memD e ds
  | [], _ => rfl
  | d :: ds, h => by
    unfold cmpOks at h
    rw [Bool.and_eq_true] at h
    have := memD_py he h.2
    unfold memD at this ⊢
    unfold pyDs
    rw [List.any_cons, List.any_cons, pyD_eqv d e h.1 he, this]
def rInT (K : PySem.W.Frag) (f : Bool → Bool) : R2 := fun x y H Q => ∃ d ds, Dp K H x d ∧ Dp K H y (.tuple ds) ∧ SeqAt.shaped d = true ∧ PyData.canLayAll0 ds = true ∧ Q (.bl (f (ds.any fun z => PyData.eqv z d))) H
theorem op_inT (hu : X.A.units + 65 < cLine) : OpR X (compareOp .In) (rInT X.K id) := by
  intro pins s σ H x y v u Q I rx ry h
  obtain ⟨d, ds, hd, he, sd, se, q⟩ := h
  obtain ⟨as, r1⟩ := Dp.reads I d x v hd rx
  obtain ⟨bs, r2⟩ := Dp.reads I (.tuple ds) y u he ry
  exact SeqAt.in_tuple_reads r2 r1 se (SeqAt.canLay_of_shaped sd) (room_in_shaped sd hu) ⟨.bl _, H, I, rfl, q⟩
theorem op_notInT (hu : X.A.units + 65 < cLine) : OpR X (compareOp .NotIn) (rInT X.K (!·)) := by
  intro pins s σ H x y v u Q I rx ry h
  obtain ⟨d, ds, hd, he, sd, se, q⟩ := h
  obtain ⟨as, r1⟩ := Dp.reads I d x v hd rx
  obtain ⟨bs, r2⟩ := Dp.reads I (.tuple ds) y u he ry
  exact SeqAt.notIn_tuple_reads r2 r1 se (SeqAt.canLay_of_shaped sd) (room_in_shaped sd hu) ⟨.bl _, H, I, rfl, q⟩
def rInAny (X : Cx) : R2 := fun x y H Q => (∃ (c : Nat) (z : Str), x = V.str ⟨#[c]⟩ ∧ y = V.str z ∧ Q (.bl (decide (c ∈ z.cps.toList))) H) ∨ (rIn X.K false x y H Q ∨ (rInD X.K x y H Q ∨ rInT X.K id x y H Q))
def rNotInAny (X : Cx) : R2 := fun x y H Q => (∃ (c : Nat) (z : Str), x = V.str ⟨#[c]⟩ ∧ y = V.str z ∧ Q (.bl (!decide (c ∈ z.cps.toList))) H) ∨ (rIn X.K true x y H Q ∨ (rNotInD X.K x y H Q ∨ rInT X.K (!·) x y H Q))
theorem opr_in : Opr X (rInAny X) dIn := fun x y S Q0 v u H Q h rv ru so ps => by
  unfold dIn dInB at h
  split at h
  · obtain ⟨c, rfl, q⟩ := h
    cases ru; cases rv
    exact .inl ⟨c, _, rfl, rfl, ps.here so q (.bl _)⟩
  · cases ru with
    | tup h1 r1 hz =>
      obtain ⟨hc, q⟩ := h
      rcases hc with ⟨h2, h3⟩ | ⟨h2, h3, h4, h5⟩
      · exact .inr (.inl ⟨_, _, rfl, .inr h1, flat_V rv h2, flats_V r1 h3, by rw [inV_D rv h2 r1 h3]; exact ps.here so q (.bl _)⟩)
      · exact .inr (.inr (.inr ⟨_, _, rv.dp h2, .tup h1 (r1.dp h4), cmp_shaped h2 (by omega), cmps_lay _ h4, by rw [memD_py h2 h4]; exact ps.here so q (.bl _)⟩))
  · cases ru
    obtain ⟨ys, e, hc, q⟩ := onL_iff.mp h
    obtain ⟨vs, h1, r1, _⟩ := so _ _ e
    rcases hc with ⟨h2, h3⟩ | ⟨h2, h3, h4, h5⟩
    · exact .inr (.inl ⟨_, _, rfl, .inl (SqL.of h1), flat_V rv h2, flats_V r1 h3, by rw [inV_D rv h2 r1 h3]; exact ps.here so q (.bl _)⟩)
    · exact .inr (.inr (.inl ⟨_, _, rv.dp h2, .lst (SqL.of h1) (r1.dp h4), cmp_shaped h2 (by omega), cmps_shaped h4 h5, by rw [memD_py h2 h4]; exact ps.here so q (.bl _)⟩))
  · exact h.elim
theorem opr_notIn : Opr X (rNotInAny X) dNotIn := fun x y S Q0 v u H Q h rv ru so ps => by
  unfold dNotIn dInB at h
  split at h
  · obtain ⟨c, rfl, q⟩ := h
    cases ru; cases rv
    exact .inl ⟨c, _, rfl, rfl, ps.here so q (.bl _)⟩
  · cases ru with
    | tup h1 r1 hz =>
      obtain ⟨hc, q⟩ := h
      rcases hc with ⟨h2, h3⟩ | ⟨h2, h3, h4, h5⟩
      · exact .inr (.inl ⟨_, _, rfl, .inr h1, flat_V rv h2, flats_V r1 h3, by rw [inV_D rv h2 r1 h3]; exact ps.here so q (.bl _)⟩)
      · exact .inr (.inr (.inr ⟨_, _, rv.dp h2, .tup h1 (r1.dp h4), cmp_shaped h2 (by omega), cmps_lay _ h4, by rw [memD_py h2 h4]; exact ps.here so q (.bl _)⟩))
  · cases ru
    obtain ⟨ys, e, hc, q⟩ := onL_iff.mp h
    obtain ⟨vs, h1, r1, _⟩ := so _ _ e
    rcases hc with ⟨h2, h3⟩ | ⟨h2, h3, h4, h5⟩
    · exact .inr (.inl ⟨_, _, rfl, .inl (SqL.of h1), flat_V rv h2, flats_V r1 h3, by rw [inV_D rv h2 r1 h3]; exact ps.here so q (.bl _)⟩)
    · exact .inr (.inr (.inl ⟨_, _, rv.dp h2, .lst (SqL.of h1) (r1.dp h4), cmp_shaped h2 (by omega), cmps_shaped h4 h5, by rw [memD_py h2 h4]; exact ps.here so q (.bl _)⟩))
  · exact h.elim
theorem op_inAny {k : Nat} (hr : Room k X.A) : OpR X (compareOp .In) (rInAny X) := op_in_sign.or (op_in_seq.or ((op_inD (by have := hr.un; omega)).or (op_inT (by have := hr.un; omega))))
theorem op_notInAny {k : Nat} (hr : Room k X.A) : OpR X (compareOp .NotIn) (rNotInAny X) := op_notIn_sign.or (op_notIn_seq.or ((op_notInD (by have := hr.un; omega)).or (op_notInT (by have := hr.un; omega))))
theorem q_in {k : Nat} (hr : Room k X.A) (ha : QE X a ta) (hb : QE X b tb) (hm : behindInMarks .In b = false := by first | exact nomark _ | rfl) : QE X (.Compare a [.In] [b] pos) (eBin dIn ta tb) := q_cmp (op_inAny hr) opr_in ha hb hm
theorem q_notIn {k : Nat} (hr : Room k X.A) (ha : QE X a ta) (hb : QE X b tb) (hm : behindInMarks .NotIn b = false := by first | exact nomark _ | rfl) : QE X (.Compare a [.NotIn] [b] pos) (eBin dNotIn ta tb) := q_cmp (op_notInAny hr) opr_notIn ha hb hm
theorem isNon_of {K : Kw} {H : Hp} {v : V} {d : D} (r : Rp K H v d) : decide (v = .non) = isNon d := by
  cases r <;> first | rfl | (exact decide_eq_false (by intro z; cases z))
theorem q_isN {j p} (ha : QE X a ta) : QE X (.Compare a [.Is] [.Constant .none j p] pos) (eIsN ta) := (pe_cmpR op_isN ha (pe_non (X := X)) (nomark _)).imp' fun σ H Q h => lE_un (R := fun x S1 Q => Q (.bl (isNon x)) S1) h fun x S1 Q0 v H1 h rv so ps =>
  ⟨rfl, by rw [isNon_of rv]; exact ps.here so h (.bl _)⟩
theorem q_notN {j p} (ha : QE X a ta) : QE X (.Compare a [.IsNot] [.Constant .none j p] pos) (eNotN ta) := (pe_cmpR op_notN ha (pe_non (X := X)) (nomark _)).imp' fun σ H Q h => lE_un (R := fun x S1 Q => Q (.bl (!isNon x)) S1) h fun x S1 Q0 v H1 h rv so ps =>
  ⟨rfl, by rw [isNon_of rv]; exact ps.here so h (.bl _)⟩
theorem q_isB {j p b} (ha : QE X a ta) : QE X (.Compare a [.Is] [.Constant (.bool b) j p] pos) (eIsB b ta) := (pe_cmpR op_isBl ha (pe_bl (X := X)) (nomark _)).imp' fun σ H Q h => lE_un (R := fun x S1 Q => match x with | .bl a => Q (.bl (decide (a = b))) S1 | _ => False) h fun x S1 Q0 v H1 h rv so ps => by
  split at h
  · cases rv
    exact ⟨_, _, rfl, rfl, ps.here so h (.bl _)⟩
  · exact h.elim
theorem q_notB {j p b} (ha : QE X a ta) : QE X (.Compare a [.IsNot] [.Constant (.bool b) j p] pos) (eNotB b ta) := (pe_cmpR op_notBl ha (pe_bl (X := X)) (nomark _)).imp' fun σ H Q h => lE_un (R := fun x S1 Q => match x with | .bl a => Q (.bl (!decide (a = b))) S1 | _ => False) h fun x S1 Q0 v H1 h rv so ps => by
  split at h
  · cases rv
    exact ⟨_, _, rfl, rfl, ps.here so h (.bl _)⟩
  · exact h.elim
end
end DL

namespace DL
open PySem PySem.Spec PyProof.Rows L2
section
variable {K : Kw} {σ : L2.St} {H : Hp}
theorem lT_B {t : WE} {Q : Bool → Hp → Prop} (h : lT K (DL.tB t) σ H Q) : lE K t σ H fun x H' => ∃ k, x = .bl k ∧ Q k H' := by
  obtain ⟨env, S, Q0, er, so, q, ps⟩ := h
  refine ⟨env, S, _, er, so, q, fun d S' h v H' r s f => ?_⟩
  split at h
  · cases r
    exact ⟨_, rfl, ps _ _ h _ s f⟩
  · exact h.elim
theorem Rp.tru {S : Sto} {v : V} {d : D} {Q : Bool → Sto → Prop} (r : Rp K H v d) (so : SOk K H S) (h : dTru d S Q) : ∃ k, TruV K v H k ∧ Q k S := by
  cases r with
  | non => exact ⟨false, rfl, h⟩
  | bl b => exact ⟨b, rfl, h⟩
  | int i => exact ⟨_, rfl, h⟩
  | str x =>
    refine ⟨_, ⟨h.1, rfl⟩, ?_⟩
    have e : ((x.length : Int) != 0) = (x.length != 0) := by
      rw [Bool.eq_iff_iff]
      simp only [bne_iff_ne, ne_eq]
      omega
    rw [e]
    exact h.2
  | tup hs hr hz =>
    refine ⟨_, .inr (.inl ⟨_, hs, rfl⟩), ?_⟩
    rename_i a xs ds
    have e : xs.isEmpty = ds.isEmpty := by cases hr <;> rfl
    rw [e]
    exact h
  | ref a =>
    obtain ⟨xs, e, h⟩ := onL_iff.mp (show onL S a _ from h)
    obtain ⟨vs, h1, r1, _⟩ := so.lst e
    refine ⟨_, .inl ⟨_, SqL.of h1, rfl⟩, ?_⟩
    have e : vs.isEmpty = xs.isEmpty := by cases r1 <;> rfl
    rw [e]
    exact h
  | frz h1 r1 hz => exact h.elim
  | ty n => exact h.elim
  | exc _ _ => exact h.elim
end
section
variable {X : Cx} {a b c : Expr} {ta tb tc : WE} {pos : Pos} {rest : List Expr}
/-! ### tests -/
theorem qt_cmp {op : CmpOp} {r : R2} {R : D → D → Sto → WQ → Prop} (ho : OpR X (compareOp op) r) (hr : Opr X r R) (ha : QE X a ta) (hb : QE X b tb) (hm : behindInMarks op b = false) : QT X (.Compare a [op] [b] pos) (DL.tB (eBin R ta tb)) :=
  (pt_cmpR ho ha hb hm).imp' fun σ H Q h => lE_bin (lT_B h) fun x y S2 Q0 v u H2 => hr x y S2 Q0 v u H2 _
theorem qt_lt (ha : QE X a ta) (hb : QE X b tb) : QT X (.Compare a [.Lt] [b] pos) (DL.tB (eBin dLt ta tb)) := qt_cmp op_lt opr_cmp ha hb (nomark _)
theorem qt_le (ha : QE X a ta) (hb : QE X b tb) : QT X (.Compare a [.LtE] [b] pos) (DL.tB (eBin dLe ta tb)) := qt_cmp op_le opr_cmp ha hb (nomark _)
theorem qt_gt (ha : QE X a ta) (hb : QE X b tb) : QT X (.Compare a [.Gt] [b] pos) (DL.tB (eBin dGt ta tb)) := qt_cmp op_gt opr_cmp ha hb (nomark _)
theorem qt_ge (ha : QE X a ta) (hb : QE X b tb) : QT X (.Compare a [.GtE] [b] pos) (DL.tB (eBin dGe ta tb)) := qt_cmp op_ge opr_cmp ha hb (nomark _)
theorem qt_eq {k : Nat} (hr : Room k X.A) (ha : QE X a ta) (hb : QE X b tb) : QT X (.Compare a [.Eq] [b] pos) (DL.tB (eBin dEq ta tb)) := qt_cmp (op_eq.or (op_eqD hr.units)) opr_eq ha hb (nomark _)
theorem qt_ne {k : Nat} (hr : Room k X.A) (ha : QE X a ta) (hb : QE X b tb) : QT X (.Compare a [.NotEq] [b] pos) (DL.tB (eBin dNe ta tb)) := qt_cmp (op_ne.or (op_neD hr.units)) opr_ne ha hb (nomark _)
theorem qt_in {k : Nat} (hr : Room k X.A) (ha : QE X a ta) (hb : QE X b tb) (hm : behindInMarks .In b = false := by first | exact nomark _ | rfl) : QT X (.Compare a [.In] [b] pos) (DL.tB (eBin dIn ta tb)) := qt_cmp (op_inAny hr) opr_in ha hb hm
theorem qt_notIn {k : Nat} (hr : Room k X.A) (ha : QE X a ta) (hb : QE X b tb) (hm : behindInMarks .NotIn b = false := by first | exact nomark _ | rfl) : QT X (.Compare a [.NotIn] [b] pos) (DL.tB (eBin dNotIn ta tb)) := qt_cmp (op_notInAny hr) opr_notIn ha hb hm
theorem qt_isN {j p} (ha : QE X a ta) : QT X (.Compare a [.Is] [.Constant .none j p] pos) (DL.tB (eIsN ta)) := (pt_cmpR op_isN ha (pe_non (X := X)) (nomark _)).imp' fun σ H Q h => lE_un (R := fun x S1 Q => Q (.bl (isNon x)) S1) (lT_B h) fun x S1 Q0 v H1 h rv so ps =>
  ⟨rfl, by rw [isNon_of rv]; exact ps.here so h (.bl _)⟩
theorem qt_notN {j p} (ha : QE X a ta) : QT X (.Compare a [.IsNot] [.Constant .none j p] pos) (DL.tB (eNotN ta)) := (pt_cmpR op_notN ha (pe_non (X := X)) (nomark _)).imp' fun σ H Q h => lE_un (R := fun x S1 Q => Q (.bl (!isNon x)) S1) (lT_B h) fun x S1 Q0 v H1 h rv so ps =>
  ⟨rfl, by rw [isNon_of rv]; exact ps.here so h (.bl _)⟩
theorem qt_isB {j p b} (ha : QE X a ta) : QT X (.Compare a [.Is] [.Constant (.bool b) j p] pos) (DL.tB (eIsB b ta)) := (pt_cmpR op_isBl ha (pe_bl (X := X)) (nomark _)).imp' fun σ H Q h => lE_un (R := fun x S1 Q => match x with | .bl a => Q (.bl (decide (a = b))) S1 | _ => False) (lT_B h) fun x S1 Q0 v H1 h rv so ps => by
  split at h
  · cases rv
    exact ⟨_, _, rfl, rfl, ps.here so h (.bl _)⟩
  · exact h.elim
theorem qt_notB {j p b} (ha : QE X a ta) : QT X (.Compare a [.IsNot] [.Constant (.bool b) j p] pos) (DL.tB (eNotB b ta)) := (pt_cmpR op_notBl ha (pe_bl (X := X)) (nomark _)).imp' fun σ H Q h => lE_un (R := fun x S1 Q => match x with | .bl a => Q (.bl (!decide (a = b))) S1 | _ => False) (lT_B h) fun x S1 Q0 v H1 h rv so ps => by
  split at h
  · cases rv
    exact ⟨_, _, rfl, rfl, ps.here so h (.bl _)⟩
  · exact h.elim
/-- a value's truth -/
theorem qt_tru (ha : QE X a ta) (he : ∀ whole, isTrue a X.env whole = (do let v ← whole; standAt a.pos; holding [v] (truthy v)) := by intro _; rfl) : QT X a (tTru ta) := (pt_truth ha he).imp' fun σ H Q h => by
  obtain ⟨env, S, Q0, er, so, q, ps⟩ := h
  refine ⟨env, S, _, er, so, q, fun d S' h v H' r s f => ?_⟩
  obtain ⟨k, h1, h2⟩ := r.tru s h
  exact ⟨k, h1, ps _ _ h2 _ s f⟩
theorem lE_chain {K : Kw} {σ : L2.St} {H : Hp} {Q : VK} {r r' : R2} {R R' : D → D → Sto → WQ → Prop} (hr : ∀ x y S Q0 v u H Q, R x y S Q0 → Rp K H v x → Rp K H u y → SOk K H S → PostE K S H Q0 Q → r v u H Q)
    (hr' : ∀ x y S Q0 v u H Q, R' x y S Q0 → Rp K H v x → Rp K H u y → SOk K H S → PostE K S H Q0 Q → r' v u H Q) (h : lE K (eChain R R' ta tb tc) σ H Q) : L2.tChain r r' (lE K ta) (lE K tb) (lE K tc) σ H Q := by
  obtain ⟨env, S, Q0, er, so, q, ps⟩ := h
  refine ⟨env, S, _, er, so, q, fun x S1 h1 v H1 rv s1 f1 => ?_⟩
  refine ⟨env, S1, _, er.mono f1.tk, s1, h1, fun y S2 h2 u H2 ru s2 f2 => ?_⟩
  refine hr x y S2 _ v u H2 _ h2 (rv.mono f2.tk) ru s2 fun z S3 h3 w H3 rw' s3 f3 => ?_
  split at h3
  · cases rw'
    rename_i k
    refine ⟨k, rfl, ?_⟩
    cases k with
    | true =>
      have h3 : tc env S3 fun u S4 => R' y u S4 Q0 := h3
      refine ⟨env, S3, _, er.mono ((f1.trans f2).trans f3).tk, s3, h3, fun z S4 h4 w H4 rw4 s4 f4 => ?_⟩
      exact hr' y z S4 Q0 u w H4 Q h4 (ru.mono (f3.trans f4).tk) rw4 s4 (ps.trans (((f1.trans f2).trans f3).trans f4))
    | false =>
      have h3 : Q0 (.bl false) S3 := h3
      exact (ps.trans ((f1.trans f2).trans f3)).here s3 h3 (.bl _)
  · exact h3.elim
theorem q_chain {op op' : CmpOp} {r r' : R2} {R R' : D → D → Sto → WQ → Prop} (ho : OpR X (compareOp op) r) (ho' : OpR X (compareOp op') r') (hr : Opr X r R) (hr' : Opr X r' R') (ha : QE X a ta) (hb : QE X b tb) (hc : QE X c tc)
    (hm : lastMarks [op, op'] [b, c] = false := by with_unfolding_all rfl) : QE X (.Compare a [op, op'] [b, c] pos) (eChain R R' ta tb tc) := (pe_chain ho ho' ha hb hc hm).imp' fun σ H Q h => lE_chain hr hr' h
theorem qt_chain {op op' : CmpOp} {r r' : R2} {R R' : D → D → Sto → WQ → Prop} (ho : OpR X (compareOp op) r) (ho' : OpR X (compareOp op') r') (hr : Opr X r R) (hr' : Opr X r' R') (ha : QE X a ta) (hb : QE X b tb) (hc : QE X c tc)
    (hm : lastMarks [op, op'] [b, c] = false := by with_unfolding_all rfl) : QT X (.Compare a [op, op'] [b, c] pos) (DL.tB (eChain R R' ta tb tc)) := (pt_chain ho ho' ha hb hc hm).imp' fun σ H Q h => lE_chain hr hr' (lT_B h)
/-! ### and, or, not -/
abbrev QW (X : Cx) (e : Expr) (t : WT) : Prop := PW X e (lT X.kw t)
variable {uA uB : WT}
theorem qw_and1 (ha : QT X a uA) : QW X (.BoolOp .And [a] pos) uA := pw_and1 ha
theorem qw_or1 (ha : QT X a uA) : QW X (.BoolOp .Or [a] pos) uA := pw_or1 ha
theorem qw_and (ha : QT X a uA) (hb : QW X (.BoolOp .And (b :: rest) pos) uB) : QW X (.BoolOp .And (a :: b :: rest) pos) (DL.tAnd uA uB) := (pw_and ha hb).imp' fun σ H Q h => by
  obtain ⟨env, S, Q0, er, so, q, ps⟩ := h
  refine ⟨env, S, _, er, so, q, fun k S1 h1 H1 s1 f1 => ?_⟩
  cases k with
  | true => exact ⟨env, S1, Q0, er.mono f1.tk, s1, h1, fun k S2 h2 H2 s2 f2 => ps k S2 h2 H2 s2 (f1.trans f2)⟩
  | false => exact ps _ _ h1 _ s1 f1
theorem qw_or (ha : QT X a uA) (hb : QW X (.BoolOp .Or (b :: rest) pos) uB) : QW X (.BoolOp .Or (a :: b :: rest) pos) (DL.tOr uA uB) := (pw_or ha hb).imp' fun σ H Q h => by
  obtain ⟨env, S, Q0, er, so, q, ps⟩ := h
  refine ⟨env, S, _, er, so, q, fun k S1 h1 H1 s1 f1 => ?_⟩
  cases k with
  | false => exact ⟨env, S1, Q0, er.mono f1.tk, s1, h1, fun k S2 h2 H2 s2 f2 => ps k S2 h2 H2 s2 (f1.trans f2)⟩
  | true => exact ps _ _ h1 _ s1 f1
theorem qt_w (h : QW X a uA) : QT X a uA := h.pt
theorem qt_not (ha : QT X a uA) : QT X (.UnaryOp .Not a pos) (DL.tNot uA) := (pt_not ha).imp' fun σ H Q ⟨env, S, Q0, er, so, q, ps⟩ => ⟨env, S, _, er, so, q, fun k S1 h1 H1 s1 f1 => ps _ _ h1 _ s1 f1⟩
theorem q_one {op} {t : WE} (h : QE X a t) : QE X (.BoolOp op [a] pos) t := pe_one h
theorem q_and (ha : QE X a ta) (hb : QE X (.BoolOp .And (b :: rest) pos) tb) : QE X (.BoolOp .And (a :: b :: rest) pos) (eAnd ta tb) := (pe_andT ha hb).imp' fun σ H Q ⟨env, S, Q0, er, so, q, ps⟩ => by
  refine ⟨env, S, _, er, so, q, fun d S1 h1 v H1 rv s1 f1 => ?_⟩
  obtain ⟨k, e, h⟩ := rv.tru s1 h1
  refine ⟨k, e, ?_⟩
  cases k with
  | true => exact ⟨env, S1, Q0, er.mono f1.tk, s1, h, ps.trans f1⟩
  | false => exact (ps.trans f1).here s1 h rv
theorem q_or (ha : QE X a ta) (hb : QE X (.BoolOp .Or (b :: rest) pos) tb) : QE X (.BoolOp .Or (a :: b :: rest) pos) (eOr ta tb) := (pe_orT ha hb).imp' fun σ H Q ⟨env, S, Q0, er, so, q, ps⟩ => by
  refine ⟨env, S, _, er, so, q, fun d S1 h1 v H1 rv s1 f1 => ?_⟩
  obtain ⟨k, e, h⟩ := rv.tru s1 h1
  refine ⟨k, e, ?_⟩
  cases k with
  | false => exact ⟨env, S1, Q0, er.mono f1.tk, s1, h, ps.trans f1⟩
  | true => exact (ps.trans f1).here s1 h rv
theorem q_not (ha : QE X a ta) : QE X (.UnaryOp .Not a pos) (eNot ta) := (pe_notT ha).imp' fun σ H Q ⟨env, S, Q0, er, so, q, ps⟩ => by
  refine ⟨env, S, _, er, so, q, fun d S1 h1 v H1 rv s1 f1 => ?_⟩
  obtain ⟨k, e, h⟩ := rv.tru s1 h1
  exact ⟨k, e, (ps.trans f1).here s1 h (.bl _)⟩
theorem q_ifx {uC : WT} (hc : QT X c uC) (ha : QE X a ta) (hb : QE X b tb) : QE X (.IfExp c a b pos) (eIf uC ta tb) := (pe_ifExp hc ha hb).imp' fun σ H Q ⟨env, S, Q0, er, so, q, ps⟩ => by
  refine ⟨env, S, _, er, so, q, fun k S1 h1 H1 s1 f1 => ?_⟩
  cases k with
  | true => exact ⟨env, S1, Q0, er.mono f1.tk, s1, h1, ps.trans f1⟩
  | false => exact ⟨env, S1, Q0, er.mono f1.tk, s1, h1, ps.trans f1⟩
/-! ### argument lists, displays -/
variable {es : List Expr} {tA : WA}
theorem qa_nil : QA X [] aNil := pa_nil.imp' fun σ H Q ⟨env, S, Q0, er, so, q, ps⟩ => ps _ _ q _ H .nil so (.refl S H)
theorem qa_cons (ha : QE X a ta) (hr : QA X es tA) (hs : starEach (a :: es) X.env = (false, eval a X.env) :: starEach es X.env := by rfl) : QA X (a :: es) (aCons ta tA) := (pa_cons ha hr hs).imp' fun σ H Q ⟨env, S, Q0, er, so, q, ps⟩ => by
  refine ⟨env, S, _, er, so, q, fun d S1 h1 v H1 rv s1 f1 => ?_⟩
  refine ⟨env, S1, _, er.mono f1.tk, s1, h1, fun ds S2 h2 vs H2 rs s2 f2 => ?_⟩
  exact ps _ _ h2 _ _ (.cons (rv.mono f2.tk) rs) s2 (f1.trans f2)
theorem q_tup {x1} (h : QA X es tA) : QE X (.Tuple es x1 pos) (eTup tA) := (pe_tup h).imp' fun σ H Q ⟨env, S, Q0, er, so, q, ps⟩ => by
  refine ⟨env, S, _, er, so, q, fun ds S1 h1 vs H1 rs s1 f1 => ?_⟩
  have hz : ds.length ≤ sizeLine := Nat.le_trans h1.1 (by decide)
  exact ⟨by rw [rs.length]; exact hz, (ps.trans f1).tup s1 rs hz h1.2⟩
theorem q_lst (h : QA X es tA) : QE X (.List es pos) (eLst tA) := (pe_lst h).imp' fun σ H Q ⟨env, S, Q0, er, so, q, ps⟩ => by
  refine ⟨env, S, _, er, so, q, fun ds S1 h1 vs H1 rs s1 f1 => ?_⟩
  have hz : ds.length ≤ sizeLine := Nat.le_trans h1.1 (by decide)
  exact ⟨by rw [rs.length]; exact hz, (ps.trans f1).made s1 rs hz h1.2⟩
/-! ### places -/
theorem atD_eq {α : Type} (xs : List α) (i : Int) : atD xs i = atI xs i := by
  unfold atD atI ixN
  by_cases h : 0 ≤ i
  · rw [if_pos h, if_pos h]
    by_cases h2 : i < xs.length
    · rw [if_pos h2]
      rfl
    · rw [if_neg h2]
      exact List.getElem?_eq_none (by omega)
  · rw [if_neg h, if_neg h]
    by_cases h2 : -(xs.length : Int) ≤ i
    · rw [if_pos h2, if_pos h2]
      rfl
    · rw [if_neg h2, if_neg h2]
      rfl
theorem RpAll.at {K : Kw} {H : Hp} {vs : List V} {ds : List D} {i : Int} {d : D} (r : RpAll K H vs ds) (h : atD ds i = some d) : ∃ v, atI vs i = some v ∧ Rp K H v d := by
  rw [← atD_eq]
  unfold atD at h ⊢
  rw [r.length]
  split at h
  · rw [if_pos ‹_›]
    exact r.get h
  · rw [if_neg ‹_›]
    split at h
    · rw [if_pos ‹_›]
      exact r.get h
    · cases h
theorem seqOf_sq {K : Kw} {H : Hp} {S : Sto} {v : V} {x : D} {xs : List D} (r : Rp K H v x) (so : SOk K H S) (h : seqOf S x = some xs) :
    xs.length ≤ sizeLine ∧ ∃ a vs, v = .ref a ∧ RpAll K H vs xs ∧ ((SqL K H a vs ∧ (x = .ref a ∨ x = .frz xs)) ∨ (SqT K H a vs ∧ x = .tup xs)) := by
  cases r with
  | tup h1 r1 hz =>
    cases h
    exact ⟨hz, _, _, rfl, r1, .inr ⟨h1, rfl⟩⟩
  | ref a =>
    unfold seqOf at h
    dsimp only at h
    split at h
    · rename_i e
      cases h
      obtain ⟨vs, h1, r1, hz⟩ := so a _ e
      exact ⟨hz, a, vs, rfl, r1, .inl ⟨SqL.of h1, .inl rfl⟩⟩
    · cases h
  | frz h1 r1 hz =>
    cases h
    exact ⟨hz, _, _, rfl, r1, .inl ⟨h1.sq, .inr rfl⟩⟩
  | _ => cases h
theorem opr_ix : Opr X (L2.rIx X.K) dIx := fun x y S Q0 v u H Q h rv ru so ps => by
  unfold dIx at h
  split at h
  · cases ru
    split at h
    · cases rv
      obtain ⟨hz, h⟩ := h
      obtain ⟨c, hc, q⟩ := onAt_iff.mp h
      rw [atD_eq] at hc
      exact .inr (.inr ⟨_, _, c, rfl, rfl, hz, hc, ps.here so q (.str _)⟩)
    · obtain ⟨xs, hx, h⟩ := onSeq_iff.mp h
      obtain ⟨d, hd, q⟩ := onAt_iff.mp h
      obtain ⟨_, a, vs, rfl, r1, h1⟩ := seqOf_sq rv so hx
      obtain ⟨w, hw, rw'⟩ := r1.at hd
      rcases h1 with ⟨h1, _⟩ | ⟨h1, _⟩
      · exact .inl ⟨_, _, _, w, rfl, rfl, h1, hw, ps.here so q rw'⟩
      · exact .inr (.inl ⟨_, _, _, w, rfl, rfl, h1, hw, ps.here so q rw'⟩)
  · exact h.elim
theorem q_ix (ha : QE X a ta) (hb : QE X b tb) (hs : PlainIx b := by exact fun _ _ => rfl) : QE X (.Subscript a b pos) (eBin dIx ta tb) := (pe_ix ix_seq ha hb hs).imp' fun σ H Q h => lE_bin h fun x y S2 Q0 v u H2 => opr_ix x y S2 Q0 v u H2 Q
/-! ### slices -/
variable {lo hi : Option Expr} {tl th : WO} {p2 : Pos}
theorem qo_none : QO X none oNone := po_none.imp' fun σ H Q ⟨env, S, Q0, er, so, q, ps⟩ => ps _ _ q H so (.refl S H)
theorem qo_some (h : QE X a ta) : QO X (some a) (oSome ta) := (po_some h).imp' fun σ H Q ⟨env, S, Q0, er, so, q, ps⟩ => by
  refine ⟨env, S, _, er, so, q, fun d S1 h1 v H1 rv s1 f1 => ?_⟩
  split at h1
  · cases rv
    exact ⟨_, rfl, ps _ _ h1 _ s1 f1⟩
  · exact h1.elim
theorem cut_RpAll {K : Kw} {H : Hp} {vs : List V} {ds : List D} (r : RpAll K H vs ds) (lo hi : Option Int) : RpAll K H (cutV vs lo hi) (DL.cut ds lo hi) := by
  unfold cutV DL.cut
  rw [r.length]
  exact (r.drop _).take _
theorem cut_len {α : Type} (xs : List α) (lo hi : Option Int) : (DL.cut xs lo hi).length ≤ xs.length := by
  unfold DL.cut
  rw [List.length_take, List.length_drop]
  omega
theorem cut_whole {α : Type} {xs : List α} {lo hi : Option Int} (e : HT.sIx xs.length 0 lo = 0 ∧ HT.sIx xs.length xs.length hi = xs.length) : DL.cut xs lo hi = xs := by
  unfold DL.cut cutAt
  rw [e.1, e.2, List.drop_zero, Nat.sub_zero]
  exact List.take_of_length_le (Nat.le_refl _)
def rSlAny (X : Cx) : V → Option Int → Option Int → Hp → VK → Prop := fun x lo hi H Q => rSlA X.K x lo hi H Q ∨ L2.rSlL X.K x lo hi H Q ∨ rSlS x lo hi H Q
theorem sl_any : SlR X (rSlAny X) := sl_tupA.or (sl_list.or sl_str)
theorem q_sl (he : QE X a ta) (hl : QO X lo tl) (hu : QO X hi th) : QE X (.Subscript a (.Slice lo hi none p2) pos) (eSl ta tl th) := (pe_slice sl_any he hl hu).imp' fun σ H Q ⟨env, S, Q0, er, so, q, ps⟩ => by
  refine ⟨env, S, _, er, so, q, fun x S1 h1 v H1 rv s1 f1 => ?_⟩
  refine ⟨env, S1, _, er.mono f1.tk, s1, h1, fun l S2 h2 H2 s2 f2 => ?_⟩
  refine ⟨env, S2, _, er.mono (f1.trans f2).tk, s2, h2, fun u S3 h3 H3 s3 f3 => ?_⟩
  have rv3 := rv.mono (f2.trans f3).tk
  have ps3 := ps.trans ((f1.trans f2).trans f3)
  unfold dSl at h3
  split at h3
  · cases rv3 with
    | tup h1 r1 hz =>
      refine .inl ⟨_, _, rfl, h1, fun e => ?_, fun _ => ps3.tup s3 (cut_RpAll r1 l u) (Nat.le_trans (cut_len _ _ _) hz) h3⟩
      rw [cut_whole (by rw [← r1.length]; exact e)] at h3
      exact ps3.here s3 h3 (.tup h1 r1 hz)
  · cases rv3
    obtain ⟨xs, e, h3⟩ := onL_iff.mp h3
    obtain ⟨vs, h1, r1, hz⟩ := s3.lst e
    exact .inr (.inl ⟨_, _, rfl, SqL.of h1, ps3.made s3 (cut_RpAll r1 l u) (Nat.le_trans (cut_len _ _ _) hz) h3⟩)
  · cases rv3
    refine .inr (.inr ⟨_, rfl, h3.1, ?_⟩)
    exact ps3.here s3 h3.2 (.str _)
  · exact h3.elim
end
end DL

namespace DL
open PySem PySem.Spec PyProof.Rows L2

/-! ### a def, where no repr is under way -/
structure FnG (P : Program) (w : World) (K : PySem.W.Frag) (mg : Str → Option Value) (base : Heap) (k : Nat) (f : Addr) (fd : FuncData) (ps : List Str) (sp : Sp) : Prop where
  len : ∀ vs H Q E, sp vs H Q E → vs.length = ps.length
  run : ∀ (A : Around) (outer : List Env) (s : Shared) (H : Hp) (args : Args) (us : List Value) (vs : List V) (Q : VK) (E : XK), Room k A → A.guards = some [] → Env0 P w K mg base A outer s H → BindsTo s fd args (ps.zip us) → Vals vs us → sp vs H Q E →
    codeAny (model P w) A (.call (.ref f) args) (CR CX0 outer P w H s Q E) s
section
variable {P : Program} {w : World} {K : PySem.W.Frag} {mg : Str → Option Value} {base : Heap} {k j : Nat} {f : Addr} {fd : FuncData} {ps : List Str} {sp sp' : Sp}
theorem FnG.mono (F : FnG P w K mg base j f fd ps sp) (h : j ≤ k) : FnG P w K mg base k f fd ps sp := ⟨F.len, fun A outer s H args us vs Q E hr => F.run A outer s H args us vs Q E (hr.mono h)⟩
theorem FnG.imp (F : FnG P w K mg base k f fd ps sp) (h : ∀ vs H Q E, sp' vs H Q E → sp vs H Q E) : FnG P w K mg base k f fd ps sp' :=
  ⟨fun vs H Q E q => F.len vs H Q E (h _ _ _ _ q), fun A outer s H args us vs Q E hr hg he hb hv hs => F.run A outer s H args us vs Q E hr hg he hb hv (h _ _ _ _ hs)⟩
theorem FnG.ok (F : FnOk P w K mg base CX0 k f fd ps sp) : FnG P w K mg base k f fd ps sp := ⟨F.len, fun A outer s H args us vs Q E hr _ => F.run A outer s H args us vs Q E hr⟩
/-- a def by its body -/
theorem fnG_of {name qual : Str} {params : Arguments} {body : List Stmt} {scope : Scope} {dV kV doc pm cdv ct oc : Value} {an od : Option Addr}
    {osl : Array (Option Value)} {N : List Str} (lk : K.lookup f = some ⟨oc, od, .func (PySem.W.fnOf name qual params body scope dV kV doc pm an cdv ct), osl⟩) (hcd : PySem.W.codeIn K cdv qual = true) (S : FnScope N ps scope)
    (len : ∀ vs H Q E, sp vs H Q E → vs.length = ps.length)
    (hbody : ∀ (A : Around) (outer : List Env) (s : Shared) (H : Hp) (vs : List V) (Q : VK) (E : XK), Room k (A.deeper (envOfC qual scope s.heap.objs.size f cdv)) → A.guards = some [] → sp vs H Q E →
      ∃ t, PSs (cxOf CX0 P w K mg base N qual scope f cdv A outer s H E) body t ∧ t { nx := fun _ H' => Q .non H', rt := Q } (L2.start N vs) H) :
    FnG P w K mg base (k + 1) f (PySem.W.fnOf name qual params body scope dV kV doc pm an cdv ct) ps sp := by
  refine ⟨len, fun A outer s H args us vs Q E hr hG e0 hb r hsp => ?_⟩
  have hl := len _ _ _ _ hsp
  have KX : K.In s.heap := e0.mod.kin.keeps fun b o e => (e0.bs b o e).1
  have lim : s.heap.NoLimit := e0.mod.nolimit.keeps fun b o e => (e0.bs b o e).1
  have hkind : ∀ y ∈ ps.zip us, scope.names.lookup y.1 = some .local ∨ (scope.names.lookup y.1 = some .cell ∧ ((cellsFrom (s.heap.objs.size + 1) scope.names []).lookup y.1).isSome = true) := fun ⟨n, v⟩ hy => by
    rcases S.par n (List.of_mem_zip hy).1 with q | q
    · exact .inl q
    · exact .inr ⟨q, PySem.W.cellsFrom_some _ _ _ (.inl q)⟩
  refine codeAny_call_function hr.depth (KX _ _ lk) rfl S.co S.gen rfl (PySem.W.codeRec_of KX hcd) (hb _ _ _ _ ?_)
  refine wpAny_newFunctionEnv_cells S.kind hkind fun env he s1 x => ?_
  subst he
  refine ⟨lim.keeps x.toInCall.keep, codeAny_func ?_⟩
  obtain ⟨t, ht, hq⟩ := hbody A outer s H vs Q E (hr.deeper _) hG hsp
  have I : Inv (cxOf CX0 P w K mg base N qual scope f cdv A outer s H E) [] (L2.start N vs) H s1 := inv_start S hr.hd e0 hl r x
  refine wpAny_mono (ht.run [] s1 (L2.start N vs) H _ I hq) (fun fl s' hs => ?_) fun e s' hs => hs
  have fin : ∀ {σ' : L2.St} {H' : Hp} {v : V} {u : Value}, Inv (cxOf CX0 P w K mg base N qual scope f cdv A outer s H E) [] σ' H' s' → RelV v u → Q v H' → CE outer P w H s Q u s' :=
    fun {σ' H' v u} J rv q => ⟨v, H', J.os, J.bare, J.base, J.hok, rv, q⟩
  cases fl with
  | ret u =>
    obtain ⟨v, σ', H', J, rv, q⟩ := hs
    exact fin J rv q
  | next =>
    obtain ⟨σ', H', J, q⟩ := hs
    exact fin (v := V.non) (u := Value.none) J rfl q
  | brk =>
    obtain ⟨_, _, _, q⟩ := hs
    exact False.elim q
  | cont =>
    obtain ⟨_, _, _, q⟩ := hs
    exact False.elim q
end

/-! ### a def's promise over data -/
def lF (K : Kw) (F : WF) : Sp := fun vs H Q _ => ∃ ds S Q0, RpAll K H vs ds ∧ SOk K H S ∧ F ds S Q0 ∧ PostE K S H Q0 Q
/-- a def that may be called: where it stands, what it promises -/
structure Cal (P : Program) (w : World) (K : PySem.W.Frag) (mg : Str → Option Value) (base : Heap) (x : Str) (k : Nat) (ps : List Str) (F : WF) : Prop where
  ex : ∃ f fd, FnG P w K mg base k f fd ps (lF ⟨K, P, w⟩ F) ∧ mg x = some (.ref f) ∧ PySem.W.keepIn K (.ref f) = true ∧ Binds K fd ps []
theorem Cal.mono {P : Program} {w : World} {K : PySem.W.Frag} {mg : Str → Option Value} {base : Heap} {x : Str} {k j : Nat} {ps : List Str} {F : WF} (C : Cal P w K mg base x j ps F) (h : j ≤ k) : Cal P w K mg base x k ps F := by
  obtain ⟨f, fd, a, b⟩ := C.ex
  exact ⟨f, fd, a.mono h, b⟩
theorem Cal.imp {P : Program} {w : World} {K : PySem.W.Frag} {mg : Str → Option Value} {base : Heap} {x : Str} {k : Nat} {ps : List Str} {F F' : WF} (C : Cal P w K mg base x k ps F) (h : ∀ ds S Q, F' ds S Q → F ds S Q) : Cal P w K mg base x k ps F' := by
  obtain ⟨f, fd, a, b⟩ := C.ex
  exact ⟨f, fd, a.imp fun vs H Q _ ⟨ds, S, Q0, h1, h2, h3, h4⟩ => ⟨ds, S, Q0, h1, h2, h _ _ _ h3, h4⟩, b⟩
/-- what a body leans on -/
structure Cok (X : Cx) (k : Nat) : Prop where
  room : Room k X.A
  gd : X.A.guards = some []
  calm : X.calm = true
  nd : X.N.Nodup
theorem Cok.blk {X : Cx} {k : Nat} (c : Cok X k) (s : Shared) (H : Hp) (scope : Scope) (cenv : Env) (fp : List Addr) : Cok (X.blk s H scope cenv fp) k := ⟨c.room, c.gd, c.calm, c.nd⟩
section
variable {X : Cx} {k j : Nat} {x : Str} {ps : List Str} {F : WF} {p pos : Pos} {e : Expr} {es : List Expr} {t : WA}
theorem run_fnG {f : Addr} {fd : FuncData} {sp : Sp} {pins : List (Addr × Obj)} {σ : L2.St} {H : Hp} {s : Shared} {Q : VK} {us : List Value} {vs : List V} (C : Cok X j) (hj : k ≤ j) (F : FnG X.prog X.w X.K X.mg X.base k f fd ps sp) (hb : Binds X.K fd ps [])
    (I : Inv X pins σ H s) (r : Vals vs us) (h : sp vs H Q E0) : wpAny (model X.prog X.w) X.A (call (.ref f) us) (EP X pins σ Q) X.xe s := by
  have hl : (us ++ []).length = ps.length := by rw [List.append_nil, ← r.length]; exact F.len _ _ _ _ h
  have hb' := hb s us I.kIn hl
  rw [List.append_nil] at hb'
  refine wpAny_call (codeAny_mono (F.run X.A X.stack s H ⟨us, []⟩ us vs Q E0 (C.room.mono hj) C.gd I.env0 hb' r h) fun r s' hq => ?_)
  cases r with
  | error e => exact False.elim hq
  | ok fl =>
    cases fl with
    | ret u => exact I.after hq
    | next => exact False.elim hq
    | brk => exact False.elim hq
    | cont => exact False.elim hq
theorem q_call (C : Cok X j) (c : Cal X.prog X.w X.K X.mg X.base x k ps F) (hj : k ≤ j) (hg : Gl X x) (ha : QA X (e :: es) t)
    (hdb : (x == ("__debug__" : Str)) = false := by decide) (he : starEach (e :: es) X.env = (false, eval e X.env) :: starEach es X.env := by rfl) (hpl : (backTo pos (starEach es X.env)).any (·.1) = false := by rfl) :
    QE X (.Call (.Name x p) (e :: es) [] pos) (eCall F t) := by
  obtain ⟨f, fd, G, hm, hk, hb⟩ := c.ex
  refine ⟨fun pins s σ H Q I ⟨env, S, Q0, er, so, q, ps⟩ => ?_⟩
  refine wpAny_Call_Name_kw (ld_glob I hg hm ?_ hdb)
  refine PySem.W.callWith_K (h₀ := X.base) I.ok.mod.kin hk (thn (ha.run pos pins s σ H (fun vs H1 => lF X.kw F vs H1 Q E0) I ⟨env, S, _, er, so, q, fun ds S1 h1 vs H1 rs s1 f1 => ⟨ds, S1, Q0, rs, s1, h1, ps.trans f1⟩⟩) fun us s1 ⟨vs, H1, I1, r, q⟩ => ⟨I1.kIn, ?_⟩) he hpl
  exact run_fnG C hj G hb I1 r q
theorem q_call0 (C : Cok X j) (c : Cal X.prog X.w X.K X.mg X.base x k ps F) (hj : k ≤ j) (hg : Gl X x)
    (hdb : (x == ("__debug__" : Str)) = false := by decide) : QE X (.Call (.Name x p) [] [] pos) (eCall F aNil) := by
  obtain ⟨f, fd, G, hm, hk, hb⟩ := c.ex
  refine ⟨fun pins s σ H Q I ⟨env, S, Q0, er, so, q, ps⟩ => ?_⟩
  refine wpAny_Call_Name_kw (ld_glob I hg hm ?_ hdb)
  exact PySem.W.callWith_K0 I.kIn hk (run_fnG (us := []) C hj G hb I .nil ⟨[], S, Q0, .nil, so, q, ps⟩)
end

/-! ### built-ins -/
def Bfr (X : Cx) (r : List V → Hp → VK → Prop) (B : WB) : Prop := ∀ ds S Q0 vs H Q, B ds S Q0 → RpAll X.kw H vs ds → SOk X.kw H S → PostE X.kw S H Q0 Q → r vs H Q
section
variable {X : Cx} {x : Str} {p pos : Pos} {e : Expr} {es : List Expr} {t : WA} {id T : String} {r : List V → Hp → VK → Prop} {B : WB}
theorem q_blt (hc : CallR X (.builtin id) r) (hb : Bfr X r B) (hg : Gl X x) (hm : X.mg x = none) (hv : bootBuiltins x = some (.builtin id)) (ha : QA X (e :: es) t) (hn : x ≠ "__name__" := by decide) (hdb : (x == ("__debug__" : Str)) = false := by decide)
    (he : starEach (e :: es) X.env = (false, eval e X.env) :: starEach es X.env := by rfl) (hpl : (backTo pos (starEach es X.env)).any (·.1) = false := by rfl) :
    QE X (.Call (.Name x p) (e :: es) [] pos) (eCall B t) :=
  (pe_callB hc hg hm hv ha hn hdb he hpl).imp' fun σ H Q ⟨env, S, Q0, er, so, q, ps⟩ => ⟨env, S, _, er, so, q, fun ds S1 h1 vs H1 rs s1 f1 => hb _ _ _ _ _ _ h1 rs s1 (ps.trans f1)⟩
theorem q_blTy (hc : CallR X (.type T) r) (hb : Bfr X r B) (hg : Gl X x) (hm : X.mg x = none) (hv : bootBuiltins x = some (.type T)) (ha : QA X (e :: es) t) (hn : x ≠ "__name__" := by decide) (hdb : (x == ("__debug__" : Str)) = false := by decide)
    (he : starEach (e :: es) X.env = (false, eval e X.env) :: starEach es X.env := by rfl) (hpl : (backTo pos (starEach es X.env)).any (·.1) = false := by rfl) :
    QE X (.Call (.Name x p) (e :: es) [] pos) (eCall B t) :=
  (pe_callTy hc hg hm hv ha hn hdb he hpl).imp' fun σ H Q ⟨env, S, Q0, er, so, q, ps⟩ => ⟨env, S, _, er, so, q, fun ds S1 h1 vs H1 rs s1 f1 => hb _ _ _ _ _ _ h1 rs s1 (ps.trans f1)⟩
theorem bf_abs : Bfr X (fun xs H Q => ∃ i, xs = [V.int i] ∧ Q (.int (if i < 0 then -i else i)) H) bAbs := fun ds S Q0 vs H Q h rs so ps => by
  unfold bAbs at h
  split at h
  · cases rs with
    | cons r1 r2 =>
      cases r1; cases r2
      exact ⟨_, rfl, ps.here so h (.int _)⟩
  · exact h.elim
theorem bf_int : Bfr X (fun xs H Q => (∃ i, xs = [V.int i] ∧ Q (.int i) H) ∨ ∃ k, xs = [V.bl k] ∧ Q (.int (if k then 1 else 0)) H) bInt := fun ds S Q0 vs H Q h rs so ps => by
  unfold bInt at h
  split at h
  · cases rs with
    | cons r1 r2 =>
      cases r1; cases r2
      exact .inl ⟨_, rfl, ps.here so h (.int _)⟩
  · cases rs with
    | cons r1 r2 =>
      cases r1; cases r2
      exact .inr ⟨_, rfl, ps.here so h (.int _)⟩
  · exact h.elim
theorem bf_max2 : Bfr X (fun xs H Q => ∃ i j, xs = [V.int i, V.int j] ∧ Q (.int (if j > i then j else i)) H) bMax2 := fun ds S Q0 vs H Q h rs so ps => by
  unfold bMax2 at h
  split at h
  · cases rs with
    | cons r1 r2 =>
      cases r1
      cases r2 with
      | cons r1 r2 =>
        cases r1; cases r2
        exact ⟨_, _, rfl, ps.here so h (by rw [show ∀ i j : Int, max i j = if j > i then j else i from fun i j => by split <;> omega]; exact .int _)⟩
  · exact h.elim
theorem bf_gcd : Bfr X L2.rGcd bGcd := fun ds S Q0 vs H Q h rs so ps => by
  unfold bGcd at h
  split at h
  · cases rs with
    | cons r1 r2 =>
      cases r1
      cases r2 with
      | cons r1 r2 =>
        cases r1; cases r2
        exact ⟨_, _, rfl, ps.here so h (.int _)⟩
  · exact h.elim
theorem q_gcd (hg : Gl X x) (hm : X.mg x = some (.builtin "math.gcd")) (ha : QA X (e :: es) t) (hdb : (x == ("__debug__" : Str)) = false := by decide)
    (he : starEach (e :: es) X.env = (false, eval e X.env) :: starEach es X.env := by rfl) (hpl : (backTo pos (starEach es X.env)).any (·.1) = false := by rfl) :
    QE X (.Call (.Name x p) (e :: es) [] pos) (eCall bGcd t) :=
  (pe_callBfun cr_gcd hg hm ha hdb he hpl).imp' fun σ H Q ⟨env, S, Q0, er, so, q, ps⟩ => ⟨env, S, _, er, so, q, fun ds S1 h1 vs H1 rs s1 f1 => bf_gcd _ _ _ _ _ _ h1 rs s1 (ps.trans f1)⟩
theorem bf_min2 : Bfr X (fun xs H Q => ∃ i j, xs = [V.int i, V.int j] ∧ Q (.int (if j < i then j else i)) H) bMin2 := fun ds S Q0 vs H Q h rs so ps => by
  unfold bMin2 at h
  split at h
  · cases rs with
    | cons r1 r2 =>
      cases r1
      cases r2 with
      | cons r1 r2 =>
        cases r1; cases r2
        exact ⟨_, _, rfl, ps.here so h (by rw [show ∀ i j : Int, min i j = if j < i then j else i from fun i j => by split <;> omega]; exact .int _)⟩
  · exact h.elim
theorem bf_len : Bfr X (fun xs H Q => ∃ x n, xs = [x] ∧ LenV X.K x H n ∧ Q (.int n) H) bLen := fun ds S Q0 vs H Q h rs so ps => by
  unfold bLen at h
  split at h
  · cases rs with
    | cons r1 r2 =>
      cases r1; cases r2
      exact ⟨_, _, rfl, ⟨h.1, rfl⟩, ps.here so h.2 (.int _)⟩
  · cases rs with
    | cons r1 r2 =>
      cases r2
      obtain ⟨xs, hx, q⟩ := onSeq_iff.mp h
      obtain ⟨_, a, ws, rfl, rr, h1⟩ := seqOf_sq r1 so hx
      refine ⟨_, ws.length, rfl, ?_, by rw [rr.length]; exact ps.here so q (.int _)⟩
      rcases h1 with ⟨h1, _⟩ | ⟨h1, _⟩
      · exact .inl ⟨_, h1, rfl⟩
      · exact .inr ⟨_, h1, rfl⟩
  · exact h.elim
theorem bf_tuple : Bfr X (fun xs H Q => ∃ p ys, xs = [V.ref p] ∧ ((SqL X.K H p ys ∧ ∀ l, H l = none → Q (.ref l) (upd H l (.tup ys))) ∨ (SqT X.K H p ys ∧ Q (.ref p) H))) bTuple := fun ds S Q0 vs H Q h rs so ps => by
  unfold bTuple at h
  split at h
  · cases rs with
    | cons r1 r2 =>
      cases r2
      obtain ⟨xs, hx, q⟩ := onSeq_iff.mp h
      obtain ⟨hz, a, ws, rfl, rr, h1⟩ := seqOf_sq r1 so hx
      refine ⟨_, ws, rfl, ?_⟩
      rcases h1 with ⟨h1, _⟩ | ⟨h1, _⟩
      · exact .inl ⟨h1, ps.tup so rr hz q⟩
      · exact .inr ⟨h1, ps.here so q (.tup h1 rr hz)⟩
  · exact h.elim
theorem bf_list : Bfr X (fun xs H Q => ∃ p ys, xs = [V.ref p] ∧ (SqL X.K H p ys ∨ SqT X.K H p ys) ∧ ∀ l, H l = none → Q (.ref l) (upd H l (.lst ys))) bList := fun ds S Q0 vs H Q h rs so ps => by
  unfold bList at h
  split at h
  · cases rs with
    | cons r1 r2 =>
      cases r2
      obtain ⟨xs, hx, q⟩ := onSeq_iff.mp h
      obtain ⟨hz, a, ws, rfl, rr, h1⟩ := seqOf_sq r1 so hx
      exact ⟨_, _, rfl, h1.imp (·.1) (·.1), ps.made so rr hz q⟩
  · exact h.elim
theorem bf_fold {r : List V → Hp → VK → Prop} {C : List Int → Prop} {m : List Int → Int → Prop} (hr : ∀ a ns H Q, SqL X.K H a (ns.map V.int) → C ns → (∀ r, m ns r → Q (V.int r) H) → r [V.ref a] H Q) : Bfr X r (bFold C m) := fun ds S Q0 vs H Q h rs so ps => by
  unfold bFold at h
  split at h
  · cases rs with
    | cons r1 r2 =>
      cases r1; cases r2
      obtain ⟨xs, hx, ns, rfl, hc, q⟩ := onL_iff.mp h
      obtain ⟨ws, h1, rr, _⟩ := so.lst hx
      rw [rr.ints] at h1
      exact hr _ ns H Q (SqL.of h1) hc fun r hm => ps.here so (q r hm) (.int _)
  · exact h.elim
theorem bf_sum : Bfr X (rSum X.K) bSum := bf_fold fun a ns H Q hs _ q => ⟨a, ns, rfl, hs, q _ rfl⟩
/-- max, min of a tuple of ints -/
def rMaxT (K : PySem.W.Frag) : List V → Hp → VK → Prop := fun vs H Q => ∃ (a : Addr) (ns : List Int), vs = [V.ref a] ∧ SqT K H a (ns.map V.int) ∧ 0 < ns.length ∧ ∀ m, m ∈ ns → (∀ y, y ∈ ns → y ≤ m) → Q (.int m) H
def rMinT (K : PySem.W.Frag) : List V → Hp → VK → Prop := fun vs H Q => ∃ (a : Addr) (ns : List Int), vs = [V.ref a] ∧ SqT K H a (ns.map V.int) ∧ 0 < ns.length ∧ ∀ m, m ∈ ns → (∀ y, y ∈ ns → m ≤ y) → Q (.int m) H
theorem hold_ints {h : Heap} : ∀ {us : List Value} {ns : List Int}, IntsAre us ns → PySem.W.HoldAll h us ns
  | _, _, .nil => .nil
  | _, _, .cons n t r => .cons ⟨[], .int n t⟩ (hold_ints r)
theorem holds_int {h : Heap} {v : Value} {n : Int} (x : PySem.W.Holds h v n) : ∃ t, v = .int n t := by
  obtain ⟨as, r⟩ := x
  have r : Reads h v (.int n) as := r
  cases r with
  | int i t => exact ⟨t, rfl⟩
theorem minOf_least (x : Int) : ∀ xs : List Int, PySem.W.minOf x xs ∈ x :: xs ∧ ∀ y ∈ x :: xs, PySem.W.minOf x xs ≤ y := by
  intro xs
  unfold PySem.W.minOf
  induction xs generalizing x with
  | nil => simp
  | cons z zs ih =>
    rw [List.foldl_cons]
    by_cases h : z < x
    · rw [if_pos (show PySem.W.DatumOrd.lt z x = true from decide_eq_true h)]
      obtain ⟨h1, h2⟩ := ih z
      refine ⟨List.mem_cons_of_mem _ h1, fun y hy => ?_⟩
      rcases List.mem_cons.mp hy with rfl | hy
      · exact Int.le_trans (h2 z List.mem_cons_self) (Int.le_of_lt h)
      · exact h2 y hy
    · rw [if_neg (show ¬ PySem.W.DatumOrd.lt z x = true from fun e => h (of_decide_eq_true e))]
      obtain ⟨h1, h2⟩ := ih x
      refine ⟨?_, fun y hy => ?_⟩
      · rcases List.mem_cons.mp h1 with e | h1
        · rw [e]; exact List.mem_cons_self
        · exact List.mem_cons_of_mem _ (List.mem_cons_of_mem _ h1)
      · rcases List.mem_cons.mp hy with rfl | hy
        · exact h2 _ List.mem_cons_self
        · rcases List.mem_cons.mp hy with rfl | hy
          · exact Int.le_trans (h2 x List.mem_cons_self) (by omega)
          · exact h2 y (List.mem_cons_of_mem _ hy)
theorem maxOf_most (x : Int) : ∀ xs : List Int, PySem.W.maxOf x xs ∈ x :: xs ∧ ∀ y ∈ x :: xs, y ≤ PySem.W.maxOf x xs := by
  intro xs
  unfold PySem.W.maxOf
  induction xs generalizing x with
  | nil => simp
  | cons z zs ih =>
    rw [List.foldl_cons]
    by_cases h : x < z
    · rw [if_pos (show PySem.W.DatumOrd.lt x z = true from decide_eq_true h)]
      obtain ⟨h1, h2⟩ := ih z
      refine ⟨List.mem_cons_of_mem _ h1, fun y hy => ?_⟩
      rcases List.mem_cons.mp hy with rfl | hy
      · exact Int.le_trans (Int.le_of_lt h) (h2 z List.mem_cons_self)
      · exact h2 y hy
    · rw [if_neg (show ¬ PySem.W.DatumOrd.lt x z = true from fun e => h (of_decide_eq_true e))]
      obtain ⟨h1, h2⟩ := ih x
      refine ⟨?_, fun y hy => ?_⟩
      · rcases List.mem_cons.mp h1 with e | h1
        · rw [e]; exact List.mem_cons_self
        · exact List.mem_cons_of_mem _ (List.mem_cons_of_mem _ h1)
      · rcases List.mem_cons.mp hy with rfl | hy
        · exact h2 _ List.mem_cons_self
        · rcases List.mem_cons.mp hy with rfl | hy
          · exact Int.le_trans (by omega) (h2 x List.mem_cons_self)
          · exact h2 y (List.mem_cons_of_mem _ hy)
theorem cr_minT {k : Nat} (C : Cok X k) : CallR X (.builtin "min") (rMinT X.K) := by
  intro pins s σ H vs us Q I r h
  obtain ⟨a, ns, rfl, hs, hn, q⟩ := h
  obtain ⟨its, rv, ht, _⟩ := I.tuple hs
  rw [Vals.ref1 r]
  have hi := rv.ints
  cases ns with
  | nil => exact absurd hn (by decide)
  | cons n ns =>
    have hu := C.room.units
    refine PySem.W.min_tuple_datum (I.ok.hd C.calm) ht (x := n) (xs := ns) (hold_ints (by simpa using hi)) (by show _ + 1 + 0 < _; omega) fun i v h' tk hv hm hk => ?_
    obtain ⟨t, rfl⟩ := holds_int hm
    obtain ⟨h1, h2⟩ := minOf_least n ns
    exact ⟨.int _, H, I.kept hk, ⟨_, rfl⟩, q _ h1 h2⟩
theorem cr_maxT {k : Nat} (C : Cok X k) : CallR X (.builtin "max") (rMaxT X.K) := by
  intro pins s σ H vs us Q I r h
  obtain ⟨a, ns, rfl, hs, hn, q⟩ := h
  obtain ⟨its, rv, ht, _⟩ := I.tuple hs
  rw [Vals.ref1 r]
  have hi := rv.ints
  cases ns with
  | nil => exact absurd hn (by decide)
  | cons n ns =>
    have hu := C.room.units
    refine PySem.W.max_tuple_datum (I.ok.hd C.calm) ht (x := n) (xs := ns) (hold_ints (by simpa using hi)) (by show _ + 1 + 0 < _; omega) fun i v h' tk hv hm hk => ?_
    obtain ⟨t, rfl⟩ := holds_int hm
    obtain ⟨h1, h2⟩ := maxOf_most n ns
    exact ⟨.int _, H, I.kept hk, ⟨_, rfl⟩, q _ h1 h2⟩
theorem bf_foldS {r : List V → Hp → VK → Prop} {C : List Int → Prop} {m : List Int → Int → Prop} (hr : ∀ a ns H Q, (SqL X.K H a (ns.map V.int) ∨ SqT X.K H a (ns.map V.int)) → C ns → (∀ r, m ns r → Q (V.int r) H) → r [V.ref a] H Q) : Bfr X r (bFoldS C m) := fun ds S Q0 vs H Q h rs so ps => by
  unfold bFoldS at h
  split at h
  · cases rs with
    | cons r1 r2 =>
      cases r2
      obtain ⟨xs, hx, ns, rfl, hc, q⟩ := onSeq_iff.mp h
      obtain ⟨_, a, ws, rfl, rr, h1⟩ := seqOf_sq r1 so hx
      rw [rr.ints] at h1
      exact hr _ ns H Q (h1.imp (·.1) (·.1)) hc fun r hm => ps.here so (q r hm) (.int _)
  · exact h.elim
theorem bf_max : Bfr X (fun xs H Q => rMax X.K xs H Q ∨ rMaxT X.K xs H Q) bMax := bf_foldS fun a ns H Q hs c q => hs.imp (fun hs => ⟨a, ns, rfl, hs, List.length_pos_iff.mpr c, fun m h1 h2 => q m ⟨h1, h2⟩⟩) fun hs => ⟨a, ns, rfl, hs, List.length_pos_iff.mpr c, fun m h1 h2 => q m ⟨h1, h2⟩⟩
theorem bf_min : Bfr X (fun xs H Q => rMin X.K xs H Q ∨ rMinT X.K xs H Q) bMin := bf_foldS fun a ns H Q hs c q => hs.imp (fun hs => ⟨a, ns, rfl, hs, List.length_pos_iff.mpr c, fun m h1 h2 => q m ⟨h1, h2⟩⟩) fun hs => ⟨a, ns, rfl, hs, List.length_pos_iff.mpr c, fun m h1 h2 => q m ⟨h1, h2⟩⟩
theorem Bfr.or {r r' : List V → Hp → VK → Prop} {B B' : WB} (h : Bfr X r B) (h' : Bfr X r' B') : Bfr X (fun xs H Q => r xs H Q ∨ r' xs H Q) fun ds S Q => B ds S Q ∨ B' ds S Q := fun ds S Q0 vs H Q q rs so ps =>
  q.imp (fun q => h ds S Q0 vs H Q q rs so ps) fun q => h' ds S Q0 vs H Q q rs so ps
end
end DL

namespace DL
open PySem PySem.Spec PyProof.Rows L2

/-! ### what is walked -/
/-- the items of J (over data) are those of J' (over values), as long as the tuples of H0 stay -/
structure ItR (K : Kw) (H0 : Hp) (J : DL.It) (J' : L2.It) : Prop where
  len : J.xs.length ≤ sizeLine
  go : ∀ i H S x, SOk K H S → Tk H0 H → J.chk S → J.xs[i]? = some x → J'.go i H ∧ ∀ v H', J'.yld i H v H' → Rp K H' v x ∧ SOk K H' S ∧ Fr S S H H'
  stop : ∀ i H S, SOk K H S → Tk H0 H → J.chk S → J.xs.length ≤ i → J'.stop i H
def lI (K : Kw) (t : WI) : TI := fun σ H R => ∃ env S R0, ER K H σ env ∧ SOk K H S ∧ t env S R0 ∧ ∀ J S', R0 J S' → ∀ J' H', ItR K H' J J' → SOk K H' S' → Fr S S' H H' → R J' H'
abbrev QI (X : Cx) (tg e : Expr) (t : WI) : Prop := PI X tg e (lI X.kw t)
theorem _root_.L2.PI.imp' {X : Cx} {tg e : Expr} {t u : TI} (h : PI X tg e t) (i : ∀ σ H Q, u σ H Q → t σ H Q) : PI X tg e u := ⟨fun pins s σ H Q I q => h.run pins s σ H Q I (i σ H Q q)⟩
section
variable {K : Kw} {H0 : Hp}
theorem itr_list {a : Addr} {xs : List D} {vs : List V} (hz : xs.length ≤ sizeLine) : ItR K H0 ⟨xs, fun S => sget S a = some (.lst xs)⟩ (Itl K a) :=
  ⟨hz, fun i H S x so tk chk hx => by
    obtain ⟨vs, h1, r1, _⟩ := so.lst chk
    obtain ⟨v, hv, rv⟩ := r1.get hx
    refine ⟨⟨vs, v, SqL.of h1, hv⟩, fun v' H' ⟨e, y⟩ => ?_⟩
    subst e
    have := y vs (SqL.of h1)
    rw [hv] at this
    cases this
    exact ⟨rv, so, .refl _ _⟩, fun i H S so tk chk hi => by
    obtain ⟨vs, h1, r1, _⟩ := so.lst chk
    exact ⟨vs, SqL.of h1, by rw [r1.length]; exact hi⟩⟩
theorem itr_frz {a : Addr} {xs : List D} {vs : List V} (hz : xs.length ≤ sizeLine) (h : FxL K H0 a vs) (r : RpAll K H0 vs xs) : ItR K H0 ⟨xs, fun _ => True⟩ (Itl K a) :=
  ⟨hz, fun i H S x so tk chk hx => by
    obtain ⟨v, hv, rv⟩ := r.get hx
    refine ⟨⟨vs, v, (tk.fx h).sq, hv⟩, fun v' H' ⟨e, y⟩ => ?_⟩
    subst e
    have := y vs (tk.fx h).sq
    rw [hv] at this
    cases this
    exact ⟨rv.mono tk, so, .refl _ _⟩, fun i H S so tk chk hi => ⟨vs, (tk.fx h).sq, by rw [r.length]; exact hi⟩⟩
theorem itr_tup {a : Addr} {xs : List D} {vs : List V} (hz : xs.length ≤ sizeLine) (h : SqT K H0 a vs) (r : RpAll K H0 vs xs) : ItR K H0 ⟨xs, fun _ => True⟩ (Itt K a) :=
  ⟨hz, fun i H S x so tk chk hx => by
    obtain ⟨v, hv, rv⟩ := r.get hx
    refine ⟨⟨vs, v, tk.sq h, hv⟩, fun v' H' ⟨e, y⟩ => ?_⟩
    subst e
    have := y vs (tk.sq h)
    rw [hv] at this
    cases this
    exact ⟨rv.mono tk, so, .refl _ _⟩, fun i H S so tk chk hi => ⟨vs, tk.sq h, by rw [r.length]; exact hi⟩⟩
theorem itr_rng (lo : Int) (n : Nat) (hz : n ≤ sizeLine) : ItR K H0 ⟨rngD lo n, fun _ => True⟩ (Itr lo n) where
  len := by simp [rngD]; exact hz
  go := fun i H S x so tk chk hx => by
    unfold rngD at hx
    simp only [List.getElem?_map] at hx
    by_cases hi : i < n
    · rw [List.getElem?_range hi] at hx
      cases hx
      refine ⟨hi, fun v H' ⟨e, y⟩ => ?_⟩
      subst e y
      exact ⟨.int _, so, .refl _ _⟩
    · rw [List.getElem?_eq_none (by simpa using hi)] at hx
      exact absurd hx (by simp)
  stop := fun i H S so tk chk hi => by
    have : (rngD lo n).length = n := by simp [rngD]
    exact (show n ≤ i from by simpa [this] using hi)
theorem itr_rngC (lo c : Int) (n : Nat) (hz : n ≤ sizeLine) : ItR K H0 ⟨rngC lo c n, fun _ => True⟩ (Itc lo c n) where
  len := by simp [rngC]; exact hz
  go := fun i H S x so tk chk hx => by
    unfold rngC at hx
    simp only [List.getElem?_map] at hx
    by_cases hi : i < n
    · rw [List.getElem?_range hi] at hx
      cases hx
      refine ⟨hi, fun v H' ⟨e, y⟩ => ?_⟩
      subst e y
      exact ⟨.int _, so, .refl _ _⟩
    · rw [List.getElem?_eq_none (by simpa using hi)] at hx
      exact absurd hx (by simp)
  stop := fun i H S so tk chk hi => by
    have : (rngC lo c n).length = n := by simp [rngC]
    exact (show n ≤ i from by simpa [this] using hi)
theorem itr_str (z : Str) (hz : z.length ≤ sizeLine) : ItR K H0 ⟨z.cps.toList.map fun c => .str ⟨#[c]⟩, fun _ => True⟩ (Its z) :=
  ⟨by simp only [List.length_map, Array.length_toList]; exact hz, fun i H S x so tk chk hx => by
    simp only [List.getElem?_map, Array.getElem?_toList, Option.map_eq_some_iff] at hx
    obtain ⟨c, hc, rfl⟩ := hx
    refine ⟨(Array.getElem?_eq_some_iff.mp hc).1, fun v H' ⟨e, c', hc', y⟩ => ?_⟩
    subst e y
    rw [hc] at hc'
    cases hc'
    exact ⟨.str _, so, .refl _ _⟩, fun i H S so tk chk hi => (show z.cps.size ≤ i from by simpa using hi)⟩
theorem itr_revl {a : Addr} {xs : List D} (n : Nat) (hn : n = xs.length) (hz : xs.length ≤ sizeLine) : ItR K H0 ⟨xs.reverse, fun S => sget S a = some (.lst xs)⟩ (Itv K a n) :=
  ⟨by simpa using hz, fun i H S x so tk chk hx => by
    subst hn
    obtain ⟨vs, h1, r1, _⟩ := so.lst chk
    have hi : i < xs.length := by
      have := (List.getElem?_eq_some_iff.mp hx).1
      simpa using this
    dsimp only at hx
    rw [List.getElem?_reverse hi] at hx
    obtain ⟨v, hv, rv⟩ := r1.get hx
    refine ⟨⟨hi, vs, v, SqL.of h1, hv⟩, fun v' H' ⟨e, y⟩ => ?_⟩
    subst e
    have := y vs (SqL.of h1)
    rw [hv] at this
    cases this
    exact ⟨rv, so, .refl _ _⟩, fun i H S so tk chk hi => (show n ≤ i from by subst hn; simpa using hi)⟩
theorem itr_revt {a : Addr} {xs : List D} {vs : List V} (n : Nat) (hn : n = xs.length) (hz : xs.length ≤ sizeLine) (h : SqT K H0 a vs) (r : RpAll K H0 vs xs) : ItR K H0 ⟨xs.reverse, fun _ => True⟩ (RT.ItvT K a n) :=
  ⟨by simpa using hz, fun i H S x so tk chk hx => by
    subst hn
    have hi : i < xs.length := by
      have := (List.getElem?_eq_some_iff.mp hx).1
      simpa using this
    dsimp only at hx
    rw [List.getElem?_reverse hi] at hx
    obtain ⟨v, hv, rv⟩ := r.get hx
    refine ⟨⟨hi, vs, v, tk.sq h, hv⟩, fun v' H' ⟨e, y⟩ => ?_⟩
    subst e
    have := y vs (tk.sq h)
    rw [hv] at this
    cases this
    exact ⟨rv.mono tk, so, .refl _ _⟩, fun i H S so tk chk hi => (show n ≤ i from by subst hn; simpa using hi)⟩
end
section
variable {X : Cx} {tg e : Expr} {te : WE} {ta : WA} {p pos : Pos}

/-- a list, a tuple, a text, walked -/
def iAny (K : PySem.W.Frag) (tl : TE) : TI := fun σ H R => tl σ H fun x H1 => (∃ a, x = .ref a ∧ (∃ xs, SqL K H1 a xs) ∧ R (Itl K a) H1) ∨ (∃ a, x = .ref a ∧ (∃ xs, SqT K H1 a xs) ∧ R (Itt K a) H1) ∨ ∃ z, x = .str z ∧ R (Its z) H1
theorem pi_any {tl : TE} (hl : PE X e tl) : PI X tg e (iAny X.K tl) := by
  refine ⟨fun pins s σ H R I h => ?_⟩
  refine thn (hl.run pins s σ H _ I h) fun v s1 ⟨x, H1, I1, r1, q1⟩ => ?_
  rcases q1 with ⟨a, e, ⟨xs, hq⟩, q⟩ | ⟨a, e, ⟨xs, hq⟩, q⟩ | ⟨z, e, q⟩
  · subst e
    cases r1
    obtain ⟨its, rv, p, hz⟩ := I1.list hq
    refine wpAny_pyIter_list p.isList ?_
    refine ⟨s1.heap.objs.size, [s1.heap.objs.size], _, _, H1, rfl, I1.kept (t' := s1.toks) fun b o e => Heap.get?_push_of_some _ e, turn_list a _, ⟨_, Heap.get?_push_size _ rfl, rfl, rfl⟩, fun b hb => ?_, q⟩
    have e : b = s1.heap.objs.size := by simpa using hb
    subst e
    exact I1.fpOk (Nat.le_refl _) (I1.hok.fresh (Nat.le_refl _))
  · subst e
    cases r1
    obtain ⟨its, rv, p, hz⟩ := I1.tuple hq
    refine wpAny_pyIter_tuple (show s1.heap.IsTuple a its.toArray from p) ?_
    refine ⟨s1.heap.objs.size, [s1.heap.objs.size], _, _, H1, rfl, I1.kept (t' := s1.toks) fun b o e => Heap.get?_push_of_some _ e, turn_tuple a _, ⟨_, Heap.get?_push_size _ rfl, rfl, rfl⟩, fun b hb => ?_, q⟩
    have e : b = s1.heap.objs.size := by simpa using hb
    subst e
    exact I1.fpOk (Nat.le_refl _) (I1.hok.fresh (Nat.le_refl _))
  · subst e
    obtain ⟨t, rfl⟩ := r1
    cases ha : z.cps.all (· < 128)
    · exact wpAny_pyIter_wide ha (pi_one (tk := s1.toks) I1 _ (turn_str _ z t "str_iterator" (.inr rfl)) ⟨_, Heap.get?_push_size _ rfl, rfl, rfl⟩ q)
    · exact wpAny_pyIter_ascii ha (pi_one (tk := s1.toks) I1 _ (turn_str _ z t "str_ascii_iterator" (.inl rfl)) ⟨_, Heap.get?_push_size _ rfl, rfl, rfl⟩ q)
theorem qi_seq (h : QE X e te) : QI X tg e (iSeq te) := (pi_any h).imp' fun σ H R ⟨env, S, R0, er, so, q, ps⟩ => by
  refine ⟨env, S, _, er, so, q, fun x S1 h1 v H1 rv s1 f1 => ?_⟩
  unfold dWalk at h1
  split at h1
  · cases rv with
    | tup h2 r2 hz => exact .inr (.inl ⟨_, rfl, ⟨_, h2⟩, ps _ _ (h1 hz) _ _ (itr_tup hz h2 r2) s1 f1⟩)
  · cases rv with
    | frz h2 r2 hz => exact .inl ⟨_, rfl, ⟨_, h2.sq⟩, ps _ _ (h1 hz) _ _ (itr_frz hz h2 r2) s1 f1⟩
  · cases rv
    obtain ⟨xs, e1, h1⟩ := onL_iff.mp h1
    obtain ⟨vs, h2, r2, hz⟩ := s1.lst e1
    exact .inl ⟨_, rfl, ⟨vs, SqL.of h2⟩, ps _ _ (h1 hz) _ _ (itr_list (vs := vs) hz) s1 f1⟩
  · cases rv
    exact .inr (.inr ⟨_, rfl, ps _ _ h1.2 _ _ (itr_str _ h1.1) s1 f1⟩)
  · exact h1.elim
theorem qi_rev {p pos : Pos} (hg : Gl X "reversed") (hm : X.mg "reversed" = none) (h : QE X e te) (hs : starEach [e] X.env = (false, eval e X.env) :: starEach [] X.env := by rfl) : QI X tg (.Call (.Name "reversed" p) [e] [] pos) (DL.iRev te) := (RT.pi_revA hg hm h hs).imp' fun σ H R ⟨env, S, R0, er, so, q, ps⟩ => by
  refine ⟨env, S, _, er, so, q, fun x S1 h1 v H1 rv s1 f1 => ?_⟩
  split at h1
  · cases rv with
    | tup h2 r2 hz => exact ⟨_, _, rfl, .inr ⟨h2, ps _ _ (h1 hz) _ _ (itr_revt _ r2.length hz h2 r2) s1 f1⟩⟩
  · cases rv
    obtain ⟨xs, e1, h1⟩ := onL_iff.mp h1
    obtain ⟨vs, h2, r2, hz⟩ := s1.lst e1
    exact ⟨_, _, rfl, .inl ⟨SqL.of h2, ps _ _ (h1 hz) _ _ (itr_revl _ r2.length hz) s1 f1⟩⟩
  · exact h1.elim
theorem rng_line : (1000000 : Int) ≤ (sizeLine : Nat) := by rw [sizeLine_eq]; decide
theorem qi_rng1 {a : Expr} (hg : Gl X "range") (hm : X.mg "range" = none) (ha : QA X [a] ta) (hs : starEach [a] X.env = [(false, eval a X.env)] := by rfl) : QI X tg (.Call (.Name "range" p) [a] [] pos) (iRng ta) := (pi_range1 hg hm ha hs).imp' fun σ H R ⟨env, S, R0, er, so, q, ps⟩ => by
  refine ⟨env, S, _, er, so, q, fun ds S1 h1 vs H1 rs s1 f1 => ?_⟩
  have := rng_line
  split at h1
  · cases rs with
    | cons r1 r2 =>
      cases r1; cases r2
      exact ⟨_, rfl, by omega, by omega, ps _ _ h1.2 _ _ (itr_rng 0 _ (by omega)) s1 f1⟩
  · exact h1.elim
theorem qi_rng2 {a b : Expr} (hg : Gl X "range") (hm : X.mg "range" = none) (ha : QA X [a, b] ta) (hs : starEach [a, b] X.env = [(false, eval a X.env), (false, eval b X.env)] := by rfl) (hs2 : starEach [b] X.env = [(false, eval b X.env)] := by rfl) :
    QI X tg (.Call (.Name "range" p) [a, b] [] pos) (iRng2 ta) := (pi_range2 hg hm ha hs hs2).imp' fun σ H R ⟨env, S, R0, er, so, q, ps⟩ => by
  refine ⟨env, S, _, er, so, q, fun ds S1 h1 vs H1 rs s1 f1 => ?_⟩
  have := rng_line
  split at h1
  · cases rs with
    | cons r1 r2 =>
      cases r2 with
      | cons r2 r3 =>
        cases r1; cases r2; cases r3
        exact ⟨_, _, rfl, ⟨h1.1.1, h1.1.2.1, h1.1.2.2.1, h1.1.2.2.2.1⟩, ps _ _ h1.2 _ _ (itr_rng _ _ (by omega)) s1 f1⟩
  · exact h1.elim
theorem cnt_size {i j c : Int} (hc : 0 < c) (h : j - i ≤ 1000000) : Builtin.Range.rangeSize i j c = (cntC i j c : Nat) ∧ cntC i j c ≤ 1000000 := by
  unfold Builtin.Range.rangeSize cntC
  rw [if_pos hc]
  split
  · have h0 : 0 ≤ (j - i - 1) / c := Int.ediv_nonneg (by omega) (by omega)
    have h1 : (j - i - 1) / c ≤ j - i - 1 := Int.ediv_le_self _ (by omega)
    exact ⟨by omega, by omega⟩
  · exact ⟨rfl, by decide⟩
theorem qi_rng3 {a b c : Expr} (hg : Gl X "range") (hm : X.mg "range" = none) (ha : QA X [a, b, c] ta) (hs : starEach [a, b, c] X.env = (false, eval a X.env) :: starEach [b, c] X.env := by rfl) (hpl : (backTo pos (starEach [b, c] X.env)).any (·.1) = false := by rfl) :
    QI X tg (.Call (.Name "range" p) [a, b, c] [] pos) (iRng3 ta) := (pi_range3 hg hm ha hs hpl).imp' fun σ H R ⟨env, S, R0, er, so, q, ps⟩ => by
  refine ⟨env, S, _, er, so, q, fun ds S1 h1 vs H1 rs s1 f1 => ?_⟩
  have := rng_line
  split at h1
  · cases rs with
    | cons r1 r2 =>
      cases r2 with
      | cons r2 r3 =>
        cases r3 with
        | cons r3 r4 =>
          cases r1; cases r2; cases r3; cases r4
          obtain ⟨⟨c1, c2, b1, b2, b3, b4, b5⟩, q1⟩ := h1
          obtain ⟨e1, e2⟩ := cnt_size c1 b5
          refine ⟨_, _, _, _, rfl, ⟨by omega, by omega, ?_, e1⟩, ps _ _ q1 _ _ (itr_rngC _ _ _ (by omega)) s1 f1⟩
          unfold Builtin.Range.small
          rw [e1]
          simp only [Builtin.Range.rangeFitsLong, Bool.and_eq_true, Bool.or_eq_true, decide_eq_true_eq, beq_iff_eq, gt_iff_lt, c1, if_true]
          repeat' split
          all_goals omega
  · exact h1.elim
end
end DL

namespace DL
open PySem PySem.Spec PyProof.Rows L2
section
variable {X : Cx} {e : Expr} {es : List Expr} {te : WE} {pos : Pos}
/-! ### targets -/
theorem qg_name {i : Nat} {x : Str} (hN : X.N.Nodup) (hi : X.N[i]? = some x) (hx : Loc X.env.scope x) (hf : X.fn x = true ∨ X.env.scope.names.lookup x = some .local := by first | exact .inl rfl | exact .inr rfl | assumption) : QG X (.Name x pos) (DL.gName i) :=
  (pg_name hN hi hx hf).imp' fun v σ H Q ⟨d, env, S, Q0, rv, er, so, q, ps⟩ => ps _ _ q _ H (er.set i rv) so (.refl S H)
theorem qgs_nil : QGs X [] DL.gsNil := pgs_nil.imp' fun vs σ H Q ⟨ds, env, S, Q0, rv, er, so, q, ps⟩ => by
  obtain ⟨e, q⟩ := q
  subst e
  cases rv
  exact ⟨rfl, ps _ _ q _ H er so (.refl S H)⟩

theorem qgs_cons {g : WG} {u : WGs} (h1 : QG X e g) (h2 : QGs X es u) (hs : (assignEach (e :: es) X.env).map (·.2) = assign e X.env :: (assignEach es X.env).map (·.2) := by rfl) : QGs X (e :: es) (DL.gsCons g u) :=
  (pgs_cons h1 h2 hs).imp' fun vs σ H Q ⟨ds, env, S, Q0, rv, er, so, q, ps⟩ => by
  unfold DL.gsCons at q
  split at q
  · cases rv with
    | cons r1 r2 =>
      refine ⟨_, _, rfl, _, env, S, _, r1, er, so, q, fun env1 S1 h1 σ1 H1 er1 s1 f1 => ?_⟩
      exact ⟨_, env1, S1, Q0, r2.mono f1.tk, er1, s1, h1, fun env2 S2 h2 σ2 H2 er2 s2 f2 => ps _ _ h2 _ _ er2 s2 (f1.trans f2)⟩
  · exact q.elim
theorem qg_tup {k : Nat} {u : WGs} {n : Nat} (hc : X.calm = true) (h : QGs X es u) (hn : (assignEach es X.env).length = n := by rfl) (hst : (assignEach es X.env).findIdx? (·.1) = none := by rfl) : QG X (.Tuple es k pos) (DL.gTup n u) :=
  (pg_tup hc h hn hst).imp' fun v σ H Q ⟨d, env, S, Q0, rv, er, so, q, ps⟩ => by
  unfold DL.gTup at q
  split at q
  · cases rv with
    | tup h1 r1 hz => exact ⟨_, _, rfl, h1, by rw [r1.length]; exact q.1, _, env, S, Q0, r1, er, so, q.2, ps⟩
  · exact q.elim
theorem qg_sub {o i : Expr} {ta ti : WE} (ho : QE X o ta) (hi : QE X i ti)
    (ha : ∀ v, assign (.Subscript o i pos) X.env v = (do
      let ov ← holding [v] (eval o X.env)
      let iv ← holding [v, ov] (eval i X.env)
      standAt pos
      holding [v, ov, iv] (setItem ov iv v)
      release [v, ov, iv] []) := by intro _; rfl) : QG X (.Subscript o i pos) (DL.gSub ta ti) :=
  (pg_sub ho hi set_list ha).imp' fun v σ H Q ⟨d, env, S, Q0, rv, er, so, q, ps⟩ => by
  refine ⟨env, S, _, er, so, q, fun x S1 h1 w H1 rw' s1 f1 => ?_⟩
  refine ⟨env, S1, _, er.mono f1.tk, s1, h1, fun y S2 h2 u H2 ru s2 f2 => ?_⟩
  split at h2
  · cases ru
    cases rw'
    obtain ⟨xs, e1, h2⟩ := onL_iff.mp h2
    split at h2
    · rename_i j hj
      have q2 := h2
      obtain ⟨vs, h3, r3, hz⟩ := s2.lst e1
      refine ⟨_, vs, _, j, rfl, rfl, h3, by rw [r3.length]; exact hj, ?_⟩
      have f3 := (f1.trans f2).trans (Fr.set (ws := vs.set j v) (o' := .lst (xs.set j d)) e1 h3)
      refine ps _ _ q2 _ _ (er.mono f3.tk) (s2.set e1 h3 (r3.set (rv.mono (f1.trans f2).tk) j) (by rw [List.length_set]; exact hz)) f3
    · exact h2.elim
  · exact h2.elim
end

section
variable {X : Cx} {e : Expr} {te : WE} {st : Stmt} {rest : List Stmt} {t u : WS} {pos : Pos}
/-! ### statements -/
theorem qs_nil : QSs X [] sNil := pss_nil.imp' fun D σ H ⟨env, S, D0, er, so, q, ps⟩ => ps.nx _ _ q _ _ er so (.refl S H)
theorem seq_ok {K : Kw} {D : L2.Ends} {σ : L2.St} {H : Hp} (h : lS K (sSeq t u) D σ H) : L2.tSeq (lS K t) (lS K u) D σ H := by
  obtain ⟨env, S, D0, er, so, q, ps⟩ := h
  exact ⟨env, S, { D0 with nx := u D0 }, er, so, q, ⟨fun env' S' h σ' H' er' s' f => ⟨env', S', D0, er', s', h, ps.trans f⟩, ps.rt, ps.bk, ps.ct⟩⟩
theorem qs_cons (h1 : QS X st t) (h2 : QSs X rest u) : QSs X (st :: rest) (sSeq t u) := (pss_cons h1 h2).imp' fun D σ H h => seq_ok h
theorem qs_one (h1 : QS X st t) : QSs X [st] t := pss_one h1
theorem q_brk : QS X (.Break pos) sBrk := ps_break.imp' fun D σ H ⟨env, S, D0, er, so, q, ps⟩ => ps.bk _ _ q _ _ er so (.refl S H)
theorem q_cnt : QS X (.Continue pos) sCnt := ps_continue.imp' fun D σ H ⟨env, S, D0, er, so, q, ps⟩ => ps.ct _ _ q _ _ er so (.refl S H)
theorem q_pass : QS X (.Pass pos) sNil := ps_pass.imp' fun D σ H ⟨env, S, D0, er, so, q, ps⟩ => ps.nx _ _ q _ _ er so (.refl S H)
theorem q_doc {x j p2} : QS X (.Expr (.Constant (.str x) j pos) p2) sNil := ps_doc.imp' fun D σ H ⟨env, S, D0, er, so, q, ps⟩ => ps.nx _ _ q _ _ er so (.refl S H)
theorem q_expr (he : QE X e te) (hs : swapsWith e none pos.line X.env = pure false := by rfl) : QS X (.Expr e pos) (sDrop te) := (ps_expr he hs).imp' fun D σ H ⟨env, S, D0, er, so, q, ps⟩ =>
  ⟨env, S, _, er, so, q, fun d S1 h1 v H1 rv s1 f1 => ps.nx _ _ h1 _ _ (er.mono f1.tk) s1 f1⟩
theorem q_ret (he : QE X e te) : QS X (.Return (some e) pos) (sRet te) := (ps_ret he).imp' fun D σ H ⟨env, S, D0, er, so, q, ps⟩ => ⟨env, S, _, er, so, q, ps.rt⟩
theorem q_retN : QS X (.Return none pos) sRetN := ps_retN.imp' fun D σ H ⟨env, S, D0, er, so, q, ps⟩ => ps.rt.here so q .non
theorem asg_ok {K : Kw} {D : L2.Ends} {σ : L2.St} {H : Hp} {g : WG} (h : lS K (sAsg te g) D σ H) : L2.tAsg (lE K te) (lG K g) D σ H := by
  obtain ⟨env, S, D0, er, so, q, ps⟩ := h
  exact ⟨env, S, _, er, so, q, fun d S1 h1 v H1 rv s1 f1 => ⟨d, env, S1, _, rv, er.mono f1.tk, s1, h1, fun env2 S2 h2 σ2 H2 er2 s2 f2 => ps.nx _ _ h2 _ _ er2 s2 (f1.trans f2)⟩⟩
theorem q_asg {tg : Expr} {g : WG} (he : QE X e te) (hg : QG X tg g) (hs : swapsWithSole [tg] e pos.line X.env = pure false := by rfl) (hw : swappedStores [tg] e X.env = pure none := by rfl)
    (h1 : (assignEach [tg] X.env).map (·.2) = [assign tg X.env] := by rfl) : QS X (.Assign [tg] e pos) (sAsg te g) := (ps_asg he hg hs hw h1).imp' fun D σ H h => asg_ok h
theorem q_set {i : Nat} {x : Str} {p2 : Pos} (hN : X.N.Nodup) (hi : X.N[i]? = some x) (hx : Loc X.env.scope x) (he : QE X e te) (hs : swapsWith e (some (.Name x p2)) pos.line X.env = pure false := by rfl) (hf : X.fn x = true ∨ X.env.scope.names.lookup x = some .local := by first | exact .inl rfl | exact .inr rfl | assumption) :
    QS X (.Assign [.Name x p2] e pos) (sAsg te (DL.gName i)) := (ps_set hN hi hx he hs hf).imp' fun D σ H ⟨env, S, D0, er, so, q, ps⟩ =>
  ⟨env, S, _, er, so, q, fun d S1 h1 v H1 rv s1 f1 => ps.nx _ _ h1 _ _ ((er.mono f1.tk).set i rv) s1 f1⟩
theorem q_if {c : Expr} {a b : List Stmt} {tc : WT} (hc : QT X c tc) (ha : QSs X a t) (hb : QSs X b u) : QS X (.If c a b pos) (sIf tc t u) := (ps_if hc ha hb).imp' fun D σ H ⟨env, S, D0, er, so, q, ps⟩ => by
  refine ⟨env, S, _, er, so, q, fun k S1 h1 H1 s1 f1 => ?_⟩
  cases k with
  | true => exact ⟨env, S1, D0, er.mono f1.tk, s1, h1, ps.trans f1⟩
  | false => exact ⟨env, S1, D0, er.mono f1.tk, s1, h1, ps.trans f1⟩
theorem q_join (h : QS X st t) : QS X st (sJoin t) := h.imp' fun D σ H ⟨env, S, D0, er, so, q, ps⟩ => by
  unfold sJoin at q
  obtain ⟨P, h1, h2⟩ := q
  refine ⟨env, S, _, er, so, h1, ⟨fun env' S' h σ' H' er' s' f => ?_, ps.rt, ps.bk, ps.ct⟩⟩
  obtain ⟨S0, sb, h⟩ := (show UpS (P env') S' from h).ex
  exact ps.nx _ _ (h2 _ _ h) _ _ er' (s'.sub sb) (f.sub sb)
theorem q_while {c : Expr} {body : List Stmt} {tc : WT} (hp : PassesOwn (model X.prog X.w) X.A X.env X.xe) (hc : QT X c tc) (hb : QSs X body t) : QS X (.While c body [] pos) (sWhile tc t) := (ps_while hp hc hb).imp' fun D σ H ⟨env, S, D0, er, so, q, ps⟩ => by
  unfold sWhile at q
  obtain ⟨W, ⟨m0, w0⟩, turn⟩ := q
  refine ⟨fun m σ' H' => ∃ env' S', ER X.kw H' σ' env' ∧ SOk X.kw H' S' ∧ Fr S S' H H' ∧ W m env' S', ⟨m0, env, S, er, so, .refl S H, w0⟩, ?_⟩
  rintro m σ1 H1 ⟨env1, S1, er1, s1, f1, w1⟩
  refine ⟨env1, S1, _, er1, s1, turn m env1 S1 w1, fun k S2 h2 H2 s2 f2 => ?_⟩
  cases k with
  | false => exact (ps.trans (f1.trans f2)).nx _ _ h2 _ _ (er1.mono f2.tk) s2 (.refl _ _)
  | true =>
    refine ⟨fun σ' H' => ∃ env' S', ER X.kw H' σ' env' ∧ SOk X.kw H' S' ∧ Fr S S' H H' ∧ ∃ m', m' < m ∧ W m' env' S', fun σ' H' ⟨env', S', a, b, c, m', hm, w'⟩ => ⟨m', hm, env', S', a, b, c, w'⟩, ?_⟩
    have h2 : t _ env1 S2 := h2
    have up : ∀ env' S', UpS (fun S' => ∃ m', m' < m ∧ W m' env' S') S' → ∀ σ' H', ER X.kw H' σ' env' → SOk X.kw H' S' → Fr S2 S' H2 H' → ∃ env' S', ER X.kw H' σ' env' ∧ SOk X.kw H' S' ∧ Fr S S' H H' ∧ ∃ m', m' < m ∧ W m' env' S' := fun env' S' h σ' H' er' s' f => by
      obtain ⟨S0, sb, h⟩ := h.ex
      exact ⟨env', S0, er', s'.sub sb, ((f1.trans f2).trans f).sub sb, h⟩
    exact ⟨env1, S2, _, er1.mono f2.tk, s2, h2, ⟨up, ps.rt.trans (f1.trans f2),
      fun env' S' h σ' H' er' s' f => ps.nx _ _ h _ _ er' s' ((f1.trans f2).trans f), up⟩⟩
theorem drop_get {α : Type} {xs : List α} {i : Nat} {x : α} {r : List α} (h : xs.drop i = x :: r) : xs[i]? = some x ∧ xs.drop (i + 1) = r ∧ i < xs.length := by
  have hi : i < xs.length := by
    rcases Nat.lt_or_ge i xs.length with hi | hi
    · exact hi
    · rw [List.drop_eq_nil_of_le hi] at h
      cases h
  rw [List.drop_eq_getElem_cons hi] at h
  injection h with h1 h2
  exact ⟨by rw [List.getElem?_eq_getElem hi, h1], h2, hi⟩
theorem q_for {tg iter : Expr} {body : List Stmt} {wi : WI} {g : WG} (hp : PassesOwn (model X.prog X.w) X.A X.env X.xe) (hc : X.calm = true) (hi : QI X tg iter wi) (hg : QG X tg g) (hb : QSs X body t)
    (hs : ∀ x, foldedSetIterable iter X.env x = pure x := by intro _; rfl) : QS X (.For tg iter body [] pos) (sFor wi g t) := (ps_for hp hc hi hg hb hs).imp' fun D σ H ⟨env, S, D0, er, so, q, ps⟩ => by
  unfold sFor at q
  refine ⟨env, S, _, er, so, q, fun J S1 h1 J' H1 jr s1 f1 => ?_⟩
  obtain ⟨W, w0, turn, done⟩ := h1
  refine ⟨fun i m σ' H' => ∃ env' S', ER X.kw H' σ' env' ∧ SOk X.kw H' S' ∧ Fr S1 S' H1 H' ∧ W i env' S' ∧ m = J.xs.length - i ∧ i ≤ J.xs.length, ⟨J.xs.length, env, S1, er.mono f1.tk, s1, .refl _ _, w0, by omega, Nat.zero_le _⟩, ?_⟩
  rintro i m σ2 H2 ⟨env2, S2, er2, s2, f2, w2, rfl, hi2⟩
  cases hd : J.xs[i]? with
  | none =>
    have hl : J.xs.length ≤ i := List.getElem?_eq_none_iff.mp hd
    have e : i = J.xs.length := Nat.le_antisymm hi2 hl
    rw [e] at w2
    obtain ⟨chk, q2⟩ := done env2 S2 w2
    exact .inl ⟨jr.stop i H2 S2 s2 f2.tk chk hl, ps.nx _ _ q2 _ _ er2 s2 (f1.trans f2)⟩
  | some x =>
    have hlt : i < J.xs.length := (List.getElem?_eq_some_iff.mp hd).1
    obtain ⟨chk, q2⟩ := turn i x env2 S2 hd w2
    obtain ⟨go, yld⟩ := jr.go i H2 S2 x s2 f2.tk chk hd
    refine .inr ⟨go, fun σ' H' => ∃ env' S', ER X.kw H' σ' env' ∧ SOk X.kw H' S' ∧ Fr S1 S' H1 H' ∧ W (i + 1) env' S', fun σ' H' ⟨env', S', a, b, c, w'⟩ => ⟨J.xs.length - (i + 1), by omega, env', S', a, b, c, w', rfl, hlt⟩, fun v H3 y3 => ?_⟩
    obtain ⟨rv, s3, f3⟩ := yld v H3 y3
    refine ⟨x, env2, S2, _, rv, er2.mono f3.tk, s3, q2, fun env4 S4 h4 σ4 H4 er4 s4 f4 => ?_⟩
    have f := (f2.trans f3).trans f4
    have up : ∀ env' S', UpS (W (i + 1) env') S' → ∀ σ' H', ER X.kw H' σ' env' → SOk X.kw H' S' → Fr S4 S' H4 H' → ∃ env' S', ER X.kw H' σ' env' ∧ SOk X.kw H' S' ∧ Fr S1 S' H1 H' ∧ W (i + 1) env' S' := fun env' S' h σ' H' er' s' g => by
      obtain ⟨S0, sb, h⟩ := h.ex
      exact ⟨env', S0, er', s'.sub sb, (f.trans g).sub sb, h⟩
    exact ⟨env4, S4, _, er4, s4, h4, ⟨up, ps.rt.trans (f1.trans f), fun env' S' h σ' H' er' s' g => ps.nx _ _ h _ _ er' s' ((f1.trans f).trans g), up⟩⟩
theorem q_par {i j : Nat} {x y : Str} {a b : Expr} {ta : WA} {px py pt : Pos} {kt k2 pt2} (hc : X.calm = true) (hN : X.N.Nodup) (hi : X.N[i]? = some x) (hj : X.N[j]? = some y) (hij : i ≠ j)
    (hx : X.env.scope.names.lookup x = some .local) (hy : X.env.scope.names.lookup y = some .local) (ha : QA X [a, b] ta)
    (hw : swappedStores [.Tuple [.Name x px, .Name y py] kt pt] (.Tuple [a, b] k2 pt2) X.env = pure (some [x, y]))
    (hs : swapsWithSole [.Tuple [.Name x px, .Name y py] kt pt] (.Tuple [a, b] k2 pt2) pos.line X.env = pure false := by rfl) :
    QS X (.Assign [.Tuple [.Name x px, .Name y py] kt pt] (.Tuple [a, b] k2 pt2) pos) (sPar i j ta) := (ps_par hc hN hi hj hij hx hy ha hw hs).imp' fun D σ H ⟨env, S, D0, er, so, q, ps⟩ => by
  refine ⟨env, S, _, er, so, q, fun ds S1 h1 vs H1 rs s1 f1 => ?_⟩
  split at h1
  · cases rs with
    | cons r1 r2 =>
      cases r2 with
      | cons r2 r3 =>
        cases r3
        exact ⟨_, _, rfl, ps.nx _ _ h1 _ _ (((er.mono f1.tk).set i r1).set j r2) s1 f1⟩
  · exact h1.elim
/-- x op= e for ints and texts: as the operator -/
def ipAdd : TIp := fun x y H Q => rI0 (fun i j => .int (i + j)) x y H Q ∨ ∃ i j, x = V.str i ∧ y = V.str j ∧ i.length + j.length ≤ sizeLine ∧ Q (.str (i ++ j)) H
def dIAdd (x y : D) (S : Sto) (Q : WQ) : Prop := match x, y with
  | .int i, .int j => Q (.int (i + j)) S
  | .str a, .str b => a.length + b.length ≤ sizeLine ∧ Q (.str (a ++ b)) S
  | _, _ => False
theorem q_aug {i : Nat} {x : Str} {op : Operator} {r : R2} {R : D → D → Sto → WQ → Prop} {p2 : Pos} (hN : X.N.Nodup) (hi : X.N[i]? = some x) (hx : Loc X.env.scope x) (he : QE X e te) (ho : OpR X (inplaceOp op) r) (hr : Opr X r R)
    (hf : X.fn x = true ∨ X.env.scope.names.lookup x = some .local := by first | exact .inl rfl | exact .inr rfl | assumption) : QS X (.AugAssign (.Name x p2) op e pos) (sAug i R te) :=
  (ps_aug (ti := r) hN hi hx he (fun pins s σ H x y v u Q I rv ru h => ho pins s σ H x y v u Q I rv ru h) hf).imp' fun D σ H ⟨env, S, D0, er, so, q, ps⟩ => by
  unfold sAug at q
  split at q
  · rename_i d e1
    obtain ⟨v, hv, rv⟩ := er.2 i d e1
    refine ⟨v, hv, env, S, _, er, so, q, fun y S1 h1 w H1 rw' s1 f1 => ?_⟩
    exact hr _ _ _ _ _ _ _ _ h1 (rv.mono f1.tk) rw' s1 fun z S2 h2 v2 H2 rv2 s2 f2 => ps.nx _ _ h2 _ _ ((er.mono (f1.trans f2).tk).set i rv2) s2 (f1.trans f2)
  · exact q.elim
theorem opr_iadd : Opr X (fun x y H Q => rI0 (fun i j => .int (i + j)) x y H Q ∨ ∃ i j, x = V.str i ∧ y = V.str j ∧ i.length + j.length ≤ sizeLine ∧ Q (.str (i ++ j)) H) dIAdd := fun x y S Q0 v u H Q h rv ru so ps => by
  unfold dIAdd at h
  split at h
  · cases rv; cases ru
    exact .inl ⟨_, _, rfl, rfl, ps.here so h (.int _)⟩
  · cases rv; cases ru
    exact .inr ⟨_, _, rfl, rfl, h.1, ps.here so h.2 (.str _)⟩
  · exact h.elim
theorem q_iadd {i : Nat} {x : Str} {p2 : Pos} (hN : X.N.Nodup) (hi : X.N[i]? = some x) (hx : Loc X.env.scope x) (he : QE X e te)
    (hf : X.fn x = true ∨ X.env.scope.names.lookup x = some .local := by first | exact .inl rfl | exact .inr rfl | assumption) : QS X (.AugAssign (.Name x p2) .Add e pos) (sAug i dIAdd te) := q_aug hN hi hx he (iop_add.or iop_add_str) opr_iadd hf
theorem q_isub {i : Nat} {x : Str} {p2 : Pos} (hN : X.N.Nodup) (hi : X.N[i]? = some x) (hx : Loc X.env.scope x) (he : QE X e te)
    (hf : X.fn x = true ∨ X.env.scope.names.lookup x = some .local := by first | exact .inl rfl | exact .inr rfl | assumption) : QS X (.AugAssign (.Name x p2) .Sub e pos) (sAug i dSub te) := q_aug hN hi hx he iop_sub opr_sub hf
end

/-! ### comprehensions -/
section
variable {X : Cx} {tg iter elt : Expr} {ifs : List Expr} {scope : Scope} {own : List (Str × Nat)} {pos : Pos} {wi : WI} {g : WG} {c : WT} {te : WE} {vs : List Nat}
abbrev QTs (X : Cx) (ifs : List Expr) (t : WT) : Prop := PTs X ifs (lT X.kw t)
theorem qts_nil : QTs X [] DL.tYes := ⟨fun pins s σ H Q I ⟨env, S, Q0, er, so, q, ps⟩ => pts_nil.run pins s σ H Q I (ps _ _ q _ so (.refl S H))⟩
theorem qts_one {e : Expr} {t : WT} (h : QT X e t) : QTs X [e] t := pts_one h
/-- a comprehension's own target -/
structure GV (K : Kw) (gV : TG) (g : WG) (vs : List Nat) : Prop where
  run : ∀ v d σ env S H (Q0 : EV → Sto → Prop) Q, Rp K H v d → ER K H σ env → SOk K H S → g d env S Q0 → (∀ σ' env', L2.wipe σ' vs = L2.wipe σ vs → ER K H σ' env' → Q0 env' S → Q σ' H) → gV v σ H Q
structure GVs (K : Kw) (gV : TGs) (g : WGs) (vs : List Nat) : Prop where
  run : ∀ v d σ env S H (Q0 : EV → Sto → Prop) Q, RpAll K H v d → ER K H σ env → SOk K H S → g d env S Q0 → (∀ σ' env', L2.wipe σ' vs = L2.wipe σ vs → ER K H σ' env' → Q0 env' S → Q σ' H) → gV v σ H Q
theorem wipe_get (σ : L2.St) : ∀ (vs : List Nat) (j : Nat), (L2.wipe σ vs)[j]? = if j ∈ vs ∧ j < σ.length then some none else σ[j]?
  | [], j => by
    show σ[j]? = _
    rw [if_neg (by simp)]
  | v :: vs, j => by
    show ((L2.wipe σ vs).set v none)[j]? = _
    have hl := wipe_length σ vs
    by_cases hj : v = j
    · subst hj
      by_cases hv : v < σ.length
      · rw [List.getElem?_set_self (by rw [hl]; exact hv), if_pos ⟨List.mem_cons_self, hv⟩]
      · rw [List.getElem?_eq_none (by rw [List.length_set, hl]; omega), if_neg (by omega)]
        exact (List.getElem?_eq_none (by omega)).symm
    · rw [List.getElem?_set_ne hj, wipe_get σ vs j]
      have : (j ∈ v :: vs ∧ j < σ.length) ↔ (j ∈ vs ∧ j < σ.length) := by
        rw [List.mem_cons]
        constructor
        · rintro ⟨h | h, h2⟩
          · exact absurd h.symm hj
          · exact ⟨h, h2⟩
        · rintro ⟨h, h2⟩
          exact ⟨.inr h, h2⟩
      by_cases h : j ∈ vs ∧ j < σ.length
      · rw [if_pos h, if_pos (this.mpr h)]
      · rw [if_neg h, if_neg (fun z => h (this.mp z))]
theorem wipe_set {σ : L2.St} {i : Nat} {x : Option V} (hi : i ∈ vs) : L2.wipe (σ.set i x) vs = L2.wipe σ vs := by
  refine List.ext_getElem? fun j => ?_
  rw [wipe_get, wipe_get, List.length_set]
  by_cases h : j ∈ vs ∧ j < σ.length
  · rw [if_pos h, if_pos h]
  · rw [if_neg h, if_neg h]
    by_cases hj : i = j
    · subst hj
      have : ¬ i < σ.length := fun z => h ⟨hi, z⟩
      rw [List.getElem?_eq_none (by simpa using this), List.getElem?_eq_none (by omega)]
    · rw [List.getElem?_set_ne hj]
theorem gv_name {K : Kw} {i : Nat} (hi : i ∈ vs) : GV K (L2.gName i) (DL.gName i) vs := ⟨fun v d σ env S H Q0 Q rv er so q ps => ps _ _ (wipe_set hi) (er.set i rv) q⟩
theorem gvs_nil {K : Kw} : GVs K L2.gNil DL.gsNil vs := ⟨fun v d σ env S H Q0 Q rv er so q ps => by
  obtain ⟨e, q⟩ := q
  subst e
  cases rv
  exact ⟨rfl, ps _ _ rfl er q⟩⟩
theorem gvs_cons {K : Kw} {gV : TG} {uV : TGs} {u : WGs} (h1 : GV K gV g vs) (h2 : GVs K uV u vs) : GVs K (L2.gCons gV uV) (DL.gsCons g u) vs := ⟨fun v d σ env S H Q0 Q rv er so q ps => by
  unfold DL.gsCons at q
  split at q
  · cases rv with
    | cons r1 r2 =>
      exact ⟨_, _, rfl, h1.run _ _ _ _ _ _ _ _ r1 er so q fun σ1 env1 w1 er1 q1 => h2.run _ _ _ _ _ _ _ _ r2 er1 so q1 fun σ2 env2 w2 er2 q2 => ps _ _ (w2.trans w1) er2 q2⟩
  · exact q.elim⟩
theorem gv_tup {K : Kw} {uV : TGs} {u : WGs} {n : Nat} (h : GVs K uV u vs) : GV K (L2.gTup K n uV) (DL.gTup n u) vs := ⟨fun v d σ env S H Q0 Q rv er so q ps => by
  unfold DL.gTup at q
  split at q
  · cases rv with
    | tup h1 r1 hz => exact ⟨_, _, rfl, h1, by rw [r1.length]; exact q.1, h.run _ _ _ _ _ _ _ _ r1 er so q.2 ps⟩
  · exact q.elim⟩
theorem comp_ok {K : Kw} {σ : L2.St} {H : Hp} {Q : VK} {vs : List Nat} {gV : TG} (hG : GV K gV g vs) (h : lE K (eComp wi g c te vs) σ H Q) : L2.tLc (lI K wi) gV (lT K c) (lE K te) vs σ H Q := by
  obtain ⟨env, S, Q0, er, so, q, ps⟩ := h
  unfold eComp at q
  refine ⟨env, S, _, er, so, q, fun J S1 h1 J' H1 jr s1 f1 => ?_⟩
  obtain ⟨W, w0, turn, done⟩ := h1
  intro A hA
  have hA1 := s1.none hA
  refine ⟨fun i m H' => ∃ S' acc ws, SOk K H' S' ∧ Fr S1 S' H1 H' ∧ H' A = some (.lst ws) ∧ sget S' A = none ∧ RpAll K H' ws acc ∧ acc.length ≤ i ∧ W i acc S' ∧ m = J.xs.length - i ∧ i ≤ J.xs.length,
    ⟨J.xs.length, S1, [], [], s1.off hA, .off S1 hA, upd_same, hA1, .nil, Nat.le_refl _, w0, by omega, Nat.zero_le _⟩, ?_⟩
  rintro i m H2 ⟨S2, acc, ws, s2, f2, hA2, hn2, ra, hl, w2, rfl, hi2⟩
  have er2 : ER K H2 σ env := er.mono (f1.trans f2).tk
  cases hd : J.xs[i]? with
  | none =>
    have hli : J.xs.length ≤ i := List.getElem?_eq_none_iff.mp hd
    have e : i = J.xs.length := Nat.le_antisymm hi2 hli
    rw [e] at w2
    obtain ⟨chk, q2⟩ := done acc S2 w2
    refine .inl ⟨jr.stop i H2 S2 s2 f2.tk chk hli, ?_⟩
    have hz : acc.length ≤ sizeLine := Nat.le_trans hl (Nat.le_trans hi2 jr.len)
    have fA : Fr S1 ((A, .lst acc) :: S2) H1 H2 := ⟨fun a o e n => by
      obtain ⟨e2, n2⟩ := f2.keep a o e n
      exact ⟨e2, by rw [sget_ne (ne_of_none e hA)]; exact n2⟩, f2.tk⟩
    refine ps _ _ (q2 A hn2) _ _ (.ref A) (fun b o e => ?_) (f1.trans fA)
    by_cases hb : b = A
    · subst hb
      rw [sget_self] at e
      cases e
      exact ⟨ws, hA2, ra, hz⟩
    · rw [sget_ne hb] at e
      exact s2 b o e
  | some x =>
    have hlt : i < J.xs.length := (List.getElem?_eq_some_iff.mp hd).1
    obtain ⟨chk, q2⟩ := turn i x acc S2 hd w2
    obtain ⟨go, yld⟩ := jr.go i H2 S2 x s2 f2.tk chk hd
    refine .inr ⟨go, fun H' => ∃ S' acc' ws', SOk K H' S' ∧ Fr S1 S' H1 H' ∧ H' A = some (.lst ws') ∧ sget S' A = none ∧ RpAll K H' ws' acc' ∧ acc'.length ≤ i + 1 ∧ W (i + 1) acc' S',
      fun H' ⟨S', acc', ws', a, b, c, d, e, f, w'⟩ => ⟨J.xs.length - (i + 1), by omega, S', acc', ws', a, b, c, d, e, f, w', rfl, hlt⟩, fun v H3 y3 => ?_⟩
    obtain ⟨rv, s3, f3⟩ := yld v H3 y3
    obtain ⟨hA3, hn3⟩ := f3.keep A _ hA2 hn2
    refine hG.run v x _ (DL.wipe env vs) S2 H3 _ _ rv ((er2.mono f3.tk).wipe vs) s3 q2 fun σ4 env4 w4 er4 q4 => ⟨?_, env4, S2, _, er4, s3, q4, fun b S5 h5 H5 s5 f5 => ?_⟩
    · rw [w4]
      refine List.ext_getElem? fun j => ?_
      rw [wipe_get, wipe_length, wipe_get]
      by_cases h : j ∈ vs ∧ j < σ.length
      · rw [if_pos h, if_pos h]
      · rw [if_neg h]
        try rw [wipe_get, if_neg h]
    · obtain ⟨hA5, hn5⟩ := f5.keep A _ hA3 hn3
      have f25 := f2.trans (f3.trans f5)
      cases b with
      | false =>
        obtain ⟨S0, sb, h5⟩ := (show UpS (W (i + 1) acc) S5 from h5).ex
        exact ⟨S0, acc, ws, s5.sub sb, f25.sub sb, hA5, sb.none hn5, ra.mono (f3.trans f5).tk, Nat.le_succ_of_le hl, h5⟩
      | true =>
        have h5 : te env4 S5 fun y S4 => UpS (W (i + 1) (acc ++ [y])) S4 := h5
        refine ⟨env4, S5, _, er4.mono f5.tk, s5, h5, fun y S6 h6 u H6 ru s6 f6 => ?_⟩
        obtain ⟨S7, sb, h6⟩ := h6.ex
        obtain ⟨hA6, hn6⟩ := (f6.sub sb).keep A _ hA5 hn5
        have f6 := f6.sub sb
        have s6 := s6.sub sb
        have tk6 : Tk H6 (upd H6 A (.lst (ws ++ [u]))) := .set hA6
        have rr : RpAll K H6 ws acc := ra.mono ((f3.trans f5).trans f6).tk
        refine ⟨ws, hA6, ?_, S7, acc ++ [y], ws ++ [u], ?_, ?_, upd_same, hn6, (rr.append (.cons ru .nil)).mono tk6, by rw [List.length_append]; exact Nat.succ_le_succ hl, h6⟩
        · rw [rr.length]
          exact Nat.lt_of_le_of_lt hl (Nat.lt_of_lt_of_le hlt jr.len)
        · intro b o e
          have nb : b ≠ A := fun z => by subst z; rw [hn6] at e; cases e
          exact (s6 b o e).mono tk6 (upd_ne nb)
        · refine ⟨fun a o e n => ?_, (f25.trans f6).tk.trans tk6⟩
          obtain ⟨e2, n2⟩ := (f25.trans f6).keep a o e n
          exact ⟨by rw [upd_ne (ne_of_none e hA)]; exact e2, n2⟩
theorem q_comp {k : Nat} {gV : TG} (C : Cok X k) (hi : QI X tg iter wi) (ok : BlkOk X.N X.env.scope scope own) (hG : GV X.kw gV g (own.map (·.2)))
    (hg : ∀ (s : Shared) (H : Hp) (C : Addr) (cl : List (Str × Addr)) (fp : List Addr), PG (X.blk s H scope (compEnvC scope cl C X.env) fp) tg gV) (ht : ∀ (s : Shared) (H : Hp) (C : Addr) (cl : List (Str × Addr)) (fp : List Addr), QTs (X.blk s H scope (compEnvC scope cl C X.env) fp) ifs c)
    (he : ∀ (s : Shared) (H : Hp) (C : Addr) (cl : List (Str × Addr)) (fp : List Addr), QE (X.blk s H scope (compEnvC scope cl C X.env) fp) elt te) (hs : ∀ x, foldedSetIterable iter X.env x = pure x := by intro _; rfl) :
    QE X (.ListComp elt [⟨tg, iter, ifs, 0⟩] scope pos) (eComp wi g c te (own.map (·.2))) := (pe_lc C.calm C.nd hi ok hg ht he hs).imp' fun σ H Q h => comp_ok hG h
theorem q_setComp {k : Nat} {gV : TG} {i : Nat} {y : Str} {py spos : Pos} (C : Cok X k) (hy : X.N[i]? = some y) (hyl : X.env.scope.names.lookup y = some .local) (hsw : swapsWith (.ListComp elt [⟨tg, iter, ifs, 0⟩] scope pos) (some (.Name y py)) spos.line X.env = pure true)
    (hi : QI X tg iter wi) (ok : BlkOk X.N X.env.scope scope own) (hG : GV X.kw gV g (own.map (·.2)))
    (hg : ∀ (s : Shared) (H : Hp) (C : Addr) (cl : List (Str × Addr)) (fp : List Addr), PG (X.blk s H scope (compEnvC scope cl C X.env) fp) tg gV) (ht : ∀ (s : Shared) (H : Hp) (C : Addr) (cl : List (Str × Addr)) (fp : List Addr), QTs (X.blk s H scope (compEnvC scope cl C X.env) fp) ifs c)
    (he : ∀ (s : Shared) (H : Hp) (C : Addr) (cl : List (Str × Addr)) (fp : List Addr), QE (X.blk s H scope (compEnvC scope cl C X.env) fp) elt te) (hs : ∀ x, foldedSetIterable iter X.env x = pure x := by intro _; rfl) :
    QS X (.Assign [.Name y py] (.ListComp elt [⟨tg, iter, ifs, 0⟩] scope pos) spos) (sAsg (eComp wi g c te (own.map (·.2))) (DL.gName i)) := (ps_setLc C.calm C.nd hy hyl hsw hi ok hg ht he hs).imp' fun D σ H ⟨env, S, D0, er, so, q, ps⟩ =>
  comp_ok hG ⟨env, S, _, er, so, q, fun d S1 h1 v H1 rv s1 f1 => ps.nx _ _ h1 _ _ ((er.mono f1.tk).set i rv) s1 f1⟩
end
end DL

namespace DL
open PySem PySem.Spec PyProof.Rows L2

/-! ### repr -/
mutual
theorem PyR.dp {K : Kw} {H : Hp} {S : Sto} (so : SOk K H S) : ∀ {d : D} {p : PyData} {v : V}, PyR S d p → Rp K H v d → Dp K H v p
  | _, _, _, .non, r => by cases r; exact .non
  | _, _, _, .bl b, r => by cases r; exact .bl b
  | _, _, _, .int i, r => by cases r; exact .int i
  | _, _, _, .str x, r => by cases r; exact .str x
  | _, _, _, .tup hs, r => by
    cases r with
    | tup h1 r1 _ => exact .tup h1 (PyRs.dp so hs r1)
  | _, _, _, .lst e hs, r => by
    cases r
    obtain ⟨vs, h1, r1, _⟩ := so.lst e
    exact .lst (SqL.of h1) (PyRs.dp so hs r1)
theorem PyRs.dp {K : Kw} {H : Hp} {S : Sto} (so : SOk K H S) : ∀ {ds : List D} {ps : List PyData} {vs : List V}, PyRs S ds ps → RpAll K H vs ds → DpAll K H vs ps
  | _, _, _, .nil, r => by cases r; exact .nil
  | _, _, _, .cons h hs, r => by
    cases r with
    | cons r1 r2 => exact .cons (PyR.dp so h r1) (PyRs.dp so hs r2)
end
mutual
theorem PyR.nodict {S : Sto} : ∀ {d : D} {p : PyData}, PyR S d p → p.hasDict = false
  | _, _, .non => by simp [PyData.hasDict]
  | _, _, .bl b => by simp [PyData.hasDict]
  | _, _, .int i => by simp [PyData.hasDict]
  | _, _, .str x => by simp [PyData.hasDict]
  | _, _, .tup hs => by simp [PyData.hasDict, PyRs.nodict hs]
  | _, _, .lst e hs => by simp [PyData.hasDict, PyRs.nodict hs]
theorem PyRs.nodict {S : Sto} : ∀ {ds : List D} {ps : List PyData}, PyRs S ds ps → PyData.hasDictAll ps = false
  | _, _, .nil => by simp [PyData.hasDictAll]
  | _, _, .cons h hs => by simp [PyData.hasDictAll, PyR.nodict h, PyRs.nodict hs]
end
section
variable {X : Cx} {e : Expr} {es : List Expr} {te : WE} {t : WA} {p pos : Pos} {k : Nat}
def rRepr (K : PySem.W.Frag) : List V → Hp → VK → Prop := fun xs H Q => ∃ x d, xs = [x] ∧ Dp K H x d ∧ d.hasDict = false ∧ rpOk d ∧ Q (.str d.shown) H
theorem call_repr (C : Cok X k) : CallR X (.builtin "repr") (rRepr X.K) := by
  intro pins s σ H xs us Q I r h
  obtain ⟨x, d, rfl, hd, nd, ⟨h1, h2, h3⟩, q⟩ := h
  obtain ⟨u, rfl, rx⟩ := vals1 r
  have fin : ∀ {tk : Tok} {tk' : Nat} {w : Str}, w = d.shown → EP X pins σ Q (.str w tk) { s with toks := tk' } := fun {tk tk' w} e => ⟨.str _, H, I.tok _, ⟨_, rfl⟩, by rw [e]; exact q⟩
  have big : ∀ {a : Addr}, u = .ref a → wpAny (model X.prog X.w) X.A (call (.builtin "repr") [u]) (EP X pins σ Q) X.xe s := fun {a} e => by
    obtain ⟨as, rd⟩ := Dp.reads I d x u hd rx
    subst e
    have := C.room.units
    exact repr_of_reads' rd h1 (PyData.noDict_hsm nd) C.gd (by omega) (fun _ _ e => e) (fun h' u tk hk => ⟨.str _, H, I.kept hk, ⟨_, rfl⟩, q⟩) h2
  cases hd with
  | non => cases rx; exact PySem.P.repr_of_none (fin (by simp [PyData.shown]))
  | bl b => cases rx; exact PySem.P.repr_of_bool (fin (by simp [PyData.shown]))
  | int i =>
    obtain ⟨t, rfl⟩ := rx
    refine PySem.P.repr_of_int (by simpa [PyData.showable] using h1) (fin (by simp [PyData.shown]))
  | str y =>
    obtain ⟨t, rfl⟩ := rx
    exact PySem.P.repr_of_str (fin (by simp [PyData.shown])) (by simpa [PyData.shown] using h2)
  | lst _ _ => exact big rx
  | tup _ _ => exact big rx
theorem bf_repr : Bfr X (rRepr X.K) bRepr := fun ds S Q0 vs H Q h rs so ps => by
  unfold bRepr at h
  split at h
  · cases rs with
    | cons r1 r2 =>
      cases r2
      obtain ⟨d, hd, ok, q⟩ := h
      unfold shw at q
      exact ⟨_, d, rfl, hd.dp so r1, hd.nodict, ok, ps.here so q (.str _)⟩
  · exact h.elim
theorem bf_str : Bfr X (fun xs H Q => (∃ i, xs = [V.int i] ∧ i.natAbs.log2 < 1920 ∧ Q (.str (toString i)) H) ∨ ∃ a, xs = [V.str a] ∧ Q (.str a) H) bStr := fun ds S Q0 vs H Q h rs so ps => by
  unfold bStr at h
  split at h
  · cases rs with
    | cons r1 r2 =>
      cases r1; cases r2
      exact .inl ⟨_, rfl, h.1, ps.here so h.2 (.str _)⟩
  · cases rs with
    | cons r1 r2 =>
      cases r1; cases r2
      exact .inr ⟨_, rfl, ps.here so h (.str _)⟩
  · exact h.elim
/-! ### isinstance -/
theorem tyIs_ok {a b : String} {r : Bool} (h : tyIs a b = some r) (hb : b = "bool" ∨ b = "int" ∨ b = "str" ∨ b = "tuple" ∨ b = "list") (ha : a = "NoneType" ∨ a = "bool" ∨ a = "int" ∨ a = "str" ∨ a = "tuple" ∨ a = "list") : kitB a b = some r := by
  rcases ha with rfl | rfl | rfl | rfl | rfl | rfl <;> rcases hb with rfl | rfl | rfl | rfl | rfl <;> (simp [tyIs] at h; subst h; decide +kernel)
theorem tyIs_q {n : String} (hn : n = "bool" ∨ n = "int" ∨ n = "str" ∨ n = "tuple" ∨ n = "list") : tyIs "?" n = none := by
  rcases hn with rfl | rfl | rfl | rfl | rfl <;> decide
theorem q_isi {n : String} {x : Str} {p2 : Pos} (hn : n = "bool" ∨ n = "int" ∨ n = "str" ∨ n = "tuple" ∨ n = "list") (hg0 : Gl X "isinstance") (hm0 : X.mg "isinstance" = none) (ha : QE X e te)
    (hg : Gl X x) (hm : X.mg x = none) (hv : bootBuiltins x = some (.type n)) (hx : x ≠ "__name__" := by decide) (hxd : (x == ("__debug__" : Str)) = false := by decide)
    (he : starEach [e, .Name x p2] X.env = (false, eval e X.env) :: starEach [.Name x p2] X.env := by rfl) (hpl : (backTo pos (starEach [.Name x p2] X.env)).any (·.1) = false := by rfl)
    (he2 : starEach [.Name x p2] X.env = (false, eval (.Name x p2) X.env) :: starEach [] X.env := by rfl) :
    QE X (.Call (.Name "isinstance" p) [e, .Name x p2] [] pos) (eIsi n te) :=
  (pe_callB call_isi hg0 hm0 boot_isinstance (pa_cons ha (pa_cons (pe_bltn hg hm hv (v := V.ty n) rfl hx hxd) pa_nil he2) he) (by decide) (by decide) he hpl).imp' fun σ H Q ⟨env, S, Q0, er, so, q, ps⟩ => by
  refine ⟨env, S, _, er, so, q, fun d S1 h1 v H1 rv s1 f1 => ?_⟩
  split at h1
  · rename_i b hb
    have q' : Q (.bl b) H1 := (ps.trans f1).here s1 h1 (.bl _)
    have go : ∀ {t : String}, TyX X.K H1 v (.type t) → tyOf S1 d = t → (t = "NoneType" ∨ t = "bool" ∨ t = "int" ∨ t = "str" ∨ t = "tuple" ∨ t = "list") → rIsi X.K [v, .ty n] H1 Q := fun {t} ty e ht =>
      ⟨v, .ty n, .type t, .type n, b, rfl, .ty n, ty, kit_ty (tyIs_ok (by rw [← e]; exact hb) hn ht), q'⟩
    show rIsi X.K [v, .ty n] H1 Q
    cases rv with
    | non => exact go (.base .non) rfl (by simp)
    | bl b => exact go (.base (.bl b)) rfl (by simp)
    | int i => exact go (.base (.int i)) rfl (by simp)
    | str x => exact go (.base (.str x)) rfl (by simp)
    | tup h2 _ _ =>
      rcases h2 with (h2 | ⟨o, h2⟩) | ⟨o, its, m, h2, h3, _⟩
      · exact go (.base (.tup h2)) rfl (by simp)
      · exact go (.fTuple h2) rfl (by simp)
      · exact go (.kTuple h2 h3) rfl (by simp)
    | frz h2 _ _ =>
      rcases h2 with ⟨o, h2⟩ | ⟨o, its, m, h2, h3, _⟩
      · exact go (.base (.frz h2)) rfl (by simp)
      · exact go (.kList h2 h3) rfl (by simp)
    | ref a =>
      cases ea : sget S1 a with
      | none =>
        rw [show tyOf S1 (.ref a) = "?" by simp [tyOf, ea], tyIs_q hn] at hb
        cases hb
      | some o =>
        cases o with
        | lst xs =>
          obtain ⟨vs, h2, _⟩ := s1.lst ea
          exact go (.base (.lst h2)) (by simp [tyOf, ea]) (by simp)
        | tape q =>
          rw [show tyOf S1 (.ref a) = "?" by simp [tyOf, ea], tyIs_q hn] at hb
          cases hb
        | dic o kvs =>
          rw [show tyOf S1 (.ref a) = "?" by simp [tyOf, ea], tyIs_q hn] at hb
          cases hb
        | st o ks =>
          rw [show tyOf S1 (.ref a) = "?" by simp [tyOf, ea], tyIs_q hn] at hb
          cases hb
    | ty m =>
      rw [show tyOf S1 (.ty m) = "?" from rfl, tyIs_q hn] at hb
      cases hb
    | exc _ _ =>
      rw [show ∀ a d f v, tyOf S1 (.exc a d f v) = "?" from fun _ _ _ _ => rfl, tyIs_q hn] at hb
      cases hb
  · exact h1.elim
/-! ### tuple(reversed(..)), methods of lists -/
theorem q_tupRev {p2 pos2 : Pos} (hc : X.calm = true) (hg : Gl X "tuple") (hm : X.mg "tuple" = none) (hg2 : Gl X "reversed") (hm2 : X.mg "reversed" = none) (he : QE X e te)
    (h : ∀ t, PE X e t → PE X (.Call (.Name "tuple" p) [.Call (.Name "reversed" p2) [e] [] pos2] [] pos) (RT.tTupRev X.K t)) :
    QE X (.Call (.Name "tuple" p) [.Call (.Name "reversed" p2) [e] [] pos2] [] pos) (eTupRev te) := (h _ he).imp' fun σ H Q ⟨env, S, Q0, er, so, q, ps⟩ => by
  refine ⟨env, S, _, er, so, q, fun d S1 h1 v H1 rv s1 f1 => ?_⟩
  split at h1
  · cases rv
    · obtain ⟨xs, e1, h1⟩ := onL_iff.mp h1
      obtain ⟨vs, h2, r2, hz⟩ := s1.lst e1
      have rr : RpAll X.kw H1 vs.reverse xs.reverse := by
        clear h1 e1 hz h2
        induction r2 using RpAll.rec (motive_1 := fun _ _ _ => True) with
        | nil => exact .nil
        | cons h t _ ih => 
          rw [List.reverse_cons, List.reverse_cons]
          exact ih.append (.cons h .nil)
        | _ => trivial
      exact ⟨_, _, rfl, SqL.of h2, (ps.trans f1).tup s1 rr (by rw [List.length_reverse]; exact hz) h1⟩
  · exact h1.elim
theorem q_methL {o : Expr} {to : WE} {name : Str} {id : String} {apos cpos : Pos} {r : V → List V → Hp → VK → Prop} {m : D → List D → Sto → WQ → Prop} (slot : Slot "list" name id) (hty : typeOf (.builtin id) = pure (.type "method_descriptor")) (hm : MtR X id r)
    (hr : ∀ a ds S Q0 vs H Q, m (.ref a) ds S Q0 → RpAll X.kw H vs ds → SOk X.kw H S → PostE X.kw S H Q0 Q → r (.ref a) vs H Q) (ho : QE X o to) (ha : QA X (e :: es) t)
    (hbase : attributeBase o name X.env (eval o X.env) = eval o X.env := by rfl)
    (hfew : ((backTo cpos (starEach (e :: es) X.env)).all (fun x => !x.1) && (backToKw cpos (keywordEach [] X.env)).all (fun x => x.1.isSome)
      && decide ((e :: es).length + ([] : List Keyword).length + (if ([] : List Keyword).isEmpty then 0 else 1) < 30)) = true := by rfl)
    (hline : (apos.endLine == cpos.line) = true := by rfl) (hs : starEach (e :: es) X.env = (false, eval e X.env) :: starEach es X.env := by rfl) (hplain : (backTo cpos (starEach es X.env)).any (·.1) = false := by rfl) :
    QE X (.Call (.Attribute o name apos) (e :: es) [] cpos) (eMethL m to t) := (pe_bm PySem.F.plainAttrs_list slot hty hm ho ha hbase hfew hline hs hplain).imp' fun σ H Q ⟨env, S, Q0, er, so, q, ps⟩ => by
  refine ⟨env, S, _, er, so, q, fun d S1 h1 v H1 rv s1 f1 => ?_⟩
  split at h1
  · cases rv
    · obtain ⟨xs, e1, h1⟩ := onL_iff.mp h1
      obtain ⟨vs, h2, r2, hz⟩ := s1.lst e1
      exact ⟨.inl ⟨rfl, _, SqL.of h2⟩, env, S1, _, er.mono f1.tk, s1, h1, fun ds S2 h3 ws H2 rs s2 f2 => hr _ _ _ _ _ _ _ h3 rs s2 (ps.trans (f1.trans f2))⟩
  · exact h1.elim
theorem mt_indexB (hu : X.A.units + 65 < cLine) : MtR X "list.index" (fun x xs H Q => rIndex X.K x xs H Q ∨ rIndexD X.K x xs H Q) := fun pins s σ H x xs v us Q I rx rxs h => h.elim (mt_index pins s σ H x xs v us Q I rx rxs) (mt_indexD hu pins s σ H x xs v us Q I rx rxs)
theorem pyDs_get : ∀ (ds : List D) (i : Nat), (pyDs ds)[i]? = (ds[i]?).map pyD
  | [], i => by simp [pyDs]
  | d :: ds, 0 => by simp [pyDs]
  | d :: ds, i + 1 => by simp [pyDs, pyDs_get ds i]
theorem cmps_get : ∀ {ds : List D}, cmpOks ds = true → ∀ {i : Nat} {d : D}, ds[i]? = some d → cmpOk d = true
  | [], _, i, d, e => by simp at e
  | x :: xs, h, i, d, e => by
    unfold cmpOks at h
    rw [Bool.and_eq_true] at h
    cases i with
    | zero =>
      have e : x = d := by simpa using e
      rw [← e]
      exact h.1
    | succ i => exact cmps_get h.2 (i := i) (by simpa using e)
theorem q_index (C : Cok X k) {o : Expr} {to : WE} {apos cpos : Pos} (ho : QE X o to) (ha : QA X (e :: es) t)
    (hbase : attributeBase o "index" X.env (eval o X.env) = eval o X.env := by rfl)
    (hfew : ((backTo cpos (starEach (e :: es) X.env)).all (fun x => !x.1) && (backToKw cpos (keywordEach [] X.env)).all (fun x => x.1.isSome)
      && decide ((e :: es).length + ([] : List Keyword).length + (if ([] : List Keyword).isEmpty then 0 else 1) < 30)) = true := by rfl)
    (hline : (apos.endLine == cpos.line) = true := by rfl) (hs : starEach (e :: es) X.env = (false, eval e X.env) :: starEach es X.env := by rfl) (hplain : (backTo cpos (starEach es X.env)).any (·.1) = false := by rfl) :
    QE X (.Call (.Attribute o "index" apos) (e :: es) [] cpos) (eMethL mIndex to t) :=
  q_methL PySem.F.slot_list_index PySem.F.type_list_index (mt_indexB (by have := C.room.un; omega)) (fun a ds S Q0 vs H Q h rs so ps => by
    unfold mIndex at h
    split at h
    · rename_i a' y he
      cases he
      cases rs with
      | cons r1 r2 =>
        cases r2
        obtain ⟨xs, e1, hc, h⟩ := onL_iff.mp h
        obtain ⟨ws, h2, r3, hz⟩ := so.lst e1
        unfold onFound at h
        split at h
        · rename_i j hj
          obtain ⟨hl, hp, hn⟩ := List.findIdx?_eq_some_iff_getElem.mp hj
          obtain ⟨z, hz1, hz2⟩ := r3.get (List.getElem?_eq_getElem hl)
          rcases hc with ⟨fy, fx⟩ | ⟨cy, dy, cx, dx⟩
          · have flat : ∀ m (hm : m < xs.length), flatD xs[m] = true := fun m hm => List.all_eq_true.mp fx _ (List.getElem_mem hm)
            refine .inl ⟨_, ws, _, j, z, rfl, rfl, SqL.of h2, flat_V r1 fy, flats_V r3 fx, hz1, ?_, fun m z' hm hz' => ?_, ps.here so h (.int _)⟩
            · rw [eqV_D hz2 r1 (flat j hl) fy]
              exact hp
            · have hml : m < xs.length := by omega
              obtain ⟨z2, h4, h5⟩ := r3.get (List.getElem?_eq_getElem hml)
              rw [h4] at hz'
              cases hz'
              rw [eqV_D h5 r1 (flat m hml) fy]
              have := hn m hm
              simpa using this
          · have cm : ∀ m (hm : m < xs.length), cmpOk xs[m] = true := fun m hm => cmps_get cx (List.getElem?_eq_getElem hm)
            refine .inr ⟨_, _, pyD y, pyDs xs, j, pyD xs[j], rfl, rfl, .lst (SqL.of h2) (r3.dp cx), r1.dp cy, cmps_shaped cx dx, cmp_shaped cy (by omega), by rw [pyDs_get, List.getElem?_eq_getElem hl]; rfl, ?_, fun m z' hm hz' => ?_, ps.here so h (.int _)⟩
            · rw [pyD_eqv _ _ (cm j hl) cy]
              exact hp
            · have hml : m < xs.length := by omega
              rw [pyDs_get, List.getElem?_eq_getElem hml] at hz'
              cases hz'
              rw [pyD_eqv _ _ (cm m hml) cy]
              have := hn m hm
              simpa using this
        · exact h.elim
    · exact h.elim) ho ha hbase hfew hline hs hplain
theorem q_append {o : Expr} {to : WE} {apos cpos : Pos} (ho : QE X o to) (ha : QA X (e :: es) t)
    (hbase : attributeBase o "append" X.env (eval o X.env) = eval o X.env := by rfl)
    (hfew : ((backTo cpos (starEach (e :: es) X.env)).all (fun x => !x.1) && (backToKw cpos (keywordEach [] X.env)).all (fun x => x.1.isSome)
      && decide ((e :: es).length + ([] : List Keyword).length + (if ([] : List Keyword).isEmpty then 0 else 1) < 30)) = true := by rfl)
    (hline : (apos.endLine == cpos.line) = true := by rfl) (hs : starEach (e :: es) X.env = (false, eval e X.env) :: starEach es X.env := by rfl) (hplain : (backTo cpos (starEach es X.env)).any (·.1) = false := by rfl) :
    QE X (.Call (.Attribute o "append" apos) (e :: es) [] cpos) (eMethL mAppend to t) :=
  q_methL PySem.F.slot_list_append PySem.F.type_list_append mt_append (fun a ds S Q0 vs H Q h rs so ps => by
    unfold mAppend at h
    split at h
    · rename_i a' y he
      cases he
      cases rs with
      | cons r1 r2 =>
        cases r2
        obtain ⟨xs, e1, hl, q⟩ := onL_iff.mp h
        obtain ⟨ws, h2, r2, hz⟩ := so.lst e1
        exact ⟨_, ws, _, rfl, rfl, h2, by rw [r2.length]; exact hl, ps _ _ q _ _ .non (so.set e1 h2 (r2.append (.cons r1 .nil)) (by rw [List.length_append]; exact hl)) (.set e1 h2)⟩
    · exact h.elim) ho ha hbase hfew hline hs hplain
end

/-! ### a def by its body over data -/
section
variable {P : Program} {w : World} {K : PySem.W.Frag} {mg : Str → Option Value} {base : Heap}
theorem RpAll.start {K : Kw} {H : Hp} {N : List Str} {vs : List V} {ds : List D} (r : RpAll K H vs ds) (hl : vs.length ≤ N.length) : ER K H (L2.start N vs) (DL.start N.length ds) := by
  unfold L2.start DL.start
  refine ⟨by simp [r.length], fun i d h => ?_⟩
  by_cases hi : i < ds.length
  · rw [List.getElem?_append_left (by simpa using hi), List.getElem?_map] at h
    obtain ⟨d', hd', e⟩ := Option.map_eq_some_iff.mp h
    cases e
    obtain ⟨v, hv, rv⟩ := r.get hd'
    refine ⟨v, ?_, rv⟩
    rw [List.getElem?_append_left (by simp [r.length]; exact hi), List.getElem?_map, hv]
    rfl
  · rw [List.getElem?_append_right (by simpa using hi), List.getElem?_replicate] at h
    split at h <;> cases h
theorem fnd_of {name qual : Str} {st : Stmt} {f : Addr} {oc : Value} {od an : Option Addr} {sl : Array (Option Value)} {kV dc pm cdv ct : Value} {N ps : List Str} {k : Nat} {F : WF} {b : WS}
    (lk : K.lookup f = some ⟨oc, od, .func (PySem.W.fnOf name qual (defArgs st) (defBody st) (defScope st) .none kV dc pm an cdv ct), sl⟩) (hcd : PySem.W.codeIn K cdv qual = true) (S : FnScope N ps (defScope st)) (hN : ps.length ≤ N.length)
    (len : ∀ ds S Q, F ds S Q → ds.length = ps.length)
    (body : ∀ (A : Around) (outer : List Env) (s : Shared) (H : Hp) (E : XK), Cok (cxOf CX0 P w K mg base N qual (defScope st) f cdv A outer s H E).nox k → QSs (cxOf CX0 P w K mg base N qual (defScope st) f cdv A outer s H E).nox (defBody st) b)
    (pure : ∀ ds S Q, F ds S Q → b (enOf Q) (DL.start N.length ds) S) : FnG P w K mg base (k + 1) f (PySem.W.fnOf name qual (defArgs st) (defBody st) (defScope st) .none kV dc pm an cdv ct) ps (lF ⟨K, P, w⟩ F) := by
  have len' : ∀ vs H Q E, lF ⟨K, P, w⟩ F vs H Q E → vs.length = ps.length := fun vs H Q E ⟨ds, S, Q0, r, so, h, pst⟩ => by rw [r.length]; exact len _ _ _ h
  refine fnG_of lk hcd S len' fun A outer s H vs Q E hr hG hsp => ?_
  have hl := len' _ _ _ _ hsp
  obtain ⟨ds, S0, Q0, r, so, h, pst⟩ := hsp
  refine ⟨_, (body A outer s H E ⟨hr, hG, rfl, S.nd⟩).nox, ?_⟩
  refine ⟨DL.start N.length ds, S0, enOf Q0, r.start (by rw [hl]; exact hN), so, pure _ _ _ h, ⟨fun env' S' h σ' H' er' s' f => ?_, fun d S' h v H' rv s' f => ?_, fun _ _ h => h.elim, fun _ _ h => h.elim⟩⟩
  · obtain ⟨S1, sb, h⟩ := (show UpS (Q0 .non) S' from h).ex
    exact pst _ _ h _ _ .non (s'.sub sb) (f.sub sb)
  · obtain ⟨S1, sb, h⟩ := (show UpS (Q0 d) S' from h).ex
    exact pst _ _ h _ _ rv (s'.sub sb) (f.sub sb)
theorem cal_of {x qual : Str} {st : Stmt} {f : Addr} {fd : FuncData} {N ps : List Str} {k : Nat} {F : WF} {b : WS} (F0 : Fun K x qual st f fd) (hm : mg x = some (.ref f)) (hb : Binds K fd ps []) (S : FnScope N ps (defScope st)) (hN : ps.length ≤ N.length)
    (len : ∀ ds S Q, F ds S Q → ds.length = ps.length)
    (body : ∀ (cdv : Value) (A : Around) (outer : List Env) (s : Shared) (H : Hp) (E : XK), Cok (cxOf CX0 P w K mg base N qual (defScope st) f cdv A outer s H E).nox k → QSs (cxOf CX0 P w K mg base N qual (defScope st) f cdv A outer s H E).nox (defBody st) b)
    (pure : ∀ ds S Q, F ds S Q → b (enOf Q) (DL.start N.length ds) S) : Cal P w K mg base x (k + 1) ps F := by
  obtain ⟨oc, od, kV, doc, pm, an, cdv, ct, osl, rfl, lk, hcd⟩ := F0.ex
  exact ⟨f, _, fnd_of lk hcd S hN len (body cdv) pure, hm, F0.kp, hb⟩
end
section
variable {X : Cx} {a b e : Expr} {ta tb : WE} {p pos : Pos}
/-! ### list(range(..)), tuple(range(..)) -/
def lR (K : Kw) (t : WR) : L2.St → Hp → (Int → Int → Hp → Prop) → Prop := fun σ H Q => ∃ env S Q0, ER K H σ env ∧ SOk K H S ∧ t env S Q0 ∧ ∀ i j S', Q0 i j S' → ∀ H', SOk K H' S' → Fr S S' H H' → Q i j H'
theorem prg_imp {t u : L2.St → Hp → (Int → Int → Hp → Prop) → Prop} (h : PRg X e t) (i : ∀ σ H Q, u σ H Q → t σ H Q) : PRg X e u := fun pins s σ H Q I q => h pins s σ H Q I (i σ H Q q)
theorem q_rg1 (hg : Gl X "range") (hm : X.mg "range" = none) (ha : QE X a ta) (na : starEach [a] X.env = (false, eval a X.env) :: starEach [] X.env := by rfl) : PRg X (.Call (.Name "range" p) [a] [] pos) (lR X.kw (rRg1 ta)) :=
  prg_imp (prg_1 hg hm ha na) fun σ H Q ⟨env, S, Q0, er, so, q, ps⟩ => ⟨env, S, _, er, so, q, fun d S1 h1 v H1 rv s1 f1 => by
    split at h1
    · cases rv
      exact ⟨_, rfl, ps _ _ _ h1 _ s1 f1⟩
    · exact h1.elim⟩
theorem q_rg2 (hg : Gl X "range") (hm : X.mg "range" = none) (ha : QE X a ta) (hb : QE X b tb) (na : starEach [a, b] X.env = (false, eval a X.env) :: starEach [b] X.env := by rfl)
    (nb : starEach [b] X.env = (false, eval b X.env) :: starEach [] X.env := by rfl) (hp : (backTo pos (starEach [b] X.env)).any (·.1) = false := by rfl) : PRg X (.Call (.Name "range" p) [a, b] [] pos) (lR X.kw (rRg2 ta tb)) :=
  prg_imp (prg_2 hg hm ha hb na nb hp) fun σ H Q ⟨env, S, Q0, er, so, q, ps⟩ => ⟨env, S, _, er, so, q, fun d S1 h1 v H1 rv s1 f1 => ⟨env, S1, _, er.mono f1.tk, s1, h1, fun d2 S2 h2 v2 H2 rv2 s2 f2 => by
    split at h2
    · cases rv
      cases rv2
      exact ⟨_, _, rfl, rfl, ps _ _ _ h2 _ s2 (f1.trans f2)⟩
    · exact h2.elim⟩⟩
theorem rp_rng {K : Kw} {H : Hp} (lo : Int) : ∀ l : List Nat, RpAll K H (l.map fun i => V.int (lo + (i : Nat))) (l.map fun i : Nat => D.int (lo + (i : Int)))
  | [] => .nil
  | _ :: r => .cons (.int _) (rp_rng lo r)
theorem rgOk.ok {a b : Int} (h : rgOk a b) : RgOk a b := by
  obtain ⟨h1, h2, h3, h4, h5⟩ := h
  exact ⟨h1, h2, h3, h4, by omega⟩
theorem q_lstRg {t : WR} (hc : X.calm = true) (hg : Gl X "list") (hm : X.mg "list" = none) (he : PRg X e (lR X.kw t)) (na : starEach [e] X.env = (false, eval e X.env) :: starEach [] X.env := by rfl) : QE X (.Call (.Name "list" p) [e] [] pos) (eLstRg t) :=
  (pe_listRg hc hg hm he na).imp' fun σ H Q ⟨env, S, Q0, er, so, q, ps⟩ => ⟨env, S, _, er, so, q, fun i j S1 h1 H1 s1 f1 =>
    ⟨h1.1.ok, (ps.trans f1).made s1 (rp_rng _ _) (by
      have := h1.1.2.2.2.2
      have := rng_line
      have e : ∀ n : Nat, (rngD i n).length = n := fun n => by simp [rngD]
      exact (e _).symm ▸ (by omega)) h1.2⟩⟩
theorem q_tupRg {t : WR} (hc : X.calm = true) (hg : Gl X "tuple") (hm : X.mg "tuple" = none) (he : PRg X e (lR X.kw t)) (na : starEach [e] X.env = (false, eval e X.env) :: starEach [] X.env := by rfl) : QE X (.Call (.Name "tuple" p) [e] [] pos) (eTupRg t) :=
  (pe_tupRg hc hg hm he na).imp' fun σ H Q ⟨env, S, Q0, er, so, q, ps⟩ => ⟨env, S, _, er, so, q, fun i j S1 h1 H1 s1 f1 =>
    ⟨h1.1.ok, (ps.trans f1).tup s1 (rp_rng _ _) (by
      have := h1.1.2.2.2.2
      have := rng_line
      have e : ∀ n : Nat, (rngD i n).length = n := fun n => by simp [rngD]
      exact (e _).symm ▸ (by omega)) h1.2⟩⟩
end
end DL

namespace DL
open PySem PySem.Spec PyProof.Rows L2

/-- the built-in names that the text leaves alone -/
structure Blt (mg : Str → Option Value) : Prop where
  len : mg "len" = none
  int : mg "int" = none
  abs : mg "abs" = none
  min : mg "min" = none
  max : mg "max" = none
  sum : mg "sum" = none
  str : mg "str" = none
  repr : mg "repr" = none
  list : mg "list" = none
  tuple : mg "tuple" = none
  range : mg "range" = none
  bool : mg "bool" = none
  reversed : mg "reversed" = none
  enumerate : mg "enumerate" = none
  zip : mg "zip" = none
  sorted : mg "sorted" = none
  any : mg "any" = none
  all : mg "all" = none
  isinstance : mg "isinstance" = none
  set : mg "set" = none
  dict : mg "dict" = none

/-! ### promises by the number of arguments -/
def wf0 (f : Sto → WQ → Prop) : WF := fun ds S Q => match ds with
  | [] => f S Q
  | _ => False
def wf1 (f : D → Sto → WQ → Prop) : WF := fun ds S Q => match ds with
  | [a] => f a S Q
  | _ => False
def wf2 (f : D → D → Sto → WQ → Prop) : WF := fun ds S Q => match ds with
  | [a, b] => f a b S Q
  | _ => False
def wf3 (f : D → D → D → Sto → WQ → Prop) : WF := fun ds S Q => match ds with
  | [a, b, c] => f a b c S Q
  | _ => False
def wf4 (f : D → D → D → D → Sto → WQ → Prop) : WF := fun ds S Q => match ds with
  | [a, b, c, d] => f a b c d S Q
  | _ => False
def wf5 (f : D → D → D → D → D → Sto → WQ → Prop) : WF := fun ds S Q => match ds with
  | [a, b, c, d, e] => f a b c d e S Q
  | _ => False
def wf6 (f : D → D → D → D → D → D → Sto → WQ → Prop) : WF := fun ds S Q => match ds with
  | [a, b, c, d, e, g] => f a b c d e g S Q
  | _ => False
theorem len0 {f} : ∀ ds S Q, wf0 f ds S Q → ds.length = 0 := fun ds S Q h => by unfold wf0 at h; split at h; rfl; exact h.elim
theorem len1 {f} : ∀ ds S Q, wf1 f ds S Q → ds.length = 1 := fun ds S Q h => by unfold wf1 at h; split at h; rfl; exact h.elim
theorem len2 {f} : ∀ ds S Q, wf2 f ds S Q → ds.length = 2 := fun ds S Q h => by unfold wf2 at h; split at h; rfl; exact h.elim
theorem len3 {f} : ∀ ds S Q, wf3 f ds S Q → ds.length = 3 := fun ds S Q h => by unfold wf3 at h; split at h; rfl; exact h.elim
theorem len4 {f} : ∀ ds S Q, wf4 f ds S Q → ds.length = 4 := fun ds S Q h => by unfold wf4 at h; split at h; rfl; exact h.elim
theorem len5 {f} : ∀ ds S Q, wf5 f ds S Q → ds.length = 5 := fun ds S Q h => by unfold wf5 at h; split at h; rfl; exact h.elim
theorem len6 {f} : ∀ ds S Q, wf6 f ds S Q → ds.length = 6 := fun ds S Q h => by unfold wf6 at h; split at h; rfl; exact h.elim
theorem ok0 {f} {b : WS} {n : Nat} (h : ∀ S Q, f S Q → b (enOf Q) (DL.start n []) S) : ∀ ds S Q, wf0 f ds S Q → b (enOf Q) (DL.start n ds) S := fun ds S Q q => by unfold wf0 at q; split at q; exact h _ _ q; exact q.elim
theorem ok1 {f} {b : WS} {n : Nat} (h : ∀ a S Q, f a S Q → b (enOf Q) (DL.start n [a]) S) : ∀ ds S Q, wf1 f ds S Q → b (enOf Q) (DL.start n ds) S := fun ds S Q q => by unfold wf1 at q; split at q; exact h _ _ _ q; exact q.elim
theorem ok2 {f} {b : WS} {n : Nat} (h : ∀ a c S Q, f a c S Q → b (enOf Q) (DL.start n [a, c]) S) : ∀ ds S Q, wf2 f ds S Q → b (enOf Q) (DL.start n ds) S := fun ds S Q q => by unfold wf2 at q; split at q; exact h _ _ _ _ q; exact q.elim
theorem ok3 {f} {b : WS} {n : Nat} (h : ∀ a c d S Q, f a c d S Q → b (enOf Q) (DL.start n [a, c, d]) S) : ∀ ds S Q, wf3 f ds S Q → b (enOf Q) (DL.start n ds) S := fun ds S Q q => by unfold wf3 at q; split at q; exact h _ _ _ _ _ q; exact q.elim
theorem ok4 {f} {b : WS} {n : Nat} (h : ∀ a c d e S Q, f a c d e S Q → b (enOf Q) (DL.start n [a, c, d, e]) S) : ∀ ds S Q, wf4 f ds S Q → b (enOf Q) (DL.start n ds) S := fun ds S Q q => by unfold wf4 at q; split at q; exact h _ _ _ _ _ _ q; exact q.elim
theorem ok5 {f} {b : WS} {n : Nat} (h : ∀ a c d e g S Q, f a c d e g S Q → b (enOf Q) (DL.start n [a, c, d, e, g]) S) : ∀ ds S Q, wf5 f ds S Q → b (enOf Q) (DL.start n ds) S := fun ds S Q q => by unfold wf5 at q; split at q; exact h _ _ _ _ _ _ _ q; exact q.elim
theorem ok6 {f} {b : WS} {n : Nat} (h : ∀ a c d e g i S Q, f a c d e g i S Q → b (enOf Q) (DL.start n [a, c, d, e, g, i]) S) : ∀ ds S Q, wf6 f ds S Q → b (enOf Q) (DL.start n ds) S := fun ds S Q q => by unfold wf6 at q; split at q; exact h _ _ _ _ _ _ _ _ q; exact q.elim

/-! ### the law's draws -/
/-- _law_tape(script): a tape -/
@[irreducible] def F__law_tape : WF := wf1 fun d S Q => ∃ ns : List Int, d = .frz (dInt ns) ∧ ∀ p q, sget S p = none → sget S q = none → p ≠ q → Q (.ref p) ((p, .tape q) :: (q, .lst (dInt ns)) :: S)
/-- .. as its text makes it -/
def FC__law_tape : WF := wf1 fun d S Q => ∃ ns : List Int, d = .frz (dInt ns) ∧ ∀ p q (t : Int), sget S p = none → sget S q = none → p ≠ q → 0 ≤ t → t < 2 ^ 31 →
  Q (.ref p) ((p, .lst [.ref q, .int 0, .int 0, .int t]) :: (q, .lst (dInt ns)) :: S)
/-- _law_draw(tape, many): some number below many; the store as it was -/
@[irreducible] def F__law_draw : WF := wf2 fun d e S Q => ∃ p q many ns, d = .ref p ∧ e = .int many ∧ sget S p = some (.tape q) ∧ sget S q = some (.lst (dInt ns)) ∧ (many.natAbs < 2 ^ 250) ∧
  ∀ n : Int, 0 ≤ n → n < max many 1 → Q (.int n) S
def FC__law_draw : WF := wf2 fun d e S Q => ∃ p q many ns k b t, d = .ref p ∧ e = .int many ∧ sget S p = some (.lst [.ref q, .int k, .int b, .int t]) ∧ sget S q = some (.lst (dInt ns)) ∧ many.natAbs < 2 ^ 250 ∧
  p ≠ q ∧ 0 ≤ k ∧ 0 ≤ b ∧ 0 ≤ t ∧ t < 2 ^ 31 ∧
  ∀ n k' b' t' : Int, 0 ≤ n → n < max many 1 → 0 ≤ k' → 0 ≤ b' → 0 ≤ t' → t' < 2 ^ 31 → Q (.int n) (sset S p (.lst [.ref q, .int k', .int b', .int t']))
theorem four {K : Kw} {H : Hp} {vs : List V} {q : Addr} {k b t : Int} (r : RpAll K H vs [.ref q, .int k, .int b, .int t]) : vs = [.ref q, .int k, .int b, .int t] := by
  cases r with
  | cons r1 r =>
    cases r with
    | cons r2 r =>
      cases r with
      | cons r3 r =>
        cases r with
        | cons r4 r =>
          cases r1; cases r2; cases r3; cases r4; cases r
          rfl
theorem four_of {K : Kw} {H : Hp} (q : Addr) (k b t : Int) : RpAll K H [.ref q, .int k, .int b, .int t] [.ref q, .int k, .int b, .int t] := .cons (.ref q) (.cons (.int k) (.cons (.int b) (.cons (.int t) .nil)))
section
variable {P : Program} {w : World} {K : PySem.W.Frag} {mg : Str → Option Value} {base : Heap} {k : Nat} {ps : List Str}
theorem tape_abs (C : Cal P w K mg base "_law_tape" k ps FC__law_tape) : Cal P w K mg base "_law_tape" k ps F__law_tape := by
  obtain ⟨f, fd, G, rest⟩ := C.ex
  refine ⟨f, fd, G.imp fun vs H Q E h => ?_, rest⟩
  obtain ⟨ds, S, Q0, r, so, h, pst⟩ := h
  unfold F__law_tape wf1 at h
  split at h
  · obtain ⟨ns, rfl, h⟩ := h
    refine ⟨_, S, fun d S' => ∃ p q t, sget S p = none ∧ sget S q = none ∧ p ≠ q ∧ 0 ≤ t ∧ t < 2 ^ 31 ∧ d = .ref p ∧ S' = ((p, .lst [.ref q, .int 0, .int 0, .int t]) :: (q, .lst (dInt ns)) :: S), r, so, ⟨ns, rfl, fun p q t h1 h2 h3 h4 h5 => ⟨p, q, t, h1, h2, h3, h4, h5, rfl, rfl⟩⟩, ?_⟩
    rintro d S' ⟨p, q, t, h1, h2, h3, h4, h5, rfl, rfl⟩ v H' rv s' fr
    refine pst _ _ (h p q h1 h2 h3) v H' rv (fun a o e => ?_) ⟨fun a o e n => ?_, fr.tk⟩
    · by_cases ha : a = p
      · subst ha
        rw [sget_self] at e
        cases e
        obtain ⟨vs, e1, r1, _⟩ := s' a _ (sget_self _ _ _)
        rw [four r1] at e1
        exact ⟨0, 0, t, e1, by decide, by decide, h4, h5⟩
      · rw [sget_ne ha] at e
        exact s' a o (by rw [sget_ne ha]; exact e)
    · obtain ⟨e1, n1⟩ := fr.keep a o e n
      refine ⟨e1, ?_⟩
      by_cases ha : a = p
      · subst ha
        rw [sget_self] at n1
        cases n1
      · rw [sget_ne ha] at n1 ⊢
        exact n1
  · exact h.elim
theorem draw_abs (C : Cal P w K mg base "_law_draw" k ps FC__law_draw) : Cal P w K mg base "_law_draw" k ps F__law_draw := by
  obtain ⟨f, fd, G, rest⟩ := C.ex
  refine ⟨f, fd, G.imp fun vs H Q E h => ?_, rest⟩
  obtain ⟨ds, S, Q0, r, so, h, pst⟩ := h
  unfold F__law_draw wf2 at h
  split at h
  · obtain ⟨p, q, many, ns, rfl, rfl, hp, hq, hm, h⟩ := h
    obtain ⟨kk, b, t, e0, h0, h1, h2, h3⟩ := so p _ hp
    have npq : p ≠ q := fun z => by subst z; rw [hp] at hq; cases hq
    let o0 : LO := .lst [.ref q, .int kk, .int b, .int t]
    have s0 : SOk ⟨K, P, w⟩ H (sset S p o0) := fun a o e => by
      rw [sget_sset S p a _ (by rw [hp]; rfl)] at e
      by_cases ha : a = p
      · subst ha
        rw [if_pos rfl] at e
        cases e
        exact ⟨_, e0, four_of q kk b t, by show 4 ≤ sizeLine; decide⟩
      · rw [if_neg ha] at e
        exact so a o e
    have g0 : sget (sset S p o0) p = some o0 := by rw [sget_sset S p p _ (by rw [hp]; rfl), if_pos rfl]
    refine ⟨_, sset S p o0, fun d S' => ∃ n k' b' t' : Int, 0 ≤ n ∧ n < max many 1 ∧ 0 ≤ k' ∧ 0 ≤ b' ∧ 0 ≤ t' ∧ t' < 2 ^ 31 ∧ d = .int n ∧ S' = sset (sset S p o0) p (.lst [.ref q, .int k', .int b', .int t']), r, s0,
      ⟨p, q, many, ns, kk, b, t, rfl, rfl, g0, by rw [sget_sset S p q _ (by rw [hp]; rfl), if_neg (Ne.symm npq)]; exact hq, hm, npq, h0, h1, h2, h3, fun n k' b' t' a1 a2 a3 a4 a5 a6 => ⟨n, k', b', t', a1, a2, a3, a4, a5, a6, rfl, rfl⟩⟩, ?_⟩
    rintro d S' ⟨n, k', b', t', a1, a2, a3, a4, a5, a6, rfl, rfl⟩ v H' rv s' fr
    refine pst _ _ (h n a1 a2) v H' rv (fun a o e => ?_) ⟨fun a o e m => ?_, fr.tk⟩
    · by_cases ha : a = p
      · subst ha
        rw [hp] at e
        cases e
        obtain ⟨vs, e1, r1, _⟩ := s' a _ (by rw [sget_sset _ _ _ _ (by rw [g0]; rfl), if_pos rfl])
        rw [four r1] at e1
        exact ⟨k', b', t', e1, a3, a4, a5, a6⟩
      · exact s' a o (by rw [sget_sset _ _ _ _ (by rw [g0]; rfl), if_neg ha, sget_sset S p a _ (by rw [hp]; rfl), if_neg ha]; exact e)
    · have na : a ≠ p := fun z => by subst z; rw [hp] at m; cases m
      obtain ⟨e1, n1⟩ := fr.keep a o e (by rw [sget_sset S p a _ (by rw [hp]; rfl), if_neg na]; exact m)
      exact ⟨e1, m⟩
  · exact h.elim
end

/-! ### the law's end -/
/-- the law's promise: it gives True, at every list -/
def F_law : WF := wf1 fun d S Q => (∃ ns : List Int, d = .frz (dInt ns) ∧ S = []) ∧ ∀ S', Q (.bl true) S'
section
variable {P : Program} {w : World} {K : PySem.W.Frag} {mg mb : Str → Option Value}
theorem law_callG {k : Nat} {fa a : Addr} {fd : FuncData} {x : Str} {sp : Sp} {s₁ : Shared} {vs : List Value} {ns : List Int}
    (KX : K.In s₁.heap) (hns : s₁.heap.Ns mainGlobals mg) (hb : s₁.heap.Ns builtinsNs mb) (hbb : ∀ x : Str, x ≠ "__name__" → mb x = bootBuiltins x) (hlim : s₁.heap.NoLimit) (hg : s₁.gens = #[])
    (ha : s₁.heap.get? a = some { cls := .type "list", data := .seq vs.toArray }) (hi : IntsAre vs ns) (hl : ns.length ≤ sizeLine) (hr : Room k callerA)
    (F : ∀ base : Heap, K.In base → base.Ns mainGlobals mg → FnG P w K mg base k fa fd [x] sp) (hbind : ∀ (s : Shared) (u : Value), BindsTo s fd ⟨[u], []⟩ [(x, u)])
    (hsp : ∀ H : Hp, FxL ⟨K, P, w⟩ H a (ns.map V.int) → sp [.ref a] H (fun v _ => v = .bl true) E0) :
    codeAny (model P w) callerA (.call (.ref fa) ⟨[.ref a], []⟩) (fun r s' => r = .ok (.ret (.bool true)) ∧ OldK s₁.heap s'.heap ∧ s'.os = s₁.os ∧ AllBare s'.gens) s₁ := by
  have rv := vals_ints hi
  have lenV := hi.length
  have core : ∀ H : Hp, Only H → FxL ⟨K, P, w⟩ H a (ns.map V.int) → HOk P w H s₁.heap → (∀ b, H b ≠ none → b = a) → (H a ≠ none → K.lookup a = none) →
      codeAny (model P w) callerA (.call (.ref fa) ⟨[.ref a], []⟩) (fun r s' => r = .ok (.ret (.bool true)) ∧ OldK s₁.heap s'.heap ∧ s'.os = s₁.os ∧ AllBare s'.gens) s₁ := by
    intro H hO hS hok hA hK
    have base_of : ∀ {b : Addr} {o : Obj}, s₁.heap.get? b = some o → H b = none → (hidT s₁.heap H).get? b = some o := fun e n => hidT_get e n
    have noA : ∀ {b : Addr} {o : Obj} {es : Array DictEntry} {ep : Nat}, s₁.heap.get? b = some o → o.data = .dict es ep → H b = none := fun {b o es ep} e d => by
      cases q : H b with
      | none => rfl
      | some u =>
        have e' : b = a := hA b (by rw [q]; simp)
        subst e'
        rw [ha] at e; cases e
        have d' : Data.seq vs.toArray _ = Data.dict es ep := d
        cases d'
    have nsK : ∀ {b : Addr} {m : Str → Option Value}, s₁.heap.Ns b m → (hidT s₁.heap H).Ns b m := fun {b m} ⟨o, es, ep, e, d, r⟩ => ⟨o, es, ep, base_of e (noA e d), d, r⟩
    have hKb : K.In (hidT s₁.heap H) := fun b o e => base_of (KX b o e) (by
      cases q : H b with
      | none => rfl
      | some u =>
        have e' : b = a := hA b (by rw [q]; simp)
        subst e'
        rw [hK (by rw [q]; simp)] at e; cases e)
    have hM : Mod K mg (hidT s₁.heap H) := ⟨hKb, nsK hns, ⟨mb, nsK hb, hbb⟩, let ⟨mc, h1, h2⟩ := hlim; ⟨mc, nsK h1, h2⟩⟩
    have e0 : Env0 P w K mg (hidT s₁.heap H) callerA [] s₁ H := ⟨rfl, hM, fun b o e => of_hidT e, Nat.le_of_eq (hidT_size _ _), trivial, fun b hb => absurd (show b ∈ ([] : List Addr) from hb) (by simp), hok, .of_eq hg⟩
    refine codeAny_mono ((F _ hKb (nsK hns)).run callerA [] s₁ H ⟨[.ref a], []⟩ [.ref a] [.ref a] _ _ hr rfl e0 (hbind s₁ (.ref a)) (.cons rfl .nil) (hsp H hS)) fun r s' h => ?_
    cases r with
    | error e => exact h.elim
    | ok fl =>
      cases fl with
      | next => exact False.elim h
      | brk => exact False.elim h
      | cont => exact False.elim h
      | ret u =>
        obtain ⟨v, H', os, bare, un, hok', r', q⟩ := h
        have q' : v = .bl true := q
        subst q'
        obtain rfl : u = Value.bool true := r'
        refine ⟨rfl, OldK.of_keep fun b o e => ?_, os, bare⟩
        cases q : H b with
        | none => exact un.keep b o e q (by intro z; exact absurd (show b ∈ ([] : List Addr) from z) (by simp)) (by simp)
        | some u =>
          rcases hO b with z | ⟨ob, xs, z⟩
          · rw [q] at z; cases z
          · have z2 := un.frzs b ob _ z
            obtain ⟨e1, _⟩ := hok b _ z
            obtain ⟨e2, _⟩ := hok' b _ z2
            rw [e] at e1; cases e1
            exact e2
  cases hk : K.lookup a with
  | some o =>
    have e := KX a o hk
    rw [ha] at e
    cases e
    refine core (fun _ => none) (fun _ => .inl rfl) (.inr ⟨_, vs.toArray, _, hk, rfl, rfl, rfl, by rw [List.size_toArray, lenV]; exact hl, by simpa using rv⟩) (fun b u z => by have z' : (none : Option HO) = some u := z; cases z') (fun b z => absurd rfl z) fun z => absurd rfl z
  | none =>
    refine core (fun b => if b = a then some (.frz { cls := .type "list", data := .seq vs.toArray } (.lst (ns.map V.int))) else none) (fun b => ?_) (.inl ⟨{ cls := .type "list", data := .seq vs.toArray }, if_pos rfl⟩) (fun b u z => ?_) (fun b z => ?_) fun _ => hk
    · by_cases hb : b = a
      · exact .inr ⟨_, _, if_pos hb⟩
      · exact .inl (if_neg hb)
    · by_cases hb : b = a
      · have z' := (if_pos hb).symm.trans z
        cases z'
        subst hb
        exact ⟨ha, by rw [List.length_map]; exact hl, vs, _, rv, ha⟩
      · have z' := (if_neg hb).symm.trans z
        cases z'
    · by_cases hb : b = a
      · exact hb
      · exact absurd (if_neg hb) z
end
theorem walk_ofG {l : PySem.W.OpenLaw} {k : Nat} {q : Program} {loose : List Str} {XP : (Str → Option Value) → Heap → Prop} {YP : World → Heap → Prop} {d : DefRec} {K : Params → PySem.W.Frag} {x : Str}
    (hn : l.most = some 63) (hdf : d.params.defaults = []) (hr : Room k callerA)
    (hY : ∀ (w : World) (h : Heap), YP w h → (K w.params).In h)
    (F : ∀ (w : World) (mg : Str → Option Value) (fa : Addr) (h : Heap), (K w.params).In h → h.Ns mainGlobals mg → mg d.name = some (.ref fa) →
      ∃ fd : FuncData, (∀ (s : Shared) (u : Value), BindsTo s fd ⟨[u], []⟩ [(x, u)]) ∧
        ∀ base : Heap, (K w.params).In base → base.Ns mainGlobals mg → FnG l.prog w (K w.params) mg base k fa fd [x] (lF ⟨K w.params, l.prog, w⟩ F_law)) :
    PySem.W.WalkO q loose XP YP l.row.toRowW d [] (fun f vs => PySem.call f vs) := by
  refine Att.attach_call hn hdf fun w s₀ s₁ mg mb fa o pm cd doc a vs ns G Y ho hd hcd hmg hobj hints hlen hg => ?_
  have KX := hY w _ Y
  obtain ⟨fd, hb, hF⟩ := F w mg fa _ KX G.T.g hmg
  have hz : ns.length ≤ sizeLine := Nat.le_trans hlen (by decide)
  refine law_callG KX G.T.g G.T.b G.T.builtins G.T.nolimit hg hobj hints hz hr hF hb fun H hS => ?_
  refine ⟨[.frz (dInt ns)], [], fun d _ => d = .bl true, .cons (.frz hS (RpAll.ofInts ns) (by simpa [dInt] using hz)) .nil, (fun a o e => nomatch (show (none : Option LO) = some o from e)), ⟨⟨ns, rfl, rfl⟩, fun _ => rfl⟩, fun d S' e v H' r _ _ => ?_⟩
  subst e
  cases r
  rfl
/-- the room that the law's caller leaves -/
theorem room_law (k : Nat) (h : k ≤ 60) : Room k callerA := by
  refine Room.mono (k := 60) ⟨rfl, by decide, by decide⟩ h
section
variable {X : Cx} {es : List Expr} {b : Expr} {t : WA} {pos p1 : Pos}
theorem q_pick {i : Nat} {m : Int} (ha : QA X es t) (hb : QE X b (eCall F__law_draw (aCons (eVar i) (aCons (eC (.int m)) aNil)))) (hs : PlainIx b := by exact fun _ _ => rfl) : QE X (.Subscript (.List es p1) b pos) (ePick i m t) :=
  (pe_ix ix_seq (q_lst ha) hb hs).imp' fun σ H Q ⟨env, S, Q0, er, so, q, ps⟩ => by
  refine ⟨env, S, _, er, so, q.run, fun x S' h1 v H1 rv s1 f1 => ?_⟩
  unfold pickK at h1
  split at h1
  · obtain ⟨p, qq, ns, xs, hv, hp, hq, hl, h0, hm, hm2, hk⟩ := h1
    refine ⟨env, S', fun y S2 => ∃ n : Int, y = D.int n ∧ 0 ≤ n ∧ n < max m 1 ∧ S2 = S', er.mono f1.tk, s1, ?_, ?_⟩
    · show eVar i env S' _
      unfold eVar
      rw [hv]
      show F__law_draw [.ref p, .int m] S' _
      unfold F__law_draw
      exact ⟨p, qq, m, ns, rfl, rfl, hp, hq, by omega, fun n a1 a2 => ⟨n, rfl, a1, a2, rfl⟩⟩
    · rintro y S2 ⟨n, rfl, n0, n1, rfl⟩ u H2 ru s2 f2
      have hn : n.toNat < xs.length := by omega
      have hd := hk _ (List.getElem_mem hn)
      refine opr_ix (.ref _) (.int n) S2 (fun d S' => UpS (Q0 d) S') v u H2 Q ?_ (rv.mono f2.tk) ru s2 ?_
      · show onL S2 _ _
        refine onL_in hl (onAt_in (d := xs[n.toNat]) ?_ hd)
        unfold atD
        rw [if_pos n0, List.getElem?_eq_getElem hn]
      · intro d S3 h3 v3 H3 r3 s3 f3
        obtain ⟨S0, sb, h3⟩ := (show UpS (Q0 d) S3 from h3).ex
        exact ps d S0 h3 v3 H3 r3 (s3.sub sb) (((f1.trans f2).trans f3).sub sb)
  · exact h1.elim
end
end DL

/-! DM: loops and comprehensions over data, the forms one uses. -/
namespace DL
open PySem
section
variable {it : WI} {g : WG} {c : WT} {elt : WE} {vs : List Nat} {env : EV} {S : Sto} {Q : WQ} {α : Type}
theorem fresh_cons {p a : Addr} {o : LO} {S : Sto} (h : sget ((a, o) :: S) p = none) : p ≠ a ∧ a ≠ p ∧ sget S p = none := by
  have n : p ≠ a := fun z => by subst z; rw [sget_self] at h; cases h
  exact ⟨n, n.symm, by rw [sget_ne n] at h; exact h⟩
theorem fr_cons {p a : Addr} {o : LO} {S : Sto} : sget ((a, o) :: S) p = none ↔ (p ≠ a ∧ a ≠ p) ∧ sget S p = none :=
  ⟨fun h => ⟨⟨(fresh_cons h).1, (fresh_cons h).2.1⟩, (fresh_cons h).2.2⟩, fun h => by rw [sget_ne h.1.1]; exact h.2⟩
theorem Sub.cons {S0 S1 : Sto} {p : Addr} {o : LO} (h : Sub S0 S1) : Sub ((p, o) :: S0) ((p, o) :: S1) := fun a u e => by
  by_cases z : a = p
  · subst z
    rw [sget_self] at e ⊢
    exact e
  · rw [sget_ne z] at e ⊢
    exact h a u e
/-- the ints of a display lie between two bounds -/
theorem mem_rng (lo hi : Int) {xs : List D} (h : (xs.all fun d => match d with | .int n => decide (lo ≤ n ∧ n ≤ hi) | _ => false) = true) {d : D} (hd : d ∈ xs) : ∃ n : Int, d = .int n ∧ lo ≤ n ∧ n ≤ hi := by
  have := List.all_eq_true.mp h d hd
  split at this
  · exact ⟨_, rfl, of_decide_eq_true this⟩
  · cases this
theorem draw_in {p q : Addr} {m : Int} {ns : List Int} {S : Sto} {Q : WQ} (h1 : sget S p = some (.tape q)) (h2 : sget S q = some (.lst (dInt ns))) (hm : m.natAbs < 2 ^ 250) (h : ∀ n : Int, 0 ≤ n → n < max m 1 → Q (.int n) S) : F__law_draw [.ref p, .int m] S Q := by
  unfold F__law_draw
  exact ⟨p, q, m, ns, rfl, rfl, h1, h2, hm, h⟩
theorem tape_in {ns : List Int} {S : Sto} {Q : WQ} (h : ∀ p q, sget S p = none → sget S q = none → p ≠ q → q ≠ p → Q (.ref p) ((p, .tape q) :: (q, .lst (dInt ns)) :: S)) : F__law_tape [.frz (dInt ns)] S Q := by
  unfold F__law_tape
  exact ⟨ns, rfl, fun p q h1 h2 h3 => h p q h1 h2 h3 h3.symm⟩
theorem onAt_all {α : Type} {xs : List α} {i : Int} {k : α → Prop} (h0 : 0 ≤ i) (h1 : i < (xs.length : Nat)) (h : ∀ d ∈ xs, k d) : onAt xs i k := by
  have hk : i.toNat < xs.length := by omega
  refine onAt_in (d := xs[i.toNat]) ?_ (h _ (List.getElem_mem hk))
  unfold atD
  rw [if_pos h0, List.getElem?_eq_getElem hk]
theorem onAt_map {α β : Type} {xs : List α} {f : α → β} {i : Int} {k : β → Prop} (h0 : 0 ≤ i) (h1 : i < (xs.length : Nat)) (h : ∀ d ∈ xs, k (f d)) : onAt (xs.map f) i k := by
  refine onAt_all h0 (by simpa using h1) fun d hd => ?_
  obtain ⟨y, hy, rfl⟩ := List.mem_map.mp hd
  exact h y hy
theorem sset_sset : ∀ (S : Sto) (p : Addr) (x y : LO), sset (sset S p x) p y = sset S p y
  | [], _, _, _ => rfl
  | (c, o) :: r, p, x, y => by
    by_cases e : p = c
    · subst e
      rw [sset_self, sset_self, sset_self]
    · rw [sset_ne e, sset_ne e, sset_ne e, sset_sset r p x y]
theorem log2_of {n k : Nat} (h : n < 2 ^ k) (hk : 0 < k) : n.log2 < k := PySem.Flt.log2_lt_of hk h
theorem at_dInt {ns : List Int} {k : Int} (h0 : 0 ≤ k) (h : k < ((dInt ns).length : Nat)) : ∃ n, atD (dInt ns) k = some (.int n) := by
  have hk : k.toNat < ns.length := by simp [dInt] at h; omega
  refine ⟨ns[k.toNat], ?_⟩
  unfold atD
  rw [if_pos h0]
  show (ns.map D.int)[k.toNat]? = _
  rw [List.getElem?_map, List.getElem?_eq_getElem hk]
  rfl
/-- what the walk needs of an iterator that is known: it yields xs, as long as chk holds -/
abbrev Yields (it : WI) (env : EV) (S : Sto) (xs : List D) (chk : Sto → Prop) : Prop := ∀ R : It → Sto → Prop, (xs.length ≤ sizeLine → R ⟨xs, chk⟩ S) → it env S R
theorem yl_tup {t : WE} {xs : List D} (h : ∀ Q : WQ, Q (.tup xs) S → t env S Q) : Yields (iSeq t) env S xs (fun _ => True) := fun R hr => h _ (by show dWalk (.tup xs) S R; exact hr)
theorem yl_frz {t : WE} {xs : List D} (h : ∀ Q : WQ, Q (.frz xs) S → t env S Q) : Yields (iSeq t) env S xs (fun _ => True) := fun R hr => h _ (by show dWalk (.frz xs) S R; exact hr)
theorem yl_ref {t : WE} {xs : List D} {a : Addr} (h : ∀ Q : WQ, Q (.ref a) S → t env S Q) (e : sget S a = some (.lst xs)) : Yields (iSeq t) env S xs (fun S => sget S a = some (.lst xs)) := fun R hr => h _ (by
  exact onL_in e hr)
theorem len_rng {lo : Int} {n : Nat} : (rngD lo n).length = n := by simp [rngD]
theorem yl_rng {t : WA} {j : Int} (h : ∀ Q : List D → Sto → Prop, Q [.int j] S → t env S Q) (h0 : -1000000 ≤ j) (h1 : j ≤ 1000000) : Yields (iRng t) env S (rngD 0 j.toNat) (fun _ => True) := fun R hr => h _ (by
  refine ⟨⟨h0, h1⟩, hr ?_⟩
  rw [len_rng]
  have : (1000000 : Nat) ≤ sizeLine := by decide
  omega)
theorem yl_rng2 {t : WA} {i j : Int} (h : ∀ Q : List D → Sto → Prop, Q [.int i, .int j] S → t env S Q) (h0 : -(2 ^ 62) ≤ i ∧ i < 2 ^ 62 ∧ -(2 ^ 62) ≤ j ∧ j < 2 ^ 62 ∧ j - i ≤ 1000000) : Yields (iRng2 t) env S (rngD i (j - i).toNat) (fun _ => True) := fun R hr => h _ (by
  refine ⟨h0, hr ?_⟩
  rw [len_rng]
  have : (1000000 : Nat) ≤ sizeLine := by decide
  omega)
theorem take_snoc {xs : List α} {i : Nat} {x : α} (h : xs[i]? = some x) : xs.take (i + 1) = xs.take i ++ [x] := by
  rw [List.take_add_one, h]
  rfl
theorem mem_at {xs : List α} {i : Nat} {x : α} (h : xs[i]? = some x) : x ∈ xs := List.mem_of_getElem? h
theorem split_at {xs : List α} {i : Nat} {x : α} (h : xs[i]? = some x) : xs = xs.take i ++ x :: xs.drop (i + 1) := by
  have hi := (List.getElem?_eq_some_iff.mp h)
  obtain ⟨hi, rfl⟩ := hi
  rw [← List.drop_eq_getElem_cons hi, List.take_append_drop]
theorem cut_to {xs : List α} {e : Int} (h0 : 0 ≤ e) (h1 : e.toNat ≤ xs.length) : cut xs none (some e) = xs.take e.toNat := by
  unfold cut cutAt HT.sIx
  have h2 : ¬ e < 0 := by omega
  simp only [h2, if_false, Nat.min_eq_left h1, List.drop_zero, Nat.sub_zero]
theorem cut_from {xs : List α} {e : Int} (h0 : 0 ≤ e) (h1 : e.toNat ≤ xs.length) : cut xs (some e) none = xs.drop e.toNat := by
  unfold cut cutAt HT.sIx
  have h2 : ¬ e < 0 := by omega
  simp only [h2, if_false, Nat.min_eq_left h1]
  rw [← List.length_drop, List.take_length]
/-- [elt for x in xs], elt a function of x that leaves the store -/
theorem comp_map {i : Nat} {chk : Sto → Prop} (xs : List α) (enc out : α → D) (hy : Yields it env S (xs.map enc) chk) (hc : chk S)
    (he : ∀ x ∈ xs, ∀ Q' : WQ, Q' (out x) S → elt ((wipe env vs).set i (some (enc x))) S Q')
    (q : ∀ p, sget S p = none → Q (.ref p) ((p, .lst (xs.map out)) :: S)) : eComp it (gName i) tYes elt vs env S Q := by
  unfold eComp
  refine hy _ fun _ => ⟨fun k acc S' => S' = S ∧ acc = (xs.take k).map out, ⟨rfl, rfl⟩, ?_, ?_⟩
  · rintro k x acc S' hx ⟨rfl, rfl⟩
    refine ⟨hc, ?_⟩
    rw [List.getElem?_map] at hx
    obtain ⟨y, hy, rfl⟩ := Option.map_eq_some_iff.mp hx
    show elt ((wipe env vs).set i (some (enc y))) S' _
    exact he y (mem_at hy) _ (.here ⟨rfl, by rw [take_snoc hy, List.map_append]; rfl⟩)
  · rintro acc S' ⟨rfl, rfl⟩
    refine ⟨hc, ?_⟩
    rw [List.length_map, List.take_length]
    exact q
/-- [elt for x in xs if keep]: what the loop asks -/
theorem comp_w {i : Nat} {chk : Sto → Prop} {Fin : List D → Sto → Prop} (xs : List α) (enc out : α → D) (keep : α → Bool) (hc : chk S)
    (hk : ∀ x ∈ xs, ∀ Q' : Bool → Sto → Prop, Q' (keep x) S → c ((wipe env vs).set i (some (enc x))) S Q')
    (he : ∀ x ∈ xs, keep x = true → ∀ Q' : WQ, Q' (out x) S → elt ((wipe env vs).set i (some (enc x))) S Q')
    (q : Fin ((xs.filter keep).map out) S) :
    ∃ W : Nat → List D → Sto → Prop, W 0 [] S ∧
    (∀ k x acc S, (xs.map enc)[k]? = some x → W k acc S → chk S ∧ gName i x (wipe env vs) S fun env2 S2 => c env2 S2 fun b S3 =>
      ifB b (elt env2 S3 fun y S4 => UpS (W (k + 1) (acc ++ [y])) S4) (UpS (W (k + 1) acc) S3)) ∧
    ∀ acc S, W (xs.map enc).length acc S → chk S ∧ Fin acc S := by
  refine ⟨fun k acc S' => S' = S ∧ acc = ((xs.take k).filter keep).map out, ⟨rfl, rfl⟩, ?_, ?_⟩
  · rintro k x acc S' hx ⟨rfl, rfl⟩
    refine ⟨hc, ?_⟩
    rw [List.getElem?_map] at hx
    obtain ⟨y, hy, rfl⟩ := Option.map_eq_some_iff.mp hx
    show c ((wipe env vs).set i (some (enc y))) S' _
    refine hk y (mem_at hy) _ ?_
    cases hb : keep y with
    | true =>
      show elt _ _ _
      exact he y (mem_at hy) hb _ (.here ⟨rfl, by rw [take_snoc hy, List.filter_append, List.map_append]; simp [hb]⟩)
    | false =>
      exact (.here ⟨rfl, by rw [take_snoc hy, List.filter_append, List.map_append]; simp [hb]⟩)
  · rintro acc S' ⟨rfl, rfl⟩
    refine ⟨hc, ?_⟩
    rw [List.length_map, List.take_length]
    exact q
theorem comp_filter {i : Nat} {chk : Sto → Prop} (xs : List α) (enc out : α → D) (keep : α → Bool) (hy : Yields it env S (xs.map enc) chk) (hc : chk S)
    (hk : ∀ x ∈ xs, ∀ Q' : Bool → Sto → Prop, Q' (keep x) S → c ((wipe env vs).set i (some (enc x))) S Q')
    (he : ∀ x ∈ xs, keep x = true → ∀ Q' : WQ, Q' (out x) S → elt ((wipe env vs).set i (some (enc x))) S Q')
    (q : ∀ p, sget S p = none → Q (.ref p) ((p, .lst ((xs.filter keep).map out)) :: S)) : eComp it (gName i) c elt vs env S Q := by
  unfold eComp
  exact hy _ fun _ => comp_w xs enc out keep hc hk he q
theorem join_in {t : WS} {D0 : En} (P : EV → Sto → Prop) (h1 : t { D0 with nx := fun env S => UpS (P env) S } env S) (h2 : ∀ env S, P env S → D0.nx env S) : sJoin t D0 env S := by
  unfold sJoin
  exact ⟨P, h1, h2⟩
/-- slot i gets a datum of which I holds, the store is what it was -/
theorem join_set {t : WS} {D0 : En} (i : Nat) (I : D → Prop) (h1 : t { D0 with nx := fun env' S' => UpS (fun S' => (∃ d, I d ∧ env' = env.set i (some d)) ∧ S' = S) S' } env S) (h2 : ∀ d, I d → D0.nx (env.set i (some d)) S) : sJoin t D0 env S :=
  join_in (fun env' S' => (∃ d, I d ∧ env' = env.set i (some d)) ∧ S' = S) h1 fun env' S' ⟨⟨d, hd, e⟩, e2⟩ => by
    subst e e2
    exact h2 d hd
theorem for_in {b : WS} {D0 : En} (h : it env S fun J S0 => ∃ W : Nat → EV → Sto → Prop, W 0 env S0 ∧
    (∀ i x env S, J.xs[i]? = some x → W i env S → J.chk S ∧ g x env S fun env2 S2 => b { nx := fun env S => UpS (W (i + 1) env) S, rt := D0.rt, bk := D0.nx, ct := fun env S => UpS (W (i + 1) env) S } env2 S2) ∧
    ∀ env S, W J.xs.length env S → J.chk S ∧ D0.nx env S) : sFor it g b D0 env S := by
  unfold sFor
  exact h
theorem comp_in (h : it env S fun J S0 => ∃ W : Nat → List D → Sto → Prop, W 0 [] S0 ∧
    (∀ i x acc S, J.xs[i]? = some x → W i acc S → J.chk S ∧ g x (wipe env vs) S fun env2 S2 => c env2 S2 fun b S3 =>
      ifB b (elt env2 S3 fun y S4 => UpS (W (i + 1) (acc ++ [y])) S4) (UpS (W (i + 1) acc) S3)) ∧
    ∀ acc S, W J.xs.length acc S → J.chk S ∧ ∀ p, sget S p = none → Q (.ref p) ((p, .lst acc) :: S)) : eComp it g c elt vs env S Q := by
  unfold eComp
  exact h
theorem while_in {c : WT} {b : WS} {D0 : En} (W : Nat → EV → Sto → Prop) (m : Nat) (h0 : W m env S) (h : ∀ m env S, W m env S →
    c env S fun k S1 => ifB k (b { nx := fun env' S' => UpS (fun S' => ∃ m', m' < m ∧ W m' env' S') S', rt := D0.rt, bk := D0.nx, ct := fun env' S' => UpS (fun S' => ∃ m', m' < m ∧ W m' env' S') S' } env S1) (D0.nx env S1)) : sWhile c b D0 env S := by
  unfold sWhile
  exact ⟨W, ⟨m, h0⟩, h⟩
/-- for x in xs, by what holds of the items taken: the form that stands behind the walk's evaluation -/
theorem for_w {b : WS} {rt : WQ} {nx : EV → Sto → Prop} {chk : Sto → Prop} (xs : List α) (enc : α → D) (I : List α → EV → Sto → Prop) (h0 : I [] env S)
    (hs : ∀ pre x post env S, xs = pre ++ x :: post → I pre env S → chk S ∧ g (enc x) env S fun env2 S2 => b { nx := fun env S => UpS (I (pre ++ [x]) env) S, rt := rt, bk := nx, ct := fun env S => UpS (I (pre ++ [x]) env) S } env2 S2)
    (hd : ∀ env S, I xs env S → chk S ∧ nx env S) :
    ∃ W : Nat → EV → Sto → Prop, W 0 env S ∧ (∀ i x env S, (xs.map enc)[i]? = some x → W i env S → chk S ∧ g x env S fun env2 S2 => b { nx := fun env S => UpS (W (i + 1) env) S, rt := rt, bk := nx, ct := fun env S => UpS (W (i + 1) env) S } env2 S2) ∧
      ∀ env S, W (xs.map enc).length env S → chk S ∧ nx env S := by
  refine ⟨fun k env S => I (xs.take k) env S, h0, ?_, ?_⟩
  · intro k x env S hx hi
    rw [List.getElem?_map] at hx
    obtain ⟨y, hy, rfl⟩ := Option.map_eq_some_iff.mp hx
    have := hs (xs.take k) y _ env S (split_at hy) hi
    rw [← take_snoc hy] at this
    exact this
  · intro env S hi
    rw [List.length_map, List.take_length] at hi
    exact hd env S hi
/-- for x in xs, by what holds with the items to come -/
theorem for_suf {b : WS} {rt : WQ} {nx : EV → Sto → Prop} {chk : Sto → Prop} (xs : List α) (enc : α → D) (I : List α → EV → Sto → Prop) (h0 : I xs env S)
    (hs : ∀ x rest env S, I (x :: rest) env S → chk S ∧ g (enc x) env S fun env2 S2 => b { nx := fun env S => UpS (I rest env) S, rt := rt, bk := nx, ct := fun env S => UpS (I rest env) S } env2 S2)
    (hd : ∀ env S, I [] env S → chk S ∧ nx env S) :
    ∃ W : Nat → EV → Sto → Prop, W 0 env S ∧ (∀ i x env S, (xs.map enc)[i]? = some x → W i env S → chk S ∧ g x env S fun env2 S2 => b { nx := fun env S => UpS (W (i + 1) env) S, rt := rt, bk := nx, ct := fun env S => UpS (W (i + 1) env) S } env2 S2) ∧
      ∀ env S, W (xs.map enc).length env S → chk S ∧ nx env S := by
  refine ⟨fun k env S => I (xs.drop k) env S, h0, ?_, ?_⟩
  · intro k x env S hx hi
    rw [List.getElem?_map] at hx
    obtain ⟨y, hy, rfl⟩ := Option.map_eq_some_iff.mp hx
    obtain ⟨hk, rfl⟩ := List.getElem?_eq_some_iff.mp hy
    rw [List.drop_eq_getElem_cons hk] at hi
    exact hs _ _ env S hi
  · intro env S hi
    rw [List.length_map, List.drop_length] at hi
    exact hd env S hi
/-- for x in xs, by what holds of the items taken -/
theorem for_pre {b : WS} {D0 : En} {chk : Sto → Prop} (xs : List α) (enc : α → D) (I : List α → EV → Sto → Prop) (hy : Yields it env S (xs.map enc) chk) (h0 : I [] env S)
    (hs : ∀ pre x post env S, xs = pre ++ x :: post → I pre env S → chk S ∧ g (enc x) env S fun env2 S2 => b { nx := fun env S => UpS (I (pre ++ [x]) env) S, rt := D0.rt, bk := D0.nx, ct := fun env S => UpS (I (pre ++ [x]) env) S } env2 S2)
    (hd : ∀ env S, I xs env S → chk S ∧ D0.nx env S) : sFor it g b D0 env S := by
  unfold sFor
  exact hy _ fun _ => for_w xs enc I h0 hs hd
/-- for k in range(lo, lo + n) -/
theorem rng_w {b : WS} {rt : WQ} {nx : EV → Sto → Prop} {lo : Int} {n : Nat} (I : Nat → EV → Sto → Prop) (h0 : I 0 env S)
    (hs : ∀ (k : Nat) env S, k < n → I k env S → g (.int (lo + k)) env S fun env2 S2 => b { nx := fun env S => UpS (I (k + 1) env) S, rt := rt, bk := nx, ct := fun env S => UpS (I (k + 1) env) S } env2 S2)
    (hd : ∀ env S, I n env S → nx env S) :
    ∃ W : Nat → EV → Sto → Prop, W 0 env S ∧ (∀ i x env S, (rngD lo n)[i]? = some x → W i env S → True ∧ g x env S fun env2 S2 => b { nx := fun env S => UpS (W (i + 1) env) S, rt := rt, bk := nx, ct := fun env S => UpS (W (i + 1) env) S } env2 S2) ∧
      ∀ env S, W (rngD lo n).length env S → True ∧ nx env S := by
  refine ⟨I, h0, ?_, ?_⟩
  · intro k x env S hx hi
    unfold rngD at hx
    rw [List.getElem?_map] at hx
    obtain ⟨y, hy, rfl⟩ := Option.map_eq_some_iff.mp hx
    obtain ⟨hk, e⟩ := (List.getElem?_eq_some_iff.mp hy)
    rw [List.getElem_range] at e
    subst e
    rw [List.length_range] at hk
    exact ⟨trivial, hs _ env S hk hi⟩
  · intro env S hi
    rw [len_rng] at hi
    exact ⟨trivial, hd env S hi⟩
end
end DL

/-! DN: slices with a step. -/
namespace DL
open PySem PySem.Spec PyProof.Rows L2
/-- how many places a slice with a step has -/
def stepN (i j c : Nat) : Nat := if i < j then (j - i - 1) / c + 1 else 0
def cutS {α : Type} (xs : List α) (lo hi : Option Int) (c : Nat) : List α := (List.range (stepN (cutAt xs.length 0 lo) (cutAt xs.length xs.length hi) c)).filterMap fun m => xs[cutAt xs.length 0 lo + m * c]?
theorem cutS_len {α : Type} (xs : List α) (lo hi : Option Int) (c : Nat) (hc : 0 < c) : (cutS xs lo hi c).length ≤ xs.length := by
  unfold cutS
  refine Nat.le_trans (List.length_filterMap_le _ _) ?_
  rw [List.length_range]
  have h : cutAt xs.length xs.length hi ≤ xs.length := HT.sIx_le _ _ (Nat.le_refl _) hi
  unfold stepN
  split
  · have := Nat.div_le_self (cutAt xs.length xs.length hi - cutAt xs.length 0 lo - 1) c
    omega
  · omega
section
variable {prog : Program} {w : World} {A : Around} {E : Value → Shared → Prop} {s : Shared}
theorem adjust_step (lo hi : Option Int) (n c : Nat) (hc : 0 < c) : Builtin.Slice.sliceAdjust lo hi (c : Int) (n : Int) = (((HT.sIx n 0 lo : Nat) : Int), ((HT.sIx n n hi : Nat) : Int)) := by
  rw [← HT.adjust_gen lo hi n]
  unfold Builtin.Slice.sliceAdjust
  rw [if_neg (by omega), if_neg (by omega), if_neg (by omega), if_neg (by omega)]
  rfl
theorem places_step (i j c : Nat) (hc : 0 < c) : Builtin.Slice.slicePlaces (i : Int) (j : Int) (c : Int) = stepN i j c := by
  unfold Builtin.Slice.slicePlaces stepN
  rw [if_pos (show (c : Int) > 0 by omega)]
  by_cases h : i < j
  · rw [if_pos (show (i : Int) < (j : Int) by omega), if_pos h]
    have e : ((j : Int) - (i : Int) - 1) = ((j - i - 1 : Nat) : Int) := by omega
    rw [e]
    norm_cast
  · rw [if_neg (show ¬ (i : Int) < (j : Int) by omega), if_neg h]
    rfl
theorem applied_step {sl : Addr} {vl vu : Value} {lo hi : Option Int} {n c : Nat} {t : Tok} {Q : Int × Int × Nat → Shared → Prop} (hc : 0 < c) (hs : s.heap.IsSliceOf sl vl vu (.int (c : Int) t)) (pl : IsPart vl lo) (pu : IsPart vu hi)
    (h : Q (((HT.sIx n 0 lo : Nat) : Int), (c : Int), stepN (HT.sIx n 0 lo) (HT.sIx n n hi) c) s) : wpAny (model prog w) A (Builtin.Slice.sliceApplied (.ref sl) (pure (n : Int))) Q E s := by
  obtain ⟨os, hos, hcs, hds⟩ := id hs
  unfold Builtin.Slice.sliceApplied Builtin.Slice.sliceFields
  refine wpAny_bind (wpAny_bind (wpAny_field hos hds (x := vl) rfl (wpAny_bind (wpAny_field hos hds (x := vu) rfl (wpAny_bind (wpAny_field hos hds (x := .int (c : Int) t) rfl (wpAny_pure ?_)))))))
  refine wpAny_bind (slicePart_int ?_)
  show wpAny _ _ (if ((c : Int) == 0) = true then _ else _) _ _ s
  rw [if_neg (by rw [beq_iff_eq]; omega)]
  refine wpAny_bind (HT.slicePart_ pl (wpAny_bind (HT.slicePart_ pu (wpAny_bind (wpAny_pure ?_)))))
  show wpAny _ _ (match Builtin.Slice.sliceAdjust lo hi (c : Int) (n : Int) with | (lo, hi) => pure (lo, (c : Int), Builtin.Slice.slicePlaces lo hi (c : Int))) _ _ s
  rw [adjust_step lo hi n c hc]
  show wpAny _ _ (pure (((HT.sIx n 0 lo : Nat) : Int), (c : Int), Builtin.Slice.slicePlaces ((HT.sIx n 0 lo : Nat) : Int) ((HT.sIx n n hi : Nat) : Int) (c : Int))) _ _ s
  rw [places_step _ _ _ hc]
  exact wpAny_pure h
theorem pick_step (xs : Array Value) (i c k : Nat) : ((List.range k).filterMap fun (m : Nat) => xs[((i : Int) + (m : Int) * (c : Int)).toNat]?) = (List.range k).filterMap fun m => xs.toList[i + m * c]? := by
  congr 1
  funext m
  have : ((i : Int) + (m : Int) * (c : Int)).toNat = i + m * c := by
    have e : ((i : Int) + (m : Int) * (c : Int)) = ((i + m * c : Nat) : Int) := by push_cast; rfl
    rw [e, Int.toNat_natCast]
  rw [this, Array.getElem?_toList]
theorem getItem_tuple_step {t sl : Addr} {items : Array Value} {vl vu : Value} {lo hi : Option Int} {c : Nat} {tk : Tok} {Q : Value → Shared → Prop} (hc : 1 < c) (ht : IsTup s.heap t items) (hs : s.heap.IsSliceOf sl vl vu (.int (c : Int) tk)) (pl : IsPart vl lo) (pu : IsPart vu hi)
    (h : Q (.ref s.heap.objs.size) { s with heap := s.heap.push { cls := .type "tuple", data := .seq (cutS items.toList lo hi c).toArray } })
    (hsz : items.size ≤ sizeLine) : wpAny (model prog w) A (getItem (.ref t) (.ref sl)) Q E s := by
  have hfit : sizeOk (.seq (cutS items.toList lo hi c).toArray) := by
    show (cutS items.toList lo hi c).toArray.size ≤ sizeLine
    rw [List.size_toArray]
    exact Nat.le_trans (cutS_len _ _ _ _ (by omega)) (by rw [Array.length_toList]; exact hsz)
  obtain ⟨os, hos, hcs, hds⟩ := id hs
  have hTs : s.TypeIs (.ref sl) "slice" := ⟨os, hos, hcs⟩
  unfold getItem
  try with_reducible refine wpAny_holding ?_
  first | refine wpAny_bind (wpAny_pure ?_) | skip
  refine wpAny_bind (wpAny_sequenceKey ht.typeIs (by decide) ?_)
  refine wpAny_bind (wpAny_callSpecial?_slot (name := Str.ofString "__getitem__") ht.typeIs PyProof.Rows.slot_tuple_getitem
    (wpAny_call_entry PyProof.Rows.slot_tuple_getitem ht.typeIs entry_tuple_getitem ?_ (args_tuple_getitem _ _)))
  show wpAny _ _ (Builtin.Tuple.tupleItemsOf (.ref t) >>= _) _ _ s
  refine wpAny_bind (PyProof.Rows.tupleItemsOf_ ht ?_)
  refine wpAny_bind (wpAny_typeOf hTs ?_)
  rw [if_pos (by decide)]
  refine wpAny_bind (applied_step (by omega) hs pl pu ?_)
  have no : ¬ ((((HT.sIx items.size 0 lo : Nat) : Int) == 0 && (c : Int) == 1 && (stepN (HT.sIx items.size 0 lo) (HT.sIx items.size items.size hi) c) == items.size) = true) := by
    intro q
    rw [Bool.and_eq_true, Bool.and_eq_true] at q
    have q1 : (c : Int) = 1 := eq_of_beq q.1.2
    omega
  show wpAny _ _ (if (((HT.sIx items.size 0 lo : Nat) : Int) == 0 && (c : Int) == 1 && (stepN (HT.sIx items.size 0 lo) (HT.sIx items.size items.size hi) c) == items.size) = true then _ else _) _ _ s
  rw [if_neg no, pick_step]
  have e : cutS items.toList lo hi c = (List.range (stepN (HT.sIx items.size 0 lo) (HT.sIx items.size items.size hi) c)).filterMap fun m => items.toList[HT.sIx items.size 0 lo + m * c]? := by
    unfold cutS cutAt
    rw [Array.length_toList]
  rw [← e]
  first
    | exact wpAny_bind (m := Builtin.Tuple.tupleExact _) (wpAny_newObj_type (wpAny_pure ⟨_, rfl, wpAny_pure h⟩) hfit)
    | exact wpAny_bind (m := Builtin.Tuple.tupleExact _) (wpAny_newObj_type (wpAny_bind (wpAny_pure (wpAny_pure ⟨_, rfl, wpAny_pure h⟩))) hfit)
    | exact wpAny_bind (wpAny_bind (m := Builtin.Tuple.tupleExact _) (wpAny_newObj_type (wpAny_pure (wpAny_pure ⟨_, rfl, wpAny_pure h⟩)) hfit))
    | exact wpAny_bind (wpAny_bind (m := Builtin.Tuple.tupleExact _) (wpAny_newObj_type (wpAny_pure ⟨_, rfl, wpAny_pure h⟩) hfit))
end
theorem Paired.getN {xs : List V} {us : List Value} (r : Vals xs us) (i : Nat) : (xs[i]? = none ∧ us[i]? = none) ∨ ∃ x u, xs[i]? = some x ∧ us[i]? = some u ∧ RelV x u := by
  cases h : xs[i]? with
  | none => exact .inl ⟨rfl, r.none_of h⟩
  | some x =>
    obtain ⟨u, h1, h2⟩ := r.get h
    exact .inr ⟨x, u, rfl, h1, h2⟩
theorem vals_pick {xs : List V} {us : List Value} (r : Vals xs us) (f : Nat → Nat) : ∀ l : List Nat, Vals (l.filterMap fun m => xs[f m]?) (l.filterMap fun m => us[f m]?)
  | [] => .nil
  | m :: l => by
    rcases Paired.getN r (f m) with ⟨h1, h2⟩ | ⟨x, u, h1, h2, h3⟩
    · simp only [List.filterMap_cons, h1, h2]
      exact vals_pick r f l
    · simp only [List.filterMap_cons, h1, h2]
      exact .cons h3 (vals_pick r f l)
theorem rps_pick {K : Kw} {H : Hp} {vs : List V} {ds : List D} (r : RpAll K H vs ds) (f : Nat → Nat) : ∀ l : List Nat, RpAll K H (l.filterMap fun m => vs[f m]?) (l.filterMap fun m => ds[f m]?)
  | [] => .nil
  | m :: l => by
    cases h : ds[f m]? with
    | none =>
      have h1 : vs[f m]? = none := by
        rw [List.getElem?_eq_none_iff] at h ⊢
        rw [r.length]
        exact h
      simp only [List.filterMap_cons, h1, h]
      exact rps_pick r f l
    | some d =>
      obtain ⟨v, h1, h2⟩ := r.get h
      simp only [List.filterMap_cons, h1, h]
      exact .cons h2 (rps_pick r f l)
theorem vals_cutS {xs : List V} {us : List Value} (r : Vals xs us) (lo hi : Option Int) (c : Nat) : Vals (cutS xs lo hi c) (cutS us lo hi c) := by
  unfold cutS
  rw [r.length]
  exact vals_pick r _ _
theorem rps_cutS {K : Kw} {H : Hp} {vs : List V} {ds : List D} (r : RpAll K H vs ds) (lo hi : Option Int) (c : Nat) : RpAll K H (cutS vs lo hi c) (cutS ds lo hi c) := by
  unfold cutS
  rw [r.length]
  exact rps_pick r _ _
/-- t[lo:hi:c] of a tuple, c a written number above 1 -/
def eSlS (te : WE) (tl th : WO) (c : Nat) : WE := fun env S Q => te env S fun x S1 => tl env S1 fun l S2 => th env S2 fun u S3 => match x with
  | .tup xs => Q (.tup (cutS xs l u c)) S3
  | _ => False
section
variable {X : Cx} {e : Expr} {te : WE} {lo hi : Option Expr} {tl th : WO} {pos p2 p3 : Pos} {j : Nat}
theorem q_slS {i : Int} {c : Nat} (hi' : i = (c : Int)) (hc : 1 < c) (he : QE X e te) (hl : QO X lo tl) (hu : QO X hi th) : QE X (.Subscript e (.Slice lo hi (some (.Constant (.int i) j p3)) p2) pos) (eSlS te tl th c) := by
  subst hi'
  refine ⟨fun pins s σ H Q I ⟨env, S, Q0, er, so, q, ps⟩ => ?_⟩
  refine Subscript_ (thn (he.run pins s σ H (fun x H1 => lO X.kw tl σ H1 fun l H2 => lO X.kw th σ H2 fun u H3 => ∃ a xs, x = .ref a ∧ SqT X.K H3 a xs ∧ ∀ p, H3 p = none → Q (.ref p) (upd H3 p (.tup (cutS xs l u c)))) I ?_) fun v s1 ⟨x, H1, I1, r1, q1⟩ => ?_)
  · refine ⟨env, S, _, er, so, q, fun x S1 h1 v H1 rv s1 f1 => ?_⟩
    refine ⟨env, S1, _, er.mono f1.tk, s1, h1, fun l S2 h2 H2 s2 f2 => ?_⟩
    refine ⟨env, S2, _, er.mono (f1.trans f2).tk, s2, h2, fun u S3 h3 H3 s3 f3 => ?_⟩
    have rv3 := rv.mono (f2.trans f3).tk
    have ps3 := ps.trans ((f1.trans f2).trans f3)
    split at h3
    · cases rv3 with
      | tup h1 r1 hz => exact ⟨_, _, rfl, h1, ps3.tup s3 (rps_cutS r1 l u c) (Nat.le_trans (cutS_len _ _ _ _ (by omega)) hz) h3⟩
    · exact h3.elim
  · refine wpAny_Slice (thn (hl.run pins s1 σ H1 _ I1 q1) fun vl s2 ⟨l, H2, I2, pl, q2⟩ => thn (hu.run pins s2 σ H2 _ I2 q2) fun vu s3 ⟨u, H3, I3, pu, q3⟩ => ?_)
    obtain ⟨a, xs, rfl, hx, q3⟩ := q3
    refine thn ((po_some (pe_int (X := X) (i := (c : Int)) (j := j) (pos := p3))).run pins s3 σ H3 (fun o H4 => o = some (c : Int) ∧ H4 = H3) I3 ⟨_, rfl, rfl, rfl⟩) fun vc s4 ⟨o, H4, I4, pc, ho, hH⟩ => ?_
    subst ho hH
    cases pc with
    | int _ tk =>
    have I5 : Inv X pins σ H4 { s4 with heap := s4.heap.push { cls := .type "slice", data := .fields #[vl, vu, .int (c : Int) tk] } } := I4.kept (t' := s4.toks) fun b ob q => Heap.get?_push_of_some _ q
    cases r1
    obtain ⟨its, r, ht, hz⟩ := I5.tuple hx
    have hlen : its.toArray.size = xs.length := by rw [List.size_toArray]; exact r.length.symm
    show wpAny (model X.prog X.w) X.A (subscriptTail e _ _ (.ref s4.heap.objs.size)) (EP X pins σ Q) X.xe { s4 with heap := s4.heap.push { cls := .type "slice", data := .fields #[vl, vu, .int (c : Int) tk] } }
    refine tail_any (ops := [.ref a, .ref s4.heap.objs.size]) ht.typeIs PyProof.Rows.slot_tuple_getitem.lookup ?_ (by with_unfolding_all rfl)
    refine getItem_tuple_step hc ht (Heap.IsSliceOf.new ..) pl pu ?_ (by rw [hlen]; exact hz)
    refine ⟨.ref _, _, I5.laid (t' := s4.toks) (o := .tup (cutS xs l u c)) (fun b ob q => Heap.get?_push_of_some _ q) (Nat.le_refl _) ?_, rfl, q3 _ (I5.hok.fresh (Nat.le_refl _))⟩
    exact ⟨Nat.le_trans (cutS_len _ _ _ _ (by omega)) hz, _, by simpa using vals_cutS r l u c, IsTup.new _ _⟩
end
end DL

/-! DP: dicts. -/
namespace DL
open PySem PySem.Spec PyProof.Rows L2
/-! ### keys -/
theorem Paired.getL {α β : Type} {F : α → β → Prop} : ∀ {l₁ : List α} {l₂ : List β}, Paired F l₁ l₂ → ∀ {i : Nat} {a : α}, l₁[i]? = some a → ∃ b, l₂[i]? = some b ∧ F a b
  | _, _, .nil, i, a, e => by simp at e
  | _, _, .cons r t, 0, a, e => by simp at e; subst e; exact ⟨_, rfl, r⟩
  | _, _, .cons r t, i + 1, a, e => by
    obtain ⟨b, h1, h2⟩ := Paired.getL t (i := i) (a := a) (by simpa using e)
    exact ⟨b, by simpa using h1, h2⟩
theorem keyTL {d : D} (h1 : keyT d = true) (h2 : keyL d = true) : False := by
  cases d <;> first | cases h1 | cases h2
theorem nk_leaf {d : D} (h : keyL d = true) : nkD d = (leafD d).key := by
  cases d <;> first | rfl | cases h
theorem leaf_eq {d e : D} (h1 : keyL d = true) (h2 : keyL e = true) : leafD d = leafD e ↔ nkD d = nkD e := by
  rw [nk_leaf h1, nk_leaf h2]
  exact ⟨fun h => by rw [h], fun h => Leaf.key_inj h⟩
theorem leaf_is {K : Kw} {H : Hp} {v : V} {u : Value} {d : D} (h : keyL d = true) (r : Rp K H v d) (ru : RelV v u) : (k3 K.P K.w).is (leafD d) u = true := by
  cases r with
  | non => cases ru; rfl
  | int i =>
    obtain ⟨t, rfl⟩ := ru
    show (Leaf.isOf (.num i) (.int i t) && noB (.int i t)) = true
    unfold Leaf.isOf noB
    simp
  | str x =>
    obtain ⟨t, rfl⟩ := ru
    show (Leaf.isOf (.text x) (.str x t) && noB (.str x t)) = true
    unfold Leaf.isOf noB Value.isStrOf
    simp
  | _ => cases h
section
variable {X : Cx} {pins : List (Addr × Obj)} {σ : L2.St} {H : Hp} {s : Shared}
mutual
theorem Rp.nest (I : Inv X pins σ H s) : ∀ {v : V} {d : D} {u : Value}, Rp X.kw H v d → kyD d = true → RelV v u → NestedIs s.heap (nkD d) u
  | _, _, _, .non, _, r => by cases r; unfold nkD; exact .none
  | _, _, _, .bl b, _, r => by cases r; unfold nkD; exact .bool rfl
  | _, _, _, .int i, _, r => by obtain ⟨t, rfl⟩ := r; unfold nkD; exact .int i t
  | _, _, _, .str x, _, r => by obtain ⟨t, rfl⟩ := r; unfold nkD; exact .text x t
  | _, _, _, .tup h hs _, c, r => by
    cases r
    unfold kyD at c
    unfold nkD
    obtain ⟨its, rv, ⟨o, ho, hc, n, hd⟩, _⟩ := I.tuple h
    exact .tup ho hc hd (by simpa using RpAll.nest I hs c rv)
  | _, _, _, .ref a, c, _ => by unfold kyD at c; cases c
  | _, _, _, .frz _ _ _, c, _ => by unfold kyD at c; cases c
  | _, _, _, .ty _, c, _ => by unfold kyD at c; cases c
  | _, _, _, .exc _ _, c, _ => by unfold kyD at c; cases c
theorem RpAll.nest (I : Inv X pins σ H s) : ∀ {vs : List V} {ds : List D} {us : List Value}, RpAll X.kw H vs ds → kyDs ds = true → Vals vs us → NestedAll s.heap (nkDs ds) us
  | _, _, _, .nil, _, r => by cases r; unfold nkDs; exact .nil
  | _, _, _, .cons h hs, c, r => by
    unfold kyDs at c
    rw [Bool.and_eq_true] at c
    cases r with
    | cons r1 r2 =>
      unfold nkDs
      exact .cons (Rp.nest I h c.1 r1) (RpAll.nest I hs c.2 r2)
end
theorem key_is (I : Inv X pins σ H s) {b : Addr} {d : D} (h : keyT d = true) (r : Rp X.kw H (.ref b) d) : (nestedKind X.prog X.w).is s.heap (nkD d) b := by
  unfold keyT at h
  split at h
  · rw [Bool.and_eq_true, decide_eq_true_eq] at h
    exact ⟨Rp.nest I r (by unfold kyD; exact h.1) rfl, h.2⟩
  · cases h
theorem keyT_ref {K : Kw} {H : Hp} {v : V} {d : D} (h : keyT d = true) (r : Rp K H v d) : ∃ b, v = .ref b := by
  cases r <;> first | exact ⟨_, rfl⟩ | cases h
/-- the dict at a -/
abbrev DicAt (K : Kw) (H : Hp) (a : Addr) (o : Obj) (kvs : List (D × D)) : Prop := LR K H a (.dic o kvs)
theorem DicAt.get {a : Addr} {o : Obj} {kvs : List (D × D)} (h : DicAt X.kw H a o kvs) (I : Inv X pins σ H s) : s.heap.get? a = some o := (I.hok a _ h.1).1
theorem dic_T {a : Addr} {o : Obj} {kvs : List (D × D)} (h : DicAt X.kw H a o kvs) (I : Inv X pins σ H s) (hk : (kvs.all fun kv => keyT kv.1) = true) : ∃ xs, s.heap.DictOfH (nestedKind X.prog X.w) a xs ∧ Paired (KvT X.kw H) kvs xs := by
  have ho := h.get I
  obtain ⟨_, _, _, es, ep, h1, h2, h3⟩ := h
  rcases h3 with ⟨xs, e1, e2, e3⟩ | ⟨ys, e1, e2, e3, e4⟩
  · refine ⟨xs, ⟨o, es, ep, ho, h1, h2, e1, fun x hx => ?_, e2⟩, e3⟩
    obtain ⟨i, hi, rfl⟩ := List.getElem_of_mem hx
    obtain ⟨kv, -, r⟩ : ∃ kv, kvs[i]? = some kv ∧ KvT X.kw H kv xs[i] := by
      have hl : kvs.length = xs.length := Paired.length e3
      obtain ⟨b, hb, r⟩ := Paired.getL e3 (List.getElem?_eq_getElem (l := kvs) (i := i) (by omega))
      rw [List.getElem?_eq_getElem hi] at hb
      cases hb
      exact ⟨_, List.getElem?_eq_getElem (by omega), r⟩
    rw [r.eq]
    exact key_is I r.ok r.key
  · cases e4 with
    | nil =>
      have e : es.toList = [] := List.length_eq_zero_iff.mp e2.length
      exact ⟨[], ⟨o, es, ep, ho, h1, h2, e, fun x hx => (by cases hx), List.nodup_nil⟩, .nil⟩
    | cons r t =>
      rw [List.all_cons, Bool.and_eq_true] at hk
      exact (keyTL hk.1 r.ok).elim
theorem dic_L {a : Addr} {o : Obj} {kvs : List (D × D)} (h : DicAt X.kw H a o kvs) (I : Inv X pins σ H s) (hk : (kvs.all fun kv => keyL kv.1) = true) : ∃ ys, s.heap.DictOf (k3 X.prog X.w) a ys ∧ Paired (KvL X.kw H) kvs ys := by
  have ho := h.get I
  obtain ⟨_, _, _, es, ep, h1, h2, h3⟩ := h
  rcases h3 with ⟨xs, e1, e2, e3⟩ | ⟨ys, e1, e2, e3, e4⟩
  · cases e3 with
    | nil =>
      have e : es.toList = [] := e1
      refine ⟨[], ⟨o, es, ep, ho, h1, h2, fun en he => ?_, by rw [e]; exact .nil, List.nodup_nil⟩, .nil⟩
      have : en ∈ es.toList := by simpa using he
      rw [e] at this
      cases this
    | cons r t =>
      rw [List.all_cons, Bool.and_eq_true] at hk
      exact (keyTL r.ok hk.1).elim
  · exact ⟨ys, ⟨o, es, ep, ho, h1, h2, e1, e2, e3⟩, e4⟩
end
/-! ### what is found -/
theorem dicGet_nil (k : D) : dicGet [] k = none := rfl
theorem dicGet_pos {kv : D × D} {r : List (D × D)} {k : D} (h : nkD kv.1 = nkD k) : dicGet (kv :: r) k = some kv.2 := by simp [dicGet, List.find?_cons, h]
theorem dicGet_neg {kv : D × D} {r : List (D × D)} {k : D} (h : ¬ nkD kv.1 = nkD k) : dicGet (kv :: r) k = dicGet r k := by simp [dicGet, List.find?_cons, h]
/-- a value over data, a value over addresses -/
def FndV (K : Kw) (H : Hp) (o : Option D) (u : Option Value) : Prop := match o, u with
  | none, none => True
  | some d, some u => ∃ v, RelV v u ∧ Rp K H v d
  | _, _ => False
section
variable {K : Kw} {H : Hp}
theorem getT {k : D} : ∀ {kvs : List (D × D)} {xs : List (NestedKey × Addr × Value)}, Paired (KvT K H) kvs xs → FndV K H (dicGet kvs k) ((atKey xs (nkD k)).map (·.2))
  | _, _, .nil => trivial
  | kv :: kvs, x :: xs, .cons r t => by
    by_cases h : nkD kv.1 = nkD k
    · rw [dicGet_pos h]
      have e : atKey (x :: xs) (nkD k) = some x.2 := by
        unfold atKey
        rw [List.find?_cons, r.eq, decide_eq_true h]
        rfl
      rw [e]
      exact r.val
    · rw [dicGet_neg h]
      have e : atKey (x :: xs) (nkD k) = atKey xs (nkD k) := by
        unfold atKey
        rw [List.find?_cons, r.eq, decide_eq_false h]
      rw [e]
      exact getT t
theorem getL {k : D} (hk : keyL k = true) : ∀ {kvs : List (D × D)} {ys : List (Leaf × Value)}, Paired (KvL K H) kvs ys → FndV K H (dicGet kvs k) (valueAt ys (leafD k))
  | _, _, .nil => trivial
  | kv :: kvs, y :: ys, .cons r t => by
    by_cases h : nkD kv.1 = nkD k
    · rw [dicGet_pos h]
      have e : valueAt (y :: ys) (leafD k) = some y.2 := by
        unfold valueAt
        rw [List.find?_cons, r.eq, decide_eq_true ((leaf_eq r.ok hk).mpr h)]
        rfl
      rw [e]
      exact r.val
    · rw [dicGet_neg h]
      have e : valueAt (y :: ys) (leafD k) = valueAt ys (leafD k) := by
        unfold valueAt
        rw [List.find?_cons, r.eq, decide_eq_false (fun z => h ((leaf_eq r.ok hk).mp z))]
      rw [e]
      exact getL hk t
theorem FndV.some {o : Option D} {u : Option Value} (h : FndV K H o u) : o.isSome = u.isSome := by
  cases o <;> cases u <;> first | rfl | exact h.elim
theorem replT {k d : D} {v : V} {r : Value} (rv : RelV v r) (rd : Rp K H v d) : ∀ {kvs : List (D × D)} {xs : List (NestedKey × Addr × Value)}, Paired (KvT K H) kvs xs →
    Paired (KvT K H) (kvs.map fun kv => if nkD kv.1 = nkD k then (kv.1, d) else kv) (xs.map (putAt (nkD k) r))
  | _, _, .nil => .nil
  | kv :: kvs, x :: xs, .cons h t => by
    refine .cons ?_ (replT rv rd t)
    unfold putAt
    rw [h.eq]
    show KvT K H (if nkD kv.1 = nkD k then (kv.1, d) else kv) _
    by_cases e : nkD kv.1 = nkD k
    · rw [if_pos e, if_pos e]
      exact ⟨h.ok, rfl, h.key, v, rv, rd⟩
    · rw [if_neg e, if_neg e]
      exact h
theorem Paired.snoc {α β : Type} {F : α → β → Prop} {a : α} {b : β} (h : F a b) : ∀ {l₁ : List α} {l₂ : List β}, Paired F l₁ l₂ → Paired F (l₁ ++ [a]) (l₂ ++ [b])
  | _, _, .nil => .cons h .nil
  | _, _, .cons r t => .cons r (Paired.snoc h t)
theorem putT {k d : D} {b : Addr} {v : V} {r : Value} (hk : keyT k = true) (rk : Rp K H (.ref b) k) (rv : RelV v r) (rd : Rp K H v d) {kvs : List (D × D)} {xs : List (NestedKey × Addr × Value)} (h : Paired (KvT K H) kvs xs) :
    Paired (KvT K H) (dicPut kvs k d) (storedH xs (nkD k) b r) := by
  have e := (getT (k := k) h).some
  rw [Option.isSome_map] at e
  unfold dicPut storedH
  rw [e]
  split
  · exact replT rv rd h
  · exact Paired.snoc ⟨hk, rfl, rk, v, rv, rd⟩ h
theorem replL {k d : D} {v : V} {r : Value} (hk : keyL k = true) (rv : RelV v r) (rd : Rp K H v d) : ∀ {kvs : List (D × D)} {ys : List (Leaf × Value)}, Paired (KvL K H) kvs ys →
    Paired (KvL K H) (kvs.map fun kv => if nkD kv.1 = nkD k then (kv.1, d) else kv) (ys.map fun y => if y.1 = leafD k then (y.1, r) else y)
  | _, _, .nil => .nil
  | kv :: kvs, y :: ys, .cons h t => by
    refine .cons ?_ (replL hk rv rd t)
    dsimp only
    by_cases e : nkD kv.1 = nkD k
    · rw [if_pos e, if_pos (by rw [h.eq]; exact (leaf_eq h.ok hk).mpr e)]
      exact ⟨h.ok, h.eq, v, rv, rd⟩
    · rw [if_neg e, if_neg (by rw [h.eq]; exact fun z => e ((leaf_eq h.ok hk).mp z))]
      exact h
theorem any_valueAt {κ : Type} [DecidableEq κ] (k : κ) : ∀ ys : List (κ × Value), (ys.any fun y => decide (y.1 = k)) = (valueAt ys k).isSome
  | [] => rfl
  | y :: ys => by
    have := any_valueAt k ys
    unfold valueAt at *
    rw [List.any_cons, List.find?_cons]
    by_cases h : y.1 = k
    · rw [decide_eq_true h]; rfl
    · rw [decide_eq_false h]; exact this
theorem putL {k d : D} {v : V} {r : Value} (hk : keyL k = true) (rv : RelV v r) (rd : Rp K H v d) {kvs : List (D × D)} {ys : List (Leaf × Value)} (h : Paired (KvL K H) kvs ys) :
    Paired (KvL K H) (dicPut kvs k d) (stored ys (leafD k) r) := by
  have e := (getL hk h).some
  unfold dicPut stored
  rw [any_valueAt, e]
  split
  · exact replL hk rv rd h
  · exact Paired.snoc ⟨hk, rfl, v, rv, rd⟩ h
theorem dicPut_len (kvs : List (D × D)) (k d : D) : (dicPut kvs k d).length ≤ kvs.length + 1 := by
  unfold dicPut
  split <;> simp
end
theorem keyOk_or {kvs : List (D × D)} {k : D} (h : keyOk kvs k = true) : (keyT k = true ∧ (kvs.all fun kv => keyT kv.1) = true) ∨ (keyL k = true ∧ (kvs.all fun kv => keyL kv.1) = true) := by
  unfold keyOk at h
  rw [Bool.or_eq_true, Bool.and_eq_true, Bool.and_eq_true] at h
  exact h
end DL

/-! DQ: dicts: what is asked of each construct. -/
namespace DL
open PySem PySem.Spec PyProof.Rows L2
/-! ### over data -/
def onD (S : Sto) (a : Addr) (k : Obj → List (D × D) → Prop) : Prop := match sget S a with
  | some (.dic o kvs) => k o kvs
  | _ => False
theorem onD_iff {S : Sto} {a : Addr} {k : Obj → List (D × D) → Prop} : onD S a k ↔ ∃ o kvs, sget S a = some (.dic o kvs) ∧ k o kvs := by
  unfold onD
  constructor
  · intro h
    split at h
    · exact ⟨_, _, ‹_›, h⟩
    · exact h.elim
  · rintro ⟨o, kvs, e, h⟩
    rw [e]
    exact h
theorem onD_in {S : Sto} {a : Addr} {k : Obj → List (D × D) → Prop} {o : Obj} {kvs : List (D × D)} (e : sget S a = some (.dic o kvs)) (h : k o kvs) : onD S a k := onD_iff.mpr ⟨o, kvs, e, h⟩
def onGet (o : Option D) (k : D → Prop) : Prop := match o with
  | some d => k d
  | none => False
theorem onGet_in {o : Option D} {k : D → Prop} {d : D} (e : o = some d) (h : k d) : onGet o k := by rw [e]; exact h
def eDict0 : WE := fun _ S Q => ∀ p o, sget S p = none → Q (.ref p) ((p, .dic o []) :: S)
def dInD (u : Bool → Bool) (x y : D) (S : Sto) (Q : WQ) : Prop := match y with
  | .ref a => onD S a fun _ kvs => keyOk kvs x = true ∧ Q (.bl (u (dicGet kvs x).isSome)) S
  | _ => False
abbrev dInK := dInD fun b => b
abbrev dNotInK := dInD fun b => !b
def dGetK (x y : D) (S : Sto) (Q : WQ) : Prop := match x with
  | .ref a => onD S a fun _ kvs => keyOk kvs y = true ∧ onGet (dicGet kvs y) fun d => Q d S
  | _ => False
def gSubK (ta ti : WE) : WG := fun d env S Q => ta env S fun x S1 => ti env S1 fun y S2 => match x with
  | .ref a => onD S2 a fun _ kvs => (keyOk kvs y = true ∧ kvs.length < sizeLine) ∧ ∀ o', Q env (sset S2 a (.dic o' (dicPut kvs y d)))
  | _ => False
def mGetK (x : D) (ds : List D) (S : Sto) (Q : WQ) : Prop := match x with
  | .ref a => match ds with
    | [k] => onD S a fun _ kvs => keyOk kvs k = true ∧ Q ((dicGet kvs k).getD .non) S
    | [k, z] => onD S a fun _ kvs => keyOk kvs k = true ∧ Q ((dicGet kvs k).getD z) S
    | _ => False
  | _ => False
def mSetdefK (x : D) (ds : List D) (S : Sto) (Q : WQ) : Prop := match x with
  | .ref a => match ds with
    | [k, z] => onD S a fun _ kvs => (keyOk kvs k = true ∧ kvs.length < sizeLine) ∧ (∀ d, dicGet kvs k = some d → Q d S) ∧ (dicGet kvs k = none → ∀ o', Q z (sset S a (.dic o' (dicPut kvs k z))))
    | _ => False
  | _ => False
def eMethK (m : D → List D → Sto → WQ → Prop) (to : WE) (t : WA) : WE := fun env S Q => to env S fun x S1 => match x with
  | .ref a => onD S1 a fun _ _ => t env S1 fun ds S2 => m (.ref a) ds S2 Q
  | _ => False
/-- for k in d; for v in d.values() -/
def iKeysK (t : WE) : WI := fun env S R => t env S fun x S1 => match x with
  | .ref a => onD S1 a fun o kvs => kvs.length ≤ sizeLine → R ⟨kvs.map (·.1), fun S => sget S a = some (.dic o kvs)⟩ S1
  | _ => False
def iValsK (t : WE) : WI := fun env S R => t env S fun x S1 => match x with
  | .ref a => onD S1 a fun o kvs => kvs.length ≤ sizeLine → R ⟨kvs.map (·.2), fun S => sget S a = some (.dic o kvs)⟩ S1
  | _ => False
def bLenK : WB := fun ds S Q => match ds with
  | [.ref a] => onD S a fun _ kvs => Q (.int kvs.length) S
  | _ => False
def bListK : WB := fun ds S Q => match ds with
  | [.ref a] => onD S a fun _ kvs => ∀ p, sget S p = none → Q (.ref p) ((p, .lst (kvs.map (·.1))) :: S)
  | _ => False
/-- {k: v for .. in .. if ..} -/
@[irreducible] def eDictC (it : WI) (g : WG) (c : WT) (tk tv : WE) (vs : List Nat) : WE := fun env S Q => it env S fun J S0 =>
  ∃ W : Nat → List (D × D) → Sto → Prop, W 0 [] S0 ∧
    (∀ i x acc S, J.xs[i]? = some x → W i acc S → J.chk S ∧ g x (wipe env vs) S fun env2 S2 => c env2 S2 fun b S3 =>
      ifB b (tk env2 S3 fun y S4 => tv env2 S4 fun z S5 => keyOk acc y = true ∧ UpS (W (i + 1) (dicPut acc y z)) S5) (UpS (W (i + 1) acc) S3)) ∧
    ∀ acc S, W J.xs.length acc S → J.chk S ∧ ∀ p o, sget S p = none → Q (.ref p) ((p, .dic o acc) :: S)
theorem dictC_in {it : WI} {g : WG} {c : WT} {tk tv : WE} {vs : List Nat} {env : EV} {S : Sto} {Q : WQ} (h : it env S fun J S0 =>
  ∃ W : Nat → List (D × D) → Sto → Prop, W 0 [] S0 ∧
    (∀ i x acc S, J.xs[i]? = some x → W i acc S → J.chk S ∧ g x (wipe env vs) S fun env2 S2 => c env2 S2 fun b S3 =>
      ifB b (tk env2 S3 fun y S4 => tv env2 S4 fun z S5 => keyOk acc y = true ∧ UpS (W (i + 1) (dicPut acc y z)) S5) (UpS (W (i + 1) acc) S3)) ∧
    ∀ acc S, W J.xs.length acc S → J.chk S ∧ ∀ p o, sget S p = none → Q (.ref p) ((p, .dic o acc) :: S)) : eDictC it g c tk tv vs env S Q := by
  unfold eDictC
  exact h

/-! ### the object -/
theorem dicO_ok {P : Program} {w : World} {H : Hp} {h : Heap} {a : Addr} {o : Obj} (e : h.get? a = some o) : ObjOk P w H h a (DicO a o) := ⟨e, ⟨o, e⟩, fun h1 h2 p k => k o p⟩
theorem dicO_tk {H : Hp} {a : Addr} {o o' : Obj} (h : H a = some (DicO a o)) : Tk H (upd H a (DicO a o')) := .setX h (fun ys z => nomatch z) fun ob u z => nomatch z
section
variable {X : Cx} {pins : List (Addr × Obj)} {σ : L2.St} {H : Hp} {s : Shared} {a : Addr} {o : Obj} {kvs : List (D × D)}
theorem dic_write {h' : Heap} {t' : Nat} {o' : Obj} (I : Inv X pins σ H s) (h : DicAt X.kw H a o kvs) (hs : Heap.SameBut a s.heap h') (e : h'.get? a = some o') : Inv X pins σ (upd H a (DicO a o')) { s with heap := h', toks := t' } :=
  I.write (x := a) (e := a) (by rw [h.1]; trivial) (.inl rfl) (fun b q hb z => (hs.2 b hb).trans z) ⟨_, e⟩ (dicO_ok e)
theorem dic_new (s : Shared) (H : Hp) (I : Inv X pins σ H s) : ∃ o : Obj, o = { cls := .type "dict", data := .dict #[] } ∧ DicAt X.kw (upd H s.heap.objs.size (DicO s.heap.objs.size o)) s.heap.objs.size o [] :=
  ⟨_, rfl, upd_same, beq_eq_false_iff_ne.mpr (Ne.symm (Nat.ne_of_lt I.big)), Nat.zero_le _, #[], 0, ⟨rfl, rfl, rfl⟩, rfl, .inl ⟨[], rfl, List.nodup_nil, .nil⟩⟩
end
/-- what d[y] = z does to the abstract heap -/
def DSet (K : Kw) (H : Hp) (a : Addr) (o : Obj) (kvs : List (D × D)) (k d : D) (Nx : Hp → Prop) : Prop := ∀ o', DicAt K (upd H a (DicO a o')) a o' (dicPut kvs k d) → Tk H (upd H a (DicO a o')) → Nx (upd H a (DicO a o'))
section
variable {X : Cx} {pins : List (Addr × Obj)} {σ : L2.St} {H : Hp} {s : Shared} {a : Addr} {o : Obj} {kvs : List (D × D)} {A : Around}
/-- the store, whatever the road: by its rule for tuples, by its rule for the others -/
theorem set_core {α : Type} {E : Value → Shared → Prop} {m : Sem α} {Q : α → Shared → Prop} {k d : D} {x v : V} {u r : Value} (I : Inv X pins σ H s) (h : DicAt X.kw H a o kvs) (hk : keyOk kvs k = true) (hz : kvs.length < sizeLine) (rk : Rp X.kw H x k) (ru : RelV x u) (rd : Rp X.kw H v d) (rv : RelV v r)
    (road1 : ∀ b xs, u = .ref b → (nestedKind X.prog X.w).is s.heap (nkD k) b → s.heap.DictOfH (nestedKind X.prog X.w) a xs → xs.length ≤ sizeLine →
      (∀ h', h'.DictOfH (nestedKind X.prog X.w) a (storedH xs (nkD k) b r) → Heap.SameBut a s.heap h' → ∀ t, ∃ H', Inv X pins σ H' { s with heap := h', toks := t } ∧ (∃ o', H' = upd H a (DicO a o') ∧ DicAt X.kw H' a o' (dicPut kvs k d) ∧ Tk H H')) → wpAny (model X.prog X.w) A m Q E s)
    (road2 : ∀ ys, (k3 X.prog X.w).is (leafD k) u = true → s.heap.DictOf (k3 X.prog X.w) a ys → ys.length ≤ sizeLine →
      (∀ h', h'.DictOf (k3 X.prog X.w) a (stored ys (leafD k) r) → Heap.SameBut a s.heap h' → ∀ t, ∃ H', Inv X pins σ H' { s with heap := h', toks := t } ∧ (∃ o', H' = upd H a (DicO a o') ∧ DicAt X.kw H' a o' (dicPut kvs k d) ∧ Tk H H')) → wpAny (model X.prog X.w) A m Q E s) : wpAny (model X.prog X.w) A m Q E s := by
  have hl := dicPut_len kvs k d
  rcases keyOk_or hk with ⟨h1, h2⟩ | ⟨h1, h2⟩
  · obtain ⟨xs, hx, pr⟩ := dic_T h I h2
    obtain ⟨b, rfl⟩ := keyT_ref h1 rk
    have ru : u = .ref b := ru
    subst ru
    have hlx : kvs.length = xs.length := Paired.length pr
    refine road1 b xs rfl (key_is I h1 rk) hx (by omega) fun h' dd hs t => ?_
    obtain ⟨o', es, ep, e1, e2, e3, e4, _, e6⟩ := dd
    have tk : Tk H (upd H a (DicO a o')) := dicO_tk h.1
    exact ⟨_, dic_write I h hs e1, o', rfl, ⟨upd_same, h.2.1, by omega, es, ep, e2, e3, .inl ⟨_, e4, e6, Paired.mapP (putT h1 rk rv rd pr) fun _ _ z => z.mono tk⟩⟩, tk⟩
  · obtain ⟨ys, hy, pr⟩ := dic_L h I h2
    have hly : kvs.length = ys.length := Paired.length pr
    refine road2 ys (leaf_is h1 rk ru) hy (by omega) fun h' dd hs t => ?_
    obtain ⟨o', es, ep, e1, e2, e3, e4, e5, e6⟩ := dd
    have tk : Tk H (upd H a (DicO a o')) := dicO_tk h.1
    exact ⟨_, dic_write I h hs e1, o', rfl, ⟨upd_same, h.2.1, by omega, es, ep, e2, e3, .inr ⟨_, e4, e5, e6, Paired.mapP (putL h1 rv rd pr) fun _ _ z => z.mono tk⟩⟩, tk⟩
theorem nest_room {k : Nat} (C : Cok X k) : (nestedKind X.prog X.w).room X.A.in1 := by
  have := C.room.units
  show X.A.in1.units + 8 < cLine
  rw [Around.in1_units]
  omega
theorem nest_room0 {k : Nat} (C : Cok X k) : (nestedKind X.prog X.w).room X.A := by
  have := C.room.units
  show X.A.units + 8 < cLine
  omega
/-- reading: by the rule for tuples, by the rule for the others -/
theorem get_core {α : Type} {E : Value → Shared → Prop} {m : Sem α} {Q : α → Shared → Prop} {k : D} {x : V} {u : Value} (I : Inv X pins σ H s) (h : DicAt X.kw H a o kvs) (hk : keyOk kvs k = true) (rk : Rp X.kw H x k) (ru : RelV x u)
    (road1 : ∀ b xs, u = .ref b → (nestedKind X.prog X.w).is s.heap (nkD k) b → s.heap.DictOfH (nestedKind X.prog X.w) a xs → FndV X.kw H (dicGet kvs k) ((atKey xs (nkD k)).map (·.2)) → wpAny (model X.prog X.w) A m Q E s)
    (road2 : ∀ ys, (k3 X.prog X.w).is (leafD k) u = true → s.heap.DictOf (k3 X.prog X.w) a ys → FndV X.kw H (dicGet kvs k) (valueAt ys (leafD k)) → wpAny (model X.prog X.w) A m Q E s) : wpAny (model X.prog X.w) A m Q E s := by
  rcases keyOk_or hk with ⟨h1, h2⟩ | ⟨h1, h2⟩
  · obtain ⟨xs, hx, pr⟩ := dic_T h I h2
    obtain ⟨b, rfl⟩ := keyT_ref h1 rk
    have ru : u = .ref b := ru
    subst ru
    exact road1 b xs rfl (key_is I h1 rk) hx (getT pr)
  · obtain ⟨ys, hy, pr⟩ := dic_L h I h2
    exact road2 ys (leaf_is h1 rk ru) hy (getL h1 pr)
end
section
variable {X : Cx} {a b : Expr} {ta tb : WE} {pos : Pos} {k : Nat}
/-! ### {}, in, not in, d[k], d[k] = v -/
theorem q_dict0 : QE X (.Dict [] [] pos) eDict0 := ⟨fun pins s σ H Q I ⟨env, S, Q0, er, so, q, ps⟩ => by
  obtain ⟨o, ho, hd⟩ := dic_new s H I
  have hn : H s.heap.objs.size = none := I.hok.fresh (Nat.le_refl _)
  refine wpAny_Dict_empty ⟨.ref s.heap.objs.size, _, I.laid (a := s.heap.objs.size) (o := DicO s.heap.objs.size o) (t' := s.toks) (fun _ _ q => Heap.get?_push_of_some _ q) (Nat.le_refl _) (dicO_ok (by rw [ho]; exact Heap.get?_push_size _ rfl)), rfl, ?_⟩
  exact ps _ _ (q _ o (so.none hn)) _ _ (.ref _) (so.newO hn hd) (.new S hn)⟩
def rInK (X : Cx) (u : Bool → Bool) : R2 := fun x y H Q => ∃ a o kvs kd, y = .ref a ∧ Rp X.kw H x kd ∧ DicAt X.kw H a o kvs ∧ keyOk kvs kd = true ∧ Q (.bl (u (dicGet kvs kd).isSome)) H
theorem op_inK (C : Cok X k) : OpR X (compareOp .In) (rInK X fun b => b) := by
  intro pins s σ H x y v u Q I rx ry h
  obtain ⟨a, o, kvs, kd, rfl, rk, hd, hk, q⟩ := h
  cases ry
  refine get_core I hd hk rk rx (fun b xs e hkey hm f => ?_) fun ys hkey hm f => ?_
  · subst e
    have := f.some
    rw [Option.isSome_map] at this
    exact wpAny_in_heap (nest_room C) hkey hd.2.1 hm ⟨.bl _, H, I.tok _, rfl, by rw [← this]; exact q⟩
  · exact wpAny_in_of hkey hd.2.1 hm.mapOf ⟨.bl _, H, I.tok _, rfl, by rw [← f.some]; exact q⟩
theorem op_notInK (C : Cok X k) : OpR X (compareOp .NotIn) (rInK X fun b => !b) := by
  intro pins s σ H x y v u Q I rx ry h
  obtain ⟨a, o, kvs, kd, rfl, rk, hd, hk, q⟩ := h
  cases ry
  refine get_core I hd hk rk rx (fun b xs e hkey hm f => ?_) fun ys hkey hm f => ?_
  · subst e
    have := f.some
    rw [Option.isSome_map] at this
    exact wpAny_notIn_heap (nest_room C) hkey hd.2.1 hm ⟨.bl _, H, I.tok _, rfl, by rw [← this]; exact q⟩
  · exact wpAny_notIn_of hkey hd.2.1 hm.mapOf ⟨.bl _, H, I.tok _, rfl, by rw [← f.some]; exact q⟩
theorem opr_inK {u : Bool → Bool} : Opr X (rInK X u) (dInD u) := fun x y S Q0 v w H Q h rv ru so ps => by
  unfold dInD at h
  split at h
  · cases ru
    obtain ⟨o, kvs, e, hk, q⟩ := onD_iff.mp h
    exact ⟨_, o, kvs, x, rfl, rv, so _ _ e, hk, ps.here so q (.bl _)⟩
  · exact h.elim
theorem q_inK (C : Cok X k) (ha : QE X a ta) (hb : QE X b tb) (hm : behindInMarks .In b = false := by first | exact nomark _ | rfl) : QE X (.Compare a [.In] [b] pos) (eBin dInK ta tb) := q_cmp (op_inK C) opr_inK ha hb hm
theorem q_notInK (C : Cok X k) (ha : QE X a ta) (hb : QE X b tb) (hm : behindInMarks .NotIn b = false := by first | exact nomark _ | rfl) : QE X (.Compare a [.NotIn] [b] pos) (eBin dNotInK ta tb) := q_cmp (op_notInK C) opr_inK ha hb hm
theorem qt_inK (C : Cok X k) (ha : QE X a ta) (hb : QE X b tb) (hm : behindInMarks .In b = false := by first | exact nomark _ | rfl) : QT X (.Compare a [.In] [b] pos) (DL.tB (eBin dInK ta tb)) := qt_cmp (op_inK C) opr_inK ha hb hm
theorem qt_notInK (C : Cok X k) (ha : QE X a ta) (hb : QE X b tb) (hm : behindInMarks .NotIn b = false := by first | exact nomark _ | rfl) : QT X (.Compare a [.NotIn] [b] pos) (DL.tB (eBin dNotInK ta tb)) := qt_cmp (op_notInK C) opr_inK ha hb hm
def rGetK (X : Cx) : R2 := fun x y H Q => ∃ a o kvs kd d, x = .ref a ∧ Rp X.kw H y kd ∧ DicAt X.kw H a o kvs ∧ keyOk kvs kd = true ∧ dicGet kvs kd = some d ∧ ∀ v, Rp X.kw H v d → Q v H
theorem ix_K (C : Cok X k) : IxR X (rGetK X) := by
  intro value slice pins s σ H x y v u Q I rx ry h hs
  obtain ⟨a, o, kvs, kd, d, rfl, rk, hd, hk, e, q⟩ := h
  cases rx
  refine get_core I hd hk rk ry (fun b xs e2 hkey hm f => ?_) fun ys hkey hm f => ?_
  · subst e2
    rw [e] at f
    cases hp : atKey xs (nkD kd) with
    | none => rw [hp] at f; exact f.elim
    | some p =>
      rw [hp] at f
      obtain ⟨z, rz, rd⟩ := f
      exact tail_any hm.typeIs PySem.F.slot_dict_getitem.lookup (wpAny_getItem_heap (nest_room C) hkey hm hp ⟨z, H, I.tok _, rz, q z rd⟩) hs
  · rw [e] at f
    cases hp : valueAt ys (leafD kd) with
    | none => rw [hp] at f; exact f.elim
    | some p =>
      rw [hp] at f
      obtain ⟨z, rz, rd⟩ := f
      exact tail_any hm.typeIs PySem.F.slot_dict_getitem.lookup (wpAny_getItem_of hkey hm.mapOf hp ⟨z, H, I.tok _, rz, q z rd⟩) hs
theorem q_getK (C : Cok X k) (ha : QE X a ta) (hb : QE X b tb) (hs : PlainIx b := by exact fun _ _ => rfl) : QE X (.Subscript a b pos) (eBin dGetK ta tb) := (pe_ix (ix_K C) ha hb hs).imp' fun σ H Q h => lE_bin h fun x y S2 Q0 v u H2 h rv ru so ps => by
  unfold dGetK at h
  split at h
  · cases rv
    obtain ⟨o, kvs, e, hk, q⟩ := onD_iff.mp h
    unfold onGet at q
    split at q
    · rename_i d hd
      exact ⟨_, o, kvs, y, d, rfl, ru, so _ _ e, hk, hd, fun v rd => ps.here so q rd⟩
    · exact q.elim
  · exact h.elim
def rSetK (X : Cx) : V → V → V → Hp → (Hp → Prop) → Prop := fun x y v H Q => ∃ a o kvs kd d, x = .ref a ∧ Rp X.kw H y kd ∧ Rp X.kw H v d ∧ DicAt X.kw H a o kvs ∧ keyOk kvs kd = true ∧ kvs.length < sizeLine ∧ DSet X.kw H a o kvs kd d Q
theorem set_K (C : Cok X k) : PSet X (rSetK X) := by
  intro pins s σ H x y v ov iv u Q I ro ri rv h
  obtain ⟨a, o, kvs, kd, d, rfl, rk, rd, hd, hk, hz, q⟩ := h
  cases ro
  refine set_core I hd hk hz rk ri rd rv (fun b xs e hkey hm hl fin => ?_) fun ys hkey hm hl fin => ?_
  · subst e
    exact wpAny_setItem_heap (hsz := hl) (nest_room C) hkey hm fun h' dd hs => by
      obtain ⟨H', I', o', rfl, d', tk⟩ := fin h' dd hs _
      exact ⟨_, I', q o' d' tk⟩
  · exact wpAny_setItem_pairs (hsz := hl) hkey hm fun h' dd hs => by
      obtain ⟨H', I', o', rfl, d', tk⟩ := fin h' dd hs _
      exact ⟨_, I', q o' d' tk⟩
theorem qg_subK (C : Cok X k) {o i : Expr} {ta ti : WE} (ho : QE X o ta) (hi : QE X i ti)
    (ha : ∀ v, assign (.Subscript o i pos) X.env v = (do
      let ov ← holding [v] (eval o X.env)
      let iv ← holding [v, ov] (eval i X.env)
      standAt pos
      holding [v, ov, iv] (setItem ov iv v)
      release [v, ov, iv] []) := by intro _; rfl) : QG X (.Subscript o i pos) (gSubK ta ti) :=
  (pg_sub ho hi (set_K C) ha).imp' fun v σ H Q ⟨d, env, S, Q0, rv, er, so, q, ps⟩ => by
  refine ⟨env, S, _, er, so, q, fun x S1 h1 w H1 rw' s1 f1 => ?_⟩
  refine ⟨env, S1, _, er.mono f1.tk, s1, h1, fun y S2 h2 u H2 ru s2 f2 => ?_⟩
  split at h2
  · cases rw'
    obtain ⟨ob, kvs, e, ⟨hk, hz⟩, q2⟩ := onD_iff.mp h2
    have ff := f1.trans f2
    refine ⟨_, ob, kvs, y, d, rfl, ru, rv.mono ff.tk, s2 _ _ e, hk, hz, fun o' d' tk => ?_⟩
    exact ps _ _ (q2 o') _ _ ((er.mono ff.tk).mono tk) (s2.setX e tk d') (ff.trans (.setX e tk))
  · exact h2.elim
end
/-! ### methods -/
section
variable {X : Cx} {o e : Expr} {es : List Expr} {to : WE} {t : WA} {name : Str} {id : String} {apos cpos : Pos} {k : Nat}
theorem dic_ty {X : Cx} {pins : List (Addr × Obj)} {σ : L2.St} {H : Hp} {s : Shared} {a : Addr} {o : Obj} {kvs : List (D × D)} (h : DicAt X.kw H a o kvs) (I : Inv X pins σ H s) : s.TypeIs (.ref a) "dict" ∧ ∀ b, Value.ref a = .ref b → ∃ ob, s.heap.get? b = some ob ∧ ob.dict = none := by
  have e := h.get I
  obtain ⟨_, _, _, es, ep, h1, _⟩ := h
  exact ⟨⟨o, e, h1.1⟩, fun b z => by cases z; exact ⟨o, e, h1.2.1⟩⟩
def tMK (X : Cx) (r : V → List V → Hp → VK → Prop) (to : TE) (t : TA) : TE := fun σ H Q => to σ H fun x H1 => (∃ a o kvs, x = V.ref a ∧ DicAt X.kw H1 a o kvs) ∧ t σ H1 fun xs H2 => r x xs H2 Q
theorem pe_mK {r : V → List V → Hp → VK → Prop} {to : TE} {t : TA} (slot : Slot "dict" name id) (hty : typeOf (.builtin id) = pure (.type "method_descriptor")) (hm : MtR X id r) (ho : PE X o to) (ha : PA X (e :: es) t)
    (hbase : attributeBase o name X.env (eval o X.env) = eval o X.env := by rfl)
    (hfew : ((backTo cpos (starEach (e :: es) X.env)).all (fun x => !x.1) && (backToKw cpos (keywordEach [] X.env)).all (fun x => x.1.isSome)
      && decide ((e :: es).length + ([] : List Keyword).length + (if ([] : List Keyword).isEmpty then 0 else 1) < 30)) = true := by rfl)
    (hline : (apos.endLine == cpos.line) = true := by rfl) (hs : starEach (e :: es) X.env = (false, eval e X.env) :: starEach es X.env := by rfl) (hplain : (backTo cpos (starEach es X.env)).any (·.1) = false := by rfl) :
    PE X (.Call (.Attribute o name apos) (e :: es) [] cpos) (tMK X r to t) := by
  refine ⟨fun pins s σ H Q I h => wpAny_Call_method_late hbase hfew hline rfl (thn (ho.run pins s σ H _ I h) fun v s1 ⟨x, H1, I1, r1, ⟨a, ob, kvs, hx, hd⟩, q1⟩ => ?_)⟩
  subst hx
  cases r1
  obtain ⟨g1, g2⟩ := dic_ty hd I1
  refine ⟨"dict", id, PySem.F.plainAttrs_dict, slot, hty, g1, g2, ?_⟩
  have hA := ha.run cpos pins s1 σ H1 _ I1 q1
  rw [hs] at hA ⊢
  refine Calls.callWith_builtin (by show (false || (backTo cpos (starEach es X.env)).any (·.1)) = false; rw [hplain] <;> rfl) (Calls.evalArgs_plain ?_)
  exact thn hA fun us s2 ⟨vs, H2, I2, r2, q2⟩ => hm pins s2 σ H2 (.ref a) vs (.ref a) us Q I2 rfl r2 q2
theorem q_mK {r : V → List V → Hp → VK → Prop} {m : D → List D → Sto → WQ → Prop} (slot : Slot "dict" name id) (hty : typeOf (.builtin id) = pure (.type "method_descriptor")) (hm : MtR X id r)
    (hr : ∀ a ds S Q0 vs H Q, m (.ref a) ds S Q0 → RpAll X.kw H vs ds → SOk X.kw H S → PostE X.kw S H Q0 Q → r (.ref a) vs H Q) (ho : QE X o to) (ha : QA X (e :: es) t)
    (hbase : attributeBase o name X.env (eval o X.env) = eval o X.env := by rfl)
    (hfew : ((backTo cpos (starEach (e :: es) X.env)).all (fun x => !x.1) && (backToKw cpos (keywordEach [] X.env)).all (fun x => x.1.isSome)
      && decide ((e :: es).length + ([] : List Keyword).length + (if ([] : List Keyword).isEmpty then 0 else 1) < 30)) = true := by rfl)
    (hline : (apos.endLine == cpos.line) = true := by rfl) (hs : starEach (e :: es) X.env = (false, eval e X.env) :: starEach es X.env := by rfl) (hplain : (backTo cpos (starEach es X.env)).any (·.1) = false := by rfl) :
    QE X (.Call (.Attribute o name apos) (e :: es) [] cpos) (eMethK m to t) := (pe_mK slot hty hm ho ha hbase hfew hline hs hplain).imp' fun σ H Q ⟨env, S, Q0, er, so, q, ps⟩ => by
  refine ⟨env, S, _, er, so, q, fun d S1 h1 v H1 rv s1 f1 => ?_⟩
  split at h1
  · cases rv
    obtain ⟨ob, kvs, e1, h1⟩ := onD_iff.mp h1
    exact ⟨⟨_, ob, kvs, rfl, s1 _ _ e1⟩, env, S1, _, er.mono f1.tk, s1, h1, fun ds S2 h3 ws H2 rs s2 f2 => hr _ _ _ _ _ _ _ h3 rs s2 (ps.trans (f1.trans f2))⟩
  · exact h1.elim
theorem FndV.getD {K : Kw} {H : Hp} {o : Option D} {u : Option Value} {z : D} {x : V} {r : Value} (h : FndV K H o u) (rz : Rp K H x z) (rx : RelV x r) : ∃ v, RelV v (u.getD r) ∧ Rp K H v (o.getD z) := by
  cases o <;> cases u <;> first | exact h.elim | exact ⟨x, rx, rz⟩ | exact h
def rMGetK (X : Cx) : V → List V → Hp → VK → Prop := fun x xs H Q => ∃ a ob kvs kd, x = .ref a ∧ DicAt X.kw H a ob kvs ∧ keyOk kvs kd = true ∧
  ((∃ y, xs = [y] ∧ Rp X.kw H y kd ∧ ∀ v, Rp X.kw H v ((dicGet kvs kd).getD .non) → Q v H) ∨ ∃ y z zd, xs = [y, z] ∧ Rp X.kw H y kd ∧ Rp X.kw H z zd ∧ ∀ v, Rp X.kw H v ((dicGet kvs kd).getD zd) → Q v H)
theorem mt_getK (C : Cok X k) : MtR X "dict.get" (rMGetK X) := by
  intro pins s σ H x xs v us Q I rx rxs h
  obtain ⟨a, ob, kvs, kd, rfl, hd, hk, h⟩ := h
  cases rx
  rcases h with ⟨y, rfl, rk, q⟩ | ⟨y, z, zd, rfl, rk, rz, q⟩
  · cases rxs with
    | cons ry rt =>
    cases rt
    refine get_core I hd hk rk ry (fun b xs e hkey hm f => ?_) fun ys hkey hm f => ?_
    · subst e
      obtain ⟨w, w1, w2⟩ := f.getD (r := .none) (.non) rfl
      rw [← valueAt_pairsH] at w1
      exact get_keyed (nest_room C) hkey hd.2.1 ⟨xs, hm, rfl⟩ ⟨w, H, I.tok _, w1, q w w2⟩
    · obtain ⟨w, w1, w2⟩ := f.getD (r := .none) (.non) rfl
      exact call_meetsIn PySem.F.slot_dict_get hm.typeIs PySem.F.entry_dict_get (PySem.F.args_dict_get_2 _ _) (meets_dict_get (k3 X.prog X.w) a hkey hd.2.1) ⟨_, hm.mapOf, ⟨w, H, I.tok _, w1, q w w2⟩⟩
  · cases rxs with
    | cons ry rt =>
    cases rt with
    | cons rr rt =>
    cases rt
    refine get_core I hd hk rk ry (fun b xs e hkey hm f => ?_) fun ys hkey hm f => ?_
    · subst e
      obtain ⟨w, w1, w2⟩ := f.getD rz rr
      rw [← valueAt_pairsH] at w1
      exact getOr_keyed (nest_room C) hkey hd.2.1 ⟨xs, hm, rfl⟩ ⟨w, H, I.tok _, w1, q w w2⟩
    · obtain ⟨w, w1, w2⟩ := f.getD rz rr
      exact call_meetsIn PySem.F.slot_dict_get hm.typeIs PySem.F.entry_dict_get (PySem.F.args_dict_get_3 _ _ _) (meets_dict_get_default (k3 X.prog X.w) a hkey hd.2.1 _) ⟨_, hm.mapOf, ⟨w, H, I.tok _, w1, q w w2⟩⟩
theorem q_mgetK (C : Cok X k) {o : Expr} {to : WE} {apos cpos : Pos} (ho : QE X o to) (ha : QA X (e :: es) t)
    (hbase : attributeBase o "get" X.env (eval o X.env) = eval o X.env := by rfl)
    (hfew : ((backTo cpos (starEach (e :: es) X.env)).all (fun x => !x.1) && (backToKw cpos (keywordEach [] X.env)).all (fun x => x.1.isSome)
      && decide ((e :: es).length + ([] : List Keyword).length + (if ([] : List Keyword).isEmpty then 0 else 1) < 30)) = true := by rfl)
    (hline : (apos.endLine == cpos.line) = true := by rfl) (hs : starEach (e :: es) X.env = (false, eval e X.env) :: starEach es X.env := by rfl) (hplain : (backTo cpos (starEach es X.env)).any (·.1) = false := by rfl) :
    QE X (.Call (.Attribute o "get" apos) (e :: es) [] cpos) (eMethK mGetK to t) :=
  q_mK PySem.F.slot_dict_get PySem.F.type_dict_get (mt_getK C) (fun a ds S Q0 vs H Q h rs so ps => by
    rcases ds with _ | ⟨y, _ | ⟨z, _ | ⟨z2, ds⟩⟩⟩
    · exact h.elim
    · cases rs with
      | cons r1 r2 =>
        cases r2
        obtain ⟨ob, kvs, e1, hk, q⟩ := onD_iff.mp h
        exact ⟨_, ob, kvs, _, rfl, so _ _ e1, hk, .inl ⟨_, rfl, r1, fun v rv => ps.here so q rv⟩⟩
    · cases rs with
      | cons r1 r2 =>
      cases r2 with
      | cons r2 r3 =>
        cases r3
        obtain ⟨ob, kvs, e1, hk, q⟩ := onD_iff.mp h
        exact ⟨_, ob, kvs, _, rfl, so _ _ e1, hk, .inr ⟨_, _, _, rfl, r1, r2, fun v rv => ps.here so q rv⟩⟩
    · exact h.elim) ho ha hbase hfew hline hs hplain
end
end DL

/-! DR: dicts walked, len, list, setdefault; insert and pop of lists. -/
namespace DL
open PySem PySem.Spec PyProof.Rows L2
/-! ### list.pop(i), list.insert(i, y) -/
def mPopAt (x : D) (ds : List D) (S : Sto) (Q : WQ) : Prop := match x, ds with
  | .ref a, [.int i] => onL S a fun xs => (0 ≤ i ∧ i < 2 ^ 62) ∧ onGet xs[i.toNat]? fun d => Q d (sset S a (.lst (xs.eraseIdx i.toNat)))
  | _, _ => False
def mInsert (x : D) (ds : List D) (S : Sto) (Q : WQ) : Prop := match x, ds with
  | .ref a, [.int i, y] => onL S a fun xs => (xs.length < sizeLine ∧ 0 ≤ i ∧ i < 2 ^ 62) ∧ Q .non (sset S a (.lst (xs.take i.toNat ++ [y] ++ xs.drop i.toNat)))
  | _, _ => False
theorem seq_ix {i : Int} {n : Nat} (h : 0 ≤ i) (hl : i.toNat < n) : seqIndex? i n = some i.toNat := by
  have h1 : ¬ i < 0 := by omega
  have h2 : i < (n : Int) := by omega
  simp [seqIndex?, h1, h2, h]
theorem RpAll.erase {K : Kw} {H : Hp} {vs : List V} {ds : List D} (r : RpAll K H vs ds) : ∀ k : Nat, RpAll K H (vs.eraseIdx k) (ds.eraseIdx k) := by
  induction r using RpAll.rec (motive_1 := fun _ _ _ => True) with
  | nil => intro k; simp; exact .nil
  | cons h t _ ih =>
    intro k
    cases k with
    | zero => exact t
    | succ k => exact .cons h (ih k)
  | _ => trivial
section
variable {X : Cx} {e : Expr} {es : List Expr} {t : WA}
theorem q_popAt {o : Expr} {to : WE} {apos cpos : Pos} (ho : QE X o to) (ha : QA X (e :: es) t)
    (hbase : attributeBase o "pop" X.env (eval o X.env) = eval o X.env := by rfl)
    (hfew : ((backTo cpos (starEach (e :: es) X.env)).all (fun x => !x.1) && (backToKw cpos (keywordEach [] X.env)).all (fun x => x.1.isSome)
      && decide ((e :: es).length + ([] : List Keyword).length + (if ([] : List Keyword).isEmpty then 0 else 1) < 30)) = true := by rfl)
    (hline : (apos.endLine == cpos.line) = true := by rfl) (hs : starEach (e :: es) X.env = (false, eval e X.env) :: starEach es X.env := by rfl) (hplain : (backTo cpos (starEach es X.env)).any (·.1) = false := by rfl) :
    QE X (.Call (.Attribute o "pop" apos) (e :: es) [] cpos) (eMethL mPopAt to t) :=
  q_methL PySem.F.slot_list_pop PySem.F.type_list_pop mt_popAt (fun a ds S Q0 vs H Q h rs so ps => by
    unfold mPopAt at h
    split at h
    · rename_i a' i he
      cases he
      cases rs with
      | cons r1 r2 =>
        cases r1; cases r2
        obtain ⟨xs, e1, ⟨h0, h1⟩, h⟩ := onL_iff.mp h
        obtain ⟨ws, h2, r3, hz⟩ := so.lst e1
        unfold onGet at h
        split at h
        · rename_i d hd
          obtain ⟨v, hv, rv⟩ := r3.get hd
          have hl : i.toNat < xs.length := (List.getElem?_eq_some_iff.mp hd).1
          have hs : seqIndex? i ws.length = some i.toNat := by
            rw [r3.length]
            exact seq_ix h0 hl
          refine ⟨_, ws, i, i.toNat, v, rfl, rfl, h2, by omega, by omega, hs, hv, ?_⟩
          exact ps _ _ h _ _ (rv.mono (.set h2)) (so.set e1 h2 (r3.erase _) (Nat.le_trans (List.length_eraseIdx_le _ _) hz)) (.set e1 h2)
        · exact h.elim
    · exact h.elim) ho ha hbase hfew hline hs hplain
theorem q_insert {o : Expr} {to : WE} {apos cpos : Pos} (ho : QE X o to) (ha : QA X (e :: es) t)
    (hbase : attributeBase o "insert" X.env (eval o X.env) = eval o X.env := by rfl)
    (hfew : ((backTo cpos (starEach (e :: es) X.env)).all (fun x => !x.1) && (backToKw cpos (keywordEach [] X.env)).all (fun x => x.1.isSome)
      && decide ((e :: es).length + ([] : List Keyword).length + (if ([] : List Keyword).isEmpty then 0 else 1) < 30)) = true := by rfl)
    (hline : (apos.endLine == cpos.line) = true := by rfl) (hs : starEach (e :: es) X.env = (false, eval e X.env) :: starEach es X.env := by rfl) (hplain : (backTo cpos (starEach es X.env)).any (·.1) = false := by rfl) :
    QE X (.Call (.Attribute o "insert" apos) (e :: es) [] cpos) (eMethL mInsert to t) :=
  q_methL PySem.F.slot_list_insert PySem.F.type_list_insert mt_insert (fun a ds S Q0 vs H Q h rs so ps => by
    unfold mInsert at h
    split at h
    · rename_i a' i y he
      cases he
      cases rs with
      | cons r1 r2 =>
      cases r2 with
      | cons r2 r3 =>
        cases r1; cases r3
        obtain ⟨xs, e1, ⟨hz, h0, h1⟩, q⟩ := onL_iff.mp h
        obtain ⟨ws, h2, r3, _⟩ := so.lst e1
        exact ⟨_, ws, i, _, rfl, rfl, h2, by rw [r3.length]; exact hz, h0, by omega,
          ps _ _ q _ _ .non (so.set e1 h2 (((RpAll.take _ r3).append (.cons r2 .nil)).append (RpAll.drop _ r3)) (by simp only [List.length_append, List.length_take, List.length_drop, List.length_cons, List.length_nil]; omega)) (.set e1 h2)⟩
    · exact h.elim) ho ha hbase hfew hline hs hplain
end
/-! ### a dict's entries -/
section
variable {X : Cx} {pins : List (Addr × Obj)} {σ : L2.St} {H : Hp} {s : Shared} {a : Addr} {o : Obj} {kvs : List (D × D)}
/-- a value over addresses, of this datum -/
def Itm (K : Kw) (H : Hp) (u : Value) (d : D) : Prop := ∃ v, RelV v u ∧ Rp K H v d
theorem leaf_rp {K : Kw} {H : Hp} {d : D} {u : Value} (h : keyL d = true) (hk : (k3 K.P K.w).is (leafD d) u = true) : Itm K H u d := by
  cases d <;> first | (exfalso; cases h; done) | skip
  · have : u = .none := by
      change (Leaf.isOf .none u && noB u) = true at hk
      cases u <;> first | rfl | (exfalso; simp [Leaf.isOf] at hk)
    exact ⟨.non, this, .non⟩
  · rename_i i
    obtain ⟨t, rfl⟩ : ∃ t, u = .int i t := by
      change (Leaf.isOf (.num i) u && noB u) = true at hk
      cases u <;> simp_all [Leaf.isOf, noB]
    exact ⟨.int i, ⟨t, rfl⟩, .int i⟩
  · rename_i x
    obtain ⟨t, rfl⟩ : ∃ t, u = .str x t := by
      change (Leaf.isOf (.text x) u && noB u) = true at hk
      cases u <;> simp_all [Leaf.isOf, noB, Value.isStrOf]
    exact ⟨.str x, ⟨t, rfl⟩, .str x⟩
theorem pairs_at {K : Kw} {es : List DictEntry} {ys : List (Leaf × Value)} (h : Pairs (k3 K.P K.w) es ys) : ∀ {i : Nat} {y : Leaf × Value}, ys[i]? = some y → ∃ en, es[i]? = some en ∧ (k3 K.P K.w).is y.1 en.key = true ∧ en.val = y.2 := by
  induction h with
  | nil => intro i y e; simp at e
  | cons h1 h2 _ ih =>
    intro i y e
    cases i with
    | zero =>
      have e : _ = y := Option.some.inj e
      subst e
      exact ⟨_, rfl, h1, h2⟩
    | succ i => exact ih (by simpa using e)
/-- the entries, one by one -/
structure Ents (K : Kw) (H : Hp) (o : Obj) (kvs : List (D × D)) (es : Array DictEntry) (ep : Nat) : Prop where
  cls : o.ExactDict
  data : o.data = .dict es ep
  size : es.size = kvs.length
  at' : ∀ (i : Nat) (p : D × D), kvs[i]? = some p → ∃ en, es[i]? = some en ∧ Itm K H en.key p.1 ∧ Itm K H en.val p.2
theorem dic_ents {K : Kw} {H : Hp} {a : Addr} {o : Obj} {kvs : List (D × D)} (h : DicAt K H a o kvs) : ∃ es ep, Ents K H o kvs es ep := by
  obtain ⟨_, _, _, es, ep, h1, h2, h3⟩ := h
  refine ⟨es, ep, h1, h2, ?_, ?_⟩
  · rw [← Array.length_toList]
    rcases h3 with ⟨xs, e1, e2, e3⟩ | ⟨ys, e1, e2, e3, e4⟩
    · rw [e1, List.length_map]
      exact (Paired.length e3).symm
    · rw [e2.length]
      exact (Paired.length e4).symm
  · intro i p hp
    rcases h3 with ⟨xs, e1, e2, e3⟩ | ⟨ys, e1, e2, e3, e4⟩
    · obtain ⟨x, hx, r⟩ := Paired.getL e3 hp
      refine ⟨entryOfKey (nestedKind K.P K.w) x, ?_, ⟨.ref x.2.1, rfl, r.key⟩, r.val⟩
      rw [← Array.getElem?_toList, e1, List.getElem?_map, hx]
      rfl
    · obtain ⟨y, hy, r⟩ := Paired.getL e4 hp
      obtain ⟨en, h4, h5, h6⟩ := pairs_at e2 hy
      refine ⟨en, by rw [← Array.getElem?_toList]; exact h4, leaf_rp r.ok (by rw [← r.eq]; exact h5), ?_⟩
      rw [h6]
      exact r.val
theorem Ents.raw {es : Array DictEntry} {ep : Nat} (h : Ents X.kw H o kvs es ep) (I : Inv X pins σ H s) (hd : H a = some (DicO a o)) : s.heap.DictRaw a es ep := ⟨o, (I.hok a _ hd).1, h.cls, h.data⟩
end
/-! ### for k in d, for v in d.values() -/
/-- the keys (w = false) or the values of the dict whose object is o -/
def entV (w : Bool) (en : DictEntry) : Value := if w then en.val else en.key
def entD (w : Bool) (p : D × D) : D := if w then p.2 else p.1
def ItD (w : Bool) (a : Addr) (o : Obj) (es : Array DictEntry) : L2.It :=
  ⟨fun i H => H a = some (DicO a o) ∧ i < es.size, fun i H x H' => H' = H ∧ ∃ en, es[i]? = some en ∧ RelV x (entV w en), fun i H => H a = some (DicO a o) ∧ es.size ≤ i⟩
def vOf : Value → V
  | .none => .non
  | .bool b => .bl b
  | .int i _ => .int i
  | .str x _ => .str x
  | .bytes b _ => .byt b
  | .float b _ => .flt b
  | .ref a => .ref a
  | .type n => .ty n
  | _ => .non
theorem vOf_rel {v : V} {u : Value} (h : L2.RelV v u) : vOf u = v := by
  cases v <;> first | (cases h; rfl) | (obtain ⟨t, rfl⟩ := h; rfl)
theorem relV_inj {v v' : V} {u : Value} (h : L2.RelV v u) (h' : L2.RelV v' u) : v = v' := by rw [← vOf_rel h, ← vOf_rel h']
section
variable {P : Program} {w : World} {K : PySem.W.Frag} {tg : Expr} {a : Addr} {o : Obj} {es : Array DictEntry} {ep : Nat}
theorem raw_of {X : Cx} {pins : List (Addr × Obj)} {σ : L2.St} {H : Hp} {s : Shared} (I : Inv X pins σ H s) (hc : o.ExactDict) (hd : o.data = .dict es ep) (h : H a = some (DicO a o)) : s.heap.DictRaw a es ep := ⟨o, (I.hok a _ h).1, hc, hd⟩
theorem turn_dk (it : Addr) (hc' : o.ExactDict) (hdt : o.data = .dict es ep) (hcar : ∀ (X : Cx) (pins : List (Addr × Obj)) (σ : L2.St) (H : Hp) (s : Shared) (i : Nat) (en : DictEntry), X.prog = P → X.w = w → Inv X pins σ H s → H a = some (DicO a o) → es[i]? = some en → ∃ x, RelV x en.key) :
    Turn P w K tg (ItD false a o es) [it] it (fun i h => h.IsKeyIter it a i es.size ep) where
  mem := by simp
  obj := fun i h st b hb => by
    obtain rfl : b = it := by simpa using hb
    obtain ⟨oi, e, c, dd⟩ := st
    exact ⟨oi, e, fun v z => by rw [dd] at z; cases z⟩
  keep := fun i h h' st k => st.at fun oi e => k it (by simp) oi e
  item := by
    intro X hP hw hK hc i pins s σ H E I hf st hg
    subst hP hw hK
    obtain ⟨hd, hi⟩ := hg
    obtain ⟨f0, f1, f2, f3, f4, f5⟩ := hf it (by simp)
    refine wpAny_pyNext_keys_item_raw st (raw_of I hc' hdt hd) hi fun h' st' sb => ?_
    have I1 : Inv X pins σ H { s with heap := h' } := I.turned (t' := s.toks) (fun b ob hb e => (sb.2 b hb).trans e) f0 f1 f3 f4 f5
    obtain ⟨oi, e, c, dd⟩ := id st'
    obtain ⟨x, rx⟩ := hcar X pins σ H s i es[i] rfl rfl I hd (Array.getElem?_eq_getElem hi)
    exact ⟨es[i].key, rfl, go_of (s := { s with heap := h' }) e c dd (by decide) ⟨x, H, I1, rx, ⟨rfl, _, Array.getElem?_eq_getElem hi, rx⟩, st', fun b hb => (hf b hb).1⟩⟩
  done := by
    intro X hP hw hK hc i pins s σ H E I hf st hg
    subst hP hw hK
    obtain ⟨hd, hi⟩ := hg
    obtain ⟨f0, f1, f2, f3, f4, f5⟩ := hf it (by simp)
    exact wpAny_pyNext_keys_end_raw (I.ok.hd hc) st (raw_of I hc' hdt hd) hi fun h' eb => ⟨rfl, I.turned (t' := s.toks) (fun b ob hb e => eb b ob hb e) f0 f1 f3 f4 f5⟩
  self := fun A i s Q E st h => wpAny_pyIter_keyiter st h
theorem turn_dv (it : Addr) (hc' : o.ExactDict) (hdt : o.data = .dict es ep) (hcar : ∀ (X : Cx) (pins : List (Addr × Obj)) (σ : L2.St) (H : Hp) (s : Shared) (i : Nat) (en : DictEntry), X.prog = P → X.w = w → Inv X pins σ H s → H a = some (DicO a o) → es[i]? = some en → ∃ x, RelV x en.val) :
    Turn P w K tg (ItD true a o es) [it] it (fun i h => h.IsValIter it a i es.size ep) where
  mem := by simp
  obj := fun i h st b hb => by
    obtain rfl : b = it := by simpa using hb
    obtain ⟨oi, e, c, dd⟩ := st
    exact ⟨oi, e, fun v z => by rw [dd] at z; cases z⟩
  keep := fun i h h' st k => st.at fun oi e => k it (by simp) oi e
  item := by
    intro X hP hw hK hc i pins s σ H E I hf st hg
    subst hP hw hK
    obtain ⟨hd, hi⟩ := hg
    obtain ⟨f0, f1, f2, f3, f4, f5⟩ := hf it (by simp)
    refine wpAny_pyNext_values_item_raw st (raw_of I hc' hdt hd) hi fun h' st' sb => ?_
    have I1 : Inv X pins σ H { s with heap := h' } := I.turned (t' := s.toks) (fun b ob hb e => (sb.2 b hb).trans e) f0 f1 f3 f4 f5
    obtain ⟨oi, e, c, dd⟩ := id st'
    obtain ⟨x, rx⟩ := hcar X pins σ H s i es[i] rfl rfl I hd (Array.getElem?_eq_getElem hi)
    exact ⟨es[i].val, rfl, go_of (s := { s with heap := h' }) e c dd (by decide) ⟨x, H, I1, rx, ⟨rfl, _, Array.getElem?_eq_getElem hi, rx⟩, st', fun b hb => (hf b hb).1⟩⟩
  done := by
    intro X hP hw hK hc i pins s σ H E I hf st hg
    subst hP hw hK
    obtain ⟨hd, hi⟩ := hg
    obtain ⟨f0, f1, f2, f3, f4, f5⟩ := hf it (by simp)
    exact wpAny_pyNext_values_end_raw (I.ok.hd hc) st (raw_of I hc' hdt hd) hi fun h' eb => ⟨rfl, I.turned (t' := s.toks) (fun b ob hb e => eb b ob hb e) f0 f1 f3 f4 f5⟩
  self := fun A i s Q E st h => wpAny_pyIter_valiter st h
end
theorem ents_rel {K : Kw} {H : Hp} {o : Obj} {kvs : List (D × D)} {es : Array DictEntry} {ep : Nat} (h : Ents K H o kvs es ep) {i : Nat} {en : DictEntry} (e : es[i]? = some en) (w : Bool) : ∃ x, RelV x (entV w en) := by
  have hi : i < kvs.length := by
    rw [← h.size]
    exact (Array.getElem?_eq_some_iff.mp e).1
  obtain ⟨en', e', ⟨x, rx, _⟩, ⟨y, ry, _⟩⟩ := h.at' i kvs[i] (List.getElem?_eq_getElem hi)
  rw [e] at e'
  cases e'
  cases w
  · exact ⟨x, rx⟩
  · exact ⟨y, ry⟩
theorem itr_dic {K : Kw} {H0 : Hp} {a : Addr} {o : Obj} {kvs : List (D × D)} {es : Array DictEntry} {ep : Nat} (w : Bool) (hz : kvs.length ≤ sizeLine) (h : Ents K H0 o kvs es ep) : ItR K H0 ⟨kvs.map (entD w), fun S => sget S a = some (.dic o kvs)⟩ (ItD w a o es) :=
  ⟨by simpa using hz, fun i H S x so tk chk hx => by
    have hd : DicAt K H a o kvs := so _ _ chk
    simp only [List.getElem?_map, Option.map_eq_some_iff] at hx
    obtain ⟨p, hp, rfl⟩ := hx
    obtain ⟨es', ep', h'⟩ := dic_ents hd
    have e0 := h.data.symm.trans h'.data
    cases e0
    obtain ⟨en, e1, ⟨k, rk, ik⟩, ⟨v, rv, iv⟩⟩ := h'.at' i p hp
    refine ⟨⟨hd.1, (Array.getElem?_eq_some_iff.mp e1).1⟩, fun z H' ⟨eH, en', e2, rz⟩ => ?_⟩
    subst eH
    rw [e1] at e2
    cases e2
    refine ⟨?_, so, .refl _ _⟩
    cases w
    · rw [relV_inj rz rk]; exact ik
    · rw [relV_inj rz rv]; exact iv, fun i H S so tk chk hi => by
    have hd : DicAt K H a o kvs := so _ _ chk
    exact ⟨hd.1, by rw [h.size]; simpa using hi⟩⟩
section
variable {X : Cx} {tg e : Expr} {te : WE} {apos cpos : Pos}
/-- the rule for the heap's side -/
def iDV (w : Bool) (K : Kw) (td : TE) : TI := fun σ H R => td σ H fun x H1 => ∃ a o kvs es ep, x = .ref a ∧ DicAt K H1 a o kvs ∧ Ents K H1 o kvs es ep ∧ R (ItD w a o es) H1
theorem rel_car {K : Kw} {H1 : Hp} {o : Obj} {kvs : List (D × D)} {es : Array DictEntry} {ep : Nat} (h : Ents K H1 o kvs es ep) (w : Bool) (i : Nat) (en : DictEntry) (e : es[i]? = some en) : ∃ x, RelV x (entV w en) := ents_rel h e w
theorem pi_dk {td : TE} (he : PE X e td) : PI X tg e (iDV false X.kw td) := by
  refine ⟨fun pins s σ H R I h => ?_⟩
  refine thn (he.run pins s σ H _ I h) fun u s1 ⟨x, H1, I1, rx, a, o, kvs, es, ep, ex, hd, en, q⟩ => ?_
  subst ex
  obtain rfl : u = Value.ref a := rx
  exact wpAny_pyIter_dict_raw hd.2.1 (en.raw I1 hd.1) (pi_one (tk := s1.toks) I1 _ (turn_dk _ en.cls en.data fun _ _ _ _ _ i en' _ _ _ _ e' => ents_rel en e' false) ⟨_, Heap.get?_push_size _ rfl, rfl, rfl⟩ q)
theorem qi_keysK (h : QE X e te) : QI X tg e (iKeysK te) := (pi_dk h).imp' fun σ H R ⟨env, S, R0, er, so, q, ps⟩ => by
  refine ⟨env, S, _, er, so, q, fun x S1 h1 v H1 rv s1 f1 => ?_⟩
  split at h1
  · cases rv
    obtain ⟨o, kvs, e, h1⟩ := onD_iff.mp h1
    have hd : DicAt X.kw H1 _ o kvs := s1 _ _ e
    obtain ⟨es, ep, en⟩ := dic_ents hd
    exact ⟨_, o, kvs, es, ep, rfl, hd, en, ps _ _ (h1 hd.2.2.1) _ _ (itr_dic false hd.2.2.1 en) s1 f1⟩
  · exact h1.elim
theorem dic_raw_ty {s : Shared} {a : Addr} {es : Array DictEntry} {ep : Nat} (h : s.heap.DictRaw a es ep) : s.TypeIs (.ref a) "dict" ∧ ∀ b, Value.ref a = .ref b → ∃ ob, s.heap.get? b = some ob ∧ ob.dict = none := by
  obtain ⟨o, e, c, d⟩ := h
  exact ⟨⟨o, e, c.1⟩, fun b z => by cases z; exact ⟨o, e, c.2.1⟩⟩
theorem pi_dv {td : TE} (he : PE X e td) (hbase : attributeBase e "values" X.env (eval e X.env) = eval e X.env := by rfl) (hline : (apos.endLine == cpos.line) = true := by rfl) : PI X tg (.Call (.Attribute e "values" apos) [] [] cpos) (iDV true X.kw td) := by
  refine ⟨fun pins s σ H R I h => ?_⟩
  refine wpAny_Call_method (T := "dict") (id := "dict.values") hbase rfl hline PySem.F.plainAttrs_dict PySem.F.slot_dict_values PySem.F.type_dict_values (thn (he.run pins s σ H _ I h) fun u s1 ⟨x, H1, I1, rx, a, o, kvs, es, ep, ex, hd, en, q⟩ => ?_)
  subst ex
  obtain rfl : u = Value.ref a := rx
  have raw := en.raw I1 hd.1
  obtain ⟨t1, t2⟩ := dic_raw_ty raw
  refine ⟨t1, t2, ?_⟩
  have I2 : Inv X pins σ H1 { s1 with heap := s1.heap.push { cls := .type "dict_values", data := .fields #[.ref a] } } := I1.kept (t' := s1.toks) fun b ob q => Heap.get?_push_of_some _ q
  have fin : wpAny (model X.prog X.w) X.A (pyIter (.ref s1.heap.objs.size)) (PIE X pins σ tg R) X.xe { s1 with heap := s1.heap.push { cls := .type "dict_values", data := .fields #[.ref a] } } :=
    wpAny_pyIter_values_raw (d := a) ⟨_, Heap.get?_push_size _ rfl, rfl, rfl⟩ (raw.push _) (pi_one (tk := s1.toks) I2 _ (turn_dv _ en.cls en.data fun _ _ _ _ _ i en' _ _ _ _ e' => ents_rel en e' true) ⟨_, Heap.get?_push_size _ rfl, rfl, rfl⟩ q)
  show wpAny _ _ (callWith cpos (.builtin "dict.values") [.ref a] [] []) _ X.xe s1
  exact method_meetsIn PySem.F.slot_dict_values PySem.F.entry_dict_values rfl (PySem.evalArgs_none ⟨rfl, t1, PySem.F.args_dict_values_1 _, _, meets_dict_values_raw a hd.2.1, ⟨es, ep, raw⟩, fin⟩)
theorem qi_valsK (h : QE X e te) (hbase : attributeBase e "values" X.env (eval e X.env) = eval e X.env := by rfl) (hline : (apos.endLine == cpos.line) = true := by rfl) : QI X tg (.Call (.Attribute e "values" apos) [] [] cpos) (iValsK te) := (pi_dv h hbase hline).imp' fun σ H R ⟨env, S, R0, er, so, q, ps⟩ => by
  refine ⟨env, S, _, er, so, q, fun x S1 h1 v H1 rv s1 f1 => ?_⟩
  split at h1
  · cases rv
    obtain ⟨o, kvs, e, h1⟩ := onD_iff.mp h1
    have hd : DicAt X.kw H1 _ o kvs := s1 _ _ e
    obtain ⟨es, ep, en⟩ := dic_ents hd
    exact ⟨_, o, kvs, es, ep, rfl, hd, en, ps _ _ (h1 hd.2.2.1) _ _ (itr_dic true hd.2.2.1 en) s1 f1⟩
  · exact h1.elim
end
/-! ### len(d), list(d) -/
section
variable {X : Cx}
theorem dic_or {pins : List (Addr × Obj)} {σ : L2.St} {H : Hp} {s : Shared} {a : Addr} {o : Obj} {kvs : List (D × D)} (h : DicAt X.kw H a o kvs) (I : Inv X pins σ H s) :
    (∃ xs, s.heap.DictOfH (nestedKind X.prog X.w) a xs ∧ kvs.length = xs.length) ∨ ∃ ys, s.heap.DictOf (k3 X.prog X.w) a ys ∧ kvs.length = ys.length := by
  obtain ⟨_, _, _, es, ep, h1, h2, h3⟩ := id h
  rcases h3 with ⟨xs, e1, e2, e3⟩ | ⟨ys, e1, e2, e3, e4⟩
  · have hk : (kvs.all fun kv => keyT kv.1) = true := by
      rw [List.all_eq_true]
      intro kv hkv
      obtain ⟨i, hi, rfl⟩ := List.getElem_of_mem hkv
      obtain ⟨x, _, r⟩ := Paired.getL e3 (List.getElem?_eq_getElem hi)
      exact r.ok
    obtain ⟨xs', h4, h5⟩ := dic_T h I hk
    exact .inl ⟨xs', h4, Paired.length h5⟩
  · have hk : (kvs.all fun kv => keyL kv.1) = true := by
      rw [List.all_eq_true]
      intro kv hkv
      obtain ⟨i, hi, rfl⟩ := List.getElem_of_mem hkv
      obtain ⟨x, _, r⟩ := Paired.getL e4 (List.getElem?_eq_getElem hi)
      exact r.ok
    obtain ⟨ys', h4, h5⟩ := dic_L h I hk
    exact .inr ⟨ys', h4, Paired.length h5⟩
def rLenK (K : Kw) : List V → Hp → VK → Prop := fun xs H Q => ∃ a o kvs, xs = [.ref a] ∧ DicAt K H a o kvs ∧ Q (.int ((kvs.length : Nat) : Int)) H
theorem cr_lenK : CallR X (.builtin "len") (rLenK X.kw) := by
  intro pins s σ H xs us Q I r h
  obtain ⟨a, o, kvs, rfl, hd, q⟩ := h
  obtain ⟨u, rfl, rx⟩ := vals1 r
  obtain rfl : u = .ref a := rx
  have hz := hd.2.2.1
  have hl := line63
  rcases dic_or hd I with ⟨xs, hx, e⟩ | ⟨ys, hy, e⟩
  · exact call_len_dictH hd.2.1 hx (by omega) ⟨.int _, H, I.tok _, ⟨_, by rw [← e]⟩, q⟩
  · exact call_len_dict hd.2.1 hy (by omega) ⟨.int _, H, I.tok _, ⟨_, by rw [← e]⟩, q⟩
theorem bf_lenK : Bfr X (rLenK X.kw) bLenK := fun ds S Q0 vs H Q h rs so ps => by
  unfold bLenK at h
  split at h
  · cases rs with
    | cons r1 r2 =>
      cases r1; cases r2
      obtain ⟨o, kvs, e, q⟩ := onD_iff.mp h
      exact ⟨_, o, kvs, rfl, so _ _ e, ps.here so q (.int _)⟩
  · exact h.elim
def rListK (K : Kw) : List V → Hp → VK → Prop := fun xs H Q => ∃ a o kvs, xs = [.ref a] ∧ DicAt K H a o kvs ∧ ∀ vs p, RpAll K H vs (kvs.map (·.1)) → H p = none → Q (.ref p) (upd H p (.lst vs))
theorem keys_of {K : Kw} {H : Hp} {es : Array DictEntry} : ∀ (us : List Value) (ds : List D), us.length = ds.length → (∀ (i : Nat) (u : Value) (d : D), us[i]? = some u → ds[i]? = some d → Itm K H u d) → ∃ vs, Vals vs us ∧ RpAll K H vs ds
  | [], [], _, _ => ⟨[], .nil, .nil⟩
  | u :: us, d :: ds, hl, h => by
    obtain ⟨v, r1, r2⟩ := h 0 u d rfl rfl
    obtain ⟨vs, r3, r4⟩ := keys_of (es := es) us ds (by simpa using hl) fun i u' d' e1 e2 => h (i + 1) u' d' (by simpa using e1) (by simpa using e2)
    exact ⟨v :: vs, .cons r1 r3, .cons r2 r4⟩
  | [], _ :: _, hl, _ => by simp at hl
  | _ :: _, [], hl, _ => by simp at hl
theorem cr_listK (hc : X.calm = true) : CallR X (.type "list") (rListK X.kw) := by
  intro pins s σ H xs us Q I r h
  obtain ⟨a, o, kvs, rfl, hd, q⟩ := h
  obtain ⟨u, rfl, rx⟩ := vals1 r
  obtain rfl : u = .ref a := rx
  obtain ⟨es, ep, en⟩ := dic_ents hd
  have raw := en.raw I hd.1
  have hz := hd.2.2.1
  refine PySem.W.kdl_call (PySem.KdlSrc.rawDict hd.2.1) (I.ok.hd hc) raw (by rw [en.size]; exact hz) fun h' tk acc c' hk hD hacc => ?_
  obtain ⟨vs, v1, v2⟩ := keys_of (K := X.kw) (H := H) (es := es) acc.toList (kvs.map (·.1)) (by rw [Array.length_toList, List.length_map, hacc.1, en.size]) fun i u d e1 e2 => by
    obtain ⟨hi, e3⟩ := hacc.2 i u (by rw [← Array.getElem?_toList]; exact e1)
    rw [List.getElem?_map, Option.map_eq_some_iff] at e2
    obtain ⟨p, hp, rfl⟩ := e2
    obtain ⟨en', e4, e5, _⟩ := en.at' i p hp
    rw [Array.getElem?_eq_getElem hi] at e4
    cases e4
    rw [e3]
    exact e5
  refine ⟨.ref s.heap.objs.size, upd H s.heap.objs.size (.lst vs), I.laid (t' := tk) hk (Nat.le_refl _)
    (show ObjOk X.prog X.w _ _ _ (.lst vs) from ⟨by rw [v2.length, List.length_map]; exact hz, acc.toList, c', v1, by rw [Array.toArray_toList]; exact hD⟩), rfl, q vs _ v2 (I.hok.fresh (Nat.le_refl _))⟩
theorem bf_listK : Bfr X (rListK X.kw) bListK := fun ds S Q0 vs H Q h rs so ps => by
  unfold bListK at h
  split at h
  · cases rs with
    | cons r1 r2 =>
      cases r1; cases r2
      obtain ⟨o, kvs, e, q⟩ := onD_iff.mp h
      have hd : DicAt X.kw H _ o kvs := so _ _ e
      refine ⟨_, o, kvs, rfl, hd, fun vs p rv hp => ?_⟩
      exact ps.made so rv (by rw [List.length_map]; exact hd.2.2.1) q p hp
  · exact h.elim
end
/-! ### d.setdefault(k, z) -/
section
variable {X : Cx} {e : Expr} {es : List Expr} {t : WA} {k : Nat}
def rSetdK (X : Cx) : V → List V → Hp → VK → Prop := fun x xs H Q => ∃ a o kvs kd y z zd, x = .ref a ∧ xs = [y, z] ∧ Rp X.kw H y kd ∧ Rp X.kw H z zd ∧ DicAt X.kw H a o kvs ∧ keyOk kvs kd = true ∧ kvs.length < sizeLine ∧
  (∀ v d, dicGet kvs kd = some d → Rp X.kw H v d → Q v H) ∧ (dicGet kvs kd = none → DSet X.kw H a o kvs kd zd (Q z))
theorem mt_setdK (C : Cok X k) : MtR X "dict.setdefault" (rSetdK X) := by
  intro pins s σ H x xs v us Q I rx rxs h
  obtain ⟨a, o, kvs, kd, y, z, zd, rfl, rfl, rk, rz, hd, hk, hz, q1, q2⟩ := h
  cases rx
  obtain ⟨u, r, rfl, ru, rr⟩ := rxs.two
  have there : ∀ (w : Option Value) (s' : Shared), Inv X pins σ H s' → FndV X.kw H (dicGet kvs kd) w → ∀ r', w = some r' → EP X pins σ Q r' s' := fun w s' I' f r' e => by
    subst e
    cases hg : dicGet kvs kd with
    | none => rw [hg] at f; exact f.elim
    | some d =>
      rw [hg] at f
      obtain ⟨v, rv, rd⟩ := f
      exact ⟨v, H, I', rv, q1 v d hg rd⟩
  have gone : ∀ w : Option Value, FndV X.kw H (dicGet kvs kd) w → w = none → dicGet kvs kd = none := fun w f e => by
    subst e
    cases hg : dicGet kvs kd with
    | none => rfl
    | some d => rw [hg] at f; exact f.elim
  have hl := dicPut_len kvs kd zd
  rcases keyOk_or hk with ⟨h1, h2⟩ | ⟨h1, h2⟩
  · obtain ⟨ys, hy, pr⟩ := dic_T hd I h2
    obtain ⟨b, rfl⟩ := keyT_ref h1 rk
    obtain rfl : u = .ref b := ru
    have f := getT (k := kd) pr
    refine call_setdefault_heap (hsz := by rw [← Paired.length pr]; exact hd.2.2.1) (nest_room C) (key_is I h1 rk) hd.2.1 hy (fun p hp => there _ _ (I.tok _) f _ (by rw [hp]; rfl)) fun hn h' dd hs => ?_
    obtain ⟨o', es', ep, e1, e2, e3, e4, _, e6⟩ := dd
    have tk : Tk H (upd H a (DicO a o')) := dicO_tk hd.1
    refine ⟨z, _, dic_write (o' := o') I hd hs e1, rr, q2 (gone _ f (by rw [hn]; rfl)) o' ⟨upd_same, hd.2.1, by omega, es', ep, e2, e3, .inl ⟨_, e4, e6, Paired.mapP (putT h1 rk rr rz pr) fun _ _ z => z.mono tk⟩⟩ tk⟩
  · obtain ⟨ys, hy, pr⟩ := dic_L hd I h2
    have f := getL h1 pr
    refine call_meetsIn PySem.F.slot_dict_setdefault hy.typeIs PySem.F.entry_dict_setdefault (PySem.F.args_dict_setdefault_3 _ _ _) (kt_meets_setdefault (k3 X.prog X.w) a (leaf_is h1 rk ru) hd.2.1 r) ⟨ys, hy, by rw [← Paired.length pr]; exact hd.2.2.1, fun v hv => there _ _ (I.tok _) f _ hv, fun hn h' dd hs => ?_⟩
    obtain ⟨o', es', ep, e1, e2, e3, e4, e5, e6⟩ := dd
    have tk : Tk H (upd H a (DicO a o')) := dicO_tk hd.1
    exact ⟨z, _, dic_write (o' := o') I hd hs e1, rr, q2 (gone _ f hn) o' ⟨upd_same, hd.2.1, by omega, es', ep, e2, e3, .inr ⟨_, e4, e5, e6, Paired.mapP (putL h1 rr rz pr) fun _ _ z => z.mono tk⟩⟩ tk⟩
theorem q_setdK (C : Cok X k) {o : Expr} {to : WE} {apos cpos : Pos} (ho : QE X o to) (ha : QA X (e :: es) t)
    (hbase : attributeBase o "setdefault" X.env (eval o X.env) = eval o X.env := by rfl)
    (hfew : ((backTo cpos (starEach (e :: es) X.env)).all (fun x => !x.1) && (backToKw cpos (keywordEach [] X.env)).all (fun x => x.1.isSome)
      && decide ((e :: es).length + ([] : List Keyword).length + (if ([] : List Keyword).isEmpty then 0 else 1) < 30)) = true := by rfl)
    (hline : (apos.endLine == cpos.line) = true := by rfl) (hs : starEach (e :: es) X.env = (false, eval e X.env) :: starEach es X.env := by rfl) (hplain : (backTo cpos (starEach es X.env)).any (·.1) = false := by rfl) :
    QE X (.Call (.Attribute o "setdefault" apos) (e :: es) [] cpos) (eMethK mSetdefK to t) :=
  q_mK PySem.F.slot_dict_setdefault PySem.F.type_dict_setdefault (mt_setdK C) (fun a ds S Q0 vs H Q h rs so ps => by
    unfold mSetdefK at h
    rcases ds with _ | ⟨y, _ | ⟨z, _ | ⟨z2, ds⟩⟩⟩
    · exact h.elim
    · exact h.elim
    · cases rs with
      | cons r1 r2 =>
      cases r2 with
      | cons r2 r3 =>
        cases r3
        obtain ⟨ob, kvs, e1, ⟨hk, hz⟩, q1, q2⟩ := onD_iff.mp h
        refine ⟨_, ob, kvs, y, _, _, z, rfl, rfl, r1, r2, so _ _ e1, hk, hz, fun v d hg rv => ps.here so (q1 d hg) rv, fun hn o' d' tk => ?_⟩
        exact ps _ _ (q2 hn o') _ _ (r2.mono tk) (so.setX e1 tk d') (.setX e1 tk)
    · exact h.elim) ho ha hbase hfew hline hs hplain
end
end DL

/-! DS: dict comprehensions; list(reversed(a list)). -/
namespace DL
open PySem PySem.Spec PyProof.Rows L2
/-! ### {k: v for ..} -/
section
variable {X : Cx} {k : Nat}
theorem d_dset {pins : List (Addr × Obj)} {σ : L2.St} {H : Hp} {s : Shared} {E : Value → Shared → Prop} {p : Addr} {o : Obj} {kvs : List (D × D)} {kd d : D} {y v : V} {u r : Value} {Nx : Hp → Prop} {Q : Unit → Shared → Prop} (C : Cok X k) (I : Inv X pins σ H s) (h : DicAt X.kw H p o kvs) (hk : keyOk kvs kd = true) (hz : kvs.length < sizeLine)
    (rk : Rp X.kw H y kd) (ru : L2.RelV y u) (rd : Rp X.kw H v d) (rv : L2.RelV v r) (q : DSet X.kw H p o kvs kd d Nx) (fin : ∀ s' H', Inv X pins σ H' s' → Nx H' → Q () s') : wpAny (model X.prog X.w) X.A (dictSet p u r) Q E s := by
  refine set_core I h hk hz rk ru rd rv (fun b xs e hkey hm hl f => ?_) fun ys hkey hm hl f => ?_
  · subst e
    refine wpAny_dictSet_heap (nest_room0 C) hkey hm (fun h' dd hs => ?_) hl
    obtain ⟨H', I', o', rfl, d', tk⟩ := f h' dd hs _
    exact fin _ _ I' (q o' d' tk)
  · refine wpAny_dictSet_pairs hkey hm (fun h' dd hs => ?_) hl
    obtain ⟨H', I', o', rfl, d', tk⟩ := f h' dd hs _
    exact fin _ _ I' (q o' d' tk)
/-- what a dict comprehension asks, over addresses -/
def tDcx (K : Kw) (wi : TI) (g : TG) (tt : TT) (tk tv : TE) (vs : List Nat) : TE := fun σ H Q => wi σ H fun J H1 => ∀ D o, H1 D = none → DicAt K (upd H1 D (DicO D o)) D o [] → ∃ W : Nat → Nat → Hp → Prop, (∃ m, W 0 m (upd H1 D (DicO D o))) ∧ ∀ i m H, W i m H →
  (J.stop i H ∧ Q (.ref D) H) ∨ (J.go i H ∧ ∃ Nx : Hp → Prop, (∀ H', Nx H' → ∃ m', m' < m ∧ W (i + 1) m' H') ∧ ∀ x H', J.yld i H x H' → g x (L2.wipe σ vs) H' fun σ2 H2 => L2.wipe σ2 vs = L2.wipe σ vs ∧ tt σ2 H2 fun b H3 =>
    if b = true then tk σ2 H3 fun y H4 => tv σ2 H4 fun z H5 => ∃ o kvs kd d, Rp K H5 y kd ∧ Rp K H5 z d ∧ DicAt K H5 D o kvs ∧ keyOk kvs kd = true ∧ kvs.length < sizeLine ∧ DSet K H5 D o kvs kd d Nx else Nx H3)
theorem dcx_core {pins : List (Addr × Obj)} {s : Shared} {σ : L2.St} {H : Hp} {Q : VK} {kx vx tg iter : Expr} {ifs : List Expr} {scope : Scope} {own : List (Str × Nat)} {pos pos' : Pos} {wi : TI} {g : TG} {tt : TT} {tk tv : TE} {use : Option (Value → Sem Unit)} {Qf : Value → Shared → Prop}
    (C : Cok X k) (I : Inv X pins σ H s) (hi : PI X tg iter wi) (ok : BlkOk X.N X.env.scope scope own)
    (hg : ∀ (s : Shared) (H : Hp) (C : Addr) (cl : List (Str × Addr)) (fp : List Addr), PG (X.blk s H scope (compEnvC scope cl C X.env) fp) tg g) (ht : ∀ (s : Shared) (H : Hp) (C : Addr) (cl : List (Str × Addr)) (fp : List Addr), PTs (X.blk s H scope (compEnvC scope cl C X.env) fp) ifs tt)
    (hk : ∀ (s : Shared) (H : Hp) (C : Addr) (cl : List (Str × Addr)) (fp : List Addr), PE (X.blk s H scope (compEnvC scope cl C X.env) fp) kx tk)
    (he : ∀ (s : Shared) (H : Hp) (C : Addr) (cl : List (Str × Addr)) (fp : List Addr), PE (X.blk s H scope (compEnvC scope cl C X.env) fp) vx tv) (hs : ∀ x, foldedSetIterable iter X.env x = pure x)
    (h : tDcx X.kw wi g tt tk tv (own.map (·.2)) σ H Q)
    (hRR : ∀ D C s' m H', Inv X pins σ H' s' → Q (.ref D) H' → s'.heap.Ns C m → FpOk X pins H' C → compPost (model X.prog X.w) X.A X.xe use Qf (.ref D) C (.ok .next) s') :
    wpAny (model X.prog X.w) X.A (comprehension (.DictComp kx vx [⟨tg, iter, ifs, 0⟩] scope pos) scope X.env pos' newDict false (eval iter X.env) use) Qf X.xe s := by
  have outer : ∀ y ∈ scope.names, y.2 = .free → ∃ c, X.env.cells.lookup y.1 = some c := fun y hy e => I.ok.has _ ((ok.free y hy e).elim .inl .inr)
  refine wpAny_comprehension_free (use := use) rfl hs (closure_ok outer) ok.kind (fun y hy e => by rw [ok.uniq y hy, e])
    (thn (hi.run pins s σ H _ I h) fun xv s1 hx => thn hx fun itv s2 ⟨it, fp, tn, J, H2, eit, I2, T, st2, f2, q⟩ => ?_)
  subst eit
  refine wpAny_newObj_type (newEnv_comp ?_)
  obtain ⟨o0, ho0, dn⟩ := dic_new s2 H2 I2
  have D0 : H2 s2.heap.objs.size = none := I2.hok.fresh (Nat.le_refl _)
  generalize hD : s2.heap.objs.size = D at dn D0
  obtain ⟨W, ⟨m0, w0⟩, turn⟩ := q D o0 D0 dn
  -- the new dict stands
  generalize hs3 : ({ s2 with heap := s2.heap.push { cls := .type "dict", data := .dict #[] } } : Shared) = s3
  have h3 : s3.heap = s2.heap.push { cls := .type "dict", data := .dict #[] } := by rw [← hs3]
  generalize hH3 : upd H2 D (DicO D o0) = H3 at w0 dn
  have I3 : Inv X pins σ H3 s3 := by
    rw [← hs3, ← hH3, ← hD, ho0]
    exact I2.laid (t' := s2.toks) (fun b o e => Heap.get?_push_of_some _ e) (Nat.le_refl _) (dicO_ok (Heap.get?_push_size _ rfl))
  have below : ∀ b ∈ fp, b < s2.heap.objs.size := fun b hb => let ⟨_, e, _⟩ := T.obj _ _ st2 b hb; Heap.lt_size e
  have f3 : ∀ b ∈ fp, FpOk X pins H3 b ∧ b < s3.heap.objs.size := fun b hb => by
    have lt := below b hb
    refine ⟨⟨?_, (f2 b hb).2⟩, by rw [h3, Heap.size_push]; exact Nat.lt_succ_of_lt lt⟩
    rw [← hH3, upd_ne (by rw [← hD]; exact Nat.ne_of_lt lt)]
    exact (f2 b hb).1
  have st3 : tn 0 s3.heap := T.keep _ _ _ st2 fun b _ o e => by rw [h3]; exact Heap.get?_push_of_some _ e
  have I4 := block_start I3 ok C.nd f3
  generalize hcl : cellsFrom (s3.heap.objs.size + 1) scope.names (cloFrom X.env.cells scope.names []) = cl at I4 ⊢
  have pg := hg s3 H3 s3.heap.objs.size cl fp
  have pt := ht s3 H3 s3.heap.objs.size cl fp
  have pk := hk s3 H3 s3.heap.objs.size cl fp
  have pv := he s3 H3 s3.heap.objs.size cl fp
  have nfp : ∀ b ∈ fp, H3 b = none := fun b hb => (f3 b hb).1.1
  show codeAny _ _ (.compStart (.DictComp kx vx [⟨tg, iter, ifs, 0⟩] scope pos) 0 (.ref it) (.ref D) (compEnvC scope cl s3.heap.objs.size X.env)) (compPost (model X.prog X.w) X.A X.xe use Qf (.ref D) s3.heap.objs.size) { s3 with heap := pushCells (s3.heap.push { cls := .type "dict", data := .dict #[] }) scope.names }
  generalize hce : compEnvC scope cl s3.heap.objs.size X.env = ce at I4 pg pt pk pv ⊢
  have cL : ce.locals = s3.heap.objs.size := by subst hce; rfl
  generalize hs4 : ({ s3 with heap := pushCells (s3.heap.push { cls := .type "dict", data := .dict #[] }) scope.names } : Shared) = s4 at I4 ⊢
  have st4 : tn 0 s4.heap := T.keep _ _ _ st3 fun b _ o e => by rw [← hs4]; exact pushCells_keeps _ _ _ _ (Heap.get?_push_of_some _ e)
  let Y := X.blk s3 H3 scope ce fp
  have CY : Cok Y k := C.blk s3 H3 scope ce fp
  have mine : ∀ {σ' : L2.St} {H' : Hp} {s' : Shared}, Inv Y [] σ' H' s' → (∀ b ∈ fp, H' b = none) → ∀ b ∈ fp, FpOk Y [] H' b := fun I' hn b hb =>
    ⟨hn b hb, (I'.ok.exf b hb).1, I'.ok.exfs b hb, .inl hb, fun x c e => (I'.ok.exf b hb).2 x c e, fun p hp => absurd (show p ∈ ([] : List (Addr × Obj)) ++ [] from hp) (by simp)⟩
  have loop : codeAny (model X.prog X.w) X.A (.compLoop (.DictComp kx vx [⟨tg, iter, ifs, 0⟩] scope pos) 0 (.ref it) (.ref D) ce) (compPost (model X.prog X.w) X.A X.xe use Qf (.ref D) s3.heap.objs.size) s4 := by
    refine compLoop_anyD (fun n s' => ∃ i H', Inv Y [] (L2.wipe σ (own.map (·.2))) H' s' ∧ tn i s'.heap ∧ (∀ b ∈ fp, H' b = none) ∧ W i n H') ?_ m0 ⟨0, H3, I4, st4, nfp, w0⟩
    rintro n s5 ⟨i, H5, I5, st5, n5, w5⟩
    rcases turn i n H5 w5 with ⟨stop, qq⟩ | ⟨go, Nx, hNx, step⟩
    · refine thnF (T.done Y rfl rfl rfl C.calm i [] s5 _ H5 (fun _ _ => False) I5 (mine I5 n5) st5 stop) fun r s6 ⟨hr, I6⟩ => ?_
      subst hr
      have I7 : Inv X pins σ H5 s6 := I3.call' (ch := fp) I6.os I6.base I6.hok I6.bare fun b hb => let z := (f3 b hb).1.2; ⟨z.2.2.1, z.1, z.2.2.2.1, z.2.2.2.2⟩
      have nC : H5 s3.heap.objs.size = none := cL ▸ (show H5 ce.locals = none from I6.free)
      obtain ⟨m, hn, _⟩ := I6.loc
      exact hRR D s3.heap.objs.size s6 m H5 I7 qq (cL ▸ (show s6.heap.Ns ce.locals m from hn)) (I3.fpOk (Nat.le_refl _) nC)
    · refine thnF (T.item Y rfl rfl rfl C.calm i [] s5 _ H5 (fun _ _ => False) I5 (mine I5 n5) st5 go) fun r s6 ⟨u, hr, h6⟩ => ?_
      subst hr
      refine thnF h6 fun _ s7 ⟨x, H7, I7, r7, y7, st7, n7⟩ => ?_
      refine thnF (pg.run _ s7 _ H7 x u _ (I7.pinned (mine I7 n7) (T.obj _ _ st7)) r7 (step x H7 y7)) fun _ s8 ⟨σ8, H8, I8, hw8, q8⟩ => ?_
      refine thnF (pt.run _ s8 σ8 H8 _ I8 q8) fun b s9 ⟨H9, I9, q9⟩ => ?_
      have close : ∀ {s' : Shared} {H' : Hp}, Inv Y ([] ++ pinsAt fp s7.heap) σ8 H' s' → Nx H' → ∃ m, m < n ∧ ∃ i H', Inv Y [] (L2.wipe σ (own.map (·.2))) H' s' ∧ tn i s'.heap ∧ (∀ b ∈ fp, H' b = none) ∧ W i m H' := fun {s' H'} I' nx => by
        obtain ⟨m', hm, w'⟩ := hNx H' nx
        have still : ∀ b ∈ fp, ∀ o, s7.heap.get? b = some o → s'.heap.get? b = some o ∧ H' b = none := fun b hb o e =>
          let z := I'.pin (b, o) (List.mem_append_right _ (List.mem_append_right _ (mem_pinsAt hb e)))
          ⟨z.1, z.2.1⟩
        refine ⟨m', hm, i + 1, H', (I'.unpinned (pins := [])).weak (by rw [← hw8, L2.wipe_length]) (fun j v e => ?_), T.keep _ _ _ st7 fun b hb o e => (still b hb o e).1, fun b hb => ?_, w'⟩
        · rw [← hw8] at e
          exact (L2.wipe_some e).1
        · obtain ⟨o, e, _⟩ := T.obj _ _ st7 b hb
          exact (still b hb o e).2
      cases b with
      | false => exact close I9 q9
      | true =>
        refine thnF (pk.run _ s9 σ8 H9 _ I9 q9) fun z s10 ⟨yk, H10, I10, r10, q10⟩ => ?_
        refine thnF (pv.run _ s10 σ8 H10 _ I10 q10) fun z2 s11 ⟨yv, H11, I11, r11, o, kvs, kd, d, rk, rd, hd, hko, hz, nx⟩ => ?_
        exact d_dset (X := Y) CY I11 hd hko hz rk r10 rd r11 nx fun s12 H12 I12 n12 => close I12 n12
  exact codeAny_compStart_dict loop (T.self X.A 0 _ _ _ st4 loop)
theorem pe_dcx {kx vx tg iter : Expr} {ifs : List Expr} {scope : Scope} {own : List (Str × Nat)} {pos : Pos} {wi : TI} {g : TG} {tt : TT} {tk tv : TE} (C : Cok X k) (hi : PI X tg iter wi) (ok : BlkOk X.N X.env.scope scope own)
    (hg : ∀ (s : Shared) (H : Hp) (C : Addr) (cl : List (Str × Addr)) (fp : List Addr), PG (X.blk s H scope (compEnvC scope cl C X.env) fp) tg g) (ht : ∀ (s : Shared) (H : Hp) (C : Addr) (cl : List (Str × Addr)) (fp : List Addr), PTs (X.blk s H scope (compEnvC scope cl C X.env) fp) ifs tt)
    (hk : ∀ (s : Shared) (H : Hp) (C : Addr) (cl : List (Str × Addr)) (fp : List Addr), PE (X.blk s H scope (compEnvC scope cl C X.env) fp) kx tk)
    (he : ∀ (s : Shared) (H : Hp) (C : Addr) (cl : List (Str × Addr)) (fp : List Addr), PE (X.blk s H scope (compEnvC scope cl C X.env) fp) vx tv) (hs : ∀ x, foldedSetIterable iter X.env x = pure x := by intro _; rfl) :
    PE X (.DictComp kx vx [⟨tg, iter, ifs, 0⟩] scope pos) (tDcx X.kw wi g tt tk tv (own.map (·.2))) := ⟨fun pins s σ H Q I h => by
  rw [arm_eval_DictComp]
  exact dcx_core C I hi ok hg ht hk he hs h fun D C s' m H' I' q hn ⟨f0, f1, f2, f3, f4, f5⟩ => ⟨m, hn, fun h'' sb =>
    ⟨.ref D, H', I'.turned (t' := s'.toks) (fun b o hb e => (sb.2 b hb).trans e) f0 f1 f3 f4 f5, rfl, q⟩⟩⟩
theorem ps_setDcx {i : Nat} {y : Str} {py : Pos} {kx vx tg iter : Expr} {ifs : List Expr} {scope : Scope} {own : List (Str × Nat)} {pos spos : Pos} {wi : TI} {g : TG} {tt : TT} {tk tv : TE} (C : Cok X k) (hy : X.N[i]? = some y) (hyl : X.env.scope.names.lookup y = some .local)
    (hsw : swapsWith (.DictComp kx vx [⟨tg, iter, ifs, 0⟩] scope pos) (some (.Name y py)) spos.line X.env = pure true) (hi : PI X tg iter wi) (ok : BlkOk X.N X.env.scope scope own)
    (hg : ∀ (s : Shared) (H : Hp) (C : Addr) (cl : List (Str × Addr)) (fp : List Addr), PG (X.blk s H scope (compEnvC scope cl C X.env) fp) tg g) (ht : ∀ (s : Shared) (H : Hp) (C : Addr) (cl : List (Str × Addr)) (fp : List Addr), PTs (X.blk s H scope (compEnvC scope cl C X.env) fp) ifs tt)
    (hk : ∀ (s : Shared) (H : Hp) (C : Addr) (cl : List (Str × Addr)) (fp : List Addr), PE (X.blk s H scope (compEnvC scope cl C X.env) fp) kx tk)
    (he : ∀ (s : Shared) (H : Hp) (C : Addr) (cl : List (Str × Addr)) (fp : List Addr), PE (X.blk s H scope (compEnvC scope cl C X.env) fp) vx tv) (hs : ∀ x, foldedSetIterable iter X.env x = pure x := by intro _; rfl) :
    PS X (.Assign [.Name y py] (.DictComp kx vx [⟨tg, iter, ifs, 0⟩] scope pos) spos) (tAsg (tDcx X.kw wi g tt tk tv (own.map (·.2))) (L2.gName i)) := by
  refine ⟨fun pins s σ H D I h => ?_⟩
  rw [exec_Assign_Name_used _ _ _ _ hsw]
  refine wpAny_bind (wpAny_standAt (wpAny_bind ?_))
  rw [arm_evalThenUse_DictComp]
  show wpAny _ X.A (do let _ ← comprehension (.DictComp kx vx [⟨tg, iter, ifs, 0⟩] scope pos) scope X.env (firstIterPos [⟨tg, iter, ifs, 0⟩] pos) newDict false (eval iter X.env) (some (assign (.Name y py) X.env))) _ _ s
  have h : tDcx X.kw wi g tt tk tv (own.map (·.2)) σ H (fun x H1 => L2.gName i x σ H1 D.nx) := h
  refine wpAny_bind (thn (dcx_core (Qf := fun _ s' => SP X pins D .next s') C I hi ok hg ht hk he hs h fun L C' s' m H' I' q hn f => ?_) fun _ s' hq => wpAny_pure (wpAny_pure hq))
  show wpAny _ _ (assign (.Name y py) X.env (.ref L)) _ _ _
  refine wpAny_assign_Name (store_ok2 (v := V.ref L) I' C.nd hy (.inl hyl) rfl (fun s2 I2 ⟨a, sb, ha⟩ => ?_) (.inr hyl))
  obtain ⟨f0, f1, f2, f3, f4, f5⟩ := f
  have ne : C' ≠ a := ha.elim (fun z => z ▸ f1) fun z e => f4 y a z e.symm
  exact ⟨m, hn.sameBut sb ne, fun h3 sb3 => ⟨_, H', I2.turned (t' := s2.toks) (fun b o hb e => (sb3.2 b hb).trans e) f0 f1 f3 f4 f5, q⟩⟩
theorem sw_trueD {kx vx : Expr} {gs : List Comprehension} {scope : Scope} {pos py : Pos} {y : Str} {l : Nat} {env : Env} (hk : env.scope.kind = .function) (hy : env.scope.names.lookup y = some .local) (hl : (py.line == pos.line) = true)
    (ha : (scope.names.any fun (n, k) => n == y && (k == .local || k == .cell)) = false) : swapsWith (.DictComp kx vx gs scope pos) (some (.Name y py)) l env = pure true := by
  have e1 : env.kindOf y = some .local := hy
  have e2 : env.blockKind = .function := by unfold Env.blockKind; rw [hk]; rfl
  unfold swapsWith
  simp only [e2, e1, ha, Expr.pos, hl]
  rfl
end
section
variable {X : Cx} {k : Nat} {wi : WI} {g : WG} {c : WT} {tk tv : WE}
theorem dictC_ok {K : Kw} {σ : L2.St} {H : Hp} {Q : VK} {vs : List Nat} {gV : TG} (hG : GV K gV g vs) (h : lE K (eDictC wi g c tk tv vs) σ H Q) : tDcx K (lI K wi) gV (lT K c) (lE K tk) (lE K tv) vs σ H Q := by
  obtain ⟨env, S, Q0, er, so, q, ps⟩ := h
  unfold eDictC at q
  refine ⟨env, S, _, er, so, q, fun J S1 ⟨W, w0, turn, done⟩ J' H1 jr s1 f1 A o0 hA hd0 => ?_⟩
  have hA1 := s1.none hA
  refine ⟨fun i m H' => ∃ S' acc o, SOk K H' S' ∧ Fr S1 S' H1 H' ∧ DicAt K H' A o acc ∧ sget S' A = none ∧ acc.length ≤ i ∧ W i acc S' ∧ m = J.xs.length - i ∧ i ≤ J.xs.length,
    ⟨J.xs.length, S1, [], o0, s1.off hA, .off S1 hA, hd0, hA1, Nat.le_refl _, w0, by omega, Nat.zero_le _⟩, ?_⟩
  rintro i m H2 ⟨S2, acc, o, s2, f2, hA2, hn2, hl, w2, rfl, hi2⟩
  have er2 : ER K H2 σ env := er.mono (f1.trans f2).tk
  cases hd : J.xs[i]? with
  | none =>
    have hli : J.xs.length ≤ i := List.getElem?_eq_none_iff.mp hd
    have e : i = J.xs.length := Nat.le_antisymm hi2 hli
    rw [e] at w2
    obtain ⟨chk, q2⟩ := done acc S2 w2
    refine .inl ⟨jr.stop i H2 S2 s2 f2.tk chk hli, ?_⟩
    refine ps _ _ (q2 A o hn2) _ _ (.ref A) (fun b u e => ?_) (f1.trans ⟨fun a u e n => ?_, f2.tk⟩)
    · by_cases hb : b = A
      · subst hb
        rw [sget_self] at e
        cases e
        exact hA2
      · rw [sget_ne hb] at e
        exact s2 b u e
    · obtain ⟨e2, n2⟩ := f2.keep a u e n
      exact ⟨e2, by rw [sget_ne (ne_of_none e hA)]; exact n2⟩
  | some x =>
    have hlt : i < J.xs.length := (List.getElem?_eq_some_iff.mp hd).1
    obtain ⟨chk, q2⟩ := turn i x acc S2 hd w2
    obtain ⟨go, yld⟩ := jr.go i H2 S2 x s2 f2.tk chk hd
    refine .inr ⟨go, fun H' => ∃ S' acc' o', SOk K H' S' ∧ Fr S1 S' H1 H' ∧ DicAt K H' A o' acc' ∧ sget S' A = none ∧ acc'.length ≤ i + 1 ∧ W (i + 1) acc' S',
      fun H' ⟨S', acc', o', a, b, c, d, e, w'⟩ => ⟨J.xs.length - (i + 1), by omega, S', acc', o', a, b, c, d, e, w', rfl, hlt⟩, fun v H3 y3 => ?_⟩
    obtain ⟨rv, s3, f3⟩ := yld v H3 y3
    refine hG.run v x _ (DL.wipe env vs) S2 H3 _ _ rv ((er2.mono f3.tk).wipe vs) s3 q2 fun σ4 env4 w4 er4 q4 => ⟨?_, env4, S2, _, er4, s3, q4, fun b S5 h5 H5 s5 f5 => ?_⟩
    · rw [w4]
      refine List.ext_getElem? fun j => ?_
      rw [wipe_get, wipe_length, wipe_get]
      by_cases h : j ∈ vs ∧ j < σ.length
      · rw [if_pos h, if_pos h]
      · rw [if_neg h]
        try rw [wipe_get, if_neg h]
    · have f35 := f3.trans f5
      obtain ⟨hA5, hn5⟩ := f35.keep A _ hA2.1 hn2
      have f25 := f2.trans f35
      have hD5 : DicAt K H5 A o acc := hA2.mono f35.tk (by rw [hA5, hA2.1])
      cases b with
      | false =>
        obtain ⟨S0, sb, h5⟩ := (show UpS (W (i + 1) acc) S5 from h5).ex
        exact ⟨S0, acc, o, s5.sub sb, f25.sub sb, hD5, sb.none hn5, Nat.le_succ_of_le hl, h5⟩
      | true =>
        have h5 : tk env4 S5 fun y S4 => tv env4 S4 fun z S5 => keyOk acc y = true ∧ UpS (W (i + 1) (dicPut acc y z)) S5 := h5
        refine ⟨env4, S5, _, er4.mono f5.tk, s5, h5, fun y S6 h6 u H6 ru s6 f6 => ?_⟩
        refine ⟨env4, S6, _, er4.mono (f5.trans f6).tk, s6, h6, fun z S7 h7 u2 H7 rz s7 f7 => ?_⟩
        obtain ⟨hko, h7⟩ := h7
        obtain ⟨S8, sb, h8⟩ := h7.ex
        have f67 := (f6.trans f7).sub sb
        have s8 := s7.sub sb
        obtain ⟨hA7, hn7⟩ := f67.keep A _ hA5 hn5
        have hD7 : DicAt K H7 A o acc := hD5.mono f67.tk (by rw [hA7, hD5.1])
        refine ⟨o, acc, y, z, ru.mono f7.tk, rz, hD7, hko, Nat.lt_of_le_of_lt hl (Nat.lt_of_lt_of_le hlt jr.len), fun o' d' tk7 => ?_⟩
        have hz := dicPut_len acc y z
        refine ⟨S8, dicPut acc y z, o', fun b w e => ?_, ⟨fun a w e n => ?_, (f25.trans f67).tk.trans tk7⟩, d', hn7, by omega, h8⟩
        · have nb : b ≠ A := fun z => by subst z; rw [hn7] at e; cases e
          exact (s8 b w e).mono tk7 (upd_ne nb)
        · obtain ⟨e2, n2⟩ := (f25.trans f67).keep a w e n
          exact ⟨by rw [upd_ne (ne_of_none e hA)]; exact e2, n2⟩
theorem q_dictC {gV : TG} {kx vx tg iter : Expr} {ifs : List Expr} {scope : Scope} {own : List (Str × Nat)} {pos : Pos} (C : Cok X k) (hi : QI X tg iter wi) (ok : BlkOk X.N X.env.scope scope own) (hG : GV X.kw gV g (own.map (·.2)))
    (hg : ∀ (s : Shared) (H : Hp) (C : Addr) (cl : List (Str × Addr)) (fp : List Addr), PG (X.blk s H scope (compEnvC scope cl C X.env) fp) tg gV) (ht : ∀ (s : Shared) (H : Hp) (C : Addr) (cl : List (Str × Addr)) (fp : List Addr), QTs (X.blk s H scope (compEnvC scope cl C X.env) fp) ifs c)
    (hk : ∀ (s : Shared) (H : Hp) (C : Addr) (cl : List (Str × Addr)) (fp : List Addr), QE (X.blk s H scope (compEnvC scope cl C X.env) fp) kx tk)
    (he : ∀ (s : Shared) (H : Hp) (C : Addr) (cl : List (Str × Addr)) (fp : List Addr), QE (X.blk s H scope (compEnvC scope cl C X.env) fp) vx tv) (hs : ∀ x, foldedSetIterable iter X.env x = pure x := by intro _; rfl) :
    QE X (.DictComp kx vx [⟨tg, iter, ifs, 0⟩] scope pos) (eDictC wi g c tk tv (own.map (·.2))) := (pe_dcx C hi ok hg ht hk he hs).imp' fun σ H Q h => dictC_ok hG h
theorem q_setDictC {gV : TG} {i : Nat} {y : Str} {py spos : Pos} {kx vx tg iter : Expr} {ifs : List Expr} {scope : Scope} {own : List (Str × Nat)} {pos : Pos} (C : Cok X k) (hy : X.N[i]? = some y) (hyl : X.env.scope.names.lookup y = some .local) (hsw : swapsWith (.DictComp kx vx [⟨tg, iter, ifs, 0⟩] scope pos) (some (.Name y py)) spos.line X.env = pure true)
    (hi : QI X tg iter wi) (ok : BlkOk X.N X.env.scope scope own) (hG : GV X.kw gV g (own.map (·.2)))
    (hg : ∀ (s : Shared) (H : Hp) (C : Addr) (cl : List (Str × Addr)) (fp : List Addr), PG (X.blk s H scope (compEnvC scope cl C X.env) fp) tg gV) (ht : ∀ (s : Shared) (H : Hp) (C : Addr) (cl : List (Str × Addr)) (fp : List Addr), QTs (X.blk s H scope (compEnvC scope cl C X.env) fp) ifs c)
    (hk : ∀ (s : Shared) (H : Hp) (C : Addr) (cl : List (Str × Addr)) (fp : List Addr), QE (X.blk s H scope (compEnvC scope cl C X.env) fp) kx tk)
    (he : ∀ (s : Shared) (H : Hp) (C : Addr) (cl : List (Str × Addr)) (fp : List Addr), QE (X.blk s H scope (compEnvC scope cl C X.env) fp) vx tv) (hs : ∀ x, foldedSetIterable iter X.env x = pure x := by intro _; rfl) :
    QS X (.Assign [.Name y py] (.DictComp kx vx [⟨tg, iter, ifs, 0⟩] scope pos) spos) (sAsg (eDictC wi g c tk tv (own.map (·.2))) (DL.gName i)) := (ps_setDcx C hy hyl hsw hi ok hg ht hk he hs).imp' fun D σ H ⟨env, S, D0, er, so, q, ps⟩ =>
  dictC_ok hG ⟨env, S, _, er, so, q, fun d S1 h1 v H1 rv s1 f1 => ps.nx _ _ h1 _ _ ((er.mono f1.tk).set i rv) s1 f1⟩
end
/-! ### list(reversed(a list)) -/
def eLstRev (t : WE) : WE := fun env S Q => t env S fun x S1 => match x with
  | .ref a => onL S1 a fun xs => ∀ p, sget S1 p = none → Q (.ref p) ((p, .lst xs.reverse) :: S1)
  | _ => False
section
variable {prog : Program} {w : World} {A : Around} {E : Value → Shared → Prop} {s : Shared} {it l S : Addr} {items : Array Value}
/-- S.extend(a reversed list's iterator), S empty -/
theorem ext_rev {R : Result → Shared → Prop} (res : Value) (c₀ : Nat) (hh : A.handled = none) (hit : s.heap.IsRevIter it l ((items.size : Int) - 1)) (hl : s.heap.IsList l items) (hne : l ≠ it) (hSi : S ≠ it) (hSl : S ≠ l) (hn : items.size ≤ sizeLine)
    (hS : s.heap.get? S = some { cls := .type "list", data := .seq #[] c₀ })
    (hR : ∀ h' tk acc' c', (∀ b o, b ≠ S → b ≠ it → s.heap.get? b = some o → h'.get? b = some o) → h'.get? S = some { cls := .type "list", dict := none, data := .seq acc' c', slots := #[] } → ItemsOf (fun i v => items[items.size - 1 - i]? = some v) acc' items.size → R (.ok (.ret res)) { s with heap := h', toks := tk }) :
    wpAny (model prog w) A.in1 (Builtin.List.listExtendWith (.ref S) (.ref it) res)
      (fun fin s' => match fin with | .done f => R (.ok f) s' | .again c' => c'.quiet = true ∧ codeAny (model prog w) A c' R s') (fun e s' => R (.error e) s') s := by
  have W := (Walks.listRev (prog := prog) (w := w) (A := A.in1) hh it l hne items).toS
  have hT : s.TypeIs (.ref it) "list_reverseiterator" := hit.typeIs
  have h1 : Builtin.List.listSameRef (.ref S) (.ref it) = false := by simp [Builtin.List.listSameRef, hSi]
  have hSf : S ∉ [it, l] := by simp only [List.mem_cons, List.not_mem_nil, or_false, not_or]; exact ⟨hSi, hSl⟩
  unfold Builtin.List.listExtendWith
  refine wpAny_bind (wpAny_typeOf hT ?_)
  rw [if_neg (by rw [h1]; decide)]
  refine wpAny_bind (wpAny_pyIter_revIter hit ?_)
  refine wpAny_bind (wpAny_holding ?_)
  unfold Builtin.List.listLengthHint
  refine wpAny_bind (wpAny_specialOf hT RT.nolen_lri ?_)
  show wpAny _ A.in1 (specialOf (Value.ref it) (Str.ofString "__length_hint__") >>= _) _ _ _
  refine wpAny_bind (wpAny_specialOf hT RT.hint_lri ?_)
  generalize hid : ("list_reverseiterator.__length_hint__" : String) = id0
  wp_delta
  rw [show splitId id0 = some ("list_reverseiterator", "__length_hint__") from by subst hid; decide +kernel]
  subst hid
  refine wpAny_bind (wpAny_isInstance (b := true) hT (by rw [isSubtype_type]; kernel_rfl) ?_)
  refine wpAny_pure ?_
  rw [if_neg (by decide)]
  have e0 : ((items.size : Nat) : Int) - 1 - ((0 : Nat) : Int) = (items.size : Int) - 1 := by omega
  refine wpAny_pure ⟨plainId_quiet PySem.F.plain_extend_loop _, codeAny_extend_loopS W hn _ hSf _ items.size 0 _ _ _ rfl (Nat.zero_le _) ⟨Nat.zero_le _, by rw [e0]; exact hit, hl⟩ hS (ItemsOf.nil _) fun s' acc' c' hm hS' hacc => ?_⟩
  rw [Moved.eq_with hm]
  refine hR s'.heap s'.toks acc' c' (fun b o hb hb2 e => hm.heap b o (fun hmem => ?_) e) hS' hacc
  rcases List.mem_cons.mp hmem with e' | hmem
  · exact hb e'
  · exact hb2 (List.mem_singleton.mp hmem)
theorem call_list_rev {Q : Value → Shared → Prop} (hh : A.handled = none) (hit : s.heap.IsRevIter it l ((items.size : Int) - 1)) (hl : s.heap.IsList l items) (hne : l ≠ it) (hn : items.size ≤ sizeLine)
    (hQ : ∀ h' tk acc' c', (∀ b o, b ≠ it → s.heap.get? b = some o → h'.get? b = some o) → h'.get? s.heap.objs.size = some { cls := .type "list", dict := none, data := .seq acc' c', slots := #[] } → ItemsOf (fun i v => items[items.size - 1 - i]? = some v) acc' items.size → Q (.ref s.heap.objs.size) { s with heap := h', toks := tk }) :
    wpAny (model prog w) A (call (.type "list") [.ref it]) Q E s := by
  refine callType_codes (Q₁ := fun obj s₁ => obj = .ref s.heap.objs.size ∧ s₁ = { s with heap := s.heap.push { cls := .type "list", data := .seq #[] } }) PySem.F.called_list (PySem.F.typeCall_list_1 _) PySem.F.entry_list_init
    (code_list_new _ ⟨rfl, rfl⟩) fun obj s₁ h₁ => ?_
  obtain ⟨rfl, rfl⟩ := h₁
  have hS : (s.heap.push { cls := .type "list", data := .seq #[] }).get? s.heap.objs.size = some { cls := .type "list", data := .seq #[] } := Heap.get?_push_size _ rfl
  obtain ⟨oi, hoi, _⟩ := id hit
  obtain ⟨ol, hol, _⟩ := id hl
  have li := Heap.lt_size hoi
  have ll := Heap.lt_size hol
  refine ⟨⟨_, hS, rfl⟩, PySem.F.args_list_init_2 _ _, ?_⟩
  show wpAny _ _ (do let old ← Builtin.List.listItems (.ref s.heap.objs.size); Builtin.List.listUpdate (.ref s.heap.objs.size) (fun _ => #[]); letGo old.toList.reverse; Builtin.List.listExtendWith (.ref s.heap.objs.size) (.ref it) .none) _ _ _
  refine wpAny_bind ?_
  unfold Builtin.List.listItems
  refine wpAny_bind (wpAny_seqItems hS rfl (wpAny_pure ?_))
  show wpAny _ _ (updateSeq s.heap.objs.size (fun _ => #[]) >>= fun _ => letGo (#[] : Array Value).toList.reverse >>= fun _ => Builtin.List.listExtendWith (.ref s.heap.objs.size) (.ref it) .none) _ _ _
  refine wpAny_bind (wpAny_updateSeq hS rfl ?_)
  have hS₂ := Heap.get?_update_self (Obj.mapSeq (fun _ => (#[] : Array Value))) hS rfl
  refine wpAny_bind (wpAny_letGo ?_)
  have oth : ∀ b o, b ≠ s.heap.objs.size → s.heap.get? b = some o → ((s.heap.push { cls := .type "list", data := .seq #[] }).update s.heap.objs.size (Obj.mapSeq (fun _ => (#[] : Array Value)))).get? b = some o :=
    fun b o hb e => (Heap.get?_update_other _ _ (Ne.symm hb)).trans (Heap.get?_push_of_some _ e)
  refine ext_rev (A := A.in1) (l := l) (items := items) .none _ hh (hit.at fun o e => oth _ o (Nat.ne_of_lt li) e) (hl.at fun o e => oth _ o (Nat.ne_of_lt ll) e) hne (Nat.ne_of_gt li) (Nat.ne_of_gt ll) hn hS₂ (fun h' tk acc' c' hk hS' hacc => ?_)
  exact ⟨rfl, hQ h' tk acc' c' (fun b o hb e => hk b o (Nat.ne_of_lt (Heap.lt_size e)) hb (oth b o (Nat.ne_of_lt (Heap.lt_size e)) e)) hS' hacc⟩
end
section
variable {X : Cx}
def tLstRev (K : PySem.W.Frag) (te : TE) : TE := fun σ H Q => te σ H fun v H1 => ∃ (a : Addr) (xs : List V), v = .ref a ∧ SqL K H1 a xs ∧ ∀ q, H1 q = none → Q (.ref q) (upd H1 q (.lst xs.reverse))
theorem pe_lstRev {e : Expr} {te : TE} {p p2 pos pos2 : Pos} (hc : X.calm = true) (hg : Gl X "list") (hm : X.mg "list" = none) (hg2 : Gl X "reversed") (hm2 : X.mg "reversed" = none) (he : PE X e te)
    (hs : starEach [e] X.env = (false, eval e X.env) :: starEach [] X.env := by rfl)
    (hs2 : starEach [.Call (.Name "reversed" p2) [e] [] pos2] X.env = (false, eval (.Call (.Name "reversed" p2) [e] [] pos2) X.env) :: starEach [] X.env := by rfl) :
    PE X (.Call (.Name "list" p) [.Call (.Name "reversed" p2) [e] [] pos2] [] pos) (tLstRev X.K te) := by
  refine ⟨fun pins s σ H Q I h => ?_⟩
  refine Call_ (ld_blt I hg hm boot_list (PyProof.Rows.callWith_type1 (args_cons (Call_ (ld_blt I hg2 hm2 PyProof.Rows.boot_reversed (PyProof.Rows.callWith_type1 (args_cons (thn (he.run pins s σ H _ I h) fun u s1 ⟨v, H1, I1, r1, a, xs, ev, hq, q⟩ => args_nil ?_) hs) hs rfl))) hs2) hs2 rfl))
  subst ev
  obtain rfl : u = Value.ref a := r1
  obtain ⟨its, rv, p', hz⟩ := I1.list hq
  refine call_reversed_list p'.isList (args_nil ?_)
  have I2 : Inv X pins σ H1 { s1 with heap := s1.heap.push (revObj a ((its.toArray.size : Int) - 1)) } := I1.kept (t' := s1.toks) fun b o e => Heap.get?_push_of_some _ e
  obtain ⟨f0, f1, f2, f3, f4, f5⟩ := I1.fpOk (H' := H1) (b := s1.heap.objs.size) (Nat.le_refl _) (I1.hok.fresh (Nat.le_refl _))
  have hl := p'.isList
  obtain ⟨ol, hol, _⟩ := id hl
  refine call_list_rev (s := { s1 with heap := s1.heap.push (revObj a ((its.toArray.size : Int) - 1)) }) (l := a) (items := its.toArray) (I1.ok.hd hc) ⟨_, Heap.get?_push_size _ rfl, rfl, rfl⟩ (hl.push _) (Nat.ne_of_lt (Heap.lt_size hol)) (by rw [List.size_toArray, ← rv.length]; exact hz) fun h' tk acc c' hk hS hi => ?_
  refine ⟨.ref (s1.heap.push (revObj a ((its.toArray.size : Int) - 1))).objs.size, upd H1 (s1.heap.push (revObj a ((its.toArray.size : Int) - 1))).objs.size (.lst xs.reverse), ?_, rfl, q _ (I2.hok.fresh (Nat.le_refl _))⟩
  refine I2.turnedNew (t' := tk) (ch := [s1.heap.objs.size]) (fun b o hb e => hk b o (by simpa using hb) e) (fun b hb => ?_) (Nat.le_refl _) (show ObjOk X.prog X.w _ _ _ (.lst xs.reverse) from ⟨by rw [List.length_reverse]; exact hz, acc.toList, c', RT.vals_rev rv hi, by rw [Array.toArray_toList]; exact hS⟩)
  obtain rfl : b = s1.heap.objs.size := by simpa using hb
  exact ⟨f0, f1, f2, f3, f4, f5⟩
theorem q_lstRev {e : Expr} {te : WE} {p p2 pos pos2 : Pos} (hc : X.calm = true) (hg : Gl X "list") (hm : X.mg "list" = none) (hg2 : Gl X "reversed") (hm2 : X.mg "reversed" = none) (he : QE X e te)
    (hs : starEach [e] X.env = (false, eval e X.env) :: starEach [] X.env := by rfl)
    (hs2 : starEach [.Call (.Name "reversed" p2) [e] [] pos2] X.env = (false, eval (.Call (.Name "reversed" p2) [e] [] pos2) X.env) :: starEach [] X.env := by rfl) :
    QE X (.Call (.Name "list" p) [.Call (.Name "reversed" p2) [e] [] pos2] [] pos) (eLstRev te) := (pe_lstRev hc hg hm hg2 hm2 he hs hs2).imp' fun σ H Q ⟨env, S, Q0, er, so, q, ps⟩ => by
  refine ⟨env, S, _, er, so, q, fun d S1 h1 v H1 rv s1 f1 => ?_⟩
  split at h1
  · cases rv
    · obtain ⟨xs, e1, h1⟩ := onL_iff.mp h1
      obtain ⟨vs, h2, r2, hz⟩ := s1.lst e1
      have rr : RpAll X.kw H1 vs.reverse xs.reverse := by
        clear h1 e1 hz h2
        induction r2 using RpAll.rec (motive_1 := fun _ _ _ => True) with
        | nil => exact .nil
        | cons h t _ ih => 
          rw [List.reverse_cons, List.reverse_cons]
          exact ih.append (.cons h .nil)
        | _ => trivial
      exact ⟨_, _, rfl, SqL.of h2, fun q hq => (ps.trans f1).made s1 rr (by rw [List.length_reverse]; exact hz) h1 q hq⟩
  · exact h1.elim
end
/-! ### xs[i:j] = ys -/
def gSl (ta : WE) (tl th : WO) : WG := fun d env S Q => ta env S fun x S1 => tl env S1 fun l S2 => th env S2 fun u S3 => match x, d, l, u with
  | .ref a, .ref b, some i, some j => onL S3 a fun xs => onL S3 b fun ys => (a ≠ b ∧ 0 ≤ i ∧ i ≤ j ∧ j ≤ xs.length ∧ xs.length + ys.length ≤ sizeLine) ∧ Q env (sset S3 a (.lst (xs.take i.toNat ++ ys ++ xs.drop j.toNat)))
  | _, _, _, _ => False
section
variable {X : Cx} {o lo hi : Expr} {ta : WE} {tl th : WO} {pos p2 : Pos}
theorem qg_slice (ho : QE X o ta) (hl : QO X (some lo) tl) (hu : QO X (some hi) th) : QG X (.Subscript o (.Slice (some lo) (some hi) none p2) pos) (gSl ta tl th) := ⟨fun pins s σ H v u Q I r ⟨d, env, S, Q0, rv, er, so, q, ps⟩ => by
  have ha : assign (.Subscript o (.Slice (some lo) (some hi) none p2) pos) X.env u = (do
      let ov ← holding [u] (eval o X.env)
      let iv ← holding [u, ov] (eval (.Slice (some lo) (some hi) none p2) X.env)
      standAt pos
      holding [u, ov, iv] (setItem ov iv u)
      release [iv, u, ov] []) := rfl
  rw [ha]
  refine wpAny_bind (wpAny_holding (thn (ho.run pins s σ H (fun x H1 => lO X.kw tl σ H1 fun l H2 => lO X.kw th σ H2 fun w H3 => ∃ a b i j xs ys, x = .ref a ∧ v = .ref b ∧ l = some i ∧ w = some j ∧ H3 a = some (.lst xs) ∧ H3 b = some (.lst ys) ∧ a ≠ b ∧ 0 ≤ i ∧ i ≤ j ∧ j ≤ (xs.length : Int) ∧ xs.length + ys.length ≤ sizeLine ∧ Q σ (upd H3 a (.lst (xs.take i.toNat ++ ys ++ xs.drop j.toNat)))) I ?_) fun ov s1 ⟨x, H1, I1, r1, q1⟩ => ?_))
  · refine ⟨env, S, _, er, so, q, fun x S1 h1 y H1 ry s1 f1 => ?_⟩
    refine ⟨env, S1, _, er.mono f1.tk, s1, h1, fun l S2 h2 H2 s2 f2 => ?_⟩
    refine ⟨env, S2, _, er.mono (f1.trans f2).tk, s2, h2, fun w S3 h3 H3 s3 f3 => ?_⟩
    have f := (f1.trans f2).trans f3
    split at h3
    · rename_i a b i j
      cases ry
      cases rv
      obtain ⟨xs, e1, h3⟩ := onL_iff.mp h3
      obtain ⟨ys, e2, ⟨g1, g2, g3, g4, g5⟩, h3⟩ := onL_iff.mp h3
      obtain ⟨vs, k1, k2, _⟩ := s3.lst e1
      obtain ⟨ws, k3, k4, _⟩ := s3.lst e2
      refine ⟨a, b, i, j, vs, ws, rfl, rfl, rfl, rfl, k1, k3, g1, g2, g3, by rw [k2.length]; exact g4, by rw [k2.length, k4.length]; exact g5, ?_⟩
      refine ps _ _ h3 _ _ (er.mono (f.trans (.set (ws := vs.take i.toNat ++ ws ++ vs.drop j.toNat) (o' := .lst (xs.take i.toNat ++ ys ++ xs.drop j.toNat)) e1 k1)).tk) (s3.set e1 k1 (((RpAll.take _ k2).append k4).append (RpAll.drop _ k2)) (by simp only [List.length_append, List.length_take, List.length_drop]; omega)) (f.trans (.set e1 k1))
    · exact h3.elim
  · refine wpAny_bind (wpAny_holding (wpAny_Slice (thn (hl.run pins s1 σ H1 _ I1 q1) fun vl s2 ⟨l, H2, I2, pl, q2⟩ => thn (hu.run pins s2 σ H2 _ I2 q2) fun vu s3 ⟨w, H3, I3, pu, q3⟩ => ?_)))
    rw [evalPart_none]
    refine wpAny_pure ?_
    have I4 : Inv X pins σ H3 { s3 with heap := s3.heap.push { cls := .type "slice", data := .fields #[vl, vu, .none] } } := I3.kept (t' := s3.toks) fun b ob q => Heap.get?_push_of_some _ q
    obtain ⟨a, b, i, j, xs, ys, rfl, rfl, rfl, rfl, k1, k2, g1, g2, g3, g4, g5, qq⟩ := q3
    obtain rfl : ov = Value.ref a := r1
    obtain rfl : u = Value.ref b := r
    have rl : L2.RelV (.int i) vl := by cases pl; exact ⟨_, rfl⟩
    have ru : L2.RelV (.int j) vu := by cases pu; exact ⟨_, rfl⟩
    refine wpAny_bind (wpAny_standAt (wpAny_bind (wpAny_holding (set_slice I4 k1 k2 g1 (Heap.IsSliceOf.new ..) rl ru g2 g3 g4 g5 fun s5 I5 => ?_))))
    exact wpAny_release ⟨σ, _, I5, qq⟩⟩
end
/-! ### what is never reached -/
def sDead : WS := fun _ _ _ => False
theorem q_dead {X : Cx} {st : Stmt} : QS X st sDead := ⟨fun pins s σ H D I ⟨_, _, _, _, _, q, _⟩ => q.elim⟩
end DL

/-! DT: exceptions of the text's own classes: raise, a call that may raise, try .. except C as e. -/
namespace DL
open PySem PySem.Spec PyProof.Rows L2

/-! ### pure -/
/-- an exception: its class, its one field -/
structure XV where
  cls : Str
  fld : Option (Str × D) := none
abbrev XQ := XV → EV → Sto → Prop
/-- what a def is asked that may raise -/
abbrev WFX := List D → Sto → WQ → (XV → Sto → Prop) → Prop
/-- .. at a place where nothing may be raised -/
def plainF (F : WFX) : WF := fun ds S Q => F ds S Q fun _ _ => False
def exOf (E : XV → Sto → Prop) : XQ := fun x _ S => UpS (E x) S
def noX : XQ := fun _ _ _ => False
/-- is a class of the text a subclass of another: all stand right under ChartError, which stands under ValueError -/
def subX (c n : Str) : Bool := decide (n = "ChartError") || decide (n = "ValueError") || decide (c = n)
def eCallX (F : WFX) (t : WA) (P : XQ) : WE := fun env S Q => t env S fun ds S1 => F ds S1 Q fun x S' => P x env S'
def sRaise (c f : Str) (t : WE) (P : XQ) : WS := fun D env S => t env S fun d S1 => P ⟨c, some (f, d)⟩ env S1
def sRaise0 (c : Str) (P : XQ) : WS := fun D env S => P ⟨c, none⟩ env S
/-- the caught exception as a datum -/
def XV.dat (x : XV) (a dd : Addr) : D := match x.fld with
  | some (f, v) => .exc a dd f v
  | none => .ref a
/-- the ends of an except suite: its name goes -/
def unb (i : Nat) (D : En) : En := { nx := fun env S => D.nx (env.set i none) S, rt := D.rt, bk := fun env S => D.bk (env.set i none) S, ct := fun env S => D.ct (env.set i none) S }
structure sTry (i : Nat) (cl : Str) (body : XQ → WS) (h : Addr → Addr → XV → WS) (P : XQ) (D : En) (env : EV) (S : Sto) : Prop where
  ex : ∃ P1 : XQ, body P1 D env S ∧ ∀ x env' S', P1 x env' S' → if subX x.cls cl = true then ∀ a dd, h a dd x (unb i D) (env'.set i (some (x.dat a dd))) S' else P x env' S'
structure sTryO (cl : Str) (body : XQ → WS) (h : WS) (P : XQ) (D : En) (env : EV) (S : Sto) : Prop where
  ex : ∃ P1 : XQ, body P1 D env S ∧ ∀ x env' S', P1 x env' S' → if subX x.cls cl = true then h D env' S' else P x env' S'
/-- isinstance(e, n) of the caught exception, in slot i -/
def eIsX (x : XV) (a dd : Addr) (i : Nat) (n : Str) : WE := fun env S Q => env[i]? = some (some (x.dat a dd)) ∧ Q (.bl (subX x.cls n)) S
/-- e.f of the caught exception -/
def eXf (x : XV) (a dd : Addr) (i : Nat) (f : Str) : WE := fun env S Q => env[i]? = some (some (x.dat a dd)) ∧ match x.fld with
  | some (g, v) => g = f ∧ Q v S
  | none => False

/-! ### what it means -/
/-- what is known of the exceptions' classes -/
structure XcB (K : PySem.W.Frag) (C : Addr) : Prop where
  o : OexC K C
  f : XfC K C
  ha : PySem.W.findIn K (.ref C) "__class__" = some (some (.builtin "object.__class__"))
  hn : PySem.W.specialIn K (.builtin "object.__class__") "__get__" = some (some (.builtin "getset_descriptor.__get__"))
  ht : PySem.W.takesIn K (.builtin "object.__class__") = some true
  hm : PySem.W.mroIn K C (.type "object") = some true
  hc : (PySem.W.clsIn K C).isSome = true
/-- the exceptions' classes cs, and the fields that their instances bear -/
structure XTab (K : PySem.W.Frag) (mg : Str → Option Value) (cs fs : List Str) : Prop where
  cl : ∀ c ∈ cs, ∃ C, mg c = some (.ref C) ∧ XcB K C ∧ ∀ f ∈ fs, PySem.W.findIn K (.ref C) f = some none
/-- the class n, as a clause or isinstance asks it -/
structure XAsk (K : PySem.W.Frag) (mg : Str → Option Value) (cs : List Str) (n : Str) : Prop where
  ex : ∃ N : Value, (mg n = some N ∨ (mg n = none ∧ bootBuiltins n = some N ∧ n ≠ "__name__")) ∧ (∃ v : V, RelV v N ∧ ∀ u, RelV v u → u = N) ∧ PySem.W.subIn K N (.type "BaseException") = some true ∧ ∀ c ∈ cs, ∀ C, mg c = some C → PySem.W.kitCls K C N = some (subX c n) ∧ ((C == N) = true → subX c n = true)
structure XR (K : Kw) (mg : Str → Option Value) (cs : List Str) (H : Hp) (cls : Value) (d : Option Addr) (x : XV) : Prop where
  mem : x.cls ∈ cs
  cls : mg x.cls = some cls
  fld : match x.fld with
    | none => d = none
    | some (f, v) => ∃ dd u, d = some dd ∧ H dd = some (.xd [(f, u)]) ∧ Rp K H u v
/-- what holds of the class and dict of a caught exception -/
structure XK1 (mg : Str → Option Value) (cs : List Str) (cls : Value) (d : Option Addr) (x : XV) : Prop where
  mem : x.cls ∈ cs
  cls : mg x.cls = some cls
  dd : x.fld ≠ none → ∃ a, d = some a
  nn : x.fld = none → d = none
theorem XR.k1 {K : Kw} {mg : Str → Option Value} {cs : List Str} {H : Hp} {cls : Value} {d : Option Addr} {x : XV} (r : XR K mg cs H cls d x) : XK1 mg cs cls d x := ⟨r.mem, r.cls, fun hne => by
  have := r.fld
  split at this
  · rename_i e
    exact absurd e hne
  · obtain ⟨dd, u, e1, _⟩ := this
    exact ⟨dd, e1⟩, fun e => by
  have := r.fld
  rw [e] at this
  exact this⟩
theorem XR.rd {K : Kw} {mg : Str → Option Value} {cs : List Str} {H : Hp} {cls : Value} {d : Option Addr} {x : XV} (r : XR K mg cs H cls d x) (a : Addr) : Rp K H (.ref a) (x.dat a (d.getD 0)) := by
  have := r.fld
  unfold XV.dat
  split at this
  · rename_i e
    rw [e]
    exact .ref a
  · rename_i g v e
    obtain ⟨dd, u, e1, e2, r⟩ := this
    rw [e, e1]
    exact .exc e2 r
abbrev Xcs := List Str
section
variable (K : Kw) (mg : Str → Option Value) (cs : Xcs)
def PostX (S : Sto) (H : Hp) (P : XQ) (W : WX) : Prop := ∀ x env' S', P x env' S' → ∀ cls d σ' H', XR K mg cs H' cls d x → ER K H' σ' env' → SOk K H' S' → Fr S S' H H' → W cls d σ' H'
def PostXf (S : Sto) (H : Hp) (E0 : XV → Sto → Prop) (E : XK) : Prop := ∀ x S', E0 x S' → ∀ cls d H', XR K mg cs H' cls d x → SOk K H' S' → Fr S S' H H' → E cls d H'
def lFX (F : WFX) : Sp := fun vs H Q E => ∃ ds S Q0 E0, RpAll K H vs ds ∧ SOk K H S ∧ F ds S Q0 E0 ∧ PostE K S H Q0 Q ∧ PostXf K mg cs S H E0 E
def lEX (W : WX) (P : XQ) (t : WE) : TE := fun σ H Q => ∃ env S Q0, ER K H σ env ∧ SOk K H S ∧ t env S Q0 ∧ PostE K S H Q0 Q ∧ PostX K mg cs S H P W
def lAX (W : WX) (P : XQ) (t : WA) : TA := fun σ H Q => ∃ env S Q0, ER K H σ env ∧ SOk K H S ∧ t env S Q0 ∧ (∀ ds S', Q0 ds S' → ∀ vs H', RpAll K H' vs ds → SOk K H' S' → Fr S S' H H' → Q vs H') ∧ PostX K mg cs S H P W
def lSX (W : WX) (P : XQ) (t : WS) : TS := fun D σ H => ∃ env S D0, ER K H σ env ∧ SOk K H S ∧ t D0 env S ∧ PostS K S H D0 D ∧ PostX K mg cs S H P W
end
variable {cs : Xcs}
theorem PostX.trans {K : Kw} {mg : Str → Option Value} {S S1 : Sto} {H H1 : Hp} {P : XQ} {W : WX} (p : PostX K mg cs S H P W) (f : Fr S S1 H H1) : PostX K mg cs S1 H1 P W := fun x e S' h cls d σ' H' r er s g => p x e S' h cls d σ' H' r er s (f.trans g)
abbrev QEX (cs : Xcs) (X : Cx) (W : WX) (P : XQ) (e : Expr) (t : WE) : Prop := PE X e (lEX X.kw X.mg cs W P t)
abbrev QAX (cs : Xcs) (X : Cx) (W : WX) (P : XQ) (es : List Expr) (t : WA) : Prop := PA X es (lAX X.kw X.mg cs W P t)
abbrev QSX (cs : Xcs) (X : Cx) (W : WX) (P : XQ) (st : Stmt) (t : WS) : Prop := PS X st (lSX X.kw X.mg cs W P t)
abbrev QSsX (cs : Xcs) (X : Cx) (W : WX) (P : XQ) (ss : List Stmt) (t : WS) : Prop := PSs X ss (lSX X.kw X.mg cs W P t)

/-! ### defs that may raise -/
structure FnGX (P : Program) (w : World) (K : PySem.W.Frag) (mg : Str → Option Value) (base : Heap) (k : Nat) (f : Addr) (fd : FuncData) (ps : List Str) (sp : Sp) : Prop where
  len : ∀ vs H Q E, sp vs H Q E → vs.length = ps.length
  run : ∀ (A : Around) (outer : List Env) (s : Shared) (H : Hp) (args : Args) (us : List Value) (vs : List V) (Q : VK) (E : XK), Room k A → A.guards = some [] → Env0 P w K mg base A outer s H → BindsTo s fd args (ps.zip us) → Vals vs us → sp vs H Q E →
    codeAny (model P w) A (.call (.ref f) args) (CR (L2.CX P w) outer P w H s Q E) s
theorem FnGX.mono {P : Program} {w : World} {K : PySem.W.Frag} {mg : Str → Option Value} {base : Heap} {j k : Nat} {f : Addr} {fd : FuncData} {ps : List Str} {sp : Sp} (F : FnGX P w K mg base j f fd ps sp) (h : j ≤ k) : FnGX P w K mg base k f fd ps sp := ⟨F.len, fun A outer s H args us vs Q E hr => F.run A outer s H args us vs Q E (hr.mono h)⟩
structure CalX (cs : Xcs) (P : Program) (w : World) (K : PySem.W.Frag) (mg : Str → Option Value) (base : Heap) (x : Str) (k : Nat) (ps : List Str) (F : WFX) : Prop where
  ex : ∃ f fd, FnGX P w K mg base k f fd ps (lFX ⟨K, P, w⟩ mg cs F) ∧ mg x = some (.ref f) ∧ PySem.W.keepIn K (.ref f) = true ∧ Binds K fd ps []
theorem CalX.plain {P : Program} {w : World} {K : PySem.W.Frag} {mg : Str → Option Value} {base : Heap} {x : Str} {k : Nat} {ps : List Str} {F : WFX} (C : CalX cs P w K mg base x k ps F) : Cal P w K mg base x k ps (plainF F) := by
  obtain ⟨f, fd, G, rest⟩ := C.ex
  have key : ∀ vs H Q E, lF ⟨K, P, w⟩ (plainF F) vs H Q E → lFX ⟨K, P, w⟩ mg cs F vs H Q (fun _ _ _ => False) := fun vs H Q E ⟨ds, S, Q0, r, so, h, pst⟩ => ⟨ds, S, Q0, _, r, so, h, pst, fun _ _ z => z.elim⟩
  refine ⟨f, fd, ⟨fun vs H Q E h => G.len _ _ _ _ (key _ _ _ _ h), fun A outer s H args us vs Q E hr hg e0 hb r h => ?_⟩, rest⟩
  refine codeAny_mono (G.run A outer s H args us vs Q (fun _ _ _ => False) hr hg e0 hb r (key _ _ _ _ h)) fun r s' hq => ?_
  cases r with
  | error e =>
    obtain ⟨_, _, _, _, _, _, _, _, _, _, _, _, z⟩ := hq
    exact z.elim
  | ok fl => cases fl <;> exact hq
theorem fnGX_of {P : Program} {w : World} {K : PySem.W.Frag} {mg : Str → Option Value} {base : Heap} {k : Nat} {f : Addr} {ps : List Str} {sp : Sp} {name qual : Str} {params : Arguments} {body : List Stmt} {scope : Scope} {dV kV doc pm cdv ct oc : Value} {an od : Option Addr}
    {osl : Array (Option Value)} {N : List Str} (lk : K.lookup f = some ⟨oc, od, .func (PySem.W.fnOf name qual params body scope dV kV doc pm an cdv ct), osl⟩) (hcd : PySem.W.codeIn K cdv qual = true) (S : FnScope N ps scope)
    (len : ∀ vs H Q E, sp vs H Q E → vs.length = ps.length)
    (hbody : ∀ (A : Around) (outer : List Env) (s : Shared) (H : Hp) (vs : List V) (Q : VK) (E : XK), Room k (A.deeper (envOfC qual scope s.heap.objs.size f cdv)) → A.guards = some [] → sp vs H Q E →
      ∃ t, PSs (cxOf (L2.CX P w) P w K mg base N qual scope f cdv A outer s H E) body t ∧ t { nx := fun _ H' => Q .non H', rt := Q } (L2.start N vs) H) :
    FnGX P w K mg base (k + 1) f (PySem.W.fnOf name qual params body scope dV kV doc pm an cdv ct) ps sp := by
  refine ⟨len, fun A outer s H args us vs Q E hr hG e0 hb r hsp => ?_⟩
  have hl := len _ _ _ _ hsp
  have KX : K.In s.heap := e0.mod.kin.keeps fun b o e => (e0.bs b o e).1
  have lim : s.heap.NoLimit := e0.mod.nolimit.keeps fun b o e => (e0.bs b o e).1
  have hkind : ∀ y ∈ ps.zip us, scope.names.lookup y.1 = some .local ∨ (scope.names.lookup y.1 = some .cell ∧ ((cellsFrom (s.heap.objs.size + 1) scope.names []).lookup y.1).isSome = true) := fun ⟨n, v⟩ hy => by
    rcases S.par n (List.of_mem_zip hy).1 with q | q
    · exact .inl q
    · exact .inr ⟨q, PySem.W.cellsFrom_some _ _ _ (.inl q)⟩
  refine codeAny_call_function hr.depth (KX _ _ lk) rfl S.co S.gen rfl (PySem.W.codeRec_of KX hcd) (hb _ _ _ _ ?_)
  refine wpAny_newFunctionEnv_cells S.kind hkind fun env he s1 x => ?_
  subst he
  refine ⟨lim.keeps x.toInCall.keep, codeAny_func ?_⟩
  obtain ⟨t, ht, hq⟩ := hbody A outer s H vs Q E (hr.deeper _) hG hsp
  have I : Inv (cxOf (L2.CX P w) P w K mg base N qual scope f cdv A outer s H E) [] (L2.start N vs) H s1 := inv_start S hr.hd e0 hl r x
  refine wpAny_mono (ht.run [] s1 (L2.start N vs) H _ I hq) (fun fl s' hs => ?_) fun e s' hs => hs
  have fin : ∀ {σ' : L2.St} {H' : Hp} {v : V} {u : Value}, Inv (cxOf (L2.CX P w) P w K mg base N qual scope f cdv A outer s H E) [] σ' H' s' → RelV v u → Q v H' → CE outer P w H s Q u s' :=
    fun {σ' H' v u} J rv q => ⟨v, H', J.os, J.bare, J.base, J.hok, rv, q⟩
  cases fl with
  | ret u =>
    obtain ⟨v, σ', H', J, rv, q⟩ := hs
    exact fin J rv q
  | next =>
    obtain ⟨σ', H', J, q⟩ := hs
    exact fin (v := V.non) (u := Value.none) J rfl q
  | brk =>
    obtain ⟨_, _, _, q⟩ := hs
    exact False.elim q
  | cont =>
    obtain ⟨_, _, _, q⟩ := hs
    exact False.elim q
/-- a def that may raise, by its body; W: what leaves it -/
theorem calX_of {P : Program} {w : World} {K : PySem.W.Frag} {mg : Str → Option Value} {base : Heap} {x qual : Str} {st : Stmt} {f : Addr} {fd : FuncData} {N ps : List Str} {k : Nat} {F : WFX} {b : XQ → WS} (F0 : Fun K x qual st f fd) (hm : mg x = some (.ref f)) (hb : Binds K fd ps []) (S : FnScope N ps (defScope st)) (hN : ps.length ≤ N.length)
    (len : ∀ ds S Q E, F ds S Q E → ds.length = ps.length)
    (body : ∀ (cdv : Value) (A : Around) (outer : List Env) (s : Shared) (H : Hp) (E : XK), Cok (cxOf (L2.CX P w) P w K mg base N qual (defScope st) f cdv A outer s H E).nox k →
      Takes (cxOf (L2.CX P w) P w K mg base N qual (defScope st) f cdv A outer s H E) (fun cls d _ H => E cls d H) → PassesOwn (model P w) (cxOf (L2.CX P w) P w K mg base N qual (defScope st) f cdv A outer s H E).A (cxOf (L2.CX P w) P w K mg base N qual (defScope st) f cdv A outer s H E).env (cxOf (L2.CX P w) P w K mg base N qual (defScope st) f cdv A outer s H E).xe →
      ∀ XP : XQ, QSsX cs (cxOf (L2.CX P w) P w K mg base N qual (defScope st) f cdv A outer s H E) (fun cls d _ H => E cls d H) XP (defBody st) (b XP))
    (pure : ∀ ds S Q E, F ds S Q E → b (exOf E) (enOf Q) (DL.start N.length ds) S) : CalX cs P w K mg base x (k + 1) ps F := by
  obtain ⟨oc, od, kV, doc, pm, an, cdv, ct, osl, rfl, lk, hcd⟩ := F0.ex
  have len' : ∀ vs H Q E, lFX ⟨K, P, w⟩ mg cs F vs H Q E → vs.length = ps.length := fun vs H Q E ⟨ds, S, Q0, E0, r, so, h, _⟩ => by rw [r.length]; exact len _ _ _ _ h
  refine ⟨f, _, fnGX_of lk hcd S len' (fun A outer s H vs Q E hr hG hsp => ?_), hm, F0.kp, hb⟩
  have hl := len' _ _ _ _ hsp
  obtain ⟨ds, S0, Q0, E0, r, so, h, pst, px⟩ := hsp
  refine ⟨_, body cdv A outer s H E ⟨hr, hG, rfl, S.nd⟩ (takes_of rfl rfl rfl rfl) (passes_of rfl) (exOf E0), ?_⟩
  refine ⟨DL.start N.length ds, S0, enOf Q0, r.start (by rw [hl]; exact hN), so, pure _ _ _ _ h, ⟨fun env' S' h σ' H' er' s' f => ?_, fun d S' h v H' rv s' f => ?_, fun _ _ h => h.elim, fun _ _ h => h.elim⟩, fun x env' S' h cls d σ' H' xr er' s' f => ?_⟩
  · obtain ⟨S1, sb, h⟩ := (show UpS (Q0 .non) S' from h).ex
    exact pst _ _ h _ _ .non (s'.sub sb) (f.sub sb)
  · obtain ⟨S1, sb, h⟩ := (show UpS (Q0 d) S' from h).ex
    exact pst _ _ h _ _ rv (s'.sub sb) (f.sub sb)
  · obtain ⟨S1, sb, h⟩ := (show UpS (E0 x) S' from h).ex
    exact px _ _ h _ _ _ xr (s'.sub sb) (f.sub sb)

/-! ### expressions in which something may be raised -/
section
variable {X : Cx} {W : WX} {XP : XQ} {e a b : Expr} {es : List Expr} {te ta tb : WE} {t : WA} {p pos : Pos} {k j : Nat} {x : Str} {pl : List Str}
theorem qx_lift (h : QE X.nox e te) : QEX cs X W XP e te := (PE.nox h).imp' fun σ H Q ⟨env, S, Q0, er, so, q, pst, _⟩ => ⟨env, S, Q0, er, so, q, pst⟩
theorem qax_lift {es : List Expr} (h : PA X es (lA X.kw t)) : QAX cs X W XP es t := h.imp' fun σ H Q ⟨env, S, Q0, er, so, q, pst, _⟩ => ⟨env, S, Q0, er, so, q, pst⟩
theorem qax_nil : QAX cs X W XP [] aNil := qax_lift qa_nil
theorem qax_cons (ha : QEX cs X W XP a ta) (hr : QAX cs X W XP es t) (hs : starEach (a :: es) X.env = (false, eval a X.env) :: starEach es X.env := by rfl) : QAX cs X W XP (a :: es) (aCons ta t) := (pa_cons ha hr hs).imp' fun σ H Q ⟨env, S, Q0, er, so, q, ps, px⟩ => by
  refine ⟨env, S, _, er, so, q, fun d S1 h1 v H1 rv s1 f1 => ?_, px⟩
  refine ⟨env, S1, _, er.mono f1.tk, s1, h1, fun ds S2 h2 vs H2 rs s2 f2 => ?_, px.trans f1⟩
  exact ps _ _ h2 _ _ (.cons (rv.mono f2.tk) rs) s2 (f1.trans f2)
theorem qx_tup {x1} (h : QAX cs X W XP es t) : QEX cs X W XP (.Tuple es x1 pos) (eTup t) := (pe_tup h).imp' fun σ H Q ⟨env, S, Q0, er, so, q, ps, px⟩ => by
  refine ⟨env, S, _, er, so, q, fun ds S1 h1 vs H1 rs s1 f1 => ?_, px⟩
  have hz : ds.length ≤ sizeLine := Nat.le_trans h1.1 (by decide)
  exact ⟨by rw [rs.length]; exact hz, (ps.trans f1).tup s1 rs hz h1.2⟩
theorem qx_lst (h : QAX cs X W XP es t) : QEX cs X W XP (.List es pos) (eLst t) := (pe_lst h).imp' fun σ H Q ⟨env, S, Q0, er, so, q, ps, px⟩ => by
  refine ⟨env, S, _, er, so, q, fun ds S1 h1 vs H1 rs s1 f1 => ?_, px⟩
  have hz : ds.length ≤ sizeLine := Nat.le_trans h1.1 (by decide)
  exact ⟨by rw [rs.length]; exact hz, (ps.trans f1).made s1 rs hz h1.2⟩
theorem qx_blt {id : String} {r : List V → Hp → VK → Prop} {B : WB} (hc : CallR X (.builtin id) r) (hb : Bfr X r B) (hg : Gl X x) (hm : X.mg x = none) (hv : bootBuiltins x = some (.builtin id)) (ha : QAX cs X W XP (e :: es) t) (hn : x ≠ "__name__" := by decide) (hdb : (x == ("__debug__" : Str)) = false := by decide)
    (he : starEach (e :: es) X.env = (false, eval e X.env) :: starEach es X.env := by rfl) (hpl : (backTo pos (starEach es X.env)).any (·.1) = false := by rfl) :
    QEX cs X W XP (.Call (.Name x p) (e :: es) [] pos) (eCall B t) :=
  (pe_callB hc hg hm hv ha hn hdb he hpl).imp' fun σ H Q ⟨env, S, Q0, er, so, q, ps, px⟩ => ⟨env, S, _, er, so, q, fun ds S1 h1 vs H1 rs s1 f1 => hb _ _ _ _ _ _ h1 rs s1 (ps.trans f1), px⟩
theorem qx_bin {op : CmpOp} {r : R2} {R : D → D → Sto → WQ → Prop} (ho : OpR X (compareOp op) r) (hr : Opr X r R) (ha : QEX cs X W XP a ta) (hb : QEX cs X W XP b tb) (hm : behindInMarks op b = false) : QEX cs X W XP (.Compare a [op] [b] pos) (eBin R ta tb) :=
  (pe_cmpR ho ha hb hm).imp' fun σ H Q ⟨env, S, Q0, er, so, q, ps, px⟩ => by
  refine ⟨env, S, _, er, so, q, fun x S1 h1 v H1 rv s1 f1 => ?_, px⟩
  refine ⟨env, S1, _, er.mono f1.tk, s1, h1, fun y S2 h2 u H2 ru s2 f2 => ?_, px.trans f1⟩
  exact hr x y S2 _ v u H2 Q h2 (rv.mono f2.tk) ru s2 (ps.trans (f1.trans f2))
theorem qx_eq {k : Nat} (hr : Room k X.A) (ha : QEX cs X W XP a ta) (hb : QEX cs X W XP b tb) : QEX cs X W XP (.Compare a [.Eq] [b] pos) (eBin dEq ta tb) := qx_bin (op_eq.or (op_eqD hr.units)) opr_eq ha hb (nomark _)
theorem qx_ne {k : Nat} (hr : Room k X.A) (ha : QEX cs X W XP a ta) (hb : QEX cs X W XP b tb) : QEX cs X W XP (.Compare a [.NotEq] [b] pos) (eBin dNe ta tb) := qx_bin (op_ne.or (op_neD hr.units)) opr_ne ha hb (nomark _)
theorem qx_ix (ha : QEX cs X W XP a ta) (hb : QEX cs X W XP b tb) (hs : PlainIx b := by exact fun _ _ => rfl) : QEX cs X W XP (.Subscript a b pos) (eBin dIx ta tb) := (pe_ix ix_seq ha hb hs).imp' fun σ H Q ⟨env, S, Q0, er, so, q, ps, px⟩ => by
  refine ⟨env, S, _, er, so, q, fun x S1 h1 v H1 rv s1 f1 => ?_, px⟩
  refine ⟨env, S1, _, er.mono f1.tk, s1, h1, fun y S2 h2 u H2 ru s2 f2 => ?_, px.trans f1⟩
  exact opr_ix x y S2 _ v u H2 Q h2 (rv.mono f2.tk) ru s2 (ps.trans (f1.trans f2))
/-- a call of a def that may raise -/
theorem qx_call {F : WFX} (C : Cok X j) (tk : Takes X W) (c : CalX cs X.prog X.w X.K X.mg X.base x k pl F) (hj : k ≤ j) (hg : Gl X x) (ha : QAX cs X W XP (e :: es) t)
    (hdb : (x == ("__debug__" : Str)) = false := by decide) (he : starEach (e :: es) X.env = (false, eval e X.env) :: starEach es X.env := by rfl) (hpl : (backTo pos (starEach es X.env)).any (·.1) = false := by rfl) :
    QEX cs X W XP (.Call (.Name x p) (e :: es) [] pos) (eCallX F t XP) := by
  obtain ⟨f, fd, G, hm, hk, hb⟩ := c.ex
  refine ⟨fun pins s σ H Q I ⟨env, S, Q0, er, so, q, ps, px⟩ => ?_⟩
  refine wpAny_Call_Name_kw (ld_glob I hg hm ?_ hdb)
  refine PySem.W.callWith_K (h₀ := X.base) I.ok.mod.kin hk (thn (ha.run pos pins s σ H (fun vs H1 => lFX X.kw X.mg cs F vs H1 Q (L2.WE W σ)) I ⟨env, S, _, er, so, q, fun ds S1 h1 vs H1 rs s1 f1 => ⟨ds, S1, Q0, _, rs, s1, h1, ps.trans f1, fun xv S' h cls d H' xr s' f => px xv env S' h cls d σ H' xr (er.mono (f1.trans f).tk) s' (f1.trans f)⟩, px⟩) fun us s1 ⟨vs, H1, I1, r, q⟩ => ⟨I1.kIn, ?_⟩) he hpl
  have hl : (us ++ []).length = pl.length := by rw [List.append_nil, ← r.length]; exact G.len _ _ _ _ q
  have hb' := hb s1 us I1.kIn hl
  rw [List.append_nil] at hb'
  refine wpAny_call (codeAny_mono (G.run X.A X.stack s1 H1 ⟨us, []⟩ us vs Q (L2.WE W σ) (C.room.mono hj) C.gd I1.env0 hb' r q) fun r s' hq => ?_)
  cases r with
  | error e => exact passAt tk σ pins H1 s1 e s' I1 hq
  | ok fl =>
    cases fl with
    | ret u => exact I1.after hq
    | next => exact False.elim hq
    | brk => exact False.elim hq
    | cont => exact False.elim hq
/-- a call of a def that raises nothing, an argument may -/
theorem qx_callN {F : WF} (C : Cok X j) (c : Cal X.prog X.w X.K X.mg X.base x k pl F) (hj : k ≤ j) (hg : Gl X x) (ha : QAX cs X W XP (e :: es) t)
    (hdb : (x == ("__debug__" : Str)) = false := by decide) (he : starEach (e :: es) X.env = (false, eval e X.env) :: starEach es X.env := by rfl) (hpl : (backTo pos (starEach es X.env)).any (·.1) = false := by rfl) :
    QEX cs X W XP (.Call (.Name x p) (e :: es) [] pos) (eCall F t) := by
  obtain ⟨f, fd, G, hm, hk, hb⟩ := c.ex
  refine ⟨fun pins s σ H Q I ⟨env, S, Q0, er, so, q, ps, px⟩ => ?_⟩
  refine wpAny_Call_Name_kw (ld_glob I hg hm ?_ hdb)
  refine PySem.W.callWith_K (h₀ := X.base) I.ok.mod.kin hk (thn (ha.run pos pins s σ H (fun vs H1 => lF X.kw F vs H1 Q E0) I ⟨env, S, _, er, so, q, fun ds S1 h1 vs H1 rs s1 f1 => ⟨ds, S1, Q0, rs, s1, h1, ps.trans f1⟩, px⟩) fun us s1 ⟨vs, H1, I1, r, q⟩ => ⟨I1.kIn, ?_⟩) he hpl
  exact run_fnG C hj G hb I1 r q
end

/-! ### statements -/
section
variable {X : Cx} {W : WX} {XP : XQ} {e : Expr} {te : WE} {st : Stmt} {rest : List Stmt} {t u : WS} {pos : Pos}
theorem _root_.L2.PS.nox {st : Stmt} {t : TS} (h : PS X.nox st t) : PS X st t := ⟨fun pins s σ H D I hw =>
  wpAny_mono (h.run pins s σ H D (I.wish _) hw) (fun _ _ q => q.unwish) fun _ _ z => False.elim z⟩
theorem qsx_lift (h : QS X.nox st t) : QSX cs X W XP st t := (PS.nox h).imp' fun D σ H ⟨env, S, D0, er, so, q, ps, _⟩ => ⟨env, S, D0, er, so, q, ps⟩
theorem qssx_lift (h : QSs X.nox rest t) : QSsX cs X W XP rest t := (PSs.nox h).imp' fun D σ H ⟨env, S, D0, er, so, q, ps, _⟩ => ⟨env, S, D0, er, so, q, ps⟩
theorem qsx_nil : QSsX cs X W XP [] sNil := pss_nil.imp' fun D σ H ⟨env, S, D0, er, so, q, ps, _⟩ => ps.nx _ _ q _ _ er so (.refl S H)
theorem qsx_cons (h1 : QSX cs X W XP st t) (h2 : QSsX cs X W XP rest u) : QSsX cs X W XP (st :: rest) (sSeq t u) := (pss_cons h1 h2).imp' fun D σ H ⟨env, S, D0, er, so, q, ps, px⟩ =>
  ⟨env, S, { D0 with nx := u D0 }, er, so, q, ⟨fun env' S' h σ' H' er' s' f => ⟨env', S', D0, er', s', h, ps.trans f, px.trans f⟩, ps.rt, ps.bk, ps.ct⟩, px⟩
theorem qsx_one (h1 : QSX cs X W XP st t) : QSsX cs X W XP [st] t := pss_one h1
theorem qsx_expr (he : QEX cs X W XP e te) (hs : swapsWith e none pos.line X.env = pure false := by rfl) : QSX cs X W XP (.Expr e pos) (sDrop te) := (ps_expr he hs).imp' fun D σ H ⟨env, S, D0, er, so, q, ps, px⟩ =>
  ⟨env, S, _, er, so, q, fun d S1 h1 v H1 rv s1 f1 => ps.nx _ _ h1 _ _ (er.mono f1.tk) s1 f1, px⟩
theorem qsx_ret (he : QEX cs X W XP e te) : QSX cs X W XP (.Return (some e) pos) (sRet te) := (ps_ret he).imp' fun D σ H ⟨env, S, D0, er, so, q, ps, px⟩ => ⟨env, S, _, er, so, q, ps.rt, px⟩
theorem qsx_set {i : Nat} {x : Str} {p2 : Pos} (hN : X.N.Nodup) (hi : X.N[i]? = some x) (hx : Loc X.env.scope x) (he : QEX cs X W XP e te) (hs : swapsWith e (some (.Name x p2)) pos.line X.env = pure false := by rfl) (hf : X.fn x = true ∨ X.env.scope.names.lookup x = some .local := by first | exact .inl rfl | exact .inr rfl | assumption) :
    QSX cs X W XP (.Assign [.Name x p2] e pos) (sAsg te (DL.gName i)) := (ps_set hN hi hx he hs hf).imp' fun D σ H ⟨env, S, D0, er, so, q, ps, px⟩ =>
  ⟨env, S, _, er, so, q, fun d S1 h1 v H1 rv s1 f1 => ps.nx _ _ h1 _ _ ((er.mono f1.tk).set i rv) s1 f1, px⟩
theorem qsx_asg {tg : Expr} {g : WG} (he : QEX cs X W XP e te) (hg : QG X tg g) (hs : swapsWithSole [tg] e pos.line X.env = pure false := by rfl) (hw : swappedStores [tg] e X.env = pure none := by rfl)
    (h1 : (assignEach [tg] X.env).map (·.2) = [assign tg X.env] := by rfl) : QSX cs X W XP (.Assign [tg] e pos) (sAsg te g) := (ps_asg he hg hs hw h1).imp' fun D σ H ⟨env, S, D0, er, so, q, ps, px⟩ =>
  ⟨env, S, _, er, so, q, fun d S1 h1 v H1 rv s1 f1 => ⟨d, env, S1, _, rv, er.mono f1.tk, s1, h1, fun env2 S2 h2 σ2 H2 er2 s2 f2 => ps.nx _ _ h2 _ _ er2 s2 (f1.trans f2)⟩, px⟩
theorem qsx_if {c : Expr} {a b : List Stmt} {tc : WT} (hc : QT X.nox c tc) (ha : QSsX cs X W XP a t) (hb : QSsX cs X W XP b u) : QSX cs X W XP (.If c a b pos) (sIf tc t u) := (ps_if (PT.nox hc) ha hb).imp' fun D σ H ⟨env, S, D0, er, so, q, ps, px⟩ => by
  refine ⟨env, S, _, er, so, q, fun k S1 h1 H1 s1 f1 => ?_⟩
  cases k with
  | true => exact ⟨env, S1, D0, er.mono f1.tk, s1, h1, ps.trans f1, px.trans f1⟩
  | false => exact ⟨env, S1, D0, er.mono f1.tk, s1, h1, ps.trans f1, px.trans f1⟩
theorem qsx_join (h : QSX cs X W XP st t) : QSX cs X W XP st (sJoin t) := h.imp' fun D σ H ⟨env, S, D0, er, so, q, ps, px⟩ => by
  unfold sJoin at q
  obtain ⟨P, h1, h2⟩ := q
  refine ⟨env, S, _, er, so, h1, ⟨fun env' S' h σ' H' er' s' f => ?_, ps.rt, ps.bk, ps.ct⟩, px⟩
  obtain ⟨S0, sb, h⟩ := (show UpS (P env') S' from h).ex
  exact ps.nx _ _ (h2 _ _ h) _ _ er' (s'.sub sb) (f.sub sb)
theorem qsx_for {tg iter : Expr} {body : List Stmt} {wi : WI} {g : WG} (hp : PassesOwn (model X.prog X.w) X.A X.env X.xe) (hc : X.calm = true) (hi : QI X tg iter wi) (hg : QG X tg g) (hb : QSsX cs X W XP body t)
    (hs : ∀ x, foldedSetIterable iter X.env x = pure x := by intro _; rfl) : QSX cs X W XP (.For tg iter body [] pos) (sFor wi g t) := (ps_for hp hc hi hg hb hs).imp' fun D σ H ⟨env, S, D0, er, so, q, ps, px⟩ => by
  unfold sFor at q
  refine ⟨env, S, _, er, so, q, fun J S1 h1 J' H1 jr s1 f1 => ?_⟩
  obtain ⟨W, w0, turn, done⟩ := h1
  refine ⟨fun i m σ' H' => ∃ env' S', ER X.kw H' σ' env' ∧ SOk X.kw H' S' ∧ Fr S1 S' H1 H' ∧ W i env' S' ∧ m = J.xs.length - i ∧ i ≤ J.xs.length, ⟨J.xs.length, env, S1, er.mono f1.tk, s1, .refl _ _, w0, by omega, Nat.zero_le _⟩, ?_⟩
  rintro i m σ2 H2 ⟨env2, S2, er2, s2, f2, w2, rfl, hi2⟩
  cases hd : J.xs[i]? with
  | none =>
    have hl : J.xs.length ≤ i := List.getElem?_eq_none_iff.mp hd
    have e : i = J.xs.length := Nat.le_antisymm hi2 hl
    rw [e] at w2
    obtain ⟨chk, q2⟩ := done env2 S2 w2
    exact .inl ⟨jr.stop i H2 S2 s2 f2.tk chk hl, ps.nx _ _ q2 _ _ er2 s2 (f1.trans f2)⟩
  | some x =>
    have hlt : i < J.xs.length := (List.getElem?_eq_some_iff.mp hd).1
    obtain ⟨chk, q2⟩ := turn i x env2 S2 hd w2
    obtain ⟨go, yld⟩ := jr.go i H2 S2 x s2 f2.tk chk hd
    refine .inr ⟨go, fun σ' H' => ∃ env' S', ER X.kw H' σ' env' ∧ SOk X.kw H' S' ∧ Fr S1 S' H1 H' ∧ W (i + 1) env' S', fun σ' H' ⟨env', S', a, b, c, w'⟩ => ⟨J.xs.length - (i + 1), by omega, env', S', a, b, c, w', rfl, hlt⟩, fun v H3 y3 => ?_⟩
    obtain ⟨rv, s3, f3⟩ := yld v H3 y3
    refine ⟨x, env2, S2, _, rv, er2.mono f3.tk, s3, q2, fun env4 S4 h4 σ4 H4 er4 s4 f4 => ?_⟩
    have f := (f2.trans f3).trans f4
    have up : ∀ env' S', UpS (W (i + 1) env') S' → ∀ σ' H', ER X.kw H' σ' env' → SOk X.kw H' S' → Fr S4 S' H4 H' → ∃ env' S', ER X.kw H' σ' env' ∧ SOk X.kw H' S' ∧ Fr S1 S' H1 H' ∧ W (i + 1) env' S' := fun env' S' h σ' H' er' s' g => by
      obtain ⟨S0, sb, h⟩ := h.ex
      exact ⟨env', S0, er', s'.sub sb, ((f.trans g).sub sb), h⟩
    exact ⟨env4, S4, _, er4, s4, h4, ⟨up, ps.rt.trans (f1.trans f), fun env' S' h σ' H' er' s' g => ps.nx _ _ h _ _ er' s' ((f1.trans f).trans g), up⟩, px.trans (f1.trans f)⟩
end

/-! ### raise -/
/-- the own __init__ of such a class: self.f = p -/
def spIni (C : Addr) (f : Str) : Sp := fun vs H Q _ => ∃ a u, vs = [.ref a, u] ∧ H a = some (exo a C none) ∧ ∀ dx, H dx = none → dx ≠ a → Q .non (upd (upd H dx (exd dx [(f, u)])) a (exo a C (some dx)))
structure Ini (P : Program) (w : World) (K : PySem.W.Frag) (mg : Str → Option Value) (base : Heap) (C : Addr) (f : Str) : Prop where
  ex : ∃ fI fd ps, PySem.W.findIn K (.ref C) "__init__" = some (some (.ref fI)) ∧ PySem.W.typeIn K (.ref fI) = some (.type "function") ∧ FnOk P w K mg base CX0 1 fI fd ps (spIni C f) ∧ Binds K fd ps []
theorem ini_of {P : Program} {w : World} {K : PySem.W.Frag} {mg : Str → Option Value} {base : Heap} {C fI : Addr} {fd : FuncData} {x qual sf pr f : Str} {st : Stmt} {p1 p2 p3 p4 : Pos} (T : OexC K C) (nf : PySem.W.findIn K (.ref C) f = some none)
    (iC : PySem.W.findIn K (.ref C) "__init__" = some (some (.ref fI))) (tI : PySem.W.typeIn K (.ref fI) = some (.type "function")) (F0 : Fun K x qual st fI fd) (hb : Binds K fd [sf, pr] []) (S : FnScope [sf, pr] [sf, pr] (defScope st))
    (hs : defBody st = [.Assign [.Attribute (.Name sf p1) f p2] (.Name pr p3) p4]) (d1 : (sf == ("__debug__" : Str)) = false := by decide) (d2 : (sf == ("__classdict__" : Str)) = false := by decide) (d3 : (pr == ("__debug__" : Str)) = false := by decide) (d4 : (pr == ("__classdict__" : Str)) = false := by decide) : Ini P w K mg base C f := by
  refine ⟨fI, fd, [sf, pr], iC, tI, F0.ok S (fun vs H Q E ⟨a, u, e, _⟩ => by rw [e]; rfl) (fun cdv A outer s H vs Q E hr ⟨a, u, e, ha, q⟩ => ?_), hb⟩
  subst e
  rw [hs]
  have v1 : Vis (defScope st) sf := by
    rcases S.par sf (by simp) with h | h
    · exact Or.inl h
    · exact Or.inr (Or.inl h)
  have v2 : Vis (defScope st) pr := by
    rcases S.par pr (by simp) with h | h
    · exact Or.inl h
    · exact Or.inr (Or.inl h)
  refine ⟨_, pss_one (ps_ost (pe_var (i := 0) rfl v1 d1 d2) (pe_var (i := 1) rfl v2 d3 d4) (by rfl)), ?_⟩
  exact ⟨_, rfl, _, rfl, a, C, rfl, T, nf, .inl ⟨ha, fun dx h1 h2 => q dx h1 h2⟩⟩
theorem pmk_ini {X : Cx} {k : Nat} {C : Addr} {c f : Str} {e : Expr} {te : WE} {XP : XQ} {p pos : Pos} (hc : Room (k + 2) X.A) (I0 : Ini X.prog X.w X.K X.mg X.base C f) (T : OexC X.K C) (hg : Gl X c) (hm : X.mg c = some (.ref C)) (hcs : c ∈ cs) (he : QE X e te)
    (hdb : (c == ("__debug__" : Str)) = false := by decide) (hst : starEach [e] X.env = (false, eval e X.env) :: starEach [] X.env := by rfl) : PMk X (.Call (.Name c p) [e] [] pos) (fun σ H Q => ∃ env S, ER X.kw H σ env ∧ SOk X.kw H S ∧ te env S (fun d S1 => XP ⟨c, some (f, d)⟩ env S1) ∧
      ∀ x env' S', XP x env' S' → ∀ cls d H', XR X.kw X.mg cs H' cls d x → ER X.kw H' σ env' → SOk X.kw H' S' → Fr S S' H H' → Q cls d H') := by
  obtain ⟨fI, fd, ps, iC, tI, F1, hb⟩ := I0.ex
  have key := pmk_oex (X := X) (CX := CX0) (p := p) (pos := pos) (ds := []) (dvs := []) T iC tI F1 (hc.mono (by omega)) hb .nil pass0 hg hm (pa_cons he pa_nil hst) hdb hst rfl
  intro pins s σ H Q I h
  refine key pins s σ H Q I ?_
  obtain ⟨env, S, er, so, q, px⟩ := h
  refine ⟨env, S, _, er, so, q, fun d S1 h1 v H1 rv s1 f1 => ?_⟩
  refine ⟨by show 1 ≤ 1000; decide, fun a ha => ?_⟩
  refine ⟨a, v, rfl, upd_same, fun dx hd1 hd2 => ⟨rfl, dx, [(f, v)], upd_same, ?_, ?_, ?_⟩⟩
  · rw [upd_ne hd2, upd_same]
  · rw [upd_ne hd2] at hd1
    exact hd1
  · rw [upd_ne hd2] at hd1
    have e : upd (del (upd (upd (upd H1 a (exo a C none)) dx (exd dx [(f, v)])) a (exo a C (some dx))) a) dx (.xd [(f, v)]) = upd H1 dx (.xd [(f, v)]) := by
      funext b
      by_cases h1 : b = dx
      · rw [h1, upd_same, upd_same]
      · rw [upd_ne h1, upd_ne h1]
        by_cases h2 : b = a
        · rw [h2, del_same, ha]
        · rw [del_ne h2, upd_ne h2, upd_ne h1, upd_ne h2]
    rw [e]
    have f2 := f1.trans (Fr.off S1 (h := .xd [(f, v)]) hd1)
    exact px _ _ _ h1 _ _ _ ⟨hcs, hm, dx, v, rfl, upd_same, rv.mono (.new hd1)⟩ (er.mono f2.tk) (s1.off hd1) f2
theorem qsx_raise {X : Cx} {W : WX} {XP : XQ} {k : Nat} {C : Addr} {c f : Str} {e : Expr} {te : WE} {p p2 pos : Pos} (hc : Room (k + 2) X.A) (hcalm : X.calm = true) (tk : Takes X W) (I0 : Ini X.prog X.w X.K X.mg X.base C f) (T : OexC X.K C) (hg : Gl X c) (hm : X.mg c = some (.ref C)) (hcs : c ∈ cs) (he : QE X e te)
    (hdb : (c == ("__debug__" : Str)) = false := by decide) (hst : starEach [e] X.env = (false, eval e X.env) :: starEach [] X.env := by rfl) : QSX cs X W XP (.Raise (some (.Call (.Name c p) [e] [] p2)) none pos) (sRaise c f te XP) :=
  (ps_raise hcalm tk (pmk_ini (cs := cs) (XP := XP) hc I0 T hg hm hcs he hdb hst)).imp' fun D σ H ⟨env, S, D0, er, so, q, ps, px⟩ =>
  ⟨env, S, er, so, q, fun x env' S' h cls d H' xr er' s' f => px x env' S' h cls d σ H' xr er' s' f⟩

/-- C(), C without own __init__ -/
theorem pmk_own0 {X : Cx} {C : Addr} {bmB : List Value} {B newId initId : String} {x : Str} {p pos : Pos} (F : ExcBaseFacts B newId initId bmB) (q : PySem.W.excIn X.K C bmB newId = true) (gC : X.mg x = some (.ref C)) (kC : PySem.W.keepIn X.K (.ref C) = true) (r : Raises X (.ref C)) (hg : Gl X x)
    (hdb : (x == ("__debug__" : Str)) = false := by decide) : PMk X (.Call (.Name x p) [] [] pos) (fun _ H Q => Q (.ref C) none H) := by
  intro pins s σ H Q I h
  refine wpAny_Call_Name_kw (ld_glob I hg gC ?_ hdb)
  refine PySem.W.callWith_K0 I.kIn kC ?_
  obtain ⟨bm, N, nm, qn, bs, hdct, sn, sub, ab, col, dd, k0, k1, k2, k3, k5, mN, hC, hN, hni, T⟩ := exc_obj I.kIn q
  refine wpAny_call_exc_subT F T hC hN hni (fun h' e hm => ?_) (by show 0 ≤ sizeLine; rw [sizeLine_eq]; omega)
  exact mk_of I hm r h (I.hok.gone hm.new)
theorem qsx_raise0 {X : Cx} {W : WX} {XP : XQ} {C : Addr} {c : Str} {p p2 pos : Pos} (hcalm : X.calm = true) (tk : Takes X W) (q : PySem.W.excIn X.K C [.type "ValueError", .type "Exception", .type "BaseException", .type "object"] "ValueError.__new__" = true) (kC : PySem.W.keepIn X.K (.ref C) = true) (r : Raises X (.ref C)) (hg : Gl X c) (hm : X.mg c = some (.ref C)) (hcs : c ∈ cs)
    (hdb : (c == ("__debug__" : Str)) = false := by decide) : QSX cs X W XP (.Raise (some (.Call (.Name c p) [] [] p2)) none pos) (sRaise0 c XP) :=
  (ps_raise hcalm tk (pmk_own0 F.excBase_ValueError q hm kC r hg hdb)).imp' fun D σ H ⟨env, S, D0, er, so, q, ps, px⟩ =>
  px _ _ _ q _ _ _ _ ⟨hcs, hm, rfl⟩ er so (.refl S H)
/-! ### try -/
section
variable {X : Cx} {W : WX} {XP : XQ} {x n : Str} {i : Nat} {st : Stmt} {body suite : List Stmt} {np pos pos' : Pos} {tb : XQ → WS} {th : Addr → Addr → XV → WS}
theorem qsx_try (hs : X.stack = X.env :: X.outer) (hf : X.env.frame = some X.env.locals) (hN : X.N.Nodup) (hi : X.N[i]? = some n) (hln : X.env.kindOf n = some .local) (hg : Gl X x) (hdb : (x == ("__debug__" : Str)) = false) (A : XAsk X.K X.mg cs x) (tk : Takes X W)
    (hb : ∀ (W1 : WX) (pn : List (Addr × Obj)) (xe : Value → Shared → Prop), Takes (X.tr pn xe) W1 → PassesOwn (model X.prog X.w) X.A X.env xe → ∀ P1 : XQ, QSsX cs (X.tr pn xe) W1 P1 body (tb P1))
    (hsu : ∀ (a : Addr) (oe : Obj) (cls : Value) (d : Option Addr) (pn : List (Addr × Obj)), Zc cls d oe → (∃ vs, oe.data = .fields vs) → ∀ xv : XV, XK1 X.mg cs cls d xv → QSs (X.suite a ((a, oe) :: pn)) (st :: suite) (th a (d.getD 0) xv)) :
    QSX cs X W XP (.Try body [.ExceptHandler (some (.Name x np)) (some n) (st :: suite) pos'] [] [] pos) (sTry i x tb th XP) := by
  obtain ⟨N, hN1, -, hN2, hN3⟩ := A.ex
  refine (ps_try_as (X := X) (c := N) (i := i) (tb := fun W1 D σ H => ∃ P1, lSX X.kw X.mg cs W1 P1 (tb P1) D σ H) (ts := fun a cls d D σ H => ∃ xv, XK1 X.mg cs cls d xv ∧ lS X.kw (th a (d.getD 0) xv) D σ H) (Wout := W) hs hf hN hi hln ⟨hg, hdb, hN1⟩ tk
    (fun W1 pn xe t1 po => ⟨fun pins s σ H D I ⟨P1, h⟩ => (hb W1 pn xe t1 po P1).run pins s σ H D I h⟩)
    (fun a oe cls d pn hz hv => ⟨fun pins s σ H D I ⟨xv, k, h⟩ => (hsu a oe cls d pn hz hv xv k).run pins s σ H D I h⟩)).imp' fun D σ H ⟨env, S, D0, er, so, q, ps, px⟩ => ?_
  obtain ⟨P1, h1, h2⟩ := q.ex
  refine ⟨P1, env, S, D0, er, so, h1, ps, fun xv env' S' hx cls d σ' H' xr er' s' f => ?_⟩
  have hk := (hN3 xv.cls xr.mem cls xr.cls)
  refine ⟨subX xv.cls x, ?_, ?_, ?_⟩
  · unfold PySem.W.exmOne
    rw [if_pos (by rw [hN2]; rfl)]
    exact hk.1
  · intro ht a na
    have h3 := h2 xv env' S' hx
    rw [if_pos ht] at h3
    have rd := xr.rd a
    refine ⟨xv, xr.k1, env'.set i (some (xv.dat a (d.getD 0))), S', unb i D0, er'.set i rd, s', h3 a _, ⟨?_, ps.rt.trans f, ?_, ?_⟩⟩
    · intro env2 S2 h σ2 H2 er2 s2 f2
      exact ps.nx _ _ h _ _ (er2.setN i) s2 (f.trans f2)
    · intro env2 S2 h σ2 H2 er2 s2 f2
      exact ps.bk _ _ h _ _ (er2.setN i) s2 (f.trans f2)
    · intro env2 S2 h σ2 H2 er2 s2 f2
      exact ps.ct _ _ h _ _ (er2.setN i) s2 (f.trans f2)
  · intro ht
    have h3 := h2 xv env' S' hx
    rw [if_neg (by rw [ht]; decide)] at h3
    exact px _ _ _ h3 _ _ _ _ xr er' s' f
end

section
variable {X : Cx} {W : WX} {XP : XQ} {x : Str} {st : Stmt} {body suite : List Stmt} {np pos pos' : Pos} {tb : XQ → WS} {th : WS}
theorem qsx_tryO (hs : X.stack = X.env :: X.outer) (hf : X.env.frame = some X.env.locals) (hg : Gl X x) (hdb : (x == ("__debug__" : Str)) = false) (A : XAsk X.K X.mg cs x) (tk : Takes X W)
    (hb : ∀ (W1 : WX) (pn : List (Addr × Obj)) (xe : Value → Shared → Prop), Takes (X.tr pn xe) W1 → PassesOwn (model X.prog X.w) X.A X.env xe → ∀ P1 : XQ, QSsX cs (X.tr pn xe) W1 P1 body (tb P1))
    (hsu : ∀ (a : Addr) (oe : Obj) (pn : List (Addr × Obj)), QSs (X.suite a ((a, oe) :: pn)) (st :: suite) th) :
    QSX cs X W XP (.Try body [.ExceptHandler (some (.Name x np)) none (st :: suite) pos'] [] [] pos) (sTryO x tb th XP) := by
  obtain ⟨N, hN1, -, hN2, hN3⟩ := A.ex
  refine (ps_try_only (X := X) (c := N) (tb := fun W1 D σ H => ∃ P1, lSX X.kw X.mg cs W1 P1 (tb P1) D σ H) (ts := fun a cls d D σ H => lS X.kw th D σ H) (Wout := W) hs hf ⟨hg, hdb, hN1⟩ tk
    (fun W1 pn xe t1 po => ⟨fun pins s σ H D I ⟨P1, h⟩ => (hb W1 pn xe t1 po P1).run pins s σ H D I h⟩)
    (fun a oe cls d pn hz hv => hsu a oe pn)).imp' fun D σ H ⟨env, S, D0, er, so, q, ps, px⟩ => ?_
  obtain ⟨P1, h1, h2⟩ := q.ex
  refine ⟨P1, env, S, D0, er, so, h1, ps, fun xv env' S' hx cls d σ' H' xr er' s' f => ?_⟩
  have hk := (hN3 xv.cls xr.mem cls xr.cls)
  refine ⟨subX xv.cls x, ?_, ?_, ?_⟩
  · unfold PySem.W.exmOne
    rw [if_pos (by rw [hN2]; rfl)]
    exact hk.1
  · intro ht a na
    have h3 := h2 xv env' S' hx
    rw [if_pos ht] at h3
    exact ⟨env', S', D0, er', s', h3, ps.trans f⟩
  · intro ht
    have h3 := h2 xv env' S' hx
    rw [if_neg (by rw [ht]; decide)] at h3
    exact px _ _ _ h3 _ _ _ _ xr er' s' f
end
/-- the end of the layer: nothing is let out -/
theorem qsx_done {X : Cx} {st : Stmt} {t : WS} (h : QSX cs X (fun _ _ _ _ => False) noX st t) : QS X st t := h.imp' fun D σ H ⟨env, S, D0, er, so, q, ps⟩ => ⟨env, S, D0, er, so, q, ps, fun _ _ _ z => z.elim⟩
theorem Cok.tr {X : Cx} {k : Nat} (c : Cok X k) (pn : List (Addr × Obj)) (xe : Value → Shared → Prop) : Cok (X.tr pn xe) k := ⟨c.room, c.gd, c.calm, c.nd⟩
theorem Cok.nox {X : Cx} {k : Nat} (c : Cok X k) : Cok X.nox k := ⟨c.room, c.gd, c.calm, c.nd⟩
theorem Cok.unox {X : Cx} {k : Nat} (c : Cok X.nox k) : Cok X k := ⟨c.room, c.gd, c.calm, c.nd⟩
/-- what an except suite leans on -/
structure Cos (X : Cx) : Prop where
  un : X.A.units + 100 < cLine
  gd : X.A.guards = some []
theorem Cok.suite {X : Cx} {k : Nat} (c : Cok X k) (a : Addr) (pn : List (Addr × Obj)) : Cos (X.suite a pn) := ⟨by have := c.room.un; show X.A.units + 100 < _; omega, c.gd⟩
section
variable {X : Cx} {a b : Expr} {ta tb : WE} {pos : Pos}
theorem q_eqS (C : Cos X) (ha : QE X a ta) (hb : QE X b tb) : QE X (.Compare a [.Eq] [b] pos) (eBin dEq ta tb) := q_cmp (op_eq.or (op_eqD (by have := C.un; omega))) opr_eq ha hb (nomark _)
theorem q_neS (C : Cos X) (ha : QE X a ta) (hb : QE X b tb) : QE X (.Compare a [.NotEq] [b] pos) (eBin dNe ta tb) := q_cmp (op_ne.or (op_neD (by have := C.un; omega))) opr_ne ha hb (nomark _)
theorem qt_eqS (C : Cos X) (ha : QE X a ta) (hb : QE X b tb) : QT X (.Compare a [.Eq] [b] pos) (DL.tB (eBin dEq ta tb)) := qt_cmp (op_eq.or (op_eqD (by have := C.un; omega))) opr_eq ha hb (nomark _)
theorem qt_neS (C : Cos X) (ha : QE X a ta) (hb : QE X b tb) : QT X (.Compare a [.NotEq] [b] pos) (DL.tB (eBin dNe ta tb)) := qt_cmp (op_ne.or (op_neD (by have := C.un; omega))) opr_ne ha hb (nomark _)
theorem call_reprS (C : Cos X) : CallR X (.builtin "repr") (rRepr X.K) := by
  intro pins s σ H xs us Q I r h
  obtain ⟨x, d, rfl, hd, nd, ⟨h1, h2, h3⟩, q⟩ := h
  obtain ⟨u, rfl, rx⟩ := vals1 r
  have fin : ∀ {tk : Tok} {tk' : Nat} {w : Str}, w = d.shown → EP X pins σ Q (.str w tk) { s with toks := tk' } := fun {tk tk' w} e => ⟨.str _, H, I.tok _, ⟨_, rfl⟩, by rw [e]; exact q⟩
  have big : ∀ {a : Addr}, u = .ref a → wpAny (model X.prog X.w) X.A (call (.builtin "repr") [u]) (EP X pins σ Q) X.xe s := fun {a} e => by
    obtain ⟨as, rd⟩ := Dp.reads I d x u hd rx
    subst e
    have := C.un
    exact repr_of_reads' rd h1 (PyData.noDict_hsm nd) C.gd (by omega) (fun _ _ e => e) (fun h' u tk hk => ⟨.str _, H, I.kept hk, ⟨_, rfl⟩, q⟩) h2
  cases hd with
  | non => cases rx; exact PySem.P.repr_of_none (fin (by simp [PyData.shown]))
  | bl b => cases rx; exact PySem.P.repr_of_bool (fin (by simp [PyData.shown]))
  | int i =>
    obtain ⟨t, rfl⟩ := rx
    refine PySem.P.repr_of_int (by simpa [PyData.showable] using h1) (fin (by simp [PyData.shown]))
  | str y =>
    obtain ⟨t, rfl⟩ := rx
    exact PySem.P.repr_of_str (fin (by simp [PyData.shown])) (by simpa [PyData.shown] using h2)
  | lst _ _ => exact big rx
  | tup _ _ => exact big rx
end
/-! ### in an except suite -/
section
variable {X : Cx} {a : Addr} {oe : Obj} {pn : List (Addr × Obj)} {cls : Value} {d : Option Addr} {xv : XV} {i : Nat} {n c f : Str} {p p1 p2 pos : Pos}
theorem call_isE2 {D : Addr} {d : Option Addr} (C : XcB X.K D) (hz : Zc (.ref D) d oe) (hf : ∃ vs, oe.data = .fields vs) (hd : ∀ dd, d = some dd → ∀ (H : Hp) (s : Shared) pins σ, Inv (X.suite a ((a, oe) :: pn)) pins σ H s → (∃ fs, H dd = some (.xd fs)) → ∃ o, s.heap.get? dd = some o) :
    CallR (X.suite a ((a, oe) :: pn)) (.builtin "isinstance") (fun xs H Q => (∀ dd, d = some dd → ∃ fs, H dd = some (.xd fs)) ∧ rIsE X.K D a xs H Q) := by
  intro pins s σ H xs us Q I r h
  obtain ⟨hx, c, cv, b, rfl, hcv, e, q⟩ := h
  cases r with
  | cons rx rr =>
    cases rr with
    | cons rt rr =>
      cases rr
      cases rx
      have ec := hcv _ rt
      subst ec
      obtain ⟨hget, _⟩ := I.pin (a, oe) (List.mem_append.mpr (.inl List.mem_cons_self))
      obtain ⟨vs, hv⟩ := hf
      have J : ∃ od, PySem.W.InstAt s.heap a oe D od := by
        cases d with
        | none =>
          refine ⟨none, ?_⟩
          obtain ⟨oc, od, oda, osl⟩ := oe
          obtain ⟨h1, h2⟩ := hz
          dsimp only at h1 h2 hv
          subst h1 h2 hv
          exact ⟨hget, rfl, rfl, trivial⟩
        | some dd =>
          obtain ⟨o, ho⟩ := hd dd rfl H s pins σ I (hx dd rfl)
          refine ⟨some o, ?_⟩
          obtain ⟨oc, od, oda, osl⟩ := oe
          obtain ⟨h1, h2⟩ := hz
          dsimp only at h1 h2 hv
          subst h1 h2 hv
          exact ⟨hget, rfl, rfl, ho⟩
      obtain ⟨od, J⟩ := J
      exact PySem.W.kia_one (PySem.W.kitx_exc C.hc C.f.ga C.f.gg C.f.exC C.ha C.hn C.ht C.hm) I.kIn J e (fun z => nomatch z) fun tk => ⟨.bl b, H, I.kept (t' := tk) fun _ _ z => z, rfl, q⟩
/-- isinstance(e, c) -/
theorem q_isx {fs : List Str} (hz : Zc cls d oe) (hv : ∃ vs, oe.data = .fields vs) (k : XK1 X.mg cs cls d xv) (T : XTab X.K X.mg cs fs) (A : XAsk X.K X.mg cs c) (hN : X.N[i]? = some n) (hvis : Vis X.env.scope n)
    (hg0 : Gl X "isinstance") (hm0 : X.mg "isinstance" = none) (hg : Gl X c) (d1 : (n == ("__debug__" : Str)) = false := by decide) (d2 : (n == ("__classdict__" : Str)) = false := by decide) (d3 : (c == ("__debug__" : Str)) = false := by decide)
    (he : starEach [.Name n p1, .Name c p2] X.env = (false, eval (.Name n p1) X.env) :: starEach [.Name c p2] X.env := by rfl) (hpl : (backTo pos (starEach [.Name c p2] X.env)).any (·.1) = false := by rfl)
    (he2 : starEach [.Name c p2] X.env = (false, eval (.Name c p2) X.env) :: starEach [] X.env := by rfl) :
    QE (X.suite a ((a, oe) :: pn)) (.Call (.Name "isinstance" p) [.Name n p1, .Name c p2] [] pos) (eIsX xv a (d.getD 0) i c) := by
  obtain ⟨N, hN1, ⟨v, hv1, hv2⟩, -, hN3⟩ := A.ex
  obtain ⟨D, hD, B, -⟩ := T.cl _ k.mem
  have ec : cls = .ref D := by
    have := k.cls
    rw [hD] at this
    exact (Option.some.inj this).symm
  subst ec
  have hnm : PE (X.suite a ((a, oe) :: pn)) (.Name c p2) (tC v) := by
    rcases hN1 with h | ⟨h1, h2, h3⟩
    · exact pe_glob hg h hv1 d3
    · exact pe_bltn hg h1 h2 hv1 h3 d3
  have hcall := call_isE2 (X := X) (a := a) (pn := pn) B hz hv fun dd hdd H s pins σ I ⟨fs, h⟩ => by
    obtain ⟨mA, ⟨o, es, ep, ho, -⟩, -⟩ := (show ObjOk X.prog X.w H s.heap dd (.xd fs) from I.hok dd _ h)
    exact ⟨o, ho⟩
  refine (pe_callB hcall hg0 hm0 boot_isinstance (pa_cons (pe_var hN hvis d1 d2) (pa_cons hnm pa_nil he2) he) (by decide) (by decide) he hpl).imp' fun σ H Q ⟨env, S, Q0, er, so, q, ps⟩ => ?_
  obtain ⟨h1, q⟩ := q
  obtain ⟨u, hu, ru⟩ := er.2 i _ h1
  have hu2 : u = .ref a ∧ ∀ dd, d = some dd → ∃ fs, H dd = some (.xd fs) := by
    unfold XV.dat at ru
    split at ru
    · rename_i g w e
      obtain ⟨dd, hdd⟩ := k.dd (by rw [e]; intro z; cases z)
      cases ru with
      | exc h2 _ =>
        refine ⟨rfl, fun dd' hd' => ?_⟩
        rw [hd'] at h2
        exact ⟨_, h2⟩
    · rename_i e
      cases ru
      refine ⟨rfl, fun dd hdd => ?_⟩
      rw [k.nn e] at hdd
      cases hdd
  obtain ⟨rfl, hx⟩ := hu2
  have hk := hN3 xv.cls k.mem _ k.cls
  refine ⟨.ref a, hu, ⟨hx, v, N, subX xv.cls c, rfl, hv2, ?_, ps.here so q (.bl _)⟩⟩
  unfold PySem.W.kitOne
  by_cases hc : (Value.ref D == N) = true
  · rw [if_pos hc, hk.2 hc]
  · rw [if_neg hc]
    exact hk.1
/-- e.f -/
theorem q_xf {fs : List Str} (hz : Zc cls d oe) (hv : ∃ vs, oe.data = .fields vs) (k : XK1 X.mg cs cls d xv) (T : XTab X.K X.mg cs fs) (hf : f ∈ fs) (hN : X.N[i]? = some n) (hvis : Vis X.env.scope n) (d1 : (n == ("__debug__" : Str)) = false := by decide) (d2 : (n == ("__classdict__" : Str)) = false := by decide)
    (hb : attributeBase (.Name n p1) f X.env (eval (.Name n p1) X.env) = eval (.Name n p1) X.env := by rfl) :
    QE (X.suite a ((a, oe) :: pn)) (.Attribute (.Name n p1) f pos) (eXf xv a (d.getD 0) i f) := by
  obtain ⟨D, hD, B, hF⟩ := T.cl _ k.mem
  have ec : cls = .ref D := by
    have := k.cls
    rw [hD] at this
    exact (Option.some.inj this).symm
  subst ec
  refine (pe_xf (pn := pn) B.f (hF f hf) hz hv (pe_var hN hvis d1 d2) hb).imp' fun σ H Q ⟨env, S, Q0, er, so, q, ps⟩ => ?_
  obtain ⟨h1, q⟩ := q
  obtain ⟨u, hu, ru⟩ := er.2 i _ h1
  split at q
  · rename_i g w e
    obtain ⟨dd, hdd⟩ := k.dd (by rw [e]; intro z; cases z)
    obtain ⟨rfl, q⟩ := q
    unfold XV.dat at ru
    rw [e] at ru
    cases ru with
    | exc h2 r2 =>
      rw [hdd] at h2
      refine ⟨.ref a, hu, rfl, rfl, dd, _, _, hdd, h2, ?_, ps.here so q r2⟩
      rw [lookup_put, if_pos rfl]
  · exact q.elim
end

/-! ### promises by the number of arguments -/
def wfx1 (f : D → Sto → WQ → (XV → Sto → Prop) → Prop) : WFX := fun ds S Q E => match ds with
  | [a] => f a S Q E
  | _ => False
theorem lenx1 {f} : ∀ ds S Q E, wfx1 f ds S Q E → ds.length = 1 := fun ds S Q E h => by unfold wfx1 at h; split at h; rfl; exact h.elim
theorem okx1 {f} {b : XQ → WS} {n : Nat} (h : ∀ d0 S Q E, f d0 S Q E → b (exOf E) (enOf Q) (DL.start n [d0]) S) : ∀ ds S Q E, wfx1 f ds S Q E → b (exOf E) (enOf Q) (DL.start n ds) S := fun ds S Q E q => by unfold wfx1 at q; split at q; exact h _ _ _ _ q; exact q.elim
def wfx2 (f : D → D → Sto → WQ → (XV → Sto → Prop) → Prop) : WFX := fun ds S Q E => match ds with
  | [a, b] => f a b S Q E
  | _ => False
theorem lenx2 {f} : ∀ ds S Q E, wfx2 f ds S Q E → ds.length = 2 := fun ds S Q E h => by unfold wfx2 at h; split at h; rfl; exact h.elim
theorem okx2 {f} {b : XQ → WS} {n : Nat} (h : ∀ d0 d1 S Q E, f d0 d1 S Q E → b (exOf E) (enOf Q) (DL.start n [d0, d1]) S) : ∀ ds S Q E, wfx2 f ds S Q E → b (exOf E) (enOf Q) (DL.start n ds) S := fun ds S Q E q => by unfold wfx2 at q; split at q; exact h _ _ _ _ _ q; exact q.elim
def wfx3 (f : D → D → D → Sto → WQ → (XV → Sto → Prop) → Prop) : WFX := fun ds S Q E => match ds with
  | [a, b, c] => f a b c S Q E
  | _ => False
theorem lenx3 {f} : ∀ ds S Q E, wfx3 f ds S Q E → ds.length = 3 := fun ds S Q E h => by unfold wfx3 at h; split at h; rfl; exact h.elim
theorem okx3 {f} {b : XQ → WS} {n : Nat} (h : ∀ d0 d1 d2 S Q E, f d0 d1 d2 S Q E → b (exOf E) (enOf Q) (DL.start n [d0, d1, d2]) S) : ∀ ds S Q E, wfx3 f ds S Q E → b (exOf E) (enOf Q) (DL.start n ds) S := fun ds S Q E q => by unfold wfx3 at q; split at q; exact h _ _ _ _ _ _ q; exact q.elim
def wfx4 (f : D → D → D → D → Sto → WQ → (XV → Sto → Prop) → Prop) : WFX := fun ds S Q E => match ds with
  | [a, b, c, d] => f a b c d S Q E
  | _ => False
theorem lenx4 {f} : ∀ ds S Q E, wfx4 f ds S Q E → ds.length = 4 := fun ds S Q E h => by unfold wfx4 at h; split at h; rfl; exact h.elim
theorem okx4 {f} {b : XQ → WS} {n : Nat} (h : ∀ d0 d1 d2 d3 S Q E, f d0 d1 d2 d3 S Q E → b (exOf E) (enOf Q) (DL.start n [d0, d1, d2, d3]) S) : ∀ ds S Q E, wfx4 f ds S Q E → b (exOf E) (enOf Q) (DL.start n ds) S := fun ds S Q E q => by unfold wfx4 at q; split at q; exact h _ _ _ _ _ _ _ q; exact q.elim
def wfx5 (f : D → D → D → D → D → Sto → WQ → (XV → Sto → Prop) → Prop) : WFX := fun ds S Q E => match ds with
  | [a, b, c, d, e] => f a b c d e S Q E
  | _ => False
theorem lenx5 {f} : ∀ ds S Q E, wfx5 f ds S Q E → ds.length = 5 := fun ds S Q E h => by unfold wfx5 at h; split at h; rfl; exact h.elim
theorem okx5 {f} {b : XQ → WS} {n : Nat} (h : ∀ d0 d1 d2 d3 d4 S Q E, f d0 d1 d2 d3 d4 S Q E → b (exOf E) (enOf Q) (DL.start n [d0, d1, d2, d3, d4]) S) : ∀ ds S Q E, wfx5 f ds S Q E → b (exOf E) (enOf Q) (DL.start n ds) S := fun ds S Q E q => by unfold wfx5 at q; split at q; exact h _ _ _ _ _ _ _ _ q; exact q.elim

/-! ### what the written part says of the classes -/
theorem xask_own {K : PySem.W.Frag} {mg : Str → Option Value} {cs : List Str} {n : Str} {N : Addr} (hN : mg n = some (.ref N)) (hc : (PySem.W.clsIn K N).isSome = true) (ht : PySem.W.typeIn K (.ref N) = some (.type "type")) (hb : PySem.W.subIn K (.ref N) (.type "BaseException") = some true) (hs : PySem.W.subIn K (.ref N) (.ref N) = some true)
    (h : ∀ c ∈ cs, ∃ C, mg c = some C ∧ PySem.W.subIn K C (.ref N) = some (subX c n)) : XAsk K mg cs n := by
  refine ⟨.ref N, .inl hN, ⟨.ref N, rfl, fun u r => r⟩, hb, fun c hcm C hC => ?_⟩
  obtain ⟨C', h1, h2⟩ := h c hcm
  rw [hC] at h1
  obtain rfl := Option.some.inj h1
  refine ⟨?_, fun e => ?_⟩
  · unfold PySem.W.kitCls
    dsimp only
    rw [if_pos (by rw [hc, ht]; rfl)]
    exact h2
  · have e2 : C = .ref N := eq_of_beq e
    rw [e2, hs] at h2
    exact (Option.some.inj h2).symm
theorem xask_ve {K : PySem.W.Frag} {mg : Str → Option Value} {cs : List Str} (hm : mg "ValueError" = none) (h : ∀ c ∈ cs, ∃ C, mg c = some (.ref C) ∧ PySem.W.subIn K (.ref C) (.type "ValueError") = some true) : XAsk K mg cs "ValueError" := by
  refine ⟨.type "ValueError", .inr ⟨hm, PyProof.Rows.Boot.«ValueError», by decide⟩, ⟨.ty "ValueError", rfl, fun u r => r⟩, (by show (fastBuiltinMro "ValueError").map (·.contains (.type "BaseException")) = some true; decide +kernel), fun c hcm C hC => ?_⟩
  obtain ⟨C', h1, h2⟩ := h c hcm
  rw [hC] at h1
  obtain rfl := Option.some.inj h1
  have e : subX c "ValueError" = true := by
    unfold subX
    rw [show decide (("ValueError" : Str) = "ValueError") = true from decide_eq_true rfl, Bool.or_true, Bool.true_or]
  rw [e]
  refine ⟨?_, fun _ => rfl⟩
  unfold PySem.W.kitCls
  dsimp only
  rw [if_pos (by decide +kernel)]
  exact h2
theorem oex_mk {K : PySem.W.Frag} {C : Addr} {nm q : Str} {N : Addr} {bs bm : List Value} {sn : List Str} {sub : List Value} {ab : Bool} {col : Option Bool} {dd : Option Addr} {k0 k1 k2 k3 k5 : Option Value}
    (h : K.lookup C = some (excClassObj nm q C N bs bm true sn sub ab col dd k0 k1 k2 k3 k5 "ValueError.__new__")) (hr : PySem.HandSPX.refsVE bm = true) (sa : PySem.W.findIn K (.ref C) "__setattr__" = some (some (.builtin "object.__setattr__"))) (exC : PySem.W.subIn K (.ref C) (.type "BaseException") = some true)
    (tyC : PySem.W.typeIn K (.ref C) = some (.type "type")) (kC : PySem.W.keepIn K (.ref C) = true) : OexC K C := ⟨⟨nm, q, N, bs, bm, sn, sub, ab, col, dd, k0, k1, k2, k3, k5, h, hr⟩, sa, exC, tyC, kC⟩
theorem xcb_mk {K : PySem.W.Frag} {C : Addr} (o : OexC K C) (ga : PySem.W.findIn K (.ref C) "__getattribute__" = some (some (.builtin "BaseException.__getattribute__"))) (gg : PySem.W.findIn K (.ref C) "__getattr__" = some none) (hd : PySem.W.hasDictIn K C = true)
    (ha : PySem.W.findIn K (.ref C) "__class__" = some (some (.builtin "object.__class__"))) (hn : PySem.W.specialIn K (.builtin "object.__class__") "__get__" = some (some (.builtin "getset_descriptor.__get__"))) (ht : PySem.W.takesIn K (.builtin "object.__class__") = some true) (hm : PySem.W.mroIn K C (.type "object") = some true)
    (hc : PySem.W.isClsIn K C = true) : XcB K C := ⟨o, ⟨ga, gg, o.exC, hd⟩, ha, hn, ht, hm, hc⟩
/-- a class statement's body -/
def clsBodyS : Stmt → List Stmt
  | .ClassDef (body := b) .. => b
  | _ => []
/-! ### a new object, by name: generalize h : ((l, _) :: S : Sto) = S1 -/
theorem new_get {l : Addr} {o : LO} {S S1 : Sto} (h : (l, o) :: S = S1) : sget S1 l = some o := by rw [← h]; exact sget_self _ _ _
theorem new_sub {l : Addr} {o : LO} {S S1 : Sto} (h : (l, o) :: S = S1) (hl : sget S l = none) : Sub S S1 := by rw [← h]; exact Sub.new hl
theorem new_ups {l : Addr} {o : LO} {S S1 : Sto} (h : (l, o) :: S = S1) (hl : sget S l = none) {P : Sto → Prop} (q : UpS P S) : UpS P S1 := q.sub (new_sub h hl)
end DL

set_option maxHeartbeats 1000000
/-! DU: sets of tuples of any depth (the keys that dicts have, too): set(), in, add, len. -/
namespace DL
open PySem PySem.Spec PyProof.Rows L2
section
variable {P : Program} {w : World} {A : Around} {E : Value → Shared → Prop}
/-- a wp that leaves the state, and answers b -/
abbrev Says (P : Program) (w : World) (s : Shared) (x : Sem Bool) (b : Bool) : Prop := ∀ (A : Around) (E : Value → Shared → Prop) (Q : Bool → Shared → Prop), Q b s → wpAny (model P w) A x Q E s
abbrev SaysAny (P : Program) (w : World) (s : Shared) (x : Sem Bool) : Prop := ∀ (A : Around) (E : Value → Shared → Prop) (Q : Bool → Shared → Prop), (∀ b, Q b s) → wpAny (model P w) A x Q E s

/-! ### what the model asks of a key -/
theorem cls_tup {s : Shared} {n : Nat} {a : Addr} {o : Obj} {vs : Array Value} {m : Nat} (ho : s.heap.get? a = some o) (hc : o.cls = .type "tuple") (hd : o.data = .seq vs m) (hq : ∀ v ∈ vs.toList, Says P w s (ofAClassStatement n v) false) : Says P w s (ofAClassStatement (n + 1) (.ref a)) false := fun A E Q h => by
  have hT : s.TypeIs (.ref a) "tuple" := ⟨o, ho, hc⟩
  unfold ofAClassStatement
  refine wpAny_bind (wpAny_typeOf hT ?_)
  dsimp only
  rw [if_pos (show (("tuple" : String) == "tuple") = true by decide)]
  refine wpAny_bind (wpAny_pure ?_)
  rw [if_neg (by decide)]
  try refine wpAny_bind (wpAny_pure ?_)
  show wpAny _ _ (seqItems? (.ref a) >>= _) _ _ s
  refine wpAny_bind (wpAny_seqItems ho hd ?_)
  dsimp only
  refine wpAny_bind ?_
  show wpAny _ _ (forIn vs _ _) _ _ s
  rw [← Array.forIn_toList]
  refine wpAny_forIn_list _ (fun rest r s' => r.1 = none ∧ s' = s ∧ ∀ v ∈ rest, Says P w s (ofAClassStatement n v) false) _ ?_ ?_ _ _ ⟨rfl, rfl, hq⟩
  · rintro v rest r s' ⟨hr, rfl, hall⟩
    refine wpAny_bind (hall v List.mem_cons_self _ _ _ ?_)
    rw [if_neg (by decide)]
    exact wpAny_pure ⟨rfl, rfl, fun u hu' => hall u (List.mem_cons_of_mem _ hu')⟩
  · rintro ⟨r1, r2⟩ s' ⟨hr, rfl, _⟩
    simp only at hr
    subst hr
    exact wpAny_pure h
theorem cls_leaf {s : Shared} {v : Value} (n : Nat) (h : ∀ a, v ≠ .ref a) : Says P w s (ofAClassStatement n v) false := fun A E Q hq => by
  have e : ofAClassStatement n v = pure false := by
    cases n <;> cases v <;> first | rfl | exact absurd rfl (h _)
  rw [e]
  exact wpAny_pure hq
mutual
theorem cls_key : ∀ (k : NestedKey) (v : Value) (n : Nat) (s : Shared), NestedIs s.heap k v → k.depth ≤ n → Says P w s (ofAClassStatement n v) false
  | .none, _, n, s, x, _ => by cases x; exact cls_leaf n fun a z => by cases z
  | .num i, _, n, s, x, _ => by cases x <;> exact cls_leaf n fun a z => by cases z
  | .text y, _, n, s, x, _ => by cases x; exact cls_leaf n fun a z => by cases z
  | .tup ks, _, n, s, x, hn => by
    cases x with
    | tup hg hc hd hk =>
      simp only [NestedKey.depth] at hn
      cases n with
      | zero => omega
      | succ n => exact cls_tup hg hc hd (cls_keys ks _ n s hk (by omega))
theorem cls_keys : ∀ (ks : List NestedKey) (vs : List Value) (n : Nat) (s : Shared), NestedAll s.heap ks vs → NestedKey.depthAll ks ≤ n → ∀ v ∈ vs, Says P w s (ofAClassStatement n v) false
  | [], _, n, s, x, _, v, hv => by cases x; cases hv
  | k :: ks, _, n, s, x, hn, v, hv => by
    cases x with
    | cons x1 x2 =>
      simp only [NestedKey.depthAll] at hn
      rcases List.mem_cons.mp hv with e | hv
      · rw [e]; exact cls_key k _ n s x1 (by omega)
      · exact cls_keys ks _ n s x2 (by omega) v hv
end
theorem hbv_leaf {s : Shared} {v : Value} (n : Nat) (h : v = .none ∨ (∃ b, v = .bool b) ∨ (∃ i t, v = .int i t) ∨ ∃ x t, v = .str x t) : SaysAny P w s (hashByValue n v) := fun A E Q hq => by
  rcases h with rfl | ⟨b, rfl⟩ | ⟨i, t, rfl⟩ | ⟨x, t, rfl⟩
  · rw [show hashByValue n .none = pure true by cases n <;> rfl]; exact wpAny_pure (hq _)
  · rw [show hashByValue n (.bool b) = pure true by cases n <;> rfl]; exact wpAny_pure (hq _)
  · rw [show hashByValue n (.int i t) = pure true by cases n <;> rfl]; exact wpAny_pure (hq _)
  · rw [show hashByValue n (.str x t) = pure false by cases n <;> rfl]; exact wpAny_pure (hq _)
theorem hbv_tup {s : Shared} {n : Nat} {a : Addr} {o : Obj} {vs : Array Value} {m : Nat} (ho : s.heap.get? a = some o) (hc : o.cls = .type "tuple") (hd : o.data = .seq vs m) (hq : ∀ v ∈ vs.toList, SaysAny P w s (hashByValue n v)) : SaysAny P w s (hashByValue (n + 1) (.ref a)) := fun A E Q h => by
  have hT : s.TypeIs (.ref a) "tuple" := ⟨o, ho, hc⟩
  unfold hashByValue
  refine wpAny_bind (wpAny_specialOf hT F.slot_tuple_hash.lookup ?_)
  show wpAny _ _ (seqItems? (.ref a) >>= _) _ _ s
  refine wpAny_bind (wpAny_seqItems ho hd ?_)
  refine wpAny_bind ?_
  show wpAny _ _ (forIn vs _ _) _ _ s
  rw [← Array.forIn_toList]
  refine wpAny_forIn_list _ (fun rest r s' => (r.1 = none ∨ ∃ b, r.1 = some b) ∧ s' = s ∧ ∀ v ∈ rest, SaysAny P w s (hashByValue n v)) _ ?_ ?_ _ _ ⟨.inl rfl, rfl, hq⟩
  · rintro v rest r s' ⟨hr, rfl, hall⟩
    refine wpAny_bind (hall v List.mem_cons_self _ _ _ fun b => ?_)
    cases b with
    | true =>
      rw [if_neg (by decide)]
      exact wpAny_pure ⟨.inl rfl, rfl, fun u hu' => hall u (List.mem_cons_of_mem _ hu')⟩
    | false =>
      rw [if_pos (by decide)]
      exact wpAny_pure (wpAny_pure (h _))
  · rintro ⟨r1, r2⟩ s' ⟨hr, rfl, _⟩
    simp only at hr
    rcases hr with rfl | ⟨b, rfl⟩
    · exact wpAny_pure (h _)
    · exact wpAny_pure (h _)
mutual
theorem hbv_key : ∀ (k : NestedKey) (v : Value) (n : Nat) (s : Shared), NestedIs s.heap k v → k.depth ≤ n → SaysAny P w s (hashByValue n v)
  | .none, _, n, s, x, _ => by cases x; exact hbv_leaf n (.inl rfl)
  | .num i, _, n, s, x, _ => by
    cases x with
    | bool _ => exact hbv_leaf n (.inr (.inl ⟨_, rfl⟩))
    | int _ _ => exact hbv_leaf n (.inr (.inr (.inl ⟨_, _, rfl⟩)))
  | .text y, _, n, s, x, _ => by cases x; exact hbv_leaf n (.inr (.inr (.inr ⟨_, _, rfl⟩)))
  | .tup ks, _, n, s, x, hn => by
    cases x with
    | tup hg hc hd hk =>
      simp only [NestedKey.depth] at hn
      cases n with
      | zero => omega
      | succ n => exact hbv_tup hg hc hd (hbv_keys ks _ n s hk (by omega))
theorem hbv_keys : ∀ (ks : List NestedKey) (vs : List Value) (n : Nat) (s : Shared), NestedAll s.heap ks vs → NestedKey.depthAll ks ≤ n → ∀ v ∈ vs, SaysAny P w s (hashByValue n v)
  | [], _, n, s, x, _, v, hv => by cases x; cases hv
  | k :: ks, _, n, s, x, hn, v, hv => by
    cases x with
    | cons x1 x2 =>
      simp only [NestedKey.depthAll] at hn
      rcases List.mem_cons.mp hv with e | hv
      · rw [e]; exact hbv_key k _ n s x1 (by omega)
      · exact hbv_keys ks _ n s x2 (by omega) v hv
end
/-- the tuple at a is the key k -/
abbrev Nk (h : Heap) (k : NestedKey) (a : Addr) : Prop := NestedIs h k (.ref a) ∧ k.depth ≤ 8
theorem Nk.at {h h' : Heap} {k : NestedKey} {b : Addr} (x : Nk h k b) (hk : ∀ a o vs n, h.get? a = some o → o.data = .seq vs n → h'.get? a = some o) : Nk h' k b := ⟨NestedIs.at hk k _ x.1, x.2⟩
/-- a key isn't the set -/
theorem Nk.past {h h' : Heap} {k : NestedKey} {a b : Addr} {o : Obj} {es : Array (Int × Value)} {ep : Nat} {t : SetTable} (x : Nk h k b) (ho : h.get? a = some o) (hd : o.data = .set es ep t) (hs : Heap.SameBut a h h') : Nk h' k b := x.at fun c u vs n e d => by
  refine (hs.2 c fun z => ?_).trans e
  subst z
  rw [ho] at e
  cases e
  rw [hd] at d
  cases d
/-- a search among keys shows nothing -/
theorem seen_key {s : Shared} {k : NestedKey} {b : Addr} {Q : Bool → Shared → Prop} (hk : Nk s.heap k b) {ys : List Value} (hy : ∀ y ∈ ys, ∃ k' c, y = Value.ref c ∧ Nk s.heap k' c) (h : Q false s) : wpAny (model P w) A (searchCouldBeSeen (.ref b) ys) Q E s := by
  unfold searchCouldBeSeen
  refine wpAny_bind ?_
  refine wpAny_forIn_list _ (fun rest r s' => r.1 = none ∧ s' = s ∧ ∀ y ∈ rest, ∃ k' c, y = Value.ref c ∧ Nk s.heap k' c) _ ?_ ?_ _ _ ⟨rfl, rfl, hy⟩
  · rintro v rest r s' ⟨hr, rfl, hall⟩
    obtain ⟨k', c, rfl, hc⟩ := hall v List.mem_cons_self
    have more : ∀ y ∈ rest, ∃ k' c, y = Value.ref c ∧ Nk s'.heap k' c := fun u hu' => hall u (List.mem_cons_of_mem _ hu')
    dsimp only
    by_cases hv : (b == c || (carriedByValue (.ref b) && carriedByValue (.ref c))) = true
    · exact wp_if_pos hv (wpAny_pure ⟨rfl, rfl, more⟩)
    · refine wp_if_neg hv ?_
      refine wpAny_bind (quiet_key k _ 8 s' hk.1 hk.2 _ _ _ ?_)
      rw [if_neg (by decide)]
      try refine wpAny_bind (wpAny_pure ?_)
      refine wpAny_bind (quiet_key k' _ 8 s' hc.1 hc.2 _ _ _ ?_)
      rw [if_neg (by decide)]
      try refine wpAny_bind (wpAny_pure ?_)
      refine wpAny_bind (cls_key k _ 8 s' hk.1 hk.2 _ _ _ ?_)
      rw [if_neg (by decide)]
      try refine wpAny_bind (wpAny_pure ?_)
      refine wpAny_bind (cls_key k' _ 8 s' hc.1 hc.2 _ _ _ ?_)
      rw [if_neg (by decide)]
      exact wpAny_pure ⟨rfl, rfl, more⟩
  · rintro ⟨r1, r2⟩ s' ⟨hr, rfl, _⟩
    simp only at hr
    subst hr
    exact wpAny_pure h
end

/-! ### a set of keys: its rows, its table -/
def rowsN (w : World) (L : List (Addr × NestedKey)) : List (Int × Value) := L.map fun p => (p.2.hash w, Value.ref p.1)
structure NSet (w : World) (h : Heap) (a : Addr) (L : List (Addr × NestedKey)) (es : Array (Int × Value)) (ep : Nat) (t : SetTable) : Prop where
  ob : ∃ o, h.get? a = some o ∧ o.ExactSet ∧ o.data = .set es ep t
  rows : es.toList = rowsN w L
  tab : TabOk t (L.map fun p => p.2.hash w)
  nd : (L.map (·.2)).Nodup
  key : ∀ p ∈ L, Nk h p.2 p.1
  room : L.length * 5 < t.mask * 3
  few : L.length < 64
section
variable {P : Program} {w : World} {A : Around} {E : Value → Shared → Prop} {s : Shared} {a : Addr} {L : List (Addr × NestedKey)} {es : Array (Int × Value)} {ep : Nat} {t : SetTable}
theorem rowsN_len (w : World) (L : List (Addr × NestedKey)) : (rowsN w L).length = L.length := List.length_map _
theorem rowsN_get {i : Nat} {p : Addr × NestedKey} (h : L[i]? = some p) : (rowsN w L)[i]? = some (p.2.hash w, Value.ref p.1) := by
  show (L.map _)[i]? = _
  rw [List.getElem?_map, h]
  rfl
theorem NSet.size (R : NSet w s.heap a L es ep t) : es.size = L.length := by
  rw [← Array.length_toList, R.rows, rowsN_len]
theorem NSet.fits (R : NSet w s.heap a L es ep t) : t.fits es.size = true := by
  have h1 := R.tab.sz
  rw [List.length_map] at h1
  have h3 := R.room
  have hd : t.dummies.size = 0 := by rw [R.tab.dm]; rfl
  unfold SetTable.fits SetTable.fill
  rw [R.size, Bool.and_eq_true, beq_iff_eq, decide_eq_true_eq]
  exact ⟨h1, by omega⟩
theorem NSet.entry (R : NSet w s.heap a L es ep t) {i : Nat} {p : Addr × NestedKey} (h : L[i]? = some p) : es[i]? = some (p.2.hash w, Value.ref p.1) := by
  rw [← Array.getElem?_toList, R.rows]
  exact rowsN_get h
theorem NSet.whole (R : NSet w s.heap a L es ep t) : ¬ t.gaveWay = true := by
  unfold SetTable.gaveWay
  rw [mask_odd R.tab.mok]
  decide
/-- the c-th step on the way of a hash -/
abbrev stp (m : Nat) (h : Int) (c : Nat) : SetTable.Probe := nth m (runAt m (SetTable.bits h % (m + 1)) (SetTable.bits h)) c
theorem stp_plain (m : Nat) (h : Int) (c : Nat) : (stp m h c).dummy = none := by
  have key : ∀ (n : Nat) (p : SetTable.Probe), p.dummy = none → (nth m p n).dummy = none := by
    intro n
    induction n with
    | zero => exact fun p h => h
    | succ n ih =>
      refine fun p h => ih (adv m p) ?_
      unfold adv
      split <;> exact h
  exact key c _ rfl
/-- the search, from the c-th step on; K: the first free place -/
theorem nsearch_from (R : NSet w s.heap a L es ep t) {x : Addr} {k : NestedKey} (hx : Nk s.heap k x) (hu : A.units + 8 < cLine) {adding : Bool} {K : Nat} (hKf : K < 10 * SetTable.turns t.mask)
    (hK : way t.mask (k.hash w) K ∉ t.place.toList) (hKb : ∀ c, c < K → way t.mask (k.hash w) c ∈ t.place.toList) {Q : SetFound → Shared → Prop}
    (hin : k ∈ L.map (·.2) → ∀ r, (adding = false → r.isSome = true) → Q (.there r) s) (hout : k ∉ L.map (·.2) → Q (.free (way t.mask (k.hash w) K) false) s) :
    ∀ (f c : Nat) (stand : Option SetTable.Probe), stand.getD (t.probeStart (k.hash w)) = stp t.mask (k.hash w) c → c ≤ K → K - c < f →
      (∀ (i : Nat) p, L[i]? = some p → p.2 = k → ∃ c', c ≤ c' ∧ c' < K ∧ t.place.toList[i]? = some (way t.mask (k.hash w) c')) →
      wpAny (model P w) A (setSearchFrom a (.ref x) (k.hash w) adding f stand) Q E s
  | 0, c, stand, _, _, hf, _ => absurd hf (Nat.not_lt_zero _)
  | f + 1, c, stand, hst, hc, hf, hre => by
    obtain ⟨o, ho, hex, hd⟩ := R.ob
    have sh : ∀ q, nth t.mask (stp t.mask (k.hash w) c) q = stp t.mask (k.hash w) (c + q) := fun q => (nth_add t.mask c _ q).symm
    have e1 : ∀ q, (nth t.mask (stp t.mask (k.hash w) c) q).j = way t.mask (k.hash w) (c + q) := fun q => congrArg SetTable.Probe.j (sh q)
    have hashAt : ∀ (i : Nat) p, L[i]? = some p → (fun i => (es[i]?.map (·.1)).getD 0) i = p.2.hash w := fun i p hp => by
      show (es[i]?.map (·.1)).getD 0 = _
      rw [R.entry hp]
      rfl
    have spec := go_spec t R.tab.ris R.tab.dm (fun i => (es[i]?.map (·.1)).getD 0) (k.hash w) (10 * SetTable.turns t.mask) (K - c) _ (stp_plain t.mask (k.hash w) c) (by omega)
      (fun q hq => by rw [e1]; exact hKb (c + q) (by omega)) (by rw [e1, show c + (K - c) = K by omega]; exact hK)
    rw [setSearchFrom_succ]
    refine wpAny_bind (wpAny_setState_of ho hd R.fits ?_)
    dsimp only
    refine wp_if_neg R.whole ?_
    try refine wpAny_bind (wpAny_pure ?_)
    rcases spec with ⟨q, i, hq, hi, hh, hno, hpr⟩ | ⟨hno, hpr⟩
    · -- a candidate
      rw [← hst] at hpr
      have hpr' : t.probe (fun i => (es[i]?.map (·.1)).getD 0) (k.hash w) (stand.getD (t.probeStart (k.hash w))) = some (.candidate (way t.mask (k.hash w) (c + q)) i (stp t.mask (k.hash w) (c + (q + 1)))) := by
        rw [← e1, ← sh, ← hst]
        exact hpr
      rw [hpr']
      dsimp only
      rw [e1] at hi
      have hil : i < L.length := by
        have h1 : i < t.place.toList.length := (List.getElem?_eq_some_iff.mp hi).1
        have h2 := R.tab.sz
        rw [List.length_map] at h2
        rw [Array.length_toList] at h1
        omega
      obtain ⟨p, hp⟩ : ∃ p, L[i]? = some p := ⟨_, List.getElem?_eq_getElem hil⟩
      have hmem : p ∈ L := List.mem_of_getElem? hp
      have hpt := R.key p hmem
      have hsl : t.slot (way t.mask (k.hash w) (c + q)) = .live i := slot_live R.tab.ris hi
      have rest : wpAny (model P w) A (searchRest a (.ref x) (k.hash w) adding f es t (way t.mask (k.hash w) (c + q)) i (stp t.mask (k.hash w) (c + (q + 1)))) Q E s := by
        unfold searchRest
        rw [R.entry hp]
        dsimp only
        refine wpAny_bind (wpAny_holding ((nestedKind P w).eqBool (show A.units + 8 < cLine from hu) hpt hx ?_))
        refine wpAny_bind (wpAny_setState_of ho hd R.fits ?_)
        dsimp only
        by_cases hkk : p.2 = k
        · have hm : k ∈ L.map (·.2) := List.mem_map.mpr ⟨p, hmem, hkk⟩
          rw [decide_eq_true hkk]
          cases adding with
          | true =>
            refine wp_if_pos (by decide) ?_
            exact wpAny_pure (hin hm none fun z => nomatch z)
          | false =>
            refine wp_if_neg (by decide) ?_
            try refine wpAny_bind (wpAny_pure ?_)
            rw [sameMem]
            dsimp only
            simp only [if_true, hsl, R.entry hp]
            refine wpAny_bind (wpAny_isSame_ref_self (wpAny_bind (wpAny_pure ?_)))
            simp only [if_true]
            exact wpAny_pure (hin hm (some i) fun _ => rfl)
        · rw [decide_eq_false hkk]
          refine wp_if_neg (by simp) ?_
          try refine wpAny_bind (wpAny_pure ?_)
          rw [sameMem]
          dsimp only
          simp only [if_true, hsl, R.entry hp]
          refine wpAny_bind (wpAny_isSame_ref_self (wpAny_bind (wpAny_pure ?_)))
          simp only [if_true]
          refine wp_if_neg (by decide) ?_
          refine nsearch_from R hx hu hKf hK hKb hin hout f (c + (q + 1)) _ rfl (by omega) (by omega) fun i0 p0 h0 hk0 => ?_
          obtain ⟨c', a1, a2, a3⟩ := hre i0 p0 h0 hk0
          refine ⟨c', ?_, a2, a3⟩
          rcases Nat.lt_trichotomy c' (c + q) with z | z | z
          · exfalso
            exact hno (c' - c) i0 (by omega) (by rw [e1, show c + (c' - c) = c' by omega]; exact a3) ((hashAt i0 p0 h0).trans (by rw [hk0]))
          · exfalso
            rw [z] at a3
            have s0 := slot_live R.tab.ris a3
            rw [hsl] at s0
            injection s0 with s0
            rw [← s0, hp] at h0
            cases h0
            exact hkk hk0
          · omega
      by_cases hl : t.led = true
      · refine wp_if_neg (by simp [hl]) ?_
        try refine wpAny_bind (wpAny_pure ?_)
        exact rest
      · refine wp_if_pos (by simp [hl]) ?_
        refine wpAny_bind (seen_key hx (fun y hy => ?_) ?_)
        · obtain ⟨e, he, ee⟩ := List.mem_map.mp hy
          have he1 : e ∈ es ∧ e.1 = k.hash w := by simpa using he
          have he2 : e ∈ es.toList := by simpa using he1.1
          rw [R.rows] at he2
          obtain ⟨p2, hp2, e2⟩ := List.mem_map.mp he2
          exact ⟨p2.2, p2.1, by rw [← ee, ← e2], R.key p2 hp2⟩
        · refine wp_if_neg (by decide) ?_
          try refine wpAny_bind (wpAny_pure ?_)
          exact rest
    · -- the empty slot
      rw [← hst] at hpr
      have hpr' : t.probe (fun i => (es[i]?.map (·.1)).getD 0) (k.hash w) (stand.getD (t.probeStart (k.hash w))) = some (.empty (way t.mask (k.hash w) K) none) := by
        have e2 : way t.mask (k.hash w) K = (nth t.mask (stp t.mask (k.hash w) c) (K - c)).j := by rw [e1, show c + (K - c) = K by omega]
        rw [e2, ← hst]
        exact hpr
      rw [hpr']
      dsimp only
      refine wpAny_pure (hout fun hm => ?_)
      obtain ⟨p0, h0, hk0⟩ := List.mem_map.mp hm
      obtain ⟨i0, hi0, e0⟩ := List.getElem_of_mem h0
      have h00 : L[i0]? = some p0 := by rw [List.getElem?_eq_getElem hi0, e0]
      obtain ⟨c', a1, a2, a3⟩ := hre i0 p0 h00 hk0
      exact hno (c' - c) i0 (by omega) (by rw [e1, show c + (c' - c) = c' by omega]; exact a3) ((hashAt i0 p0 h00).trans (by rw [hk0]))

theorem nsearch_at (R : NSet w s.heap a L es ep t) {x : Addr} {k : NestedKey} (hx : Nk s.heap k x) (hu : A.units + 8 < cLine) {adding : Bool} {Q : SetFound → Shared → Prop}
    (hin : k ∈ L.map (·.2) → ∀ r, (adding = false → r.isSome = true) → Q (.there r) s)
    (hout : ∀ K, k ∉ L.map (·.2) → way t.mask (k.hash w) K ∉ t.place.toList → (∀ c, c < K → way t.mask (k.hash w) c ∈ t.place.toList) → Q (.free (way t.mask (k.hash w) K) false) s) :
    wpAny (model P w) A (setSearch a (.ref x) (k.hash w) adding) Q E s := by
  have hroom := R.room
  obtain ⟨K, hKf, hK, hKb⟩ := R.tab.first (by rw [List.length_map]; omega) (k.hash w)
  have hbig : K < 100000 := by
    have : 10 * SetTable.turns t.mask ≤ 1420 := by
      unfold SetTable.turns
      rcases R.tab.mok with e | e | e <;> omega
    omega
  unfold setSearch
  refine nsearch_from R hx hu hKf hK hKb hin (fun hn => hout K hn hK hKb) 100000 0 none rfl (Nat.zero_le _) (by omega) fun i p hp hk => ?_
  have hil : i < t.place.toList.length := by
    have h1 : i < L.length := (List.getElem?_eq_some_iff.mp hp).1
    have h2 := R.tab.sz
    rw [List.length_map] at h2
    rw [Array.length_toList]
    omega
  have hj := List.getElem?_eq_getElem hil
  obtain ⟨c, hc, e⟩ := R.tab.before hK (i := i) (by rw [List.getElem?_map, hp, ← hk]; rfl) hj
  exact ⟨c, Nat.zero_le _, hc, by rw [hj, e]⟩
/-- k in the set -/
theorem ncontains (R : NSet w s.heap a L es ep t) {x : Addr} {k : NestedKey} (hx : Nk s.heap k x) (hu : A.units + 8 < cLine) {Q : Bool → Shared → Prop} (h : ∀ n, Q (decide (k ∈ L.map (·.2))) { s with toks := n }) : wpAny (model P w) A (setContains a (.ref x)) Q E s := by
  unfold setContains
  refine wpAny_holding (wpAny_bind ((nestedKind P w).pyHash (show A.units + 8 < cLine from hu) hx ?_))
  generalize s.toks + (nestedKind P w).draws k = n
  show wpAny (model P w) A (setFind a (.ref x) (k.hash w) >>= _) Q E { s with toks := n }
  have R' : NSet w ({ s with toks := n } : Shared).heap a L es ep t := R
  obtain ⟨o, ho, hex, hd⟩ := R'.ob
  unfold setFind
  refine wpAny_bind ?_
  rw [show (100000 : Nat) = 99999 + 1 from rfl]
  unfold setFindIn
  refine wpAny_bind (wpAny_setState_of ho hd R'.fits ?_)
  dsimp only
  refine wp_if_neg (by simp [byScan, Value.scannable]) ?_
  try refine wpAny_bind (wpAny_pure ?_)
  refine wpAny_bind (nsearch_at R' hx hu (fun hm r hr => ?_) fun K hm _ _ => ?_)
  · dsimp only
    refine wpAny_pure (wpAny_pure ?_)
    rw [hr rfl]
    have := h n
    rw [decide_eq_true hm] at this
    exact this
  · dsimp only
    refine wpAny_pure (wpAny_pure ?_)
    have := h n
    rw [decide_eq_false hm] at this
    exact this

/-- what a new order makes of the rows -/
theorem range_get {α : Type} (L : List α) : ∀ n, n ≤ L.length → (List.range n).filterMap (fun i => L[i]?) = L.take n
  | 0, _ => rfl
  | n + 1, h => by
    rw [List.range_succ, List.filterMap_append, range_get L n (Nat.le_of_lt h), List.take_add_one, List.getElem?_eq_getElem h]
    simp [List.getElem?_eq_getElem h]
theorem norder {order : Array Nat} (hr : es.toList = rowsN w L) (hp : order.toList.Perm (List.range L.length)) :
    ∃ L2, (order.filterMap (es[·]?)).toList = rowsN w L2 ∧ L2.Perm L ∧ (L2.map fun p => p.2.hash w) = order.toList.map fun i => (es.map (·.1)).getD i 0 := by
  have hsz : es.size = L.length := by rw [← Array.length_toList, hr, rowsN_len]
  have ent : ∀ (i : Nat) (p : Addr × NestedKey), L[i]? = some p → es[i]? = some (p.2.hash w, Value.ref p.1) := fun i p h => by
    rw [← Array.getElem?_toList, hr]
    exact rowsN_get h
  have key : ∀ l : List Nat, (∀ i ∈ l, i < L.length) → l.filterMap (fun i => es[i]?) = rowsN w (l.filterMap fun i => L[i]?) ∧ ((l.filterMap fun i => L[i]?).map fun p => p.2.hash w) = l.map fun i => (es.map (·.1)).getD i 0 := by
    intro l
    induction l with
    | nil => exact fun _ => ⟨rfl, rfl⟩
    | cons i l ih =>
      intro hl
      obtain ⟨e1, e3⟩ := ih fun j hj => hl j (List.mem_cons_of_mem _ hj)
      obtain ⟨p, hp⟩ : ∃ p, L[i]? = some p := ⟨_, List.getElem?_eq_getElem (hl i List.mem_cons_self)⟩
      have he := ent i p hp
      rw [List.filterMap_cons_some he, List.filterMap_cons_some hp, e1, List.map_cons, List.map_cons, e3]
      refine ⟨rfl, ?_⟩
      have e5 : (es.map (·.1))[i]? = some (p.2.hash w) := by rw [Array.getElem?_map, he]; rfl
      simp [Array.getD_eq_getD_getElem?, e5]
  obtain ⟨e1, e3⟩ := key order.toList fun i hi => List.mem_range.mp (hp.mem_iff.mp hi)
  refine ⟨_, by first | (rw [Array.toList_filterMap]; exact e1) | simpa using e1, ?_, e3⟩
  have h1 := hp.filterMap (fun i => L[i]?)
  rw [range_get L L.length (Nat.le_refl _), List.take_length] at h1
  exact h1
/-- a table with another word on its order -/
theorem tab_plain {t : SetTable} {hs : List Int} (T : TabOk t hs) (b : Bool) : TabOk (if b then t else { t with plain := false }) hs := by
  cases b
  · exact ⟨T.ris, T.dm, T.sz, T.mok, T.bd, T.reach⟩
  · exact T
/-- the table laid anew, larger -/
theorem nrelay {o : Obj} (ho : s.heap.get? a = some o) (hex : o.ExactSet) (hd : o.data = .set es ep t) (hrows : es.toList = rowsN w L) (T0 : TabOk t (L.map fun p => p.2.hash w)) (hfl : es.size ≤ t.mask)
    (nd : (L.map (·.2)).Nodup) (key : ∀ p ∈ L, Nk s.heap p.2 p.1) (few : L.length < 64) {wanted M : Nat}
    (hw : SetTable.sizeAbove wanted - 1 = M) (hM : MaskOk M) (hw2 : SetTable.sizeAbove wanted ≤ 128) (hn : L.length * 5 < M * 3) {Q : Unit → Shared → Prop}
    (hQ : ∀ h' L' es' ep' t', Heap.SameBut a s.heap h' → NSet w h' a L' es' ep' t' → L'.Perm L → Q () { s with heap := h' }) : wpAny (model P w) A (setRelay a wanted) Q E s := by
  have hsl : es.size = L.length := by rw [← Array.length_toList, hrows, rowsN_len]
  have hfits : t.fits es.size = true := by
    have h1 := T0.sz
    rw [List.length_map] at h1
    have hdm : t.dummies.size = 0 := by rw [T0.dm]; rfl
    unfold SetTable.fits SetTable.fill
    rw [Bool.and_eq_true, beq_iff_eq, decide_eq_true_eq]
    exact ⟨by rw [h1, hsl], by omega⟩
  obtain ⟨t', order, e, hp, T, em, -, -, -⟩ := relaid_ok t (hs := es.map (·.1)) (wanted := wanted) hw hM (by rw [Array.size_map, hsl]; omega)
  rw [Array.size_map, hsl] at hp
  obtain ⟨L2, r1, r2, r3⟩ := norder (w := w) hrows hp
  rw [← r3] at T
  have hs2 : (order.filterMap (es[·]?)).size = es.size := by rw [← Array.length_toList, r1, rowsN_len, r2.length_eq, hsl]
  rw [setRelay_eq]
  refine wpAny_bind (wpAny_setState_of ho hd hfits ?_)
  dsimp only
  refine wp_if_neg (by rw [sizeLine_eq]; omega) ?_
  try refine wpAny_bind (wpAny_pure ?_)
  rw [e]
  dsimp only
  refine wpAny_bind ?_
  refine wp_if_neg (by rw [hs2]; simp) ?_
  try refine wpAny_bind (wpAny_pure ?_)
  refine wpAny_pure ?_
  dsimp only
  refine wpAny_storeSet_of ho hd ?_ (by rw [hs2, hsl, sizeLine_eq]; omega)
  have sb : Heap.SameBut a s.heap (s.heap.update a (Obj.putSet (order.filterMap (es[·]?)) t')) := Heap.SameBut.update ..
  refine hQ _ L2 (order.filterMap (es[·]?)) (ep + 1) t' sb ?_ r2
  refine ⟨⟨_, store_at ho hd, ⟨hex.1, hex.2.1, hex.2.2⟩, rfl⟩, r1, T, (r2.map (·.2)).nodup_iff.mpr nd, fun p hpm => (key p (r2.mem_iff.mp hpm)).past ho hd sb, ?_, by rw [r2.length_eq]; exact few⟩
  rw [r2.length_eq, em]
  exact hn
/-- set.add's work -/
theorem nadd (R : NSet w s.heap a L es ep t) {x : Addr} {k : NestedKey} (hx : Nk s.heap k x) (hu : A.units + 8 < cLine) (hfew : L.length + 1 < 64) {Q : Bool → Shared → Prop}
    (hQ : ∀ b h' L' es' ep' t', Heap.SameBut a s.heap h' → NSet w h' a L' es' ep' t' → (k ∈ L.map (·.2) → L' = L) → (k ∉ L.map (·.2) → L'.Perm ((x, k) :: L)) → Q b { s with heap := h' }) :
    wpAny (model P w) A (setAddHashed a (.ref x) (k.hash w)) Q E s := by
  obtain ⟨o, ho, hex, hd⟩ := R.ob
  have hsl := R.size
  have hroom := R.room
  unfold setAddHashed
  refine wpAny_holding ?_
  rw [show (100000 : Nat) = 99999 + 1 from rfl, setAddHashedIn_succ]
  refine wpAny_bind (wpAny_setState_of ho hd R.fits ?_)
  dsimp only
  refine wp_if_neg (by simp [byScan, Value.scannable]) ?_
  try refine wpAny_bind (wpAny_pure ?_)
  refine wpAny_bind (nsearch_at R hx hu (fun hm _ _ => ?_) fun K hm hK hb => ?_)
  · dsimp only
    exact wpAny_pure (hQ false s.heap L es ep t (Heap.SameBut.refl a s.heap) R (fun _ => rfl) fun z => absurd hm z)
  · dsimp only
    refine wpAny_bind (wpAny_setState_of ho hd R.fits ?_)
    dsimp only
    obtain ⟨q1, q2, q3, q4, q5, q6, q7, q8, q9⟩ := R.tab.put hK hb
    generalize hpt : t.put (way t.mask (k.hash w) K) = pt at q1 q3 q4 q9 ⊢
    obtain ⟨t1, p⟩ := pt
    dsimp only at q1 q3 q4 q9 ⊢
    subst q1
    have hin : (SetTable.insertAt es (SetTable.below t.place (way t.mask (k.hash w) K)) (k.hash w, Value.ref x)).toList = rowsN w (L.take (SetTable.below t.place (way t.mask (k.hash w) K)) ++ (x, k) :: L.drop (SetTable.below t.place (way t.mask (k.hash w) K))) := by
      rw [SetTable.toList_insertAt, R.rows]
      unfold rowsN
      rw [List.map_append, List.map_cons, List.map_take, List.map_drop]
    generalize SetTable.below t.place (way t.mask (k.hash w) K) = p at q2 q3 hin ⊢
    have pm : (L.take p ++ (x, k) :: L.drop p).Perm ((x, k) :: L) := by
      have h : (L.take p ++ (x, k) :: L.drop p).Perm ((x, k) :: (L.take p ++ L.drop p)) := List.perm_middle
      rw [List.take_append_drop] at h
      exact h
    have hlen : (L.take p ++ (x, k) :: L.drop p).length = L.length + 1 := pm.length_eq
    have hhs : (L.take p ++ (x, k) :: L.drop p).map (fun p => p.2.hash w) = (L.map fun p => p.2.hash w).take p ++ k.hash w :: (L.map fun p => p.2.hash w).drop p := by
      rw [List.map_append, List.map_cons, List.map_take, List.map_drop]
    rw [← hhs] at q3
    have nd1 : ((L.take p ++ (x, k) :: L.drop p).map (·.2)).Nodup := by
      refine (pm.map (·.2)).nodup_iff.mpr ?_
      rw [List.map_cons]
      exact List.nodup_cons.mpr ⟨hm, R.nd⟩
    have hes : (SetTable.insertAt es p (k.hash w, Value.ref x)).size = L.length + 1 := by rw [← Array.length_toList, hin, rowsN_len, hlen]
    generalize SetTable.insertAt es p (k.hash w, Value.ref x) = es1 at hin hes ⊢
    generalize L.take p ++ (x, k) :: L.drop p = L1 at pm hlen q3 nd1 hin
    have tail : ∀ b : Bool, wpAny (model P w) A (storeSet a es1 (if b = true then t1 else { t1 with plain := false }) >>= fun _ => if (!false && (if b = true then t1 else { t1 with plain := false } : SetTable).tooFull) = true then (setRelay a (SetTable.grown (es.size + 1)) >>= fun _ => pure true) else pure true) Q E s := fun b => by
      have T1 := tab_plain q3 b
      have em : (if b then t1 else { t1 with plain := false } : SetTable).mask = t.mask := by cases b <;> exact q4
      have ef : (if b then t1 else { t1 with plain := false } : SetTable).fill = L.length + 1 := by cases b <;> (refine Eq.trans ?_ (q9.trans (by rw [List.length_map])); rfl)
      generalize (if b then t1 else { t1 with plain := false } : SetTable) = t2 at T1 em ef ⊢
      refine wpAny_bind (wpAny_storeSet_of ho hd ?_ (by rw [hes, sizeLine_eq]; omega))
      have sb : Heap.SameBut a s.heap (s.heap.update a (Obj.putSet es1 t2)) := Heap.SameBut.update ..
      have ho1 := store_at (es' := es1) (t' := t2) ho hd
      generalize s.heap.update a (Obj.putSet es1 t2) = h1 at sb ho1 ⊢
      have key1 : ∀ p ∈ L1, Nk h1 p.2 p.1 := fun p hp => by
        rcases List.mem_cons.mp (pm.mem_iff.mp hp) with e | hp
        · rw [e]; exact hx.past ho hd sb
        · exact (R.key p hp).past ho hd sb
      by_cases hf : t2.tooFull = true
      · have hfull : (L.length + 1) * 5 ≥ t2.mask * 3 := by
          have h := hf
          unfold SetTable.tooFull at h
          rw [decide_eq_true_eq, ef] at h
          exact h
        rw [hsl]
        have cases2 : (t.mask = 7 ∧ L.length = 4) ∨ (t.mask = 31 ∧ L.length = 18) := by
          rcases R.tab.mok with e | e | e
          · left; rw [em, e] at hfull; rw [e] at hroom; exact ⟨e, by omega⟩
          · right; rw [em, e] at hfull; rw [e] at hroom; exact ⟨e, by omega⟩
          · exfalso; rw [em, e] at hfull; omega
        have go : ∀ M, SetTable.sizeAbove (SetTable.grown (L.length + 1)) - 1 = M → MaskOk M → SetTable.sizeAbove (SetTable.grown (L.length + 1)) ≤ 128 → (L.length + 1) * 5 < M * 3 →
            wpAny (model P w) A (setRelay a (SetTable.grown (L.length + 1))) (fun _ s' => wpAny (model P w) A (pure true) Q E s') E { s with heap := h1 } := fun M h1' h2' h3' h4' => by
          refine nrelay (s := { s with heap := h1 }) ho1 ⟨hex.1, hex.2.1, hex.2.2⟩ rfl hin T1 (by rw [hes, em]; rcases cases2 with ⟨e, e2⟩ | ⟨e, e2⟩ <;> omega) nd1 key1 (by rw [hlen]; exact hfew) h1' h2' h3' (by rw [hlen]; exact h4') ?_
          intro h2 L2 es2 ep2 t3 sb2 R2 pm2
          exact wpAny_pure (hQ true h2 L2 es2 ep2 t3 (sb.trans sb2) R2 (fun z => absurd z hm) fun _ => pm2.trans pm)
        have g2 : wpAny (model P w) A (setRelay a (SetTable.grown (L.length + 1))) (fun _ s' => wpAny (model P w) A (pure true) Q E s') E { s with heap := h1 } := by
          rcases cases2 with ⟨_, e2⟩ | ⟨_, e2⟩
          · exact go 31 (by rw [e2, size_20]) (.inr (.inl rfl)) (by rw [e2, size_20]; decide) (by omega)
          · exact go 127 (by rw [e2, size_76]) (.inr (.inr rfl)) (by rw [e2, size_76]; decide) (by omega)
        first
          | (refine wpAny_bind ?_; refine wp_if_pos (by simp [hf]) ?_; exact g2)
          | (refine wp_if_pos (by simp [hf]) ?_; refine wpAny_bind ?_; exact g2)
      · first
          | refine wp_if_neg (by simp [hf]) ?_
          | (refine wpAny_bind ?_; refine wp_if_neg (by simp [hf]) ?_; refine wpAny_pure ?_)
        refine wpAny_pure (hQ true h1 L1 es1 (ep + 1) t2 sb ⟨⟨_, ho1, ⟨hex.1, hex.2.1, hex.2.2⟩, rfl⟩, hin, T1, nd1, key1, ?_, by rw [hlen]; exact hfew⟩ (fun z => absurd z hm) fun _ => pm)
        have h := hf
        unfold SetTable.tooFull at h
        rw [decide_eq_true_eq, ef] at h
        rw [hlen]
        omega
    by_cases hpl : t1.plain = true
    · refine wp_if_pos hpl (wpAny_bind (hbv_key k _ 8 s hx.1 hx.2 _ _ _ fun b => ?_))
      exact tail b
    · refine wp_if_neg hpl (wpAny_bind (wpAny_pure ?_))
      exact tail true
end

/-! ### over data -/
/-- with the set at a -/
def onT (S : Sto) (a : Addr) (k : Obj → List D → Prop) : Prop := match sget S a with
  | some (.st o ks) => k o ks
  | _ => False
theorem onT_iff {S : Sto} {a : Addr} {k : Obj → List D → Prop} : onT S a k ↔ ∃ o ks, sget S a = some (.st o ks) ∧ k o ks := by
  unfold onT
  constructor
  · intro h
    split at h
    · exact ⟨_, _, ‹_›, h⟩
    · exact h.elim
  · rintro ⟨o, ks, e, h⟩
    rw [e]
    exact h
theorem onT_in {S : Sto} {a : Addr} {k : Obj → List D → Prop} {o : Obj} {ks : List D} (e : sget S a = some (.st o ks)) (h : k o ks) : onT S a k := onT_iff.mpr ⟨o, ks, e, h⟩
/-- is x in the set -/
def hasK (ks : List D) (x : D) : Bool := decide (nkD x ∈ ks.map nkD)
def putK (ks : List D) (x : D) : List D := if hasK ks x = true then ks else x :: ks
def eSet0 : WE := fun _ S Q => ∀ p o, sget S p = none → Q (.ref p) ((p, .st o []) :: S)
def dInT (u : Bool → Bool) (x y : D) (S : Sto) (Q : WQ) : Prop := match y with
  | .ref a => onT S a fun _ ks => keyT x = true ∧ Q (.bl (u (hasK ks x))) S
  | _ => False
abbrev dInS := dInT fun b => b
abbrev dNotInS := dInT fun b => !b
def mAddS (x : D) (ds : List D) (S : Sto) (Q : WQ) : Prop := match x, ds with
  | .ref a, [y] => onT S a fun _ ks => (keyT y = true ∧ ks.length < 62) ∧ ∀ o', Q .non (sset S a (.st o' (putK ks y)))
  | _, _ => False
/-- a method of a set -/
def eMethT (m : D → List D → Sto → WQ → Prop) (to : WE) (t : WA) : WE := fun env S Q => to env S fun x S1 => match x with
  | .ref a => onT S1 a fun _ _ => t env S1 fun ds S2 => m (.ref a) ds S2 Q
  | _ => False
def bLenS : WB := fun ds S Q => match ds with
  | [.ref a] => onT S a fun _ ks => Q (.int ks.length) S
  | _ => False
abbrev SetAt (K : Kw) (H : Hp) (a : Addr) (o : Obj) (ks : List D) : Prop := LR K H a (.st o ks)
section
variable {X : Cx} {pins : List (Addr × Obj)} {σ : L2.St} {H : Hp} {s : Shared} {a : Addr} {o : Obj} {ks : List D}
theorem SetAt.get (h : SetAt X.kw H a o ks) (I : Inv X pins σ H s) : s.heap.get? a = some o := (I.hok a _ h.1).1
theorem SetAt.nset (h : SetAt X.kw H a o ks) (I : Inv X pins σ H s) : ∃ L es ep t, NSet X.w s.heap a L es ep t ∧ (L.map (·.2)).Perm (ks.map nkD) ∧ ∀ p ∈ L, ∃ d, keyT d = true ∧ p.2 = nkD d ∧ Rp X.kw H (.ref p.1) d := by
  have e := h.get I
  obtain ⟨_, L, es, ep, t, h1, h2, h3, h4, h5, h6, h7, h8, h9⟩ := h
  refine ⟨L, es, ep, t, ⟨⟨o, e, h1, h2⟩, h3, h4, h5, fun p hp => ?_, h6, h7⟩, h8, h9⟩
  obtain ⟨d, d1, d2, d3⟩ := h9 p hp
  rw [d2]
  exact key_is I d1 d3
theorem SetAt.ty (h : SetAt X.kw H a o ks) (I : Inv X pins σ H s) : s.TypeIs (.ref a) "set" ∧ ∀ b, Value.ref a = .ref b → ∃ ob, s.heap.get? b = some ob ∧ ob.dict = none := by
  have e := h.get I
  obtain ⟨_, L, es, ep, t, h1, _⟩ := h
  exact ⟨⟨o, e, h1.1⟩, fun b z => by cases z; exact ⟨o, e, h1.2.1⟩⟩
theorem unit_room {k : Nat} (C : Cok X k) : X.A.units + 8 < cLine := by
  have := C.room.units
  omega
theorem mem_perm {L : List (Addr × NestedKey)} (h8 : (L.map (·.2)).Perm (ks.map nkD)) (x : D) : decide (nkD x ∈ L.map (·.2)) = hasK ks x := by
  unfold hasK
  rw [decide_eq_decide]
  exact h8.mem_iff
end
section
variable {X : Cx} {a b : Expr} {ta tb : WE} {pos p : Pos} {k : Nat}
theorem q_set0 (hg : Gl X "set") (hm : X.mg "set" = none) : QE X (.Call (.Name "set" p) [] [] pos) eSet0 := by
  have hc : CallR X (.type "set") (fun xs H Q => xs = [] ∧ ∀ p o, H p = none → SetAt X.kw (upd H p (DicO p o)) p o [] → Q (.ref p) (upd H p (DicO p o))) := by
    intro pins s σ H xs us Q I r h
    obtain ⟨rfl, q⟩ := h
    cases r
    refine setR_new fun _ => ?_
    have hn : H s.heap.objs.size = none := I.hok.fresh (Nat.le_refl _)
    refine ⟨.ref s.heap.objs.size, _, I.laid (a := s.heap.objs.size) (o := DicO s.heap.objs.size _) (t' := s.toks) (fun _ _ q => Heap.get?_push_of_some _ q) (Nat.le_refl _) (dicO_ok (Heap.get?_push_size _ rfl)), rfl, q _ _ hn ?_⟩
    refine ⟨upd_same, [], #[], 0, _, ⟨rfl, rfl, rfl⟩, rfl, rfl, ⟨List.Pairwise.nil, rfl, rfl, .inl rfl, fun x hx => (by cases hx), fun i h j hi => (by simp at hi)⟩, List.nodup_nil, (by show 0 * 5 < 7 * 3; decide), (by decide), .nil, fun p hp => (by cases hp)⟩
  exact (pe_callTy0 hc hg hm (PyProof.Rows.Boot.«set») (by decide) (by decide)).imp' fun σ H Q ⟨env, S, Q0, er, so, q, ps⟩ => by
    refine ⟨rfl, fun p o hn hd => ?_⟩
    exact ps _ _ (q p o (so.none hn)) _ _ (.ref _) (so.newO hn hd) (.new S hn)
def rInT2 (X : Cx) (u : Bool → Bool) : R2 := fun x y H Q => ∃ a o ks kd, y = .ref a ∧ Rp X.kw H x kd ∧ SetAt X.kw H a o ks ∧ keyT kd = true ∧ Q (.bl (u (hasK ks kd))) H
theorem has_core {A : Around} {pins : List (Addr × Obj)} {σ : L2.St} {H : Hp} {s : Shared} {x : V} {v : Value} {kd : D} {a : Addr} {o : Obj} {ks : List D} {E : Value → Shared → Prop} {Q : Bool → Shared → Prop} (hu : A.units + 8 < cLine) (I : Inv X pins σ H s) (rx : RelV x v) (rk : Rp X.kw H x kd) (hk : keyT kd = true) (hd : SetAt X.kw H a o ks)
    (q : ∀ n, Q (hasK ks kd) { s with toks := n }) : wpAny (model X.prog X.w) A (setContains a v) Q E s := by
  obtain ⟨b, rfl⟩ := keyT_ref hk rk
  have rx : v = .ref b := rx
  subst rx
  obtain ⟨L, es, ep, t, R, h8, -⟩ := hd.nset I
  refine ncontains R (key_is I hk rk) hu fun n => ?_
  rw [mem_perm h8]
  exact q n
theorem body_has {A : Around} {pins : List (Addr × Obj)} {σ : L2.St} {H : Hp} {s : Shared} {x : V} {v : Value} {kd : D} {a : Addr} {o : Obj} {ks : List D} {E : Value → Shared → Prop} {Q : PySem.Fin → Shared → Prop} (hu : A.units + 8 < cLine) (I : Inv X pins σ H s) (rx : RelV x v) (rk : Rp X.kw H x kd) (hk : keyT kd = true) (hd : SetAt X.kw H a o ks)
    (q : ∀ n, Q (.done (.ret (.bool (hasK ks kd)))) { s with toks := n }) : wpAny (model X.prog X.w) A (Builtin.«frozenset.__contains__» ⟨[.ref a, v], []⟩) Q E s := by
  unfold Builtin.«frozenset.__contains__» Builtin.Frozenset.oneOther
  simp only [List.isEmpty_nil, bind_assoc]
  unfold Builtin.Frozenset.addrOf Builtin.Frozenset.withSetAsKey
  refine wpAny_bind (wpAny_pure ?_)
  try dsimp only
  refine wpAny_bind (wpAny_pure ?_)
  try dsimp only
  refine wpAny_bind (wpAny_tryCatch ?_)
  refine has_core hu I rx rk hk hd fun n => ?_
  show wpAny _ _ (ret (Value.bool (hasK ks kd))) _ _ _
  exact wpAny_pure (q n)
theorem op_inS (C : Cok X k) : OpR X (compareOp .In) (rInT2 X fun b => b) := by
  intro pins s σ H x y v u Q I rx ry h
  obtain ⟨a, o, ks, kd, rfl, rk, hd, hk, q⟩ := h
  cases ry
  have hT := (hd.ty I).1
  show wpAny _ _ (do return Value.bool (← contains (.ref a) v) : Sem Value) _ _ s
  refine wpAny_bind ?_
  unfold contains
  try with_reducible refine wpAny_holding ?_
  refine wpAny_bind (wpAny_specialOf hT PySem.F.slot_set_contains.lookup ?_)
  show wpAny _ _ (if (some (Value.builtin "set.__contains__") == some Value.none) = true then _ else _) _ _ s
  rw [if_neg (by rw [beq_builtin_none]; exact Bool.false_ne_true)]
  refine wpAny_bind (wpAny_callSpecialUnlessNone?_slot (name := Str.ofString "__contains__") hT PySem.F.slot_set_contains
    (wpAny_call_entry PySem.F.slot_set_contains hT entry_set_contains ?_ (PySem.F.args_set_contains_2 _ _)))
  refine body_has (by have := C.room.units; first | omega | (rw [Around.in1_units]; omega)) I rx rk hk hd fun n => ?_
  exact ⟨_, rfl, wpAny_truthy_bool (wpAny_pure ⟨.bl _, H, I.tok _, rfl, q⟩)⟩
theorem op_notInS (C : Cok X k) : OpR X (compareOp .NotIn) (rInT2 X fun b => !b) := by
  intro pins s σ H x y v u Q I rx ry h
  obtain ⟨a, o, ks, kd, rfl, rk, hd, hk, q⟩ := h
  cases ry
  have hT := (hd.ty I).1
  show wpAny _ _ (do return Value.bool (!(← contains (.ref a) v)) : Sem Value) _ _ s
  refine wpAny_bind ?_
  unfold contains
  try with_reducible refine wpAny_holding ?_
  refine wpAny_bind (wpAny_specialOf hT PySem.F.slot_set_contains.lookup ?_)
  show wpAny _ _ (if (some (Value.builtin "set.__contains__") == some Value.none) = true then _ else _) _ _ s
  rw [if_neg (by rw [beq_builtin_none]; exact Bool.false_ne_true)]
  refine wpAny_bind (wpAny_callSpecialUnlessNone?_slot (name := Str.ofString "__contains__") hT PySem.F.slot_set_contains
    (wpAny_call_entry PySem.F.slot_set_contains hT entry_set_contains ?_ (PySem.F.args_set_contains_2 _ _)))
  refine body_has (by have := C.room.units; first | omega | (rw [Around.in1_units]; omega)) I rx rk hk hd fun n => ?_
  exact ⟨_, rfl, wpAny_truthy_bool (wpAny_pure ⟨.bl _, H, I.tok _, rfl, q⟩)⟩
theorem opr_inS {u : Bool → Bool} : Opr X (rInT2 X u) (dInT u) := fun x y S Q0 v w H Q h rv ru so ps => by
  unfold dInT at h
  split at h
  · cases ru
    obtain ⟨o, ks, e, hk, q⟩ := onT_iff.mp h
    exact ⟨_, o, ks, x, rfl, rv, so _ _ e, hk, ps.here so q (.bl _)⟩
  · exact h.elim
theorem q_inS (C : Cok X k) (ha : QE X a ta) (hb : QE X b tb) (hm : behindInMarks .In b = false := by first | exact nomark _ | rfl) : QE X (.Compare a [.In] [b] pos) (eBin dInS ta tb) := q_cmp (op_inS C) opr_inS ha hb hm
theorem q_notInS (C : Cok X k) (ha : QE X a ta) (hb : QE X b tb) (hm : behindInMarks .NotIn b = false := by first | exact nomark _ | rfl) : QE X (.Compare a [.NotIn] [b] pos) (eBin dNotInS ta tb) := q_cmp (op_notInS C) opr_inS ha hb hm
theorem qt_inS (C : Cok X k) (ha : QE X a ta) (hb : QE X b tb) (hm : behindInMarks .In b = false := by first | exact nomark _ | rfl) : QT X (.Compare a [.In] [b] pos) (DL.tB (eBin dInS ta tb)) := qt_cmp (op_inS C) opr_inS ha hb hm
theorem qt_notInS (C : Cok X k) (ha : QE X a ta) (hb : QE X b tb) (hm : behindInMarks .NotIn b = false := by first | exact nomark _ | rfl) : QT X (.Compare a [.NotIn] [b] pos) (DL.tB (eBin dNotInS ta tb)) := qt_cmp (op_notInS C) opr_inS ha hb hm
end
/-! ### found.add(k) -/
section
variable {X : Cx} {o e : Expr} {es : List Expr} {to : WE} {t : WA} {apos cpos : Pos} {k : Nat}
def rAddS (X : Cx) : V → List V → Hp → VK → Prop := fun x xs H Q => ∃ a ob ks y kd, x = .ref a ∧ xs = [y] ∧ SetAt X.kw H a ob ks ∧ Rp X.kw H y kd ∧ keyT kd = true ∧ ks.length < 62 ∧
  ∀ o', SetAt X.kw (upd H a (DicO a o')) a o' (putK ks kd) → Tk H (upd H a (DicO a o')) → Q .non (upd H a (DicO a o'))
theorem mt_addS (C : Cok X k) : MtR X "set.add" (rAddS X) := by
  intro pins s σ H x xs v us Q I rx rxs h
  obtain ⟨a, ob, ks, y, kd, rfl, rfl, hd, rk, hk, hlen, q⟩ := h
  cases rx
  cases rxs with
  | cons ry rt =>
  cases rt
  obtain ⟨b, rfl⟩ := keyT_ref hk rk
  rename_i u
  obtain rfl : u = Value.ref b := ry
  obtain ⟨L, es, ep, t, R, h8, h9⟩ := hd.nset I
  have hT := (hd.ty I).1
  have key := key_is I hk rk
  have hl := h8.length_eq
  rw [List.length_map, List.length_map] at hl
  refine wpAny_call_entry PySem.F.slot_set_add hT PySem.F.entry_set_add ?_ (PySem.F.args_set_add_2 _ _)
  unfold Builtin.«set.add» Builtin.Frozenset.oneOther
  simp only [List.isEmpty_nil, bind_assoc]
  unfold Builtin.Frozenset.addrOf setAdd
  refine wpAny_bind (wpAny_pure ?_)
  try dsimp only
  refine wpAny_bind (wpAny_pure ?_)
  try dsimp only
  refine wpAny_bind ?_
  refine wpAny_holding ?_
  have hu : X.A.units + 10 < cLine := by have := C.room.units; omega
  refine wpAny_bind ((nestedKind X.prog X.w).pyHash (by show _ + 8 < cLine; first | omega | (rw [Around.in1_units]; omega)) key ?_)
  generalize s.toks + (nestedKind X.prog X.w).draws (nkD kd) = n
  show wpAny _ _ (setAddHashed a (.ref b) ((nkD kd).hash X.w)) _ _ _
  refine nadd (s := { s with toks := n }) R key (by first | omega | (rw [Around.in1_units]; omega)) (by omega) fun bb h' L' es' ep' t' hsb R' y1 y2 => ?_
  show wpAny _ _ (ret Value.none) _ _ _
  refine wpAny_pure ⟨_, rfl, ?_⟩
  obtain ⟨o', ho', hex', hdt'⟩ := R'.ob
  have tk : Tk H (upd H a (DicO a o')) := dicO_tk hd.1
  have I' : Inv X pins σ (upd H a (DicO a o')) { s with heap := h', toks := n } :=
    I.write (x := a) (e := a) (by rw [hd.1]; trivial) (.inl rfl) (fun b q hb z => (hsb.2 b hb).trans z) ⟨_, ho'⟩ (dicO_ok ho')
  refine ⟨.non, _, I', rfl, q o' ⟨upd_same, L', es', ep', t', hex', hdt', R'.rows, R'.tab, R'.nd, R'.room, R'.few, ?_, fun p hp => ?_⟩ tk⟩
  · unfold putK hasK
    by_cases hm : nkD kd ∈ ks.map nkD
    · rw [if_pos (decide_eq_true hm), y1 (h8.mem_iff.mpr hm)]
      exact h8
    · rw [if_neg (by rw [decide_eq_false hm]; decide)]
      have h := (y2 fun z => hm (h8.mem_iff.mp z)).map (fun p : Addr × NestedKey => p.2)
      exact h.trans (h8.cons (nkD kd))
  · have old : p ∈ L ∨ p = (b, nkD kd) := by
      by_cases hm : nkD kd ∈ L.map (·.2)
      · rw [y1 hm] at hp
        exact .inl hp
      · rcases List.mem_cons.mp ((y2 hm).mem_iff.mp hp) with e | h
        · exact .inr e
        · exact .inl h
    rcases old with hp | rfl
    · obtain ⟨d, d1, d2, d3⟩ := h9 p hp
      exact ⟨d, d1, d2, d3.mono tk⟩
    · exact ⟨kd, hk, rfl, rk.mono tk⟩
def tMT (X : Cx) (r : V → List V → Hp → VK → Prop) (to : TE) (t : TA) : TE := fun σ H Q => to σ H fun x H1 => (∃ a o ks, x = V.ref a ∧ SetAt X.kw H1 a o ks) ∧ t σ H1 fun xs H2 => r x xs H2 Q
theorem q_addS (C : Cok X k) (ho : QE X o to) (ha : QA X (e :: es) t)
    (hbase : attributeBase o "add" X.env (eval o X.env) = eval o X.env := by rfl)
    (hfew : ((backTo cpos (starEach (e :: es) X.env)).all (fun x => !x.1) && (backToKw cpos (keywordEach [] X.env)).all (fun x => x.1.isSome)
      && decide ((e :: es).length + ([] : List Keyword).length + (if ([] : List Keyword).isEmpty then 0 else 1) < 30)) = true := by rfl)
    (hline : (apos.endLine == cpos.line) = true := by rfl) (hs : starEach (e :: es) X.env = (false, eval e X.env) :: starEach es X.env := by rfl) (hplain : (backTo cpos (starEach es X.env)).any (·.1) = false := by rfl) :
    QE X (.Call (.Attribute o "add" apos) (e :: es) [] cpos) (eMethT mAddS to t) := by
  have key : PE X (.Call (.Attribute o "add" apos) (e :: es) [] cpos) (tMT X (rAddS X) (lE X.kw to) (lA X.kw t)) := by
    refine ⟨fun pins s σ H Q I h => wpAny_Call_method_late hbase hfew hline rfl (thn (ho.run pins s σ H _ I h) fun v s1 ⟨x, H1, I1, r1, ⟨a, ob, ks, hx, hd⟩, q1⟩ => ?_)⟩
    subst hx
    cases r1
    obtain ⟨g1, g2⟩ := hd.ty I1
    refine ⟨"set", "set.add", PySem.F.plainAttrs_set, PySem.F.slot_set_add, PySem.F.type_set_add, g1, g2, ?_⟩
    have hA := ha.run cpos pins s1 σ H1 _ I1 q1
    rw [hs] at hA ⊢
    refine Calls.callWith_builtin (by show (false || (backTo cpos (starEach es X.env)).any (·.1)) = false; rw [hplain] <;> rfl) (Calls.evalArgs_plain ?_)
    exact thn hA fun us s2 ⟨vs, H2, I2, r2, q2⟩ => mt_addS C pins s2 σ H2 (.ref a) vs (.ref a) us Q I2 rfl r2 q2
  refine key.imp' fun σ H Q ⟨env, S, Q0, er, so, q, ps⟩ => ?_
  refine ⟨env, S, _, er, so, q, fun d S1 h1 v H1 rv s1 f1 => ?_⟩
  split at h1
  · cases rv
    obtain ⟨ob, ks, e1, h1⟩ := onT_iff.mp h1
    refine ⟨⟨_, ob, ks, rfl, s1 _ _ e1⟩, env, S1, _, er.mono f1.tk, s1, h1, fun ds S2 h3 ws H2 rs s2 f2 => ?_⟩
    unfold mAddS at h3
    split at h3
    · rename_i a y he
      cases he
      cases rs with
      | cons r1 r2 =>
      cases r2
      obtain ⟨ob2, ks2, e2, ⟨hk, hl⟩, q2⟩ := onT_iff.mp h3
      refine ⟨_, ob2, ks2, _, y, rfl, rfl, s2 _ _ e2, r1, hk, hl, fun o' d' tk => ?_⟩
      exact (ps.trans (f1.trans f2)) _ _ (q2 o') _ _ .non (s2.setX e2 tk d') (.setX e2 tk)
    · exact h3.elim
  · exact h1.elim
end
end DL

/-! DV: range(i, j) over ints of any size. -/
namespace DL
open PySem PySem.Spec PyProof.Rows L2
/-- the iterator over great ints -/
theorem turn_long {P : Program} {w : World} {K : PySem.W.Frag} {tg : Expr} (it : Addr) (lo : Int) (n : Nat) : Turn P w K tg (Itr lo n) [it] it (fun i h => IsLongIter h it (lo + (i : Nat) * 1) ((n : Int) - (i : Nat)) 1) where
  mem := by simp
  obj := fun i h st b hb => by
    obtain rfl : b = it := by simpa using hb
    exact ⟨_, st, fun v z => by cases (show Data.fields _ = Data.cell v from z)⟩
  keep := fun i h h' st k => k it (by simp) _ st
  item := by
    intro X hP hw hK hc i pins s σ H E I hf st hg
    subst hP hw hK
    obtain ⟨f0, f1, f2, f3, f4, f5⟩ := hf it (by simp)
    refine (Walks.longrange (prog := X.prog) (w := X.w) (I.ok.hd hc) it lo 1 n).item i s _ _ hg st fun v h' tk ⟨t, hv⟩ st' kk => ?_
    subst hv
    have I1 : Inv X pins σ H { s with heap := h', toks := tk } := I.turned (fun b o hb e => kk b o (by simpa using hb) e) f0 f1 f3 f4 f5
    exact ⟨_, rfl, go_of (s := { s with heap := h', toks := tk }) (n := "longrange_iterator") st' rfl rfl (by decide) ⟨.int (lo + i), H, I1, ⟨t, by rw [Int.mul_one]⟩, ⟨rfl, rfl⟩, st', fun b hb => (hf b hb).1⟩⟩
  done := by
    intro X hP hw hK hc i pins s σ H E I hf st hg
    subst hP hw hK
    obtain ⟨f0, f1, f2, f3, f4, f5⟩ := hf it (by simp)
    exact wpAny_pyNext_long_end (I.ok.hd hc) st (by have : n ≤ i := hg; omega) fun h' eb => ⟨rfl, I.turned (t' := s.toks) (fun b o hb e => eb b o hb e) f0 f1 f3 f4 f5⟩
  self := fun _ _ _ _ _ st h => wpAny_pyIter_longiter st h
section
variable {X : Cx} {tg : Expr}
theorem size_any (lo hi : Int) : (((hi - lo).toNat : Nat) : Int) = Builtin.Range.rangeSize lo hi 1 := by rw [rangeSize_one]; split <;> omega
/-- a range object just made, walked, whatever its ends -/
theorem range_any {pins : List (Addr × Obj)} {σ : L2.St} {H : Hp} {s : Shared} {R : L2.It → Hp → Prop} {E : Value → Shared → Prop} {lo hi : Int} {t u v : Tok} {tk : Nat} (I : Inv X pins σ H s)
    (q : R (Itr lo (hi - lo).toNat) H) : wpAny (model X.prog X.w) X.A (pyIter (.ref s.heap.objs.size)) (PIE X pins σ tg R) E { s with heap := s.heap.push { cls := .type "range", data := .fields #[.int lo t, .int hi u, .int 1 v] }, toks := tk } := by
  have I1 : Inv X pins σ H { s with heap := s.heap.push { cls := .type "range", data := .fields #[.int lo t, .int hi u, .int 1 v] }, toks := tk } := I.kept fun b o e => Heap.get?_push_of_some _ e
  have e1 : lo + ((0 : Nat) : Int) * 1 = lo := by simp
  have e2 : (((hi - lo).toNat : Nat) : Int) - ((0 : Nat) : Int) = Builtin.Range.rangeSize lo hi 1 := by rw [← size_any]; omega
  have fp : ∀ b ∈ [(s.heap.push { cls := .type "range", data := .fields #[.int lo t, .int hi u, .int 1 v] }).objs.size], _ := fun b hb => by
    obtain rfl : b = (s.heap.push { cls := .type "range", data := .fields #[.int lo t, .int hi u, .int 1 v] }).objs.size := by simpa using hb
    exact I1.fpOk (Nat.le_refl _) (I1.hok.fresh (Nat.le_refl _))
  cases hs : Builtin.Range.small lo hi 1 with
  | true =>
    refine wpAny_pyIter_range (IsRange.new ..) hs ⟨_, _, _, _, H, rfl, I1.kept (t' := tk) fun b o e => Heap.get?_push_of_some _ e, turn_range _ lo (hi - lo).toNat, ?_, fp, q⟩
    show IsRangeIter _ _ (lo + ((0 : Nat) : Int) * 1) _ 1
    rw [e1, e2]
    exact Heap.get?_push_size _ rfl
  | false =>
    refine wpAny_pyIter_longrange (IsRange.new ..) hs ⟨_, _, _, _, H, rfl, I1.kept (t' := tk) fun b o e => Heap.get?_push_of_some _ e, turn_long _ lo (hi - lo).toNat, ?_, fp, q⟩
    show IsLongIter _ _ (lo + ((0 : Nat) : Int) * 1) _ 1
    rw [e1, e2]
    exact Heap.get?_push_size _ rfl
def iRngA (ta : TA) : TI := fun σ H R => ta σ H fun vs H1 => ∃ i j : Int, vs = [.int i, .int j] ∧ R (Itr i (j - i).toNat) H1
theorem pi_rangeA {a b : Expr} {ta : TA} {p pos : Pos} (hg : Gl X "range") (hm : X.mg "range" = none) (ha : PA X [a, b] ta) (hs : starEach [a, b] X.env = [(false, eval a X.env), (false, eval b X.env)] := by rfl) (hs2 : starEach [b] X.env = [(false, eval b X.env)] := by rfl) :
    PI X tg (.Call (.Name "range" p) [a, b] [] pos) (iRngA ta) := by
  refine ⟨fun pins s σ H R I h => ?_⟩
  refine Call_ (ld_blt I hg hm boot_range (PyProof.Rows.callWith_type1 (thn (ha.run pos pins s σ H _ I h) fun us s1 ⟨vs, H1, I1, r1, i, j, e, q⟩ => ?_) (by rw [hs, hs2]) (by rw [hs2]; rfl)))
  subst e
  obtain ⟨u1, u2, rfl, ⟨t, rfl⟩, t', rfl⟩ : ∃ u1 u2, us = [u1, u2] ∧ RelV (.int i) u1 ∧ RelV (.int j) u2 := by
    cases r1 with
    | cons r rr =>
      cases rr with
      | cons r' rr =>
        cases rr
        exact ⟨_, _, rfl, r, r'⟩
  exact call_range_2 (range_any I1 q)
end
/-- range(i, j), the ends of any size, a million items at most -/
def iRng2L (t : WA) : WI := fun env S R => t env S fun ds S1 => match ds with
  | [.int i, .int j] => j - i ≤ 1000000 ∧ R ⟨rngD i (j - i).toNat, fun _ => True⟩ S1
  | _ => False
section
variable {X : Cx} {tg : Expr} {ta : WA} {p pos : Pos}
theorem qi_rng2L {a b : Expr} (hg : Gl X "range") (hm : X.mg "range" = none) (ha : QA X [a, b] ta) (hs : starEach [a, b] X.env = [(false, eval a X.env), (false, eval b X.env)] := by rfl) (hs2 : starEach [b] X.env = [(false, eval b X.env)] := by rfl) :
    QI X tg (.Call (.Name "range" p) [a, b] [] pos) (iRng2L ta) := (pi_rangeA hg hm ha hs hs2).imp' fun σ H R ⟨env, S, R0, er, so, q, ps⟩ => by
  refine ⟨env, S, _, er, so, q, fun ds S1 h1 vs H1 rs s1 f1 => ?_⟩
  have := rng_line
  split at h1
  · cases rs with
    | cons r1 r2 =>
      cases r2 with
      | cons r2 r3 =>
        cases r1; cases r2; cases r3
        exact ⟨_, _, rfl, ps _ _ h1.2 _ _ (itr_rng _ _ (by omega)) s1 f1⟩
  · exact h1.elim
theorem yl_rng2L {t : WA} {env : EV} {S : Sto} {i j : Int} (h : ∀ Q : List D → Sto → Prop, Q [.int i, .int j] S → t env S Q) (h0 : j - i ≤ 1000000) : Yields (iRng2L t) env S (rngD i (j - i).toNat) (fun _ => True) := fun R hr => h _ ⟨h0, hr (by
  rw [len_rng]
  have := rng_line
  omega)⟩
end
end DL

/-! DX: comprehensions of two; pop(), reverse(), extend(..); sorted; dicts as displays. -/
namespace DL
open PySem PySem.Spec PyProof.Rows L2
/-! ### [elt for .. in .. if .. for .. in .. if ..] -/
@[irreducible] def eComp2 (it : WI) (g : WG) (c : WT) (it1 : WI) (g1 : WG) (c1 : WT) (elt : WE) (vs vs1 : List Nat) : WE := fun env S Q => it env S fun J S0 =>
  ∃ W : Nat → List D → Sto → Prop, W 0 [] S0 ∧
    (∀ i x acc S, J.xs[i]? = some x → W i acc S → J.chk S ∧ g x (wipe env vs) S fun env2 S2 => c env2 S2 fun b S3 =>
      ifB b (it1 env2 S3 fun J1 S4 => ∃ W1 : Nat → List D → Sto → Prop, W1 0 acc S4 ∧
          (∀ j y acc S, J1.xs[j]? = some y → W1 j acc S → J1.chk S ∧ g1 y (wipe env2 vs1) S fun env3 S5 => c1 env3 S5 fun b S6 =>
            ifB b (elt env3 S6 fun z S7 => acc.length < sizeLine ∧ UpS (W1 (j + 1) (acc ++ [z])) S7) (UpS (W1 (j + 1) acc) S6)) ∧
          ∀ acc S, W1 J1.xs.length acc S → J1.chk S ∧ UpS (W (i + 1) acc) S)
        (UpS (W (i + 1) acc) S3)) ∧
    ∀ acc S, W J.xs.length acc S → J.chk S ∧ ∀ p, sget S p = none → Q (.ref p) ((p, .lst acc) :: S)
section
variable {X : Cx} {tg iter tg1 iter1 elt : Expr} {ifs ifs1 : List Expr} {scope : Scope} {own : List (Str × Nat)} {pos : Pos} {wi wi1 : WI} {g g1 : WG} {c c1 : WT} {te : WE} {vs vs1 : List Nat}
theorem wipe_wipe {σ : L2.St} {vs : List Nat} : L2.wipe (L2.wipe σ vs) vs = L2.wipe σ vs := by
  refine List.ext_getElem? fun j => ?_
  rw [wipe_get, wipe_length, wipe_get]
  by_cases h : j ∈ vs ∧ j < σ.length
  · rw [if_pos h, if_pos h]
  · rw [if_neg h]
    try rw [wipe_get, if_neg h]
/-- what stands while a comprehension runs: the list in the making at A, which the store does not name -/
structure Mk (K : Kw) (S1 : Sto) (H1 : Hp) (A : Addr) (S' : Sto) (H' : Hp) (acc : List D) : Prop where
  so : SOk K H' S'
  fr : Fr S1 S' H1 H'
  at_ : ∃ ws, H' A = some (.lst ws) ∧ RpAll K H' ws acc
  no : sget S' A = none
  len : acc.length ≤ sizeLine
theorem Mk.go {K : Kw} {S1 S' S2 : Sto} {H1 H' H2 : Hp} {A : Addr} {acc : List D} (m : Mk K S1 H1 A S' H' acc) (s : SOk K H2 S2) (f : Fr S' S2 H' H2) : Mk K S1 H1 A S2 H2 acc := by
  obtain ⟨ws, h, r⟩ := m.at_
  obtain ⟨a, b⟩ := f.keep A _ h m.no
  exact ⟨s, m.fr.trans f, ⟨ws, a, r.mono f.tk⟩, b, m.len⟩
theorem Mk.sub {K : Kw} {S1 S' S0 : Sto} {H1 H' : Hp} {A : Addr} {acc : List D} (m : Mk K S1 H1 A S' H' acc) (b : Sub S0 S') : Mk K S1 H1 A S0 H' acc := ⟨m.so.sub b, m.fr.sub b, m.at_, b.none m.no, m.len⟩
theorem Mk.snoc {K : Kw} {S1 S' : Sto} {H1 H' : Hp} {A : Addr} {acc : List D} {y : D} {u : V} (hA : H1 A = none) (m : Mk K S1 H1 A S' H' acc) (r : Rp K H' u y) (hz : acc.length < sizeLine) :
    ∃ ws, H' A = some (.lst ws) ∧ ws.length < sizeLine ∧ Mk K S1 H1 A S' (upd H' A (.lst (ws ++ [u]))) (acc ++ [y]) := by
  obtain ⟨ws, h, rr⟩ := m.at_
  have tk : Tk H' (upd H' A (.lst (ws ++ [u]))) := .set h
  refine ⟨ws, h, by rw [rr.length]; exact hz, fun b o e => ?_, ⟨fun a o e n => ?_, m.fr.tk.trans tk⟩, ⟨_, upd_same, (rr.append (.cons r .nil)).mono tk⟩, m.no, by rw [List.length_append, List.length_singleton]; exact hz⟩
  · have nb : b ≠ A := fun z => by subst z; have := m.no; rw [this] at e; cases e
    exact (m.so b o e).mono tk (upd_ne nb)
  · obtain ⟨e2, n2⟩ := m.fr.keep a o e n
    exact ⟨by rw [upd_ne (ne_of_none e hA)]; exact e2, n2⟩
theorem comp2_ok {K : Kw} {σ : L2.St} {H : Hp} {Q : VK} {gV gV1 : TG} (hG : GV K gV g vs) (hG1 : GV K gV1 g1 vs1) (h : lE K (eComp2 wi g c wi1 g1 c1 te vs vs1) σ H Q) :
    L2.tLc2 (lI K wi) gV (lT K c) (lI K wi1) gV1 (lT K c1) (lE K te) vs vs1 σ H Q := by
  obtain ⟨env, S, Q0, er, so, q, ps⟩ := h
  unfold eComp2 at q
  refine ⟨env, S, _, er, so, q, fun J S1 h1 J' H1 jr s1 f1 => ?_⟩
  obtain ⟨W, w0, turn, done⟩ := h1
  intro A hA
  have hA1 := s1.none hA
  have start : Mk K S1 H1 A S1 (upd H1 A (.lst [])) [] := ⟨s1.off hA, .off S1 hA, ⟨[], upd_same, .nil⟩, hA1, Nat.zero_le _⟩
  refine ⟨fun i m H' => ∃ S' acc, Mk K S1 H1 A S' H' acc ∧ W i acc S' ∧ m = J.xs.length - i ∧ i ≤ J.xs.length, ⟨J.xs.length, S1, [], start, w0, by omega, Nat.zero_le _⟩, ?_⟩
  rintro i m H2 ⟨S2, acc, mk2, w2, rfl, hi2⟩
  have er2 : ER K H2 σ env := er.mono (f1.trans mk2.fr).tk
  cases hd : J.xs[i]? with
  | none =>
    have hli : J.xs.length ≤ i := List.getElem?_eq_none_iff.mp hd
    have e : i = J.xs.length := Nat.le_antisymm hi2 hli
    rw [e] at w2
    obtain ⟨chk, q2⟩ := done acc S2 w2
    refine .inl ⟨jr.stop i H2 S2 mk2.so mk2.fr.tk chk hli, ?_⟩
    have fA : Fr S1 ((A, .lst acc) :: S2) H1 H2 := ⟨fun a o e n => by
      obtain ⟨e2, n2⟩ := mk2.fr.keep a o e n
      exact ⟨e2, by rw [sget_ne (ne_of_none e hA)]; exact n2⟩, mk2.fr.tk⟩
    obtain ⟨ws, hA2, ra⟩ := mk2.at_
    refine ps _ _ (q2 A mk2.no) _ _ (.ref A) (fun b o e => ?_) (f1.trans fA)
    by_cases hb : b = A
    · subst hb
      rw [sget_self] at e
      cases e
      exact ⟨ws, hA2, ra, mk2.len⟩
    · rw [sget_ne hb] at e
      exact mk2.so b o e
  | some x =>
    have hlt : i < J.xs.length := (List.getElem?_eq_some_iff.mp hd).1
    obtain ⟨chk, q2⟩ := turn i x acc S2 hd w2
    obtain ⟨go, yld⟩ := jr.go i H2 S2 x mk2.so mk2.fr.tk chk hd
    refine .inr ⟨go, fun H' => ∃ S' acc', Mk K S1 H1 A S' H' acc' ∧ W (i + 1) acc' S', fun H' ⟨S', acc', a, w'⟩ => ⟨J.xs.length - (i + 1), by omega, S', acc', a, w', rfl, hlt⟩, fun v H3 y3 => ?_⟩
    obtain ⟨rv, s3, f3⟩ := yld v H3 y3
    refine hG.run v x _ (DL.wipe env vs) S2 H3 _ _ rv ((er2.mono f3.tk).wipe vs) s3 q2 fun σ4 env4 w4 er4 q4 => ⟨w4.trans wipe_wipe, env4, S2, _, er4, s3, q4, fun b S5 h5 H5 s5 f5 => ?_⟩
    have mk5 := mk2.go s5 (f3.trans f5)
    cases b with
    | false =>
      obtain ⟨S0, sb, h5⟩ := (show UpS (W (i + 1) acc) S5 from h5).ex
      exact ⟨S0, acc, mk5.sub sb, h5⟩
    | true =>
      refine ⟨env4, S5, _, er4.mono f5.tk, s5, h5, fun J1 S6 h6 J1' H6 jr1 s6 f6 => ?_⟩
      obtain ⟨W1, w10, turn1, done1⟩ := h6
      have mk6 := mk5.go s6 f6
      refine ⟨fun j m H' => ∃ S' acc', Mk K S1 H1 A S' H' acc' ∧ Tk H6 H' ∧ W1 j acc' S' ∧ m = J1.xs.length - j ∧ j ≤ J1.xs.length, ⟨J1.xs.length, S6, acc, mk6, .refl _, w10, by omega, Nat.zero_le _⟩, ?_⟩
      rintro j m H7 ⟨S7, acc7, mk7, tk7, w7, rfl, hj7⟩
      cases hd1 : J1.xs[j]? with
      | none =>
        have hlj : J1.xs.length ≤ j := List.getElem?_eq_none_iff.mp hd1
        have e : j = J1.xs.length := Nat.le_antisymm hj7 hlj
        rw [e] at w7
        obtain ⟨chk1, q7⟩ := done1 acc7 S7 w7
        obtain ⟨S0, sb, h7⟩ := q7.ex
        exact .inl ⟨jr1.stop j H7 S7 mk7.so tk7 chk1 hlj, S0, acc7, mk7.sub sb, h7⟩
      | some y =>
        have hltj : j < J1.xs.length := (List.getElem?_eq_some_iff.mp hd1).1
        obtain ⟨chk1, q7⟩ := turn1 j y acc7 S7 hd1 w7
        obtain ⟨go1, yld1⟩ := jr1.go j H7 S7 y mk7.so tk7 chk1 hd1
        refine .inr ⟨go1, fun H' => ∃ S' acc', Mk K S1 H1 A S' H' acc' ∧ Tk H6 H' ∧ W1 (j + 1) acc' S', fun H' ⟨S', acc', a, t, w'⟩ => ⟨J1.xs.length - (j + 1), by omega, S', acc', a, t, w', rfl, hltj⟩, fun v1 H8 y8 => ?_⟩
        obtain ⟨rv1, s8, f8⟩ := yld1 v1 H8 y8
        have er8 : ER K H8 σ4 env4 := er4.mono (((f5.trans f6).tk.trans tk7).trans f8.tk)
        refine hG1.run v1 y _ (DL.wipe env4 vs1) S7 H8 _ _ rv1 (er8.wipe vs1) s8 q7 fun σ9 env9 w9 er9 q9 => ⟨w9.trans wipe_wipe, env9, S7, _, er9, s8, q9, fun b S10 h10 H10 s10 f10 => ?_⟩
        have mk10 := mk7.go s10 (f8.trans f10)
        have tk10 := tk7.trans (f8.trans f10).tk
        cases b with
        | false =>
          obtain ⟨S0, sb, h10⟩ := (show UpS (W1 (j + 1) acc7) S10 from h10).ex
          exact ⟨S0, acc7, mk10.sub sb, tk10, h10⟩
        | true =>
          refine ⟨env9, S10, _, er9.mono f10.tk, s10, h10, fun z S11 h11 u H11 ru s11 f11 => ?_⟩
          obtain ⟨hz, h11⟩ := h11
          obtain ⟨S12, sb, h12⟩ := h11.ex
          have mk11 := (mk10.go s11 f11).sub sb
          obtain ⟨ws, hw, hl, mk12⟩ := mk11.snoc hA ru hz
          exact ⟨ws, hw, hl, S12, _, mk12, (tk10.trans f11.tk).trans (.set hw), h12⟩
theorem q_comp2 {k : Nat} {gV gV1 : TG} (C : Cok X k) (hi : QI X tg iter wi) (ok : BlkOk X.N X.env.scope scope own) (hv : ∀ i ∈ vs1, i ∈ own.map (·.2)) (hG : GV X.kw gV g (own.map (·.2))) (hG1 : GV X.kw gV1 g1 vs1)
    (hg : ∀ (s : Shared) (H : Hp) (C : Addr) (cl : List (Str × Addr)) (fp : List Addr), PG (X.blk s H scope (compEnvC scope cl C X.env) fp) tg gV)
    (ht : ∀ (s : Shared) (H : Hp) (C : Addr) (cl : List (Str × Addr)) (fp : List Addr), QTs (X.blk s H scope (compEnvC scope cl C X.env) fp) ifs c)
    (hi1 : ∀ (s : Shared) (H : Hp) (C : Addr) (cl : List (Str × Addr)) (fp : List Addr), QI (X.blk s H scope (compEnvC scope cl C X.env) fp) tg1 iter1 wi1)
    (hg1 : ∀ (s : Shared) (H : Hp) (C : Addr) (cl : List (Str × Addr)) (fp : List Addr), PG (X.blk s H scope (compEnvC scope cl C X.env) fp) tg1 gV1)
    (ht1 : ∀ (s : Shared) (H : Hp) (C : Addr) (cl : List (Str × Addr)) (fp : List Addr), QTs (X.blk s H scope (compEnvC scope cl C X.env) fp) ifs1 c1)
    (he : ∀ (s : Shared) (H : Hp) (C : Addr) (cl : List (Str × Addr)) (fp : List Addr), QE (X.blk s H scope (compEnvC scope cl C X.env) fp) elt te)
    (hs : ∀ x, foldedSetIterable iter X.env x = pure x := by intro _; rfl) (hs1 : ∀ env x, foldedSetIterable iter1 env x = pure x := by intro _ _; rfl) :
    QE X (.ListComp elt [⟨tg, iter, ifs, 0⟩, ⟨tg1, iter1, ifs1, 0⟩] scope pos) (eComp2 wi g c wi1 g1 c1 te (own.map (·.2)) vs1) := (pe_lc2 C.calm C.nd hi ok hv hg ht hi1 hg1 ht1 he hs hs1).imp' fun σ H Q h => comp2_ok hG hG1 h
theorem q_setComp2 {k : Nat} {gV gV1 : TG} {i : Nat} {y : Str} {py spos : Pos} (C : Cok X k) (hy : X.N[i]? = some y) (hyl : X.env.scope.names.lookup y = some .local)
    (hsw : swapsWith (.ListComp elt [⟨tg, iter, ifs, 0⟩, ⟨tg1, iter1, ifs1, 0⟩] scope pos) (some (.Name y py)) spos.line X.env = pure true)
    (hi : QI X tg iter wi) (ok : BlkOk X.N X.env.scope scope own) (hv : ∀ i ∈ vs1, i ∈ own.map (·.2)) (hG : GV X.kw gV g (own.map (·.2))) (hG1 : GV X.kw gV1 g1 vs1)
    (hg : ∀ (s : Shared) (H : Hp) (C : Addr) (cl : List (Str × Addr)) (fp : List Addr), PG (X.blk s H scope (compEnvC scope cl C X.env) fp) tg gV)
    (ht : ∀ (s : Shared) (H : Hp) (C : Addr) (cl : List (Str × Addr)) (fp : List Addr), QTs (X.blk s H scope (compEnvC scope cl C X.env) fp) ifs c)
    (hi1 : ∀ (s : Shared) (H : Hp) (C : Addr) (cl : List (Str × Addr)) (fp : List Addr), QI (X.blk s H scope (compEnvC scope cl C X.env) fp) tg1 iter1 wi1)
    (hg1 : ∀ (s : Shared) (H : Hp) (C : Addr) (cl : List (Str × Addr)) (fp : List Addr), PG (X.blk s H scope (compEnvC scope cl C X.env) fp) tg1 gV1)
    (ht1 : ∀ (s : Shared) (H : Hp) (C : Addr) (cl : List (Str × Addr)) (fp : List Addr), QTs (X.blk s H scope (compEnvC scope cl C X.env) fp) ifs1 c1)
    (he : ∀ (s : Shared) (H : Hp) (C : Addr) (cl : List (Str × Addr)) (fp : List Addr), QE (X.blk s H scope (compEnvC scope cl C X.env) fp) elt te)
    (hs : ∀ x, foldedSetIterable iter X.env x = pure x := by intro _; rfl) (hs1 : ∀ env x, foldedSetIterable iter1 env x = pure x := by intro _ _; rfl) :
    QS X (.Assign [.Name y py] (.ListComp elt [⟨tg, iter, ifs, 0⟩, ⟨tg1, iter1, ifs1, 0⟩] scope pos) spos) (sAsg (eComp2 wi g c wi1 g1 c1 te (own.map (·.2)) vs1) (DL.gName i)) := (ps_setLc2 C.calm C.nd hy hyl hsw hi ok hv hg ht hi1 hg1 ht1 he hs hs1).imp' fun D σ H ⟨env, S, D0, er, so, q, ps⟩ =>
  comp2_ok hG hG1 ⟨env, S, _, er, so, q, fun d S1 h1 v H1 rv s1 f1 => ps.nx _ _ h1 _ _ ((er.mono f1.tk).set i rv) s1 f1⟩
end
/-! ### xs.pop(), xs.reverse(), xs.extend(ys) -/
def mPop (x : D) (ds : List D) (S : Sto) (Q : WQ) : Prop := match x, ds with
  | .ref a, [] => onL S a fun xs => onGet xs.getLast? fun d => Q d (sset S a (.lst xs.dropLast))
  | _, _ => False
def mReverse (x : D) (ds : List D) (S : Sto) (Q : WQ) : Prop := match x, ds with
  | .ref a, [] => onL S a fun xs => Q .non (sset S a (.lst xs.reverse))
  | _, _ => False
def mExtend (x : D) (ds : List D) (S : Sto) (Q : WQ) : Prop := match x, ds with
  | .ref a, [.ref b] => onL S a fun xs => onL S b fun ys => xs.length + ys.length ≤ sizeLine ∧ Q .non (sset S a (.lst (xs ++ ys)))
  | _, _ => False
section
variable {X : Cx} {e : Expr} {es : List Expr} {t : WA}
theorem RpAll.rev {K : Kw} {H : Hp} {vs : List V} {ds : List D} (r : RpAll K H vs ds) : RpAll K H vs.reverse ds.reverse := by
  induction r using RpAll.rec (motive_1 := fun _ _ _ => True) with
  | nil => exact .nil
  | cons h t _ ih =>
    rw [List.reverse_cons, List.reverse_cons]
    exact ih.append (.cons h .nil)
  | _ => trivial
theorem RpAll.dropLast {K : Kw} {H : Hp} {vs : List V} {ds : List D} (r : RpAll K H vs ds) : RpAll K H vs.dropLast ds.dropLast := by
  rw [List.dropLast_eq_take, List.dropLast_eq_take, r.length]
  exact r.take _
theorem q_methL0 {o : Expr} {to : WE} {name : Str} {id : String} {apos cpos : Pos} {r : V → List V → Hp → VK → Prop} {m : D → List D → Sto → WQ → Prop} (slot : Slot "list" name id) (hty : typeOf (.builtin id) = pure (.type "method_descriptor")) (hm : MtR X id r)
    (hr : ∀ a S Q0 H Q, m (.ref a) [] S Q0 → SOk X.kw H S → PostE X.kw S H Q0 Q → r (.ref a) [] H Q) (ho : QE X o to)
    (hbase : attributeBase o name X.env (eval o X.env) = eval o X.env := by rfl) (hline : (apos.endLine == cpos.line) = true := by rfl) :
    QE X (.Call (.Attribute o name apos) [] [] cpos) (eMethL m to aNil) := (pe_bm0 PySem.F.plainAttrs_list slot hty hm ho hbase hline).imp' fun σ H Q ⟨env, S, Q0, er, so, q, ps⟩ => by
  refine ⟨env, S, _, er, so, q, fun d S1 h1 v H1 rv s1 f1 => ?_⟩
  split at h1
  · cases rv
    · obtain ⟨xs, e1, h1⟩ := onL_iff.mp h1
      obtain ⟨vs, h2, r2, hz⟩ := s1.lst e1
      exact ⟨.inl ⟨rfl, _, SqL.of h2⟩, hr _ _ _ _ _ h1 s1 (ps.trans f1)⟩
  · exact h1.elim
theorem q_pop {o : Expr} {to : WE} {apos cpos : Pos} (ho : QE X o to) (hbase : attributeBase o "pop" X.env (eval o X.env) = eval o X.env := by rfl) (hline : (apos.endLine == cpos.line) = true := by rfl) :
    QE X (.Call (.Attribute o "pop" apos) [] [] cpos) (eMethL mPop to aNil) := q_methL0 PySem.F.slot_list_pop PySem.F.type_list_pop mt_pop (fun a S Q0 H Q h so ps => by
  obtain ⟨xs, e1, h⟩ := onL_iff.mp h
  obtain ⟨ws, h2, r3, hz⟩ := so.lst e1
  unfold onGet at h
  split at h
  · rename_i d hd
    rw [List.getLast?_eq_getElem?] at hd
    obtain ⟨v, hv, rv⟩ := r3.get hd
    refine ⟨_, ws, v, rfl, rfl, h2, by rw [r3.length]; exact hv, ?_⟩
    exact ps _ _ h _ _ (rv.mono (.set h2)) (so.set e1 h2 r3.dropLast (by rw [List.length_dropLast]; omega)) (.set e1 h2)
  · exact h.elim) ho hbase hline
theorem q_reverse {o : Expr} {to : WE} {apos cpos : Pos} (ho : QE X o to) (hbase : attributeBase o "reverse" X.env (eval o X.env) = eval o X.env := by rfl) (hline : (apos.endLine == cpos.line) = true := by rfl) :
    QE X (.Call (.Attribute o "reverse" apos) [] [] cpos) (eMethL mReverse to aNil) := q_methL0 PySem.F.slot_list_reverse PySem.F.type_list_reverse mt_reverse (fun a S Q0 H Q h so ps => by
  obtain ⟨xs, e1, h⟩ := onL_iff.mp h
  obtain ⟨ws, h2, r3, hz⟩ := so.lst e1
  exact ⟨_, ws, rfl, rfl, h2, ps _ _ h _ _ .non (so.set e1 h2 r3.rev (by rw [List.length_reverse]; exact hz)) (.set e1 h2)⟩) ho hbase hline
theorem q_extend {o : Expr} {to : WE} {apos cpos : Pos} (ho : QE X o to) (ha : QA X (e :: es) t)
    (hbase : attributeBase o "extend" X.env (eval o X.env) = eval o X.env := by rfl)
    (hfew : ((backTo cpos (starEach (e :: es) X.env)).all (fun x => !x.1) && (backToKw cpos (keywordEach [] X.env)).all (fun x => x.1.isSome)
      && decide ((e :: es).length + ([] : List Keyword).length + (if ([] : List Keyword).isEmpty then 0 else 1) < 30)) = true := by rfl)
    (hline : (apos.endLine == cpos.line) = true := by rfl) (hs : starEach (e :: es) X.env = (false, eval e X.env) :: starEach es X.env := by rfl) (hplain : (backTo cpos (starEach es X.env)).any (·.1) = false := by rfl) :
    QE X (.Call (.Attribute o "extend" apos) (e :: es) [] cpos) (eMethL mExtend to t) :=
  q_methL PySem.F.slot_list_extend PySem.F.type_list_extend mt_extend (fun a ds S Q0 vs H Q h rs so ps => by
    unfold mExtend at h
    split at h
    · rename_i a' b he
      cases he
      cases rs with
      | cons r1 r2 =>
        cases r1; cases r2
        obtain ⟨xs, e1, h⟩ := onL_iff.mp h
        obtain ⟨ys, e2, hz, h⟩ := onL_iff.mp h
        obtain ⟨ws, h1, r1, _⟩ := so.lst e1
        obtain ⟨us, h2, r2, _⟩ := so.lst e2
        exact ⟨_, _, ws, us, rfl, rfl, h1, h2, by rw [r1.length, r2.length]; exact hz, ps _ _ h _ _ .non (so.set e1 h1 (r1.append r2) (by rw [List.length_append]; exact hz)) (.set e1 h1)⟩
    · exact h.elim) ho ha hbase hfew hline hs hplain
end
/-! ### sorted(xs), xs a list or tuple of ints -/
def bSorted : WB := fun ds S Q => match ds with
  | [x] => onSeq S x fun xs => ∃ ns, xs = dInt ns ∧ ∀ ns' p, ns'.Perm ns → ns'.Pairwise (· ≤ ·) → sget S p = none → Q (.ref p) ((p, .lst (dInt ns')) :: S)
  | _ => False
def rSortedA (K : PySem.W.Frag) : List V → Hp → VK → Prop := fun vs H Q => ∃ (a : Addr) (ns : List Int), vs = [V.ref a] ∧ (SqL K H a (ns.map V.int) ∨ SqT K H a (ns.map V.int)) ∧
  ∀ (ns' : List Int) (p : Addr), ns'.Perm ns → ns'.Pairwise (· ≤ ·) → H p = none → Q (.ref p) (upd H p (.lst (ns'.map V.int)))
section
variable {X : Cx}
/-- sorted(it) of any sequence, by an order -/
theorem sorted_seq {A : Around} {s : Shared} {E : Value → Shared → Prop} {prog : Program} {w : World} {l : Addr} {T : String} {o : Obj} {vs : List Value} {n : Nat} {ltv : Value → Value → Bool} {Q : Value → Shared → Prop} (O : SrtO.Swo ltv) (hT : T = "list" ∨ T = "tuple")
    (ho : s.heap.get? l = some o) (hc : o.cls = .type T) (hd : o.data = .seq vs.toArray n) (hz : vs.length ≤ sizeLine)
    (hS : 2 ≤ vs.length → ∀ (h₁ : Heap) (a : Addr), (∀ b o, s.heap.get? b = some o → b ≠ a ∧ h₁.get? b = some o) → SrtO.SortableO prog w A.in1.in1 { s with heap := h₁ } a vs ltv)
    (h : ∀ (out : List Value) (h1 h' : Heap), SrtO.Srtd ltv out → SrtO.Stb ltv out vs → (∀ b o, s.heap.get? b = some o → h1.get? b = some o) → (∀ b o, h1.get? b = some o → h'.get? b = some o) → (∃ e, h'.get? h1.objs.size = some (seqObj "list" out.toArray e)) → Q (.ref h1.objs.size) { s with heap := h' }) :
    wpAny (model prog w) A (call (.builtin "sorted") [.ref l]) Q E s := by
  refine Calls.call_function_entry kind_sorted plain_sorted entry_sorted (args_sorted1 (.ref l)) ?_
  unfold Builtin.«sorted»
  refine wpAny_bind (m := checkCount "sorted" 1 1 _) (wpAny_pure (wpAny_bind ?_))
  refine wpAny_collect_seq (n := n) l hT ho hc hd (fun h1 k1 => ?_) (by rw [List.size_toArray]; exact hz)
  refine wpAny_bind (wpAny_newList ?_ hz)
  have at1 : (h1.push (seqObj "list" vs.toArray 0)).get? h1.objs.size = some (seqObj "list" vs.toArray 0) := Heap.get?_push_size _ rfl
  have k2 : ∀ b o, s.heap.get? b = some o → b < h1.objs.size ∧ (h1.push (seqObj "list" vs.toArray 0)).get? b = some o := fun b o e => ⟨Heap.lt_size (k1 b o e), Heap.get?_push_of_some _ (k1 b o e)⟩
  show wpAny _ _ _ _ _ { s with heap := h1.push (seqObj "list" vs.toArray 0) }
  refine wpAny_bind (wpAny_holding ?_)
  refine wpAny_call_entry PyProof.Rows.slot_list_sort ⟨_, at1, rfl⟩ entry_list_sort ?_ (args_list_sort _)
  refine SrtO.list_sort_ord O at1 hz (fun h2 => hS h2 _ h1.objs.size fun b o e => ⟨Nat.ne_of_lt (k2 b o e).1, (k2 b o e).2⟩) fun out a1 a2 => ⟨_, rfl, wpAny_pure ⟨_, rfl, ?_⟩⟩
  refine h out h1 _ a1 a2 k1 (fun b o e => ?_) (sortedHeap_at (n := 0) at1)
  have lt := Heap.lt_size e
  have e2 := Heap.get?_push_of_some (seqObj "list" vs.toArray 0) e
  rw [sortedHeap_old (Nat.ne_of_lt lt) (Heap.lt_size e2)]
  exact e2
theorem cr_sortedA : CallR X (.builtin "sorted") (rSortedA X.K) := by
  intro pins s σ H vs us Q I r h
  obtain ⟨a, ns, rfl, hs, q⟩ := h
  rw [Vals.ref1 r]
  have key : ∃ (T : String) (o : Obj) (its : List Value) (n : Nat), (T = "list" ∨ T = "tuple") ∧ s.heap.get? a = some o ∧ o.cls = .type T ∧ o.data = .seq its.toArray n ∧ its.length ≤ sizeLine ∧ Vals (ns.map V.int) its := by
    rcases hs with hs | hs
    · obtain ⟨its, rv, ⟨o, n, ho, hc, _, hd⟩, hz⟩ := I.list hs
      exact ⟨"list", o, its, n, .inl rfl, ho, hc, hd, by rw [← rv.length]; exact hz, rv⟩
    · obtain ⟨its, rv, ⟨o, ho, hc, n, hd⟩, hz⟩ := I.tuple hs
      exact ⟨"tuple", o, its, n, .inr rfl, ho, hc, hd, by rw [← rv.length]; exact hz, rv⟩
  obtain ⟨T, o, its, n, hT, ho, hc, hd, hz, rv⟩ := key
  have hi := rv.ints
  refine sorted_seq SrtO.swo_int hT ho hc hd hz (fun h2 h1 a' _ => SrtO.ints_sortable hi h2) fun out h1 h' b1 b2 k1 k2 ⟨e, he⟩ => ?_
  obtain ⟨c1, c2, c3⟩ := SrtO.ints_out hi b1 b2
  have I1 : Inv X pins σ H { s with heap := h1 } := I.kept (t' := s.toks) k1
  have hlen : ((out.map SrtO.iv).map V.int).length ≤ sizeLine := by
    rw [List.length_map, c2.length_eq]
    have := rv.length
    rw [List.length_map] at this
    omega
  exact ⟨.ref _, _, I1.laid (a := h1.objs.size) (o := .lst ((out.map SrtO.iv).map V.int)) (t' := s.toks) k2 (Nat.le_refl _) ⟨hlen, out, e, vals_of_ints c1, he⟩, rfl, q _ _ c2 c3 (I1.hok.fresh (Nat.le_refl _))⟩
theorem bf_sorted : Bfr X (rSortedA X.K) bSorted := fun ds S Q0 vs H Q h rs so ps => by
  unfold bSorted at h
  split at h
  · cases rs with
    | cons r1 r2 =>
      cases r2
      obtain ⟨xs, hx, ns, rfl, q⟩ := onSeq_iff.mp h
      obtain ⟨hz, a, ws, rfl, rr, h1⟩ := seqOf_sq r1 so hx
      rw [rr.ints] at h1
      refine ⟨_, ns, rfl, h1.imp (·.1) (·.1), fun ns' p pm pw hp => ?_⟩
      have hl : (dInt ns').length ≤ sizeLine := by
        rw [dInt, List.length_map, pm.length_eq]
        rw [dInt, List.length_map] at hz
        exact hz
      exact ps _ _ (q ns' p pm pw (so.none hp)) _ _ (.ref p) (so.new hp (RpAll.ofInts ns') hl) (.new S hp)
  · exact h.elim
end
end DL

/-! DY: dicts written out. -/
namespace DL
open PySem PySem.Spec PyProof.Rows L2
def dPairs : List (WE × WE) → EV → Sto → (List (D × D) → Sto → Prop) → Prop
  | [], _, S, Q => Q [] S
  | t :: r, env, S, Q => t.1 env S fun x S1 => t.2 env S1 fun y S2 => dPairs r env S2 fun ps S3 => Q ((x, y) :: ps) S3
def dispPut : List (D × D) → List (D × D) → List (D × D)
  | acc, [] => acc
  | acc, p :: r => dispPut (dicPut acc p.1 p.2) r
def dispOk : List (D × D) → List (D × D) → Bool
  | _, [] => true
  | acc, p :: r => keyOk acc p.1 && dispOk (dicPut acc p.1 p.2) r
/-- {k: v, ..} -/
def eDisp (ts : List (WE × WE)) : WE := fun env S Q => dPairs ts env S fun ps S1 => (dispOk [] ps = true ∧ ps.length ≤ 15) ∧ ∀ p o, sget S1 p = none → Q (.ref p) ((p, .dic o (dispPut [] ps)) :: S1)
section
variable {X : Cx} {k : Nat}
abbrev lTs (K : Kw) (ts : List (WE × WE)) : List (TE × TE) := ts.map fun t => (lE K t.1, lE K t.2)
abbrev RpP (K : Kw) (H : Hp) : List (V × V) → List (D × D) → Prop := Paired fun v d => Rp K H v.1 d.1 ∧ Rp K H v.2 d.2
theorem pairs_ok {K : Kw} {σ : L2.St} {env : EV} : ∀ (ts : List (WE × WE)) (S : Sto) (H : Hp) (Q0 : List (D × D) → Sto → Prop) (Q : List (V × V) → Hp → Prop), dPairs ts env S Q0 → ER K H σ env → SOk K H S →
    (∀ ps S', Q0 ps S' → ∀ vs H', RpP K H' vs ps → SOk K H' S' → Fr S S' H H' → Q vs H') → L2.tPairs (lTs K ts) σ H Q
  | [], S, H, Q0, Q, h, er, so, fin => fin _ _ h _ _ .nil so (.refl S H)
  | t :: r, S, H, Q0, Q, h, er, so, fin => by
    refine ⟨env, S, _, er, so, h, fun x S1 h1 v H1 rv s1 f1 => ?_⟩
    refine ⟨env, S1, _, er.mono f1.tk, s1, h1, fun y S2 h2 u H2 ru s2 f2 => ?_⟩
    refine pairs_ok r S2 H2 _ _ h2 (er.mono (f1.trans f2).tk) s2 fun ps S3 h3 vs H3 rr s3 f3 => ?_
    exact fin _ _ h3 _ _ (.cons ⟨rv.mono (f2.trans f3).tk, ru.mono f3.tk⟩ rr) s3 ((f1.trans f2).trans f3)
theorem qpp_nil {pos : Pos} : PPs X pos [] [] (lTs X.kw []) := pps_nil
theorem qpp_cons {pos : Pos} {a b : Expr} {ks : List (Option Expr)} {vs : List Expr} {ta tb : WE} {ts : List (WE × WE)} (ha : QE X a ta) (hb : QE X b tb) (h : PPs X pos ks vs (lTs X.kw ts)) : PPs X pos (some a :: ks) (b :: vs) (lTs X.kw ((ta, tb) :: ts)) := pps_cons ha hb h
theorem store_all (C : Cok X k) {pins : List (Addr × Obj)} {σ : L2.St} {E : Value → Shared → Prop} {p : Addr} : ∀ (us : List (Value × Value)) (vs : List (V × V)) (ps acc : List (D × D)) (o : Obj) (H : Hp) (s : Shared) (Q : PUnit → Shared → Prop), Inv X pins σ H s → DicAt X.kw H p o acc →
    L2.VV vs us → RpP X.kw H vs ps → dispOk acc ps = true → acc.length + ps.length ≤ sizeLine →
    (∀ s' H' o', Inv X pins σ H' s' → DicAt X.kw H' p o' (dispPut acc ps) → Tk H H' → (∀ a, a ≠ p → H' a = H a) → Q PUnit.unit s') →
    wpAny (model X.prog X.w) X.A (forIn us PUnit.unit fun (x : Value × Value) (_ : PUnit) => (dictSet p x.1 x.2 >>= fun _ => pure (ForInStep.yield PUnit.unit) : Sem (ForInStep PUnit))) Q E s
  | [], _, ps, acc, o, H, s, Q, I, h, rv, rd, ok, hz, fin => by
    cases rv
    cases rd
    rw [List.forIn_nil]
    exact wpAny_pure (fin s H o I h (.refl H) fun _ _ => rfl)
  | u :: us, _, ps, acc, o, H, s, Q, I, h, rv, rd, ok, hz, fin => by
    cases rv with
    | cons r1 rv =>
    cases rd with
    | cons d1 rd =>
    rename_i v vs p0 ps
    unfold dispOk at ok
    rw [Bool.and_eq_true] at ok
    rw [List.length_cons] at hz
    rw [List.forIn_cons]
    have hl := dicPut_len acc p0.1 p0.2
    refine wpAny_bind (wpAny_bind (d_dset C I h ok.1 (by omega) d1.1 r1.1 d1.2 r1.2 (Nx := fun H' => ∃ o', DicAt X.kw H' p o' (dicPut acc p0.1 p0.2) ∧ Tk H H' ∧ ∀ a, a ≠ p → H' a = H a) (fun o' d' tk => ⟨o', d', tk, fun a ha => upd_ne ha⟩) fun s1 H1 I1 ⟨o1, h1, tk1, e1⟩ => ?_))
    refine wpAny_pure ?_
    refine store_all C us vs ps _ o1 H1 s1 Q I1 h1 rv (Paired.mapP rd fun _ _ z => ⟨z.1.mono tk1, z.2.mono tk1⟩) ok.2 (by omega) fun s' H' o' I' h' tk' e' => ?_
    exact fin s' H' o' I' h' (tk1.trans tk') fun a ha => (e' a ha).trans (e1 a ha)
theorem q_disp (C : Cok X k) {pos : Pos} {keys : List (Option Expr)} {values : List Expr} {ts : List (WE × WE)} (h : PPs X pos keys values (lTs X.kw ts)) (hall : keys.all (·.isSome) = true := by rfl) (hl : keys.length = values.length := by rfl) (h0 : keys ≠ [] := by intro z; cases z)
    (h15 : keys.length ≤ 15 := by decide) : QE X (.Dict keys values pos) (eDisp ts) := by
  refine ⟨fun pins s σ H Q I ⟨env, S, Q0, er, so, q, ps⟩ => ?_⟩
  have hn := pairTrees_length keys values X.env pos hall hl
  have hne : pairTrees keys values X.env pos ≠ [] := fun z => by
    rw [z] at hn
    exact h0 (List.length_eq_zero_iff.mp hn.symm)
  rw [arm_eval_Dict, zip_pairTrees keys values X.env pos hall hl, dictDisplay_pairs _ hne (by omega)]
  refine wpAny_bind (wpAny_standAt (wpAny_bind ?_))
  unfold subDict
  refine wpAny_bind (wpAny_alloc (wpAny_bind (wpAny_holding ?_)))
  rw [if_pos (by omega)]
  obtain ⟨o0, ho0, dn⟩ := dic_new s H I
  have D0 : H s.heap.objs.size = none := I.hok.fresh (Nat.le_refl _)
  have I1 : Inv X pins σ (upd H s.heap.objs.size (DicO s.heap.objs.size o0)) { s with heap := s.heap.push { cls := .type "dict", data := .dict #[] } } := by
    rw [ho0]
    exact I.laid (t' := s.toks) (fun b o e => Heap.get?_push_of_some _ e) (Nat.le_refl _) (dicO_ok (Heap.get?_push_size _ rfl))
  generalize hp : s.heap.objs.size = p at *
  refine wpAny_bind (thn (h.run pins _ σ _ _ I1 (pairs_ok ts S _ _ (fun vs H' => ∃ o acc, acc = [] ∧ DicAt X.kw H' p o acc ∧ ∃ ps S1, RpP X.kw H' vs ps ∧ SOk X.kw H' S1 ∧ sget S1 p = none ∧ Fr S S1 H H' ∧ dispOk [] ps = true ∧ ps.length ≤ 15 ∧ ∀ p o, sget S1 p = none → Q0 (.ref p) ((p, .dic o (dispPut [] ps)) :: S1)) q (er.mono (.new D0)) (so.off D0) fun ps S1 h1 vs H1 rr s1 f1 => ?_)) fun us s2 ⟨vs, H2, I2, rel, o2, acc, ea, dd, ps2, S2, rr, s2', np, f2, ok, hl2, q2⟩ => ?_)
  · obtain ⟨e1, n1⟩ := f1.keep p _ upd_same (so.none D0)
    have dd : DicAt X.kw H1 p o0 [] := ⟨e1, dn.2.1, dn.2.2.1, dn.2.2.2.mono f1.tk⟩
    exact ⟨o0, [], rfl, dd, ps, S1, rr, s1, n1, (Fr.off S D0).trans f1, h1.1.1, h1.1.2, h1.2⟩
  · subst ea
    refine wpAny_holding (wpAny_bind ?_)
    have big : 15 ≤ sizeLine := by decide
    refine store_all C us vs ps2 [] o2 H2 s2 _ I2 dd rel rr ok (by rw [List.length_nil]; omega) fun s3 H3 o3 I3 d3 tk3 e3 => ?_
    refine wpAny_pure (wpAny_pure (wpAny_pure ⟨.ref p, H3, I3, rfl, ?_⟩))
    refine ps _ _ (q2 p o3 np) _ _ (.ref p) (fun b u e => ?_) ⟨fun a u e n => ?_, f2.tk.trans tk3⟩
    · by_cases hb : b = p
      · subst hb
        rw [sget_self] at e
        cases e
        exact d3
      · rw [sget_ne hb] at e
        exact (s2' b u e).mono tk3 (e3 b hb)
    · obtain ⟨a1, a2⟩ := f2.keep a u e n
      have na : a ≠ p := fun z => by subst z; rw [D0] at e; cases e
      exact ⟨(e3 a na).trans a1, by rw [sget_ne na]; exact a2⟩
end
end DL

/-! DZ: tuple(reversed(..)) of a list or a tuple. -/
namespace DL
open PySem PySem.Spec PyProof.Rows L2
section
variable {prog : Program} {w : World} {A : Around} {E : Value → Shared → Prop} {s : Shared} {it t : Addr} {items : Array Value}
theorem tup_at {h h' : Heap} (x : IsTup h t items) (k : ∀ o, h.get? t = some o → h'.get? t = some o) : IsTup h' t items := let ⟨o, a, b⟩ := x; ⟨o, k o a, b⟩
theorem rt_at {h h' : Heap} {i : Int} (x : RT.IsRt h it t i) (k : ∀ o, h.get? it = some o → h'.get? it = some o) : RT.IsRt h' it t i := let ⟨o, a, b⟩ := x; ⟨o, k o a, b⟩
/-- an iterator over a reversed tuple, step by step -/
theorem walks_rt (hh : A.handled = none) (I t : Addr) (ne : t ≠ I) (items : Array Value) (hz : items.size ≤ sizeLine) :
    Walks prog w A I [I, t] [I] items.size (fun i v => items[items.size - 1 - i]? = some v) (fun i h => i ≤ items.size ∧ RT.IsRt h I t ((items.size : Int) - 1 - (i : Int)) ∧ IsTup h t items) where
  sub := fun b hb => by rw [List.mem_singleton] at hb; rw [hb]; exact List.mem_cons_self
  frame := fun _ _ _ ⟨a, b, c⟩ k => ⟨a, rt_at b fun o e => k I List.mem_cons_self o e, tup_at c fun o e => k t (List.mem_cons_of_mem _ List.mem_cons_self) o e⟩
  item := fun i s Q E hi ⟨_, b, c⟩ q => by
    have e1 : (items.size : Int) - 1 - (i : Int) = ((items.size - 1 - i : Nat) : Int) := by omega
    rw [e1] at b
    have lt : items.size - 1 - i < items.size := by omega
    have hx : items[items.size - 1 - i]? = some items[items.size - 1 - i] := Array.getElem?_eq_getElem lt
    refine RT.next_rt_item b c hx hz fun h' b' sb => ?_
    have e3 : ((items.size - 1 - i : Nat) : Int) - 1 = (items.size : Int) - 1 - ((i + 1 : Nat) : Int) := by omega
    rw [e3] at b'
    refine q _ h' _ hx ⟨hi, b', tup_at c fun o e => (sb.2 t ne).trans e⟩ fun b o hb e => (sb.2 b fun z => hb (by rw [z]; exact List.mem_singleton_self _)).trans e
  done := fun s Q E ⟨_, b, _⟩ q => by
    have e1 : (items.size : Int) - 1 - (items.size : Int) = -1 := by omega
    rw [e1] at b
    exact RT.next_rt_end hh b fun h' eb => q h' s.toks fun b o hb e => eb b o (fun z => hb (by rw [z]; exact List.mem_singleton_self _)) e
  self := fun _ _ _ _ ⟨_, b, _⟩ q => RT.iter_rt b q
theorem nolen_rt : typeLookup (.type "reversed") "__len__" = pure none := by rw [typeLookup_type, builtinLookup_eq_fast]; kernel_rfl
theorem hint_rt : typeLookup (.type "reversed") "__length_hint__" = pure (some (.builtin "reversed.__length_hint__")) := by rw [typeLookup_type, builtinLookup_eq_fast]; kernel_rfl
theorem slot_rt_hint : Slot "reversed" "__length_hint__" "reversed.__length_hint__" :=
  .of (owner := "reversed") (n := "__length_hint__") (by rw [typeLookup_type, builtinLookup_eq_fast]; kernel_rfl) (by decide +kernel) (by decide +kernel) (by decide +kernel)
    (by first | (refine .inl ?_; decide +kernel) | (refine .inr ?_; decide +kernel)) (by rw [isSubtype_type]; kernel_rfl)
theorem entry_rt_hint : entryFor table "reversed.__length_hint__" = some Builtin.«reversed.__length_hint__» := entryFor_of_tree (by kernel_rfl)
theorem args_rt_hint (a : Value) : argsOk "reversed.__length_hint__" ⟨[a], []⟩ := by
  unfold argsOk
  rw [signature?_of (id := "reversed.__length_hint__") (n := ['_', '_', 't', 'n', 'i', 'h', '_', 'h', 't', 'g', 'n', 'e', 'l', '_', '_']) (o := ['d', 'e', 's', 'r', 'e', 'v', 'e', 'r']) (by kernel_rfl) RT.owner_rt]
  kernel_rfl
theorem hint_call {Q : Value → Shared → Prop} (hit : RT.IsRt s.heap it t ((items.size : Int) - 1)) (ht : IsTup s.heap t items) (hn : items.size ≤ sizeLine) (q : ∀ tk tk', Q (.int (items.size : Nat) tk) { s with toks := tk' }) : wpAny (model prog w) A (call (.builtin "reversed.__length_hint__") [.ref it]) Q E s := by
  obtain ⟨o, ho, hc, hd⟩ := id hit
  refine wpAny_call_entry slot_rt_hint ⟨o, ho, hc⟩ entry_rt_hint ?_ (args_rt_hint _)
  unfold Builtin.«reversed.__length_hint__»
  refine wpAny_bind (wpAny_of_eq (a := Value.ref it) rfl ?_)
  refine wpAny_bind (wpAny_field ho hd (x := .ref t) rfl ?_)
  rw [show (Value.ref t == Value.none) = false from rfl]
  simp only [Bool.false_eq_true, if_false]
  have hn2 : (items.size : Int) < 2 ^ 63 := by rw [sizeLine_eq] at hn; omega
  refine wpAny_bind (len_tuple ht hn2 ?_)
  refine wpAny_bind (wpAny_of_eq (a := some (items.size : Int)) rfl ?_)
  dsimp only
  refine wpAny_bind (wpAny_field (s := { s with toks := s.toks + 1 + 1 }) ho hd (x := rawInt ((items.size : Int) - 1)) rfl ?_)
  show wpAny _ _ (if (items.size : Int) < (items.size : Int) - 1 + 1 then _ else retInt ((items.size : Int) - 1 + 1)) _ _ _
  rw [if_neg (by omega)]
  refine wpAny_bind (wpAny_mkInt ?_)
  rw [show (items.size : Int) - 1 + 1 = (items.size : Int) by omega]
  exact wpAny_pure ⟨_, rfl, q _ _⟩
/-- the loop that fills the new list at S -/
theorem fill_rt {S : Addr} {c : Nat} {h0 : Heap} {Q : List Value → Shared → Prop} (hh : A.handled = none) (hit : RT.IsRt s.heap it t ((items.size : Int) - 1)) (ht : IsTup s.heap t items) (ne : t ≠ it) (n1 : S ≠ it) (n2 : S ≠ t) (hn : items.size ≤ sizeLine)
    (atS : s.heap.get? S = some { cls := .type "list", data := .seq #[] c }) (old : ∀ b o, h0.get? b = some o → b ≠ S ∧ s.heap.get? b = some o)
    (hQ : ∀ (h' : Heap) (tk : Nat) (acc : Array Value), (∀ b o, b ≠ it → h0.get? b = some o → h'.get? b = some o) → ItemsOf (fun i v => items[items.size - 1 - i]? = some v) acc items.size → Q acc.toList { s with heap := h', toks := tk }) :
    codeAny (model prog w) A (.builtin "list.extend.loop" ⟨[.ref S, .ref it, .ref S], []⟩) (fun r s' => match r with
      | .ok (.ret u) => u = .ref S ∧ ∃ acc : Array Value, (∃ c', s'.heap.get? S = some { cls := .type "list", dict := none, data := .seq acc c', slots := #[] }) ∧ Q acc.toList s'
      | _ => False) s := by
  have W := (walks_rt (prog := prog) (w := w) (A := A.in1) hh it t ne items hn).toS
  have out : S ∉ [it, t] := by
    intro z
    rcases List.mem_cons.mp z with z | z
    · exact n1 z
    · exact n2 (List.mem_singleton.mp z)
  have e0 : ((items.size : Nat) : Int) - 1 - ((0 : Nat) : Int) = (items.size : Int) - 1 := by omega
  refine codeAny_extend_loopS W hn _ out _ items.size 0 _ _ _ rfl (Nat.zero_le _) ⟨Nat.zero_le _, by rw [e0]; exact hit, ht⟩ atS (ItemsOf.nil _) fun s' acc c' hm hS' ha => ⟨rfl, acc, ⟨c', hS'⟩, ?_⟩
  rw [Moved.eq_with hm]
  refine hQ s'.heap s'.toks acc (fun b o hb e => hm.heap b o (fun z => ?_) (old b o e).2) ha
  rcases List.mem_cons.mp z with z | z
  · exact (old b o e).1 z
  · exact hb (List.mem_singleton.mp z)
theorem collect_rt {Q : List Value → Shared → Prop} (hh : A.handled = none) (hit : RT.IsRt s.heap it t ((items.size : Int) - 1)) (ht : IsTup s.heap t items) (ne : t ≠ it) (hn : items.size ≤ sizeLine)
    (hQ : ∀ (h' : Heap) (tk : Nat) (acc : Array Value), (∀ b o, b ≠ it → s.heap.get? b = some o → h'.get? b = some o) → ItemsOf (fun i v => items[items.size - 1 - i]? = some v) acc items.size → Q acc.toList { s with heap := h', toks := tk }) :
    wpAny (model prog w) A (collect (.ref it)) Q E s := by
  have W := (walks_rt (prog := prog) (w := w) (A := A.in1) hh it t ne items hn).toS
  obtain ⟨oi, hoi, _⟩ := id hit
  obtain ⟨ot, hot, _⟩ := id ht
  have n1 : s.heap.objs.size ≠ it := Nat.ne_of_gt (Heap.lt_size hoi)
  have n2 : s.heap.objs.size ≠ t := Nat.ne_of_gt (Heap.lt_size hot)
  have out : s.heap.objs.size ∉ [it, t] := by
    intro z
    rcases List.mem_cons.mp z with z | z
    · exact n1 z
    · exact n2 (List.mem_singleton.mp z)
  unfold collect
  refine wpAny_bind (wpAny_runValue (codeAny_builtin PySem.F.entry_proto_collect ?_))
  rw [Around.under_plainId PySem.F.plain_proto_collect _]
  show wpAny _ A.in1 (newList [] >>= fun x => again (.builtin "list.__iadd__" ⟨[x, .ref it], []⟩)) _ _ s
  refine wpAny_bind (wpAny_newObj_type (wpAny_pure ⟨plainId_quiet PySem.F.plain_list_iadd _, codeAny_builtin PySem.F.entry_list_iadd ?_⟩))
  rw [Around.under_plainId PySem.F.plain_list_iadd _]
  have atS : (s.heap.push { cls := .type "list", data := .seq ([] : List Value).toArray }).get? s.heap.objs.size = some { cls := .type "list", data := .seq ([] : List Value).toArray } := Heap.get?_push_size _ rfl
  have old : ∀ b o, s.heap.get? b = some o → (s.heap.push { cls := .type "list", data := .seq ([] : List Value).toArray }).get? b = some o := fun b o e => Heap.get?_push_of_some _ e
  have hit1 := rt_at hit (old it)
  have ht1 := tup_at ht (old t)
  have hT : ({ s with heap := s.heap.push { cls := .type "list", data := .seq ([] : List Value).toArray } } : Shared).TypeIs (.ref it) "reversed" := RT.IsRt.typeIs (s := { s with heap := s.heap.push { cls := .type "list", data := .seq ([] : List Value).toArray } }) hit1
  have other : Builtin.List.listSameRef (.ref s.heap.objs.size) (.ref it) = false := by simp [Builtin.List.listSameRef, n1]
  show wpAny _ A.in1 (Builtin.List.listExtendWith (.ref s.heap.objs.size) (.ref it) (.ref s.heap.objs.size)) _ _ _
  unfold Builtin.List.listExtendWith
  refine wpAny_bind (wpAny_typeOf hT ?_)
  rw [if_neg (by rw [other]; decide)]
  refine wpAny_bind (RT.iter_rt (s := { s with heap := s.heap.push { cls := .type "list", data := .seq ([] : List Value).toArray } }) hit1 (wpAny_bind (wpAny_holding ?_)))
  unfold Builtin.List.listLengthHint
  refine wpAny_bind (wpAny_specialOf hT nolen_rt ?_)
  show wpAny _ A.in1 (specialOf (Value.ref it) (Str.ofString "__length_hint__") >>= _) _ _ _
  refine wpAny_bind (wpAny_specialOf hT hint_rt ?_)
  generalize hid : ("reversed.__length_hint__" : String) = id0
  wp_delta
  rw [show splitId id0 = some ("reversed", "__length_hint__") from by subst hid; decide +kernel]
  subst hid
  refine wpAny_bind (wpAny_isInstance (b := true) hT (by rw [isSubtype_type]; kernel_rfl) ?_)
  rw [if_neg (by decide)]
  dsimp only
  rw [if_neg (by decide)]
  refine wpAny_bind (wpAny_rule (wpAny_bind ?_))
  rw [slot_rt_hint.bind]
  refine wpAny_pure ?_
  dsimp only
  have hfit : Builtin.List.listFitsIndex (items.size : Int) = true := by
    rw [sizeLine_eq] at hn
    exact fitsIndex_both (by omega) (by omega)
  have hlong : Builtin.List.listTooLong (items.size : Int).toNat = false := by
    rw [Int.toNat_natCast]
    exact notLongL hn
  refine wpAny_bind (wpAny_attempt (hint_call (s := { s with heap := s.heap.push { cls := .type "list", data := .seq ([] : List Value).toArray } }) hit1 ht1 hn fun tk tk' => ?_))
  show wpAny _ _ (asInt? (Value.int (items.size : Nat) tk) >>= _) _ _ _
  have ea : asInt? (Value.int (items.size : Nat) tk) = pure (some (items.size : Int)) := rfl
  rw [ea, pure_bind]
  dsimp only
  have neg : ¬ (items.size : Int) < 0 := by omega
  simp only [hfit, hlong, neg, Bool.not_true, Bool.false_eq_true, if_false]
  refine wpAny_pure ?_
  generalize ((items.size : Int) != 0) = b
  have after : ∀ (h1 : Heap) (c tk : Nat), h1.get? s.heap.objs.size = some { cls := .type "list", data := .seq #[] c } → (∀ o b, s.heap.get? b = some o → b ≠ s.heap.objs.size ∧ h1.get? b = some o) → codeAny (model prog w) A (.builtin "list.extend.loop" ⟨[.ref s.heap.objs.size, .ref it, .ref s.heap.objs.size], []⟩) (fun r s' => match r with
      | .ok (.ret u) => u = .ref s.heap.objs.size ∧ ∃ acc : Array Value, (∃ c', s'.heap.get? s.heap.objs.size = some { cls := .type "list", dict := none, data := .seq acc c', slots := #[] }) ∧ Q acc.toList s'
      | _ => False) { s with heap := h1, toks := tk } := fun h1 c tk e k =>
    fill_rt (s := { s with heap := h1, toks := tk }) hh (rt_at hit fun o eo => (k o it eo).2) (tup_at ht fun o eo => (k o t eo).2) ne n1 n2 hn e (fun b o eo => k o b eo) fun h' tk' acc a1 a2 => hQ h' tk' acc a1 a2
  have fin : ∀ (h1 : Heap) (c tk : Nat), h1.get? s.heap.objs.size = some { cls := .type "list", data := .seq #[] c } → (∀ o b, s.heap.get? b = some o → b ≠ s.heap.objs.size ∧ h1.get? b = some o) → codeAny (model prog w) A (.builtin "list.extend.loop" ⟨[.ref s.heap.objs.size, .ref it, .ref s.heap.objs.size], []⟩) (fun r s' => match r with
      | .ok (.ret v) => wpAny (model prog w) A (match v with
          | .ref a => do
            let o ← load a
            match o.data with
              | .seq xs _ => pure xs.toList
              | _ => unsupported "internal:collect"
          | _ => unsupported "internal:collect") Q E s'
      | .ok _ => False
      | .error e => E e s') { s with heap := h1, toks := tk } := fun h1 c tk e k => codeAny_mono (after h1 c tk e k) fun r s' hr => by
    cases r with
    | error e => exact hr.elim
    | ok fl =>
      cases fl with
      | ret u =>
        obtain ⟨rfl, acc, ⟨c', h1⟩, q⟩ := hr
        show wpAny _ A (load s.heap.objs.size >>= _) _ _ s'
        exact wpAny_bind (wpAny_load h1 (wpAny_pure q))
      | next => exact hr
      | brk => exact hr
      | cont => exact hr
  have kept : ∀ o b, s.heap.get? b = some o → b ≠ s.heap.objs.size := fun o b e => Nat.ne_of_lt (Heap.lt_size e)
  cases b with
  | false =>
    rw [if_neg (by decide)]
    exact wpAny_pure ⟨plainId_quiet PySem.F.plain_extend_loop _, fin _ 0 tk' atS fun o b e => ⟨kept o b e, old b o e⟩⟩
  | true =>
    rw [if_pos (by rfl)]
    refine wpAny_bind (wpAny_rule (wpAny_bind ?_))
    unfold Builtin.List.listTouch
    refine wpAny_bind (listUpdate_at (s := { s with heap := s.heap.push { cls := .type "list", data := .seq ([] : List Value).toArray }, toks := tk' }) atS rfl ?_ (by show 0 ≤ sizeLine; exact Nat.zero_le _) (by show 1 ≤ sizeLine + 1; omega))
    have at2 := Heap.get?_update_self (Obj.mapSeq (fun x : Array Value => x.push .none)) atS rfl
    refine listUpdate_at (s := { s with heap := (s.heap.push { cls := .type "list", data := .seq ([] : List Value).toArray }).update s.heap.objs.size (Obj.mapSeq (fun x : Array Value => x.push .none)), toks := tk' }) at2 rfl ?_ (by show 1 ≤ sizeLine; decide) (by show 0 ≤ sizeLine + 1; exact Nat.zero_le _)
    have at3 := Heap.get?_update_self (Obj.mapSeq (fun x : Array Value => x.pop)) at2 rfl
    exact wpAny_pure ⟨plainId_quiet PySem.F.plain_extend_loop _, fin _ _ tk' at3 fun o b e => ⟨kept o b e, (Heap.get?_update_other _ _ (Ne.symm (kept o b e))).trans ((Heap.get?_update_other _ _ (Ne.symm (kept o b e))).trans (old b o e))⟩⟩
theorem call_tuple_rt {Q : Value → Shared → Prop} (hh : A.handled = none) (hit : RT.IsRt s.heap it t ((items.size : Int) - 1)) (ht : IsTup s.heap t items) (ne : t ≠ it) (hn : items.size ≤ sizeLine)
    (hQ : ∀ (h' : Heap) (tk : Nat) (acc : Array Value), (∀ b o, b ≠ it → s.heap.get? b = some o → h'.get? b = some o) → ItemsOf (fun i v => items[items.size - 1 - i]? = some v) acc items.size →
      Q (.ref h'.objs.size) { s with heap := h'.push { cls := .type "tuple", data := .seq acc }, toks := tk }) :
    wpAny (model prog w) A (call (.type "tuple") [.ref it]) Q E s := by
  have code : codeAny (model prog w) A.in1 (.call (.builtin "tuple.__new__") ⟨[.type "tuple", .ref it], []⟩) (wants (fun obj s₁ => s₁.TypeIs obj "tuple" ∧ Q obj s₁) E) s := by
    refine codeAny_of_tree ?_
    show wpAny _ A.in1.in1 (do checkBuiltinCall "tuple.__new__" ⟨[.type "tuple", .ref it], []⟩; again (.builtin "tuple.__new__" ⟨[.type "tuple", .ref it], []⟩)) _ _ s
    refine wpAny_bind (wpAny_of_eq (PySem.F.newCall_tuple_1 _) (wpAny_pure ⟨plainId_quiet PySem.F.plain_tuple_new _, codeAny_builtin PySem.F.entry_tuple_new ?_⟩))
    rw [Around.under_plainId PySem.F.plain_tuple_new _]
    have hsub := sub_tuple_self
    have hinit := init_tuple_lookup
    have hmh := madeHere_tuple
    have hTI : s.TypeIs (.ref it) "reversed" := hit.typeIs
    have hh1 : A.in1.in1.handled = none := hh
    wp_walk using wpAny_typeOf hTI, collect_rt (A := A.in1.in1) hh1 hit ht ne hn
    intro h' tk acc hk ha
    show wpAny _ _ (Builtin.Tuple.tupleExact acc.toList.toArray >>= fun v => ret v) _ _ _
    unfold Builtin.Tuple.tupleExact
    refine wpAny_bind (wpAny_newObj_type (wpAny_pure ?_) (by show acc.toList.toArray.size ≤ sizeLine; simp only [Array.toArray_toList]; rw [ha.1]; exact hn))
    rw [show acc.toList.toArray = acc by simp]
    exact ⟨⟨_, Heap.get?_push_size _ rfl, rfl⟩, hQ h' tk acc hk ha⟩
  refine callType_codes (Q₁ := fun obj s₁ => s₁.TypeIs obj "tuple" ∧ Q obj s₁) PySem.F.called_tuple (PySem.F.typeCall_tuple_1 _) PySem.F.entry_object_init code fun obj s₁ h₁ => ?_
  exact ⟨h₁.1, PySem.F.args_object_init_2 obj _, object_init_meets PySem.F.called_tuple.init.lookup PySem.F.called_tuple.made (by decide) prog w A.in1 _ s₁ ⟨h₁.1, rfl, h₁.2⟩⟩
end
/-! ### tuple(reversed(e)) -/
def eTupRevA (t : WE) : WE := fun env S Q => t env S fun x S1 => onSeq S1 x fun xs => Q (.tup xs.reverse) S1
def tTupRevA (K : PySem.W.Frag) (te : TE) : TE := fun σ H Q => te σ H fun v H1 => ∃ (a : Addr) (xs : List V), v = .ref a ∧ (SqL K H1 a xs ∨ SqT K H1 a xs) ∧ ∀ q, H1 q = none → Q (.ref q) (upd H1 q (.tup xs.reverse))
section
variable {X : Cx}
theorem pe_tupRevA {e : Expr} {te : TE} {p p2 pos pos2 : Pos} (hc : X.calm = true) (hg : Gl X "tuple") (hm : X.mg "tuple" = none) (hg2 : Gl X "reversed") (hm2 : X.mg "reversed" = none) (he : PE X e te)
    (hs : starEach [e] X.env = (false, eval e X.env) :: starEach [] X.env := by rfl)
    (hs2 : starEach [.Call (.Name "reversed" p2) [e] [] pos2] X.env = (false, eval (.Call (.Name "reversed" p2) [e] [] pos2) X.env) :: starEach [] X.env := by rfl) :
    PE X (.Call (.Name "tuple" p) [.Call (.Name "reversed" p2) [e] [] pos2] [] pos) (tTupRevA X.K te) := by
  refine ⟨fun pins s σ H Q I h => ?_⟩
  refine Call_ (ld_blt I hg hm boot_tuple (PyProof.Rows.callWith_type1 (args_cons (Call_ (ld_blt I hg2 hm2 PyProof.Rows.boot_reversed (PyProof.Rows.callWith_type1 (args_cons (thn (he.run pins s σ H _ I h) fun u s1 ⟨v, H1, I1, r1, a, xs, ev, hq, q⟩ => args_nil ?_) hs) hs rfl))) hs2) hs2 rfl))
  subst ev
  obtain rfl : u = Value.ref a := r1
  obtain ⟨f0, f1, f2, f3, f4, f5⟩ := I1.fpOk (H' := H1) (b := s1.heap.objs.size) (Nat.le_refl _) (I1.hok.fresh (Nat.le_refl _))
  rcases hq with hq | hq
  · obtain ⟨its, rv, pl, hz⟩ := I1.list hq
    refine call_reversed_list pl.isList (args_nil ?_)
    have I2 : Inv X pins σ H1 { s1 with heap := s1.heap.push (revObj a ((its.toArray.size : Int) - 1)) } := I1.kept (t' := s1.toks) fun b o e => Heap.get?_push_of_some _ e
    have hl := pl.isList
    obtain ⟨ol, hol, _⟩ := id hl
    refine RT.call_tuple_rev (s := { s1 with heap := s1.heap.push (revObj a ((its.toArray.size : Int) - 1)) }) (I1.ok.hd hc) ⟨_, Heap.get?_push_size _ rfl, rfl, rfl⟩ (hl.push _) (Nat.ne_of_lt (Heap.lt_size hol)) (by rw [List.size_toArray, ← rv.length]; exact hz) fun h' tk acc hk hi => ?_
    have I3 : Inv X pins σ H1 { s1 with heap := h', toks := tk } := I2.turned (t' := tk) (fun b o hb e => hk b o hb e) f0 f1 f3 f4 f5
    refine ⟨.ref h'.objs.size, _, I3.laid (a := h'.objs.size) (o := .tup xs.reverse) (t' := tk) (fun c o e => Heap.get?_push_of_some _ e) (Nat.le_refl _) ⟨by rw [List.length_reverse]; exact hz, acc.toList, RT.vals_rev rv hi, ?_⟩, rfl, q _ (I3.hok.fresh (Nat.le_refl _))⟩
    rw [Array.toArray_toList]
    exact IsTup.new _ _
  · obtain ⟨its, rv, pl, hz⟩ := I1.tuple hq
    have hz' : its.toArray.size ≤ sizeLine := by rw [List.size_toArray, ← rv.length]; exact hz
    refine RT.call_reversed_tup pl (fun A E Q k => len_tuple pl (by rw [sizeLine_eq] at hz'; omega) k) (args_nil ?_)
    have I2 : Inv X pins σ H1 { s1 with heap := s1.heap.push (RT.rtObj a ((its.toArray.size : Int) - 1)), toks := s1.toks + 1 + 1 } := I1.kept (t' := s1.toks + 1 + 1) fun b o e => Heap.get?_push_of_some _ e
    obtain ⟨ol, hol, _⟩ := id pl
    refine call_tuple_rt (s := { s1 with heap := s1.heap.push (RT.rtObj a ((its.toArray.size : Int) - 1)), toks := s1.toks + 1 + 1 }) (I1.ok.hd hc) ⟨_, Heap.get?_push_size _ rfl, rfl, rfl⟩ (tup_at pl fun o e => Heap.get?_push_of_some _ e) (Nat.ne_of_lt (Heap.lt_size hol)) hz' fun h' tk acc hk hi => ?_
    have I3 : Inv X pins σ H1 { s1 with heap := h', toks := tk } := I2.turned (t' := tk) (fun b o hb e => hk b o hb e) f0 f1 f3 f4 f5
    refine ⟨.ref h'.objs.size, _, I3.laid (a := h'.objs.size) (o := .tup xs.reverse) (t' := tk) (fun c o e => Heap.get?_push_of_some _ e) (Nat.le_refl _) ⟨by rw [List.length_reverse]; exact hz, acc.toList, RT.vals_rev rv hi, ?_⟩, rfl, q _ (I3.hok.fresh (Nat.le_refl _))⟩
    rw [Array.toArray_toList]
    exact IsTup.new _ _
theorem q_tupRevA {e : Expr} {te : WE} {p p2 pos pos2 : Pos} (hc : X.calm = true) (hg : Gl X "tuple") (hm : X.mg "tuple" = none) (hg2 : Gl X "reversed") (hm2 : X.mg "reversed" = none) (he : QE X e te)
    (hs : starEach [e] X.env = (false, eval e X.env) :: starEach [] X.env := by rfl)
    (hs2 : starEach [.Call (.Name "reversed" p2) [e] [] pos2] X.env = (false, eval (.Call (.Name "reversed" p2) [e] [] pos2) X.env) :: starEach [] X.env := by rfl) :
    QE X (.Call (.Name "tuple" p) [.Call (.Name "reversed" p2) [e] [] pos2] [] pos) (eTupRevA te) := (pe_tupRevA hc hg hm hg2 hm2 he hs hs2).imp' fun σ H Q ⟨env, S, Q0, er, so, q, ps⟩ => by
  refine ⟨env, S, _, er, so, q, fun d S1 h1 v H1 rv s1 f1 => ?_⟩
  obtain ⟨xs, hx, h1⟩ := onSeq_iff.mp h1
  obtain ⟨hz, a, ws, rfl, rr, h2⟩ := seqOf_sq rv s1 hx
  exact ⟨_, ws, rfl, h2.imp (·.1) (·.1), (ps.trans f1).tup s1 rr.rev (by rw [List.length_reverse]; exact hz) h1⟩
end
end DL

/-! EA: dict(zip(a, b)), each a list or a tuple. -/
namespace DL
open PySem PySem.Spec PyProof.Rows L2
section
variable {prog : Program} {w : World} {A : Around} {E : Value → Shared → Prop} {s : Shared} {z TI TO T i1 i2 : Addr} {f : Bool} {oT : Obj} {fp1 fp2 : List Addr} {n i : Nat} {P1 P2 : Nat → Value → Prop} {St1 St2 : Nat → Heap → Prop}
/-- a turn of zip while its last pair is held -/
theorem zheld_item {Q : Value → Shared → Prop} (S : ZipSep2 z TI TO i1 i2 fp1 fp2) (D1 : Draws prog w A i1 fp1 n P1 St1) (D2 : Draws prog w A i2 fp2 n P2 St2) (gz : IsZipHeld s.heap z TI TO T f) (gT : s.heap.get? T = some oT) (gI : IsTupOf2 s.heap TI (.ref i1) (.ref i2)) (a1 : St1 i s.heap) (a2 : St2 i s.heap) (li : i < n)
    (fin : ∀ x y h' tk, P1 i x → P2 i y → IsZipHeld h' z TI TO T true → St1 (i + 1) h' → St2 (i + 1) h' → IsTupOf2 h' s.heap.objs.size x y → (∀ c o, c ≠ z → c ≠ i1 → c ≠ i2 → s.heap.get? c = some o → h'.get? c = some o) → Q (.ref s.heap.objs.size) { s with heap := h', toks := tk }) :
    wpAny (model prog w) A (Builtin.«zip.__next__» ⟨[.ref z], []⟩) (fun r s' => ∃ v, r = .done (.ret v) ∧ Q v s') E s := by
  obtain ⟨hp, g, d, tk0, os⟩ := s
  show wpAny _ _ (field (.ref z) 2 >>= _) _ E _
  refine wpAny_bind (wpAny_field gz rfl (x := .bool false) rfl ?_)
  show wpAny _ _ (field (.ref z) 3 >>= _) _ E _
  refine wpAny_bind (wpAny_field gz rfl (x := .ref TI) rfl (wpAny_bind (wpAny_seqItems gI rfl ?_)))
  show wpAny _ _ (Builtin.SmallTypes.ownedTupleIsFree (.ref z) >>= _) _ E _
  refine wpAny_bind (wpAny_tupleHeld_zip gz gT fun m1 gz1 sb1 => ?_)
  replace sb1 : Heap.SameBut z hp m1 := sb1
  simp only [Bool.false_eq_true, if_false]
  refine wpAny_bind ?_
  rw [← Array.forIn_toList]
  simp only [List.forIn_nil, List.forIn_cons]
  refine wpAny_bind (wpAny_bind (wpAny_holding ?_))
  show wpAny _ _ (Builtin.SmallTypes.nextOf (.ref i1) >>= _) _ E _
  refine wpAny_bind (D1.item i ⟨m1, g, d, tk0, os⟩ _ _ li (D1.over a1 sb1 S.zf1) fun x m2 tk1 px n1 sb2 => wpAny_pure (wpAny_pure ?_))
  replace sb2 : Heap.SameBut i1 m1 m2 := sb2
  refine wpAny_bind (wpAny_bind (wpAny_holding ?_))
  show wpAny _ _ (Builtin.SmallTypes.nextOf (.ref i2) >>= _) _ E _
  refine wpAny_bind (D2.item i ⟨m2, g, d, tk1, os⟩ _ _ li (D2.over (D2.over a2 sb1 S.zf2) sb2 S.sep1_2) fun y m3 tk2 py n2 sb3 => wpAny_pure (wpAny_pure (wpAny_pure ?_)))
  replace sb3 : Heap.SameBut i2 m2 m3 := sb3
  show wpAny _ _ (newTuple [x, y] >>= _) _ E _
  refine wpAny_bind (wpAny_newTuple ?_)
  have ez : m3.objs.size = hp.objs.size := by rw [sb3.1, sb2.1, sb1.1]
  have gz3 : IsZipHeld m3 z TI TO T true := sb3.extBut _ _ S.zi2 (sb2.extBut _ _ S.zi1 gz1)
  have kk : ∀ c o, c ≠ z → c ≠ i1 → c ≠ i2 → hp.get? c = some o → m3.get? c = some o := fun c o c1 c2 c3 e => sb3.extBut _ _ c3 (sb2.extBut _ _ c2 (sb1.extBut _ _ c1 e))
  have n1' : St1 (i + 1) m3 := D1.over n1 sb3 S.sep2_1
  refine wpAny_pure ⟨_, rfl, ?_⟩
  have ht : IsTupOf2 (m3.push { cls := .type "tuple", data := .seq #[x, y] }) m3.objs.size x y := Heap.get?_push_size _ rfl
  show Q (.ref m3.objs.size) ⟨m3.push { cls := .type "tuple", data := .seq #[x, y] }, g, d, tk2, os⟩
  rw [ez] at ht ⊢
  exact fin x y _ tk2 px py (Heap.get?_push_of_some _ gz3) (D1.frame _ _ _ n1' fun b _ o e => Heap.get?_push_of_some _ e) (D2.frame _ _ _ n2 fun b _ o e => Heap.get?_push_of_some _ e) ht fun c o c1 c2 c3 e => Heap.get?_push_of_some _ (kk c o c1 c2 c3 e)
theorem zheld_end {Q : Fin → Shared → Prop} (S : ZipSep2 z TI TO i1 i2 fp1 fp2) (D1 : Draws prog w A i1 fp1 n P1 St1) (gz : IsZipHeld s.heap z TI TO T f) (gT : s.heap.get? T = some oT) (gI : IsTupOf2 s.heap TI (.ref i1) (.ref i2)) (a1 : St1 n s.heap)
    (fin : ∀ h' e, (∀ c o, c ≠ z → c ≠ i1 → s.heap.get? c = some o → h'.get? c = some o) → (∃ o, h'.get? e = some o ∧ o.cls = .type "StopIteration") → E (.ref e) { s with heap := h' }) :
    wpAny (model prog w) A (Builtin.«zip.__next__» ⟨[.ref z], []⟩) Q E s := by
  obtain ⟨hp, g, d, tk0, os⟩ := s
  show wpAny _ _ (field (.ref z) 2 >>= _) _ E _
  refine wpAny_bind (wpAny_field gz rfl (x := .bool false) rfl ?_)
  show wpAny _ _ (field (.ref z) 3 >>= _) _ E _
  refine wpAny_bind (wpAny_field gz rfl (x := .ref TI) rfl (wpAny_bind (wpAny_seqItems gI rfl ?_)))
  show wpAny _ _ (Builtin.SmallTypes.ownedTupleIsFree (.ref z) >>= _) _ E _
  refine wpAny_bind (wpAny_tupleHeld_zip gz gT fun m1 gz1 sb1 => ?_)
  replace sb1 : Heap.SameBut z hp m1 := sb1
  simp only [Bool.false_eq_true, if_false]
  refine wpAny_bind ?_
  rw [← Array.forIn_toList]
  simp only [List.forIn_nil, List.forIn_cons]
  refine wpAny_bind (wpAny_bind (wpAny_holding ?_))
  show wpAny _ _ (Builtin.SmallTypes.nextOf (.ref i1) >>= _) _ E _
  refine wpAny_bind (D1.done ⟨m1, g, d, tk0, os⟩ _ _ (D1.over a1 sb1 S.zf1) fun m2 e sb2 he => ?_)
  exact fin m2 e (fun c o c1 c2 x => sb2 _ _ c2 (sb1.extBut _ _ c1 x)) he
theorem zheld_next {Q : Option Value → Shared → Prop} (S : ZipSep2 z TI TO i1 i2 fp1 fp2) (D1 : Draws prog w A.in1 i1 fp1 n P1 St1) (D2 : Draws prog w A.in1 i2 fp2 n P2 St2) (gz : IsZipHeld s.heap z TI TO T f) (gT : s.heap.get? T = some oT) (gI : IsTupOf2 s.heap TI (.ref i1) (.ref i2)) (a1 : St1 i s.heap) (a2 : St2 i s.heap) (li : i < n)
    (fin : ∀ x y h' tk, P1 i x → P2 i y → IsZipHeld h' z TI TO T true → St1 (i + 1) h' → St2 (i + 1) h' → IsTupOf2 h' s.heap.objs.size x y → (∀ c o, c ≠ z → c ≠ i1 → c ≠ i2 → s.heap.get? c = some o → h'.get? c = some o) → Q (some (.ref s.heap.objs.size)) { s with heap := h', toks := tk }) :
    wpAny (model prog w) A (pyNext (.ref z)) Q E s := by
  have ty : s.TypeIs (.ref z) "zip" := ⟨_, gz, rfl⟩
  unfold pyNext
  refine wpAny_bind (wpAny_attempt (wpAny_callSpecial?_slot (name := Str.ofString "__next__") ty PySem.F.slot_zip_next (wpAny_call_entry PySem.F.slot_zip_next ty PySem.F.entry_zip_next ?_ (PySem.F.args_zip_next_1 _))))
  exact zheld_item S D1 D2 gz gT gI a1 a2 li fun x y h' tk q1 q2 q3 q4 q5 q6 q7 => wpAny_pure (fin x y h' tk q1 q2 q3 q4 q5 q6 q7)
theorem zheld_stop {Q : Option Value → Shared → Prop} (S : ZipSep2 z TI TO i1 i2 fp1 fp2) (D1 : Draws prog w A.in1 i1 fp1 n P1 St1) (gz : IsZipHeld s.heap z TI TO T f) (gT : s.heap.get? T = some oT) (gI : IsTupOf2 s.heap TI (.ref i1) (.ref i2)) (a1 : St1 n s.heap)
    (fin : ∀ h', (∀ c o, c ≠ z → c ≠ i1 → s.heap.get? c = some o → h'.get? c = some o) → Q none { s with heap := h' }) : wpAny (model prog w) A (pyNext (.ref z)) Q E s := by
  have ty : s.TypeIs (.ref z) "zip" := ⟨_, gz, rfl⟩
  unfold pyNext
  refine wpAny_bind (wpAny_attempt (wpAny_callSpecial?_slot (name := Str.ofString "__next__") ty PySem.F.slot_zip_next (wpAny_call_entry PySem.F.slot_zip_next ty PySem.F.entry_zip_next ?_ (PySem.F.args_zip_next_1 _))))
  refine zheld_end S D1 gz gT gI a1 fun h' e kp ⟨o, ho, hc⟩ => ?_
  exact wpAny_bind (wpAny_isInstance (T := "StopIteration") (b := true) ⟨o, ho, hc⟩ isSubtype_stop (wpAny_pure (fin _ kp)))
/-- zip as what dict() takes -/
theorem pairZip (S : ZipSep2 z TI TO i1 i2 fp1 fp2) (D1 : ∀ A : Around, A.handled = none → Draws prog w A i1 fp1 n P1 St1) (D2 : ∀ A : Around, A.handled = none → Draws prog w A i2 fp2 n P2 St2)
    (t1 : ∀ h, St1 0 h → ∀ b ∈ fp1, ∃ o, h.get? b = some o) (t2 : ∀ h, St2 0 h → ∀ b ∈ fp2, ∃ o, h.get? b = some o)
    (k1 : ∀ i h h', St1 i h → (∀ b ∈ fp1, ∀ o, h.get? b = some o → h'.get? b = some o) → St1 i h') (k2 : ∀ i h h', St2 i h → (∀ b ∈ fp2, ∀ o, h.get? b = some o → h'.get? b = some o) → St2 i h') :
    PairArg prog w "zip" z (z :: TI :: TO :: (fp1 ++ fp2)) [z, TO, i1, i2] n (fun i k v => P1 i k ∧ P2 i v)
      (fun h => IsZip h z TI TO .none ∧ IsTupOf2 h TI (.ref i1) (.ref i2) ∧ (∃ a b, IsTupOf2 h TO a b) ∧ St1 0 h ∧ St2 0 h) where
  type := fun s ok => ⟨_, ok.1, rfl⟩
  notDict := by decide
  keep := fun h h' ⟨a, b, ⟨c1, c2, c⟩, d, e⟩ kp => ⟨kp _ _ a, kp _ _ b, ⟨c1, c2, kp _ _ c⟩, k1 _ _ _ d fun b _ o => kp b o, k2 _ _ _ e fun b _ o => kp b o⟩
  there := fun h ⟨a, b, ⟨c1, c2, c⟩, d, e⟩ x hx => by
    rw [List.mem_cons, List.mem_cons, List.mem_cons, List.mem_append] at hx
    rcases hx with rfl | rfl | rfl | hx | hx
    · exact ⟨_, a⟩
    · exact ⟨_, b⟩
    · exact ⟨_, c⟩
    · exact t1 _ d _ hx
    · exact t2 _ e _ hx
  sub := fun b hb => by
    rw [List.mem_cons, List.mem_cons, List.mem_cons, List.mem_singleton] at hb
    rw [List.mem_cons, List.mem_cons, List.mem_cons, List.mem_append]
    rcases hb with rfl | rfl | rfl | rfl
    · exact .inl rfl
    · exact .inr (.inr (.inl rfl))
    · exact .inr (.inr (.inr (.inl S.mem1)))
    · exact .inr (.inr (.inr (.inr S.mem2)))
  noKeys := fun A s Q E hA ok h => getAttrOr_miss_zip ok.1 rfl rfl rfl zip_no_keys (by decide +kernel) hA h
  iter := fun A s d Q E hA ⟨gz, gI, ⟨b1, b2, gO⟩, a1, a2⟩ hd nd h => by
    rw [List.mem_cons, List.mem_cons, List.mem_cons, List.mem_append, not_or, not_or, not_or, not_or] at nd
    obtain ⟨dz, dI, dO, d1, d2⟩ := nd
    have e1 : d ≠ i1 := fun q => d1 (q ▸ S.mem1)
    have e2 : d ≠ i2 := fun q => d2 (q ▸ S.mem2)
    refine wpAny_pyIter_zip gz (h z [z, TO, i1, i2] (fun i h => IsTupOf2 h TI (.ref i1) (.ref i2) ∧ St1 i h ∧ St2 i h ∧ ((IsZip h z TI TO .none ∧ ∃ a b, IsTupOf2 h TO a b) ∨ ∃ T f oT, IsZipHeld h z TI TO T f ∧ h.get? T = some oT ∧ T ≠ z ∧ T ≠ i1 ∧ T ≠ i2 ∧ T ≠ d)) s.heap s.toks ?_ ⟨gI, a1, a2, .inl ⟨gz, b1, b2, gO⟩⟩ (fun _ _ q => q) fun b hb => .inl hb)
    exact {
      off := fun hm => by
        rw [List.mem_cons, List.mem_cons, List.mem_cons, List.mem_singleton] at hm
        rcases hm with q | q | q | q
        · exact dz q
        · exact dO q
        · exact e1 q
        · exact e2 q
      frame := fun i h h' ⟨x1, x2, x3, x4⟩ kp => by
        refine ⟨kp _ _ (Ne.symm dI) x1, k1 _ _ _ x2 fun b hb o => kp b o fun q => d1 (q ▸ hb), k2 _ _ _ x3 fun b hb o => kp b o fun q => d2 (q ▸ hb), ?_⟩
        rcases x4 with ⟨y1, u, v, y2⟩ | ⟨T, f, oT, y1, y2, r1, r2, r3, r4⟩
        · exact .inl ⟨kp _ _ (Ne.symm dz) y1, u, v, kp _ _ (Ne.symm dO) y2⟩
        · exact .inr ⟨T, f, oT, kp _ _ (Ne.symm dz) y1, kp _ _ r4 y2, r1, r2, r3, r4⟩
      item := fun i s1 Q1 E1 hi ⟨x1, x2, x3, x4⟩ hds hQ => by
        have D1' := D1 A.in1 hA
        have D2' := D2 A.in1 hA
        have m1 : s1.heap.objs.size ≠ i1 := let ⟨_, e⟩ := D1'.live _ _ x2; Nat.ne_of_gt (Heap.lt_size e)
        have m2 : s1.heap.objs.size ≠ i2 := let ⟨_, e⟩ := D2'.live _ _ x3; Nat.ne_of_gt (Heap.lt_size e)
        rcases x4 with ⟨y1, u, v, y2⟩ | ⟨T, f, oT, y1, y2, r1, r2, r3, r4⟩
        · refine wpAny_pyNext_zipD2_item S D1' D2' y1 x1 y2 x2 x3 hi hi fun x y h' tk p1 p2 q1 q2 q3 q4 q5 q6 q7 => ?_
          exact hQ s1.heap.objs.size x y h' tk ⟨p1, p2⟩ (.inl ⟨_, q5, rfl, _, rfl⟩) ⟨q7 _ _ S.TIz S.TITO S.TIi1 S.TIi2 x1, q3, q4, .inr ⟨s1.heap.objs.size, false, _, q1, q5, Nat.ne_of_gt (Heap.lt_size y1), m1, m2, Nat.ne_of_gt hds⟩⟩
            fun c o hc e => q7 c o (fun q => hc (by simp [q])) (fun q => hc (by simp [q])) (fun q => hc (by simp [q])) (fun q => hc (by simp [q])) e
        · refine zheld_next S D1' D2' y1 y2 x1 x2 x3 hi fun x y h' tk p1 p2 q1 q3 q4 q5 q7 => ?_
          exact hQ s1.heap.objs.size x y h' tk ⟨p1, p2⟩ (.inl ⟨_, q5, rfl, _, rfl⟩) ⟨q7 _ _ S.TIz S.TIi1 S.TIi2 x1, q3, q4, .inr ⟨T, true, oT, q1, q7 _ _ r1 r2 r3 y2, r1, r2, r3, r4⟩⟩
            fun c o hc e => q7 c o (fun q => hc (by simp [q])) (fun q => hc (by simp [q])) (fun q => hc (by simp [q])) e
      done := fun s1 Q1 E1 ⟨x1, x2, x3, x4⟩ hQ => by
        have D1' := D1 A.in1 hA
        have D2' := D2 A.in1 hA
        rcases x4 with ⟨y1, u, v, y2⟩ | ⟨T, f, oT, y1, y2, r1, r2, r3, r4⟩
        · exact wpAny_pyNext_zipD2_end S D1' D2' y1 x1 y2 x2 x3 (Nat.le_refl _) (Nat.le_refl _) (.inl rfl) fun h' tk kp => hQ h' tk fun c o hc e => kp c o (fun q => hc (by simp [q])) (fun q => hc (by simp [q])) (fun q => hc (by simp [q])) (fun q => hc (by simp [q])) e
        · exact zheld_stop S D1' y1 y2 x1 x2 fun h' kp => hQ h' s1.toks fun c o hc e => kp c o (fun q => hc (by simp [q])) (fun q => hc (by simp [q])) e }
/-- a list or a tuple as what zip takes -/
structure SrcZ (prog : Program) (w : World) (a : Addr) (o : Obj) (items : Array Value) (Hp0 : Heap → Prop) (St : Addr → Nat → Heap → Prop) : Prop where
  beg : Begins (.ref a) o Hp0
  dr : ∀ (A : Around) it, A.handled = none → a ≠ it → Draws prog w A it [it, a] items.size (fun i v => items[i]? = some v) (St it)
  st0 : ∀ it h, h.get? it = some o → Hp0 h → St it 0 h
  fr : ∀ it i h h', St it i h → (∀ b ∈ [it, a], ∀ o, h.get? b = some o → h'.get? b = some o) → St it i h'
  th : ∀ it h, St it 0 h → ∀ b ∈ [it, a], ∃ o, h.get? b = some o
theorem srcZ_list (a : Addr) (items : Array Value) : SrcZ prog w a { cls := .type "list_iterator", data := .fields #[.ref a, .int 0 0] } items (fun h => h.IsList a items) (fun it i h => h.IsListIter it a i ∧ h.IsList a items) where
  beg := begins_list a items
  dr := fun A it hA ne => .list hA it a ne items
  st0 := fun it h e l => ⟨⟨_, e, rfl, rfl⟩, l⟩
  fr := fun it i h h' ⟨x, y⟩ kp => ⟨x.at fun o e => kp it (by simp) o e, y.at fun o e => kp a (by simp) o e⟩
  th := fun it h ⟨⟨o, e, _⟩, ⟨o2, e2, _⟩⟩ b hb => by
    rw [List.mem_cons, List.mem_singleton] at hb
    rcases hb with rfl | rfl
    · exact ⟨_, e⟩
    · exact ⟨_, e2⟩
theorem srcZ_tuple (a : Addr) (items : Array Value) : SrcZ prog w a { cls := .type "tuple_iterator", data := .fields #[.ref a, .int 0 0] } items (fun h => h.IsTuple a items) (fun it i h => h.IsTupleIter it a i ∧ h.IsTuple a items) where
  beg := begins_tuple a items
  dr := fun A it hA ne => .tuple hA it a ne items
  st0 := fun it h e l => ⟨⟨_, e, rfl, rfl⟩, l⟩
  fr := fun it i h h' ⟨x, y⟩ kp => ⟨x.at fun o e => kp it (by simp) o e, y.at fun o e => kp a (by simp) o e⟩
  th := fun it h ⟨⟨o, e, _⟩, ⟨o2, e2, _⟩⟩ b hb => by
    rw [List.mem_cons, List.mem_singleton] at hb
    rcases hb with rfl | rfl
    · exact ⟨_, e⟩
    · exact ⟨_, e2⟩
end
/-! ### over data -/
def dzip : List (D × D) → List D → List D → List (D × D)
  | acc, x :: xs, y :: ys => dzip (dicPut acc x y) xs ys
  | acc, _, _ => acc
theorem dzip_len : ∀ (xs ys : List D) (acc : List (D × D)), (dzip acc xs ys).length ≤ acc.length + xs.length
  | [], _, acc => Nat.le_refl _
  | x :: xs, [], acc => Nat.le_add_right _ _
  | x :: xs, y :: ys, acc => by
    have := dzip_len xs ys (dicPut acc x y)
    have := dicPut_len acc x y
    show (dzip (dicPut acc x y) xs ys).length ≤ _
    rw [List.length_cons]
    omega
def zipK (Q : WQ) (ds : List D) (S1 : Sto) : Prop := match ds with
  | [x, y] => onSeq S1 x fun xs => onSeq S1 y fun ys => (xs.all keyL = true ∧ xs.length = ys.length) ∧ ∀ p o, sget S1 p = none → Q (.ref p) ((p, .dic o (dzip [] xs ys)) :: S1)
  | _ => False
def eDictZip (t : WA) : WE := fun env S Q => t env S (zipK Q)
theorem sepZ {n a b : Nat} (la : a < n) (lb : b < n) : ZipSep2 (n + 4) (n + 2) (n + 3) n (n + 1) [n, a] [n + 1, b] := by
  have two : ∀ x y z : Nat, x ≠ y → x ≠ z → (x : Addr) ∉ ([y, z] : List Addr) := fun x y z h1 h2 h => by
    rw [List.mem_cons, List.mem_singleton] at h
    exact h.elim h1 h2
  have one : ∀ x y : Nat, x ≠ y → (x : Addr) ≠ (y : Addr) := fun _ _ h => h
  exact ⟨one _ _ (by omega), one _ _ (by omega), one _ _ (by omega), one _ _ (by omega), by simp, two _ _ _ (by omega) (by omega), two _ _ _ (by omega) (by omega), one _ _ (by omega), by simp, two _ _ _ (by omega) (by omega), two _ _ _ (by omega) (by omega), two _ _ _ (by omega) (by omega), two _ _ _ (by omega) (by omega)⟩
def zkv : List D → List Value → List (Leaf × Value)
  | d :: ds, v :: vs => (leafD d, v) :: zkv ds vs
  | _, _ => []
theorem zkv_len : ∀ {ds : List D} {vs : List Value}, ds.length = vs.length → (zkv ds vs).length = ds.length
  | [], [], _ => rfl
  | d :: ds, v :: vs, h => by
    show (zkv ds vs).length + 1 = ds.length + 1
    rw [zkv_len (by simpa using h)]
section
variable {X : Cx} {pins : List (Addr × Obj)} {σ : L2.St} {H : Hp} {s : Shared}
theorem zkv_at : ∀ {ds : List D} {vs : List V} {us xs : List Value}, RpAll X.kw H vs ds → Vals vs us → ds.all keyL = true → us.length = xs.length → ∀ {i : Nat} {k v : Value}, us[i]? = some k → xs[i]? = some v → ∃ l, (zkv ds xs)[i]? = some (l, v) ∧ (k3 X.prog X.w).is l k = true
  | _, _, _, xs, .nil, .nil, _, _, i, k, v, e, _ => by simp at e
  | _, _, _, [], .cons r rs, .cons ru us, hk, hl, i, k, v, e1, e2 => by simp at e2
  | _, _, _, x :: xs, .cons (d := d) r rs, .cons ru us, hk, hl, 0, k, v, e1, e2 => by
    rw [List.all_cons, Bool.and_eq_true] at hk
    simp at e1 e2
    subst e1 e2
    exact ⟨leafD d, rfl, leaf_is (K := X.kw) hk.1 r ru⟩
  | _, _, _, x :: xs, .cons r rs, .cons ru us, hk, hl, i + 1, k, v, e1, e2 => by
    rw [List.all_cons, Bool.and_eq_true] at hk
    obtain ⟨l, q1, q2⟩ := zkv_at rs us hk.2 (by simpa using hl) (i := i) (k := k) (v := v) (by simpa using e1) (by simpa using e2)
    exact ⟨l, by simpa [zkv] using q1, q2⟩
theorem zkv_put : ∀ {ds es : List D} {us : List V} {xs : List Value} {acc : List (D × D)} {ys : List (Leaf × Value)}, RpAll X.kw H us es → Vals us xs → ds.all keyL = true → Paired (KvL X.kw H) acc ys → Paired (KvL X.kw H) (dzip acc ds es) (merged ys (zkv ds xs))
  | [], _, _, _, acc, ys, _, _, _, h => by
    unfold dzip zkv
    exact h
  | d :: ds, _, _, _, acc, ys, .nil, .nil, _, h => h
  | d :: ds, _, _, _, acc, ys, .cons r rs, .cons ru us, hk, h => by
    rw [List.all_cons, Bool.and_eq_true] at hk
    have := zkv_put rs us hk.2 (putL hk.1 ru r h)
    exact this
end
section
variable {X : Cx} {e e2 : Expr} {t : WA} {p p2 pos pos2 : Pos}
theorem dict_zip {A : Around} {E : Value → Shared → Prop} {pins : List (Addr × Obj)} {σ : L2.St} {H : Hp} {s : Shared} {a b : Addr} {o1 o2 : Obj} {us xs : List Value} {H1 H2 : Heap → Prop} {St1 St2 : Addr → Nat → Heap → Prop} {ds es : List D} {vs ws : List V} {Q : Value → Shared → Prop} (hh : A.handled = none) (I : Inv X pins σ H s)
    (s1 : SrcZ X.prog X.w a o1 us.toArray H1 St1) (s2 : SrcZ X.prog X.w b o2 xs.toArray H2 St2) (h1 : H1 s.heap) (h2 : H2 s.heap) (la : @LT.lt Nat _ a s.heap.objs.size) (lb : @LT.lt Nat _ b s.heap.objs.size) (r1 : Vals vs us) (r2 : Vals ws xs) (d1 : RpAll X.kw H vs ds) (d2 : RpAll X.kw H ws es) (hk : ds.all keyL = true) (hl : ds.length = es.length) (hz : ds.length ≤ sizeLine)
    (fin : ∀ q o s', H q = none → Inv X pins σ (upd H q (DicO q o)) s' → LR X.kw (upd H q (DicO q o)) q (.dic o (dzip [] ds es)) → Q (.ref q) s') {R : Value → Shared → Prop} (cont : ∀ z s', wpAny (model X.prog X.w) A (call (.type "dict") [z]) Q E s' → R z s') :
    wpAny (model X.prog X.w) A (call (.type "zip") [.ref a, .ref b]) R E s := by
  have lu : us.length = ds.length := (Paired.length r1).symm.trans d1.length
  have lx : xs.length = ds.length := ((Paired.length r2).symm.trans d2.length).trans hl.symm
  refine zip_begins2 s1.beg s2.beg h1 h2 fun h' gz gI gO g1 g2 hsz kp => ?_
  have I2 : Inv X pins σ H { s with heap := h' } := I.kept (t' := s.toks) kp
  have S := sepZ la lb
  have na : a ≠ s.heap.objs.size := Nat.ne_of_lt la
  have nb : b ≠ s.heap.objs.size + 1 := Nat.ne_of_lt (Nat.lt_succ_of_lt lb)
  have P := pairZip (prog := X.prog) (w := X.w) (n := ds.length) (St1 := St1 s.heap.objs.size) (St2 := St2 (s.heap.objs.size + 1)) (P1 := fun i v => us[i]? = some v) (P2 := fun i v => xs[i]? = some v) S
    (fun A hA => by have := s1.dr A _ hA na; simpa [lu] using this) (fun A hA => by have := s2.dr A _ hA nb; simpa [lx] using this) (s1.th _) (s2.th _) (s1.fr _) (s2.fr _)
  refine cont _ _ (PySem.call_dict_pairs (s := { s with heap := h' }) (knd := k3 X.prog X.w) (kvs := zkv ds xs) P hh ⟨gz, gI, ⟨_, _, gO⟩, s1.st0 _ _ g1 (s1.beg.keeps _ _ h1 kp), s2.st0 _ _ g2 (s2.beg.keeps _ _ h2 kp)⟩ ⟨zkv_len (by omega), fun i k v ⟨q1, q2⟩ => zkv_at d1 r1 hk (by omega) q1 q2⟩ hz fun h2 tk hd kp2 => ?_)
  obtain ⟨o, ents, ep, ho, ex, hda, ko, pr, nd⟩ := hd
  have big : @LT.lt Nat _ sysModules s.heap.objs.size := I.big
  have le5 : @LE.le Nat _ s.heap.objs.size h'.objs.size := by
    rw [hsz]
    exact Nat.le_add_right _ _
  have ne : (h'.objs.size : Addr) ≠ sysModules := Nat.ne_of_gt (Nat.lt_of_lt_of_le big le5)
  have nq : H h'.objs.size = none := I.hok.fresh le5
  refine fin h'.objs.size o _ nq (I2.turnedNew (t' := tk) (ch := [s.heap.objs.size + 4, s.heap.objs.size + 3, s.heap.objs.size, s.heap.objs.size + 1]) (T := h'.objs.size) (ob := DicO h'.objs.size o) kp2 (fun c hc => ?_) (Nat.le_refl _) (dicO_ok ho)) ⟨upd_same, beq_eq_false_iff_ne.mpr ne, Nat.le_trans (dzip_len _ _ _) (by simpa using hz), ents, ep, ex, hda, .inr ⟨_, ko, pr, nd, ?_⟩⟩
  · have hle : @LE.le Nat _ s.heap.objs.size c := by
      rw [List.mem_cons, List.mem_cons, List.mem_cons, List.mem_singleton] at hc
      rcases hc with z | z | z | z
      · rw [z]; exact Nat.le_add_right _ _
      · rw [z]; exact Nat.le_add_right _ _
      · rw [z]; exact Nat.le_refl _
      · rw [z]; exact Nat.le_add_right _ _
    exact I.fpOk hle (I.hok.fresh hle)
  · exact zkv_put (X := X) (H := upd H h'.objs.size (DicO h'.objs.size o)) (d2.mono (.new nq)) r2 hk .nil
theorem q_dictZip (hc : X.calm = true) (hg : Gl X "dict") (hm : X.mg "dict" = none) (hg2 : Gl X "zip") (hm2 : X.mg "zip" = none) (ha : QA X [e, e2] t)
    (hs : starEach [e, e2] X.env = (false, eval e X.env) :: starEach [e2] X.env := by rfl) (hpl : (backTo pos2 (starEach [e2] X.env)).any (·.1) = false := by rfl)
    (hs2 : starEach [.Call (.Name "zip" p2) [e, e2] [] pos2] X.env = (false, eval (.Call (.Name "zip" p2) [e, e2] [] pos2) X.env) :: starEach [] X.env := by rfl) :
    QE X (.Call (.Name "dict" p) [.Call (.Name "zip" p2) [e, e2] [] pos2] [] pos) (eDictZip t) := by
  refine ⟨fun pins s σ H Q I ⟨env, S, Q0, er, so, q, ps⟩ => ?_⟩
  refine Call_ (ld_blt I hg hm PyProof.Rows.boot_dict (PyProof.Rows.callWith_type1 (args_cons (Call_ (ld_blt I hg2 hm2 PyProof.Rows.boot_zip (PyProof.Rows.callWith_type1 (thn (ha.run pos2 pins s σ H (fun vs H1 => ∃ ds S1, zipK Q0 ds S1 ∧ RpAll X.kw H1 vs ds ∧ SOk X.kw H1 S1 ∧ Fr S S1 H H1) I ⟨env, S, _, er, so, q, fun ds S1 h1 vs H1 rs s1 f1 => ⟨ds, S1, h1, rs, s1, f1⟩⟩) fun us s1 ⟨vs, H1, I1, r1, q1⟩ => ?_) hs hpl))) hs2) hs2 rfl))
  obtain ⟨ds, S1, h1, rs, so1, f1⟩ := q1
  unfold zipK at h1
  split at h1
  · rename_i x y
    obtain ⟨xs, hx, h1⟩ := onSeq_iff.mp h1
    obtain ⟨ys, hy, h1⟩ := onSeq_iff.mp h1
    obtain ⟨⟨hk, hl⟩, h1⟩ := h1
    cases rs with
    | cons rx rs =>
    cases rs with
    | cons ry rs =>
    cases rs
    cases r1 with
    | cons u1 r1 =>
    cases r1 with
    | cons u2 r1 =>
    cases r1
    obtain ⟨zx, a, va, rfl, ra, ha2⟩ := seqOf_sq rx so1 hx
    obtain ⟨zy, b, vb, rfl, rb, hb2⟩ := seqOf_sq ry so1 hy
    cases u1
    cases u2
    have key : ∀ {o1 o2 : Obj} {us xs' : List Value} {K1 K2 : Heap → Prop} {St1 St2 : Addr → Nat → Heap → Prop}, SrcZ X.prog X.w a o1 us.toArray K1 St1 → SrcZ X.prog X.w b o2 xs'.toArray K2 St2 → K1 s1.heap → K2 s1.heap → @LT.lt Nat _ a s1.heap.objs.size → @LT.lt Nat _ b s1.heap.objs.size → Vals va us → Vals vb xs' → ∀ {R : Value → Shared → Prop}, (∀ z s', wpAny (model X.prog X.w) X.A (call (.type "dict") [z]) (EP X pins σ Q) X.xe s' → R z s') → wpAny (model X.prog X.w) X.A (call (.type "zip") [.ref a, .ref b]) R X.xe s1 := by
      intro o1 o2 us xs' K1 K2 St1 St2 z1 z2 k1 k2 la lb r1 r2 R cont
      exact dict_zip (E := X.xe) (A := X.A) (Q := EP X pins σ Q) (I1.ok.hd hc) I1 z1 z2 k1 k2 la lb r1 r2 ra rb hk hl zx (fun q o s' n1 I3 lr => ⟨.ref q, _, I3, rfl, (ps.trans f1) _ _ (h1 q o (so1.none n1)) _ _ (.ref _) (so1.newO n1 lr) (.new S1 n1)⟩) cont
    rcases ha2 with ⟨qa, -⟩ | ⟨qa, -⟩ <;> rcases hb2 with ⟨qb, -⟩ | ⟨qb, -⟩
    · obtain ⟨us, v1, p1, _⟩ := I1.list qa
      obtain ⟨ws, v2, p2, _⟩ := I1.list qb
      exact key (srcZ_list a _) (srcZ_list b _) p1.isList p2.isList p1.lt p2.lt v1 v2 fun _ _ h => args_nil h
    · obtain ⟨us, v1, p1, _⟩ := I1.list qa
      obtain ⟨ws, v2, p2, _⟩ := I1.tuple qb
      exact key (srcZ_list a _) (srcZ_tuple b _) p1.isList p2 p1.lt p2.lt v1 v2 fun _ _ h => args_nil h
    · obtain ⟨us, v1, p1, _⟩ := I1.tuple qa
      obtain ⟨ws, v2, p2, _⟩ := I1.list qb
      exact key (srcZ_tuple a _) (srcZ_list b _) p1 p2.isList p1.lt p2.lt v1 v2 fun _ _ h => args_nil h
    · obtain ⟨us, v1, p1, _⟩ := I1.tuple qa
      obtain ⟨ws, v2, p2, _⟩ := I1.tuple qb
      exact key (srcZ_tuple a _) (srcZ_tuple b _) p1 p2 p1.lt p2.lt v1 v2 fun _ _ h => args_nil h
  · exact h1.elim
end
end DL

namespace DL
open PySem
/-! what can be shown, how long it is at most -/
structure Rz (p : PyData) (n m : Nat) : Prop where
  s : p.showable = true
  l : p.shown.length ≤ n
  d : p.depth ≤ m
structure Rzs (ps : List PyData) (n m : Nat) : Prop where
  s : PyData.showableAll ps = true
  l : ((PyData.shownAll ps).map (·.length)).sum ≤ n
  d : PyData.depthAll ps ≤ m
theorem Rz.ok {p : PyData} {n m : Nat} (h : Rz p n m) (hn : n ≤ 16000000) (hm : m ≤ 60) : rpOk p :=
  ⟨h.s, Nat.le_trans h.l (by rw [sizeLine_eq]; omega), Nat.le_trans h.d hm⟩
theorem Rz.mono {p : PyData} {n m n' m' : Nat} (h : Rz p n m) (hn : n ≤ n') (hm : m ≤ m') : Rz p n' m' := ⟨h.s, Nat.le_trans h.l hn, Nat.le_trans h.d hm⟩
theorem Rz.int {i : Int} {k : Nat} (h : i.natAbs < 10 ^ k) (h0 : 0 < k) (hk : k ≤ 500) : Rz (.int i) (k + 1) 0 where
  s := by
    have h2 : i.natAbs < 2 ^ 1900 := Nat.lt_of_lt_of_le h (Nat.le_trans (Nat.pow_le_pow_right (by decide) hk) (by decide +kernel))
    simp only [PyData.showable, decide_eq_true_eq]
    exact Nat.lt_of_lt_of_le (log2_of h2 (by decide)) (by decide)
  l := by
    have e := PySem.int_text_length_le10 (k := k) h0 h
    show (Str.ofString (toString i)).length ≤ k + 1
    rw [ofString_length]; exact e
  d := by simp [PyData.depth]
theorem Rz.int' {i : Int} {k : Nat} (h : -(10 ^ k : Int) < i ∧ i < 10 ^ k) (h0 : 0 < k) (hk : k ≤ 500) : Rz (.int i) (k + 1) 0 := .int (by
  have e : ((10 ^ k : Nat) : Int) = 10 ^ k := by simp
  omega) h0 hk
theorem Rz.bl (b : Bool) : Rz (.bool b) 5 0 := ⟨by simp [PyData.showable], by cases b <;> decide, by simp [PyData.depth]⟩
theorem Rz.non : Rz .none 4 0 := ⟨by simp [PyData.showable], by decide, by simp [PyData.depth]⟩
theorem Rz.str {x : Str} (h : ∀ c ∈ x.cps.toList, c < 16 ^ 8) : Rz (.str x) (10 * x.length + 2) 0 := ⟨by simp [PyData.showable], PySem.StrLaws.reprText_len x h, by simp [PyData.depth]⟩
theorem Rzs.nil : Rzs [] 0 0 := ⟨by simp [PyData.showableAll], by simp [PyData.shownAll], by simp [PyData.depthAll]⟩
theorem Rzs.cons {p : PyData} {ps : List PyData} {n m k j : Nat} (h : Rz p n m) (hs : Rzs ps k j) : Rzs (p :: ps) (n + k) (max m j) where
  s := by simp [PyData.showableAll, h.s, hs.s]
  l := by
    have := h.l
    have := hs.l
    simp only [PyData.shownAll, List.map_cons, List.sum_cons]
    omega
  d := by
    have := h.d
    have := hs.d
    simp only [PyData.depthAll]
    omega
theorem Rzs.all {ps : List PyData} {n m : Nat} (h : ∀ p ∈ ps, Rz p n m) : Rzs ps (ps.length * n) m := by
  induction ps with
  | nil => exact ⟨by simp [PyData.showableAll], by simp [PyData.shownAll], by simp [PyData.depthAll]⟩
  | cons p ps ih =>
    have := Rzs.cons (h p List.mem_cons_self) (ih fun q hq => h q (List.mem_cons_of_mem _ hq))
    refine ⟨this.s, ?_, ?_⟩
    · have := this.l
      rw [List.length_cons, Nat.add_mul]
      omega
    · have := this.d
      omega
theorem shownAll_len : ∀ ps : List PyData, (PyData.shownAll ps).length = ps.length
  | [] => by simp [PyData.shownAll]
  | p :: ps => by simp [PyData.shownAll, shownAll_len ps]
theorem Rz.tup {ps : List PyData} {n m : Nat} (h : Rzs ps n m) : Rz (.tuple ps) (n + 2 * ps.length + 3) (m + 1) where
  s := by simp only [PyData.showable]; exact h.s
  l := by
    have := h.l
    have e := tupleText_len_le (PyData.shownAll ps)
    rw [shownAll_len] at e
    simp only [PyData.shown]
    omega
  d := by
    have := h.d
    simp only [PyData.depth]
    omega
theorem Rz.lst {ps : List PyData} {n m : Nat} (h : Rzs ps n m) : Rz (.list ps) (n + 2 * ps.length + 3) (m + 1) where
  s := by simp only [PyData.showable]; exact h.s
  l := by
    have := h.l
    have e := listText_len_le (PyData.shownAll ps)
    rw [shownAll_len] at e
    simp only [PyData.shown]
    omega
  d := by
    have := h.d
    simp only [PyData.depth]
    omega
theorem repr_in {x : D} {p : PyData} {S : Sto} {Q : WQ} (h : PyR S x p) (ok : rpOk p) (q : Q (.str (shw p)) S) : bRepr [x] S Q := ⟨p, h, ok, q⟩
theorem PyR.ints {S : Sto} : ∀ ns : List Int, PyRs S (dInt ns) (ns.map .int)
  | [] => .nil
  | n :: ns => .cons (.int n) (PyR.ints ns)
local macro_rules | `(tactic| walk_at "sg") => `(tactic| first | assumption | rfl | (simp only [sset_sset, sget_sset, Option.isSome_some, sget_cons, sset_cons, sget_nil, if_true, if_false, ite_true, ite_false, reduceCtorEq, *]; done) | (simp only [sset_sset, sget_sset, Option.isSome_some, sget_cons, sset_cons, sget_nil, if_true, if_false, ite_true, ite_false, reduceCtorEq, *]; rfl))
local macro_rules | `(tactic| walk_at "sd") => `(tactic| first | exact trivial | assumption | exact rfl | exact Nat.le_of_ble_eq_true rfl | decide | omega | exact Or.inl (by decide) | exact Or.inr (Or.inl (by decide)) | (refine And.intro (by walk_at "sd") (by walk_at "sd")))
local macro_rules | `(tactic| walk_at "wk") => `(tactic| (conv => whnf); (repeat ((first | refine onL_in (by walk_at "sg") ?_ | refine onD_in (by walk_at "sg") ?_ | refine onT_in (by walk_at "sg") ?_ | refine And.intro (by walk_at "sd") ?_); (conv => whnf))))
local macro_rules | `(tactic| walk_at "up") => `(tactic| (repeat (refine UpS.new (by assumption) ?_)); refine UpS.here ?_)
local macro_rules | `(tactic| walk_at "dr") => `(tactic| refine draw_in (by walk_at "sg") (by walk_at "sg") (by decide) ?_)
local macro_rules | `(tactic| walk_at "if") => `(tactic| (walk_at "wk"; repeat' ((first | refine ifB_dec (fun _ => ?_) (fun _ => ?_) | refine ifB_ndec (fun _ => ?_) (fun _ => ?_)) <;> walk_at "wk")))
local macro_rules | `(tactic| walk_at "bd") => `(tactic| first | rfl | (rw [decide_eq_decide]; omega) | exact (decide_eq_false (by omega)).symm | exact (decide_eq_true (by omega)).symm | exact decide_eq_false (by omega) | exact decide_eq_true (by omega))
local macro_rules | `(tactic| walk_at "py") => `(tactic| repeat (first | exact PyR.int _ | exact PyR.bl _ | exact PyR.non | exact PyR.str _ | assumption | exact PyRs.nil | apply PyR.tup | apply PyRs.cons | apply PyR.lst (by walk_at "sg")))
local macro_rules | `(tactic| walk_at "rz") => `(tactic| repeat' (first | exact Rz.bl _ | exact Rz.non | exact Rz.int' (k := 12) ⟨by omega, by omega⟩ (by decide) (by decide) | apply Rz.tup | apply Rz.lst | exact Rzs.nil | apply Rzs.cons))
local macro_rules | `(tactic| walk_at "rp") => `(tactic| refine ⟨_, by walk_at "py", Rz.ok (by walk_at "rz") (Nat.le_of_ble_eq_true rfl) (Nat.le_of_ble_eq_true rfl), ?_⟩)
local macro_rules | `(tactic| walk_at "pk") => `(tactic| (refine pick_in ?_; walk_at "wk"; refine pk_in rfl (by walk_at "sg") (by walk_at "sg") (by decide) (Nat.le_of_ble_eq_true rfl) (by decide) ?_))

-- math: repr
/-! fractions of great ints -/
def Bd (k : Nat) (i : Int) : Prop := i.natAbs < 2 ^ k
theorem Bd.mono {k m : Nat} {i : Int} (h : Bd k i) (hk : k ≤ m) : Bd m i := Nat.lt_of_lt_of_le h (Nat.pow_le_pow_right (by decide) hk)
theorem Bd.mul {a b : Nat} {i j : Int} (hi : Bd a i) (hj : Bd b j) : Bd (a + b) (i * j) := L2.wide_lt hi hj
theorem Bd.add {a b : Nat} {i j : Int} (hi : Bd a i) (hj : Bd b j) : Bd (max a b + 1) (i + j) := by
  have h1 := hi.mono (Nat.le_max_left a b)
  have h2 := hj.mono (Nat.le_max_right a b)
  unfold Bd at *
  rw [Nat.pow_succ]
  omega
theorem Bd.neg {a : Nat} {i : Int} (hi : Bd a i) : Bd a (-i) := by
  unfold Bd at *
  rw [Int.natAbs_neg]
  exact hi
theorem Bd.sub {a b : Nat} {i j : Int} (hi : Bd a i) (hj : Bd b j) : Bd (max a b + 1) (i - j) := by
  rw [Int.sub_eq_add_neg]
  exact hi.add hj.neg
theorem Bd.mulOk {a b : Nat} {i j : Int} (hi : Bd a i) (hj : Bd b j) (h : a + b ≤ 900000) : mulOk i j := by
  refine .inr (.inr ?_)
  have x := log2_of (Nat.lt_of_lt_of_le hi (Nat.pow_le_pow_right (by decide) (Nat.le_succ a))) (by omega)
  have y := log2_of (Nat.lt_of_lt_of_le hj (Nat.pow_le_pow_right (by decide) (Nat.le_succ b))) (by omega)
  have x' : i.natAbs.log2 ≤ a := by omega
  have y' : j.natAbs.log2 ≤ b := by omega
  omega
theorem Bd.log {a : Nat} {i : Int} (hi : Bd a i) (h : a < 8000) : i.natAbs.log2 < 8000 := by
  have x := log2_of (Nat.lt_of_lt_of_le hi (Nat.pow_le_pow_right (by decide) (Nat.le_succ a))) (by omega)
  omega
theorem Bd.of {a : Nat} {i m : Int} (h0 : -m < i ∧ i < m) (h : m.natAbs ≤ 2 ^ a) : Bd a i := by
  unfold Bd
  omega
structure Fq where
  n : Int
  d : Int
def Fq.t (x : Fq) : D := .tup [.int x.n, .int x.d]
def Fq.p (x : Fq) : PyData := .tuple [.int x.n, .int x.d]
theorem Fq.pyr (S : Sto) (x : Fq) : PyR S x.t x.p := .tup (.cons (.int _) (.cons (.int _) .nil))
/-- the fraction n / d in lowest terms, d > 0 -/
def low (n d : Int) : Fq :=
  if d < 0 then ⟨-n / (Nat.gcd n.natAbs d.natAbs : Nat), -d / (Nat.gcd n.natAbs d.natAbs : Nat)⟩ else ⟨n / (Nat.gcd n.natAbs d.natAbs : Nat), d / (Nat.gcd n.natAbs d.natAbs : Nat)⟩
/-- a fraction in lowest terms of at most k bits -/
structure Fq.Ok (k : Nat) (x : Fq) : Prop where
  pos : 0 < x.d
  low : Nat.gcd x.n.natAbs x.d.natAbs = 1
  bn : Bd k x.n
  bd : Bd k x.d
theorem Fq.Ok.mono {k m : Nat} {x : Fq} (h : x.Ok k) (hk : k ≤ m) : x.Ok m := ⟨h.pos, h.low, h.bn.mono hk, h.bd.mono hk⟩
theorem low_neg (n d : Int) (h : d < 0) : low n d = low (-n) (-d) := by
  unfold low
  rw [if_pos h, if_neg (by omega), Int.natAbs_neg, Int.natAbs_neg]
theorem gcd_pos {n d : Int} (h : d ≠ 0) : 0 < (Nat.gcd n.natAbs d.natAbs : Int) := by
  have := Nat.gcd_pos_of_pos_right n.natAbs (show 0 < d.natAbs by omega)
  omega
theorem ediv_natAbs {n : Int} {g : Nat} (hg : 0 < g) (h : g ∣ n.natAbs) : (n / (g : Int)).natAbs = n.natAbs / g := by
  obtain ⟨k, hk⟩ := h
  rcases Int.natAbs_eq n with e | e
  · rw [e, hk, Int.natAbs_natCast, Nat.mul_div_cancel_left _ hg, Int.natCast_mul, Int.mul_ediv_cancel_left _ (by omega), Int.natAbs_natCast]
  · rw [e, hk, Int.natAbs_neg, Int.natAbs_natCast, Nat.mul_div_cancel_left _ hg, Int.natCast_mul, ← Int.mul_neg, Int.mul_ediv_cancel_left _ (by omega), Int.natAbs_neg, Int.natAbs_natCast]
theorem low_pos {n d : Int} {k : Nat} (h : 0 < d) (hn : Bd k n) (hd : Bd k d) : (low n d).Ok k := by
  have g0 := gcd_pos (n := n) (d := d) (by omega)
  have g1 : 0 < Nat.gcd n.natAbs d.natAbs := by omega
  unfold low
  rw [if_neg (by omega)]
  have en := ediv_natAbs g1 (Nat.gcd_dvd_left n.natAbs d.natAbs)
  have ed := ediv_natAbs g1 (Nat.gcd_dvd_right n.natAbs d.natAbs)
  constructor
  · dsimp only
    have h1 : (Nat.gcd n.natAbs d.natAbs : Int) ≤ d := by
      have := Nat.gcd_le_right n.natAbs (show 0 < d.natAbs by omega)
      omega
    exact Int.ediv_pos_of_pos_of_dvd h (by omega) (by
      have := Nat.gcd_dvd_right n.natAbs d.natAbs
      exact Int.ofNat_dvd_left.mpr this)
  · dsimp only
    rw [en, ed]
    exact Nat.coprime_div_gcd_div_gcd g1
  · dsimp only
    unfold Bd at *
    rw [en]
    exact Nat.lt_of_le_of_lt (Nat.div_le_self _ _) hn
  · dsimp only
    unfold Bd at *
    rw [ed]
    exact Nat.lt_of_le_of_lt (Nat.div_le_self _ _) hd
theorem low_ok {n d : Int} {k : Nat} (h : d ≠ 0) (hn : Bd k n) (hd : Bd k d) : (low n d).Ok k := by
  by_cases h0 : d < 0
  · rw [low_neg n d h0]
    exact low_pos (by omega) hn.neg hd.neg
  · exact low_pos (by omega) hn hd
theorem low_self {k : Nat} {x : Fq} (h : x.Ok k) : low x.n x.d = x := by
  have := h.pos
  unfold low
  rw [if_neg (by omega), h.low]
  cases x
  simp
theorem low_mul {n d f : Int} (h : 0 < d) (hf : f ≠ 0) : low (n * f) (d * f) = low n d := by
  have g0 := gcd_pos (n := n) (d := d) (by omega)
  have key : ∀ f : Int, 0 < f → low (n * f) (d * f) = low n d := fun f hf => by
    have hd : 0 < d * f := Int.mul_pos h hf
    unfold low
    rw [if_neg (by omega), if_neg (by omega), Int.natAbs_mul, Int.natAbs_mul, Nat.gcd_mul_right, Int.natCast_mul, Int.natAbs_of_nonneg (by omega)]
    rw [Int.mul_ediv_mul_of_pos_left _ _ hf, Int.mul_ediv_mul_of_pos_left _ _ hf]
  rcases Int.lt_or_gt_of_ne hf with h1 | h1
  · have hd : d * f < 0 := Int.mul_neg_of_pos_of_neg h h1
    rw [low_neg _ _ hd, ← Int.mul_neg, ← Int.mul_neg]
    exact key _ (by omega)
  · exact key _ h1
theorem abs_if (i : Int) : (if i < 0 then -i else i) = (i.natAbs : Int) := by
  split <;> omega
theorem gcd_div {n d : Int} (hd : d ≠ 0) {k : Nat} (h : Bd k d) (hk : k < 8000) : 0 < (Nat.gcd n.natAbs d.natAbs : Int) ∧ ((Nat.gcd n.natAbs d.natAbs : Nat) : Int).natAbs.log2 < 8000 := by
  refine ⟨gcd_pos hd, Bd.log (a := k) ?_ hk⟩
  unfold Bd at *
  rw [Int.natAbs_natCast]
  exact Nat.lt_of_le_of_lt (Nat.gcd_le_right _ (by omega)) h
theorem Rz.bd {i : Int} (h : Bd 1000 i) : Rz (.int i) 501 0 := Rz.int (Nat.lt_of_lt_of_le h (by decide +kernel)) (by decide) (by decide)
theorem Fq.rz {x : Fq} (h : x.Ok 1000) : Rz x.p 1010 1 := (Rz.tup (.cons (.bd h.bn) (.cons (.bd h.bd) .nil))).mono (by simp) (by decide)
theorem Fq.ok {x : Fq} {k : Nat} (h : x.Ok k) (hk : k ≤ 1000) : rpOk x.p := (Fq.rz (h.mono hk)).ok (by decide) (by decide)
theorem low_rp {n d : Int} (h0 : d ≠ 0) (h1 : Bd 1000 n) (h2 : Bd 1000 d) : rpOk (low n d).p := Fq.ok (low_ok h0 h1 h2) (by decide)
theorem Bd.two : Bd 2 2 := by unfold Bd; decide
theorem Bd.one : Bd 1 1 := by unfold Bd; decide

-- math: repr
/-! widths of signs and texts -/
abbrev sg1 (c : Nat) : D := .str ⟨#[c]⟩
theorem yl_str {t : WE} {env : EV} {S : Sto} {z : Str} (h : ∀ Q : WQ, Q (.str z) S → t env S Q) (hz : z.length ≤ sizeLine) : Yields (iSeq t) env S (z.cps.toList.map sg1) (fun _ => True) := fun R hr => h _ (by
  show z.length ≤ sizeLine ∧ _
  refine ⟨hz, hr ?_⟩
  rw [List.length_map]
  exact hz)
def gW (c : Nat) : Int :=
  if c ∈ (("!'.:i|" : Str)).cps.toList then 1
  else if c ∈ (("(),;[]`jl" : Str)).cps.toList then 2
  else if c ∈ ((" \"*-/1<>I\\^frt{}" : Str)).cps.toList then 3
  else if c ∈ (("$023456789=?J_abcdeghknopqsuvxyz" : Str)).cps.toList then 4
  else 5
theorem gW_two (c : Nat) : c ∈ (("(),;[]jl`" : Str)).cps.toList ↔ c ∈ (("(),;[]`jl" : Str)).cps.toList := by
  rw [show (("(),;[]jl`" : Str)).cps.toList = [40, 41, 44, 59, 91, 93, 106, 108, 96] by decide +kernel, show (("(),;[]`jl" : Str)).cps.toList = [40, 41, 44, 59, 91, 93, 96, 106, 108] by decide +kernel]
  simp only [List.mem_cons, List.not_mem_nil, or_false]
  omega
theorem gW_alt (c : Nat) : gW c = if c ∈ (("!'.:i|" : Str)).cps.toList then 1
  else if c ∈ (("(),;[]jl`" : Str)).cps.toList then 2
  else if c ∈ ((" \"*-/1<>I\\^frt{}" : Str)).cps.toList then 3
  else if c ∈ (("$023456789=?J_abcdeghknopqsuvxyz" : Str)).cps.toList then 4
  else 5 := by
  unfold gW
  simp only [gW_two]
theorem gW_pos (c : Nat) : 1 ≤ gW c ∧ gW c ≤ 5 := by
  unfold gW
  split
  · omega
  split
  · omega
  split
  · omega
  split <;> omega
def tW (l : List Nat) : Int := if l = [] then 0 else (l.map gW).sum + l.length - 1
theorem sumW (l : List Nat) : 0 ≤ (l.map gW).sum ∧ (l.map gW).sum ≤ 5 * l.length := by
  induction l with
  | nil => simp
  | cons c r ih =>
    have := gW_pos c
    rw [List.map_cons, List.sum_cons, List.length_cons]
    omega
theorem tW_lt (l : List Nat) : 0 ≤ tW l ∧ tW l ≤ 6 * l.length := by
  unfold tW
  have := sumW l
  split
  · omega
  · have : 0 < l.length := List.length_pos_iff.mpr ‹_›
    omega
theorem tW_app {a b : List Nat} (ha : a ≠ []) (hb : b ≠ []) : tW (a ++ b) = tW a + 1 + tW b := by
  unfold tW
  rw [if_neg ha, if_neg hb, if_neg (by simp [ha]), List.map_append, List.sum_append, List.length_append]
  omega
theorem tW_max (l : List Nat) : max ((l.map gW).sum + l.length - 1) 0 = tW l := by
  unfold tW
  have := sumW l
  split
  · subst l; rfl
  · have : 0 < l.length := List.length_pos_iff.mpr ‹_›
    omega
theorem empty_str {z : Str} (h : z.cps.toList = []) : z = ("" : Str) := Str.ext' (Array.toList_inj.mp (h.trans (by decide +kernel)))
/-- is the column x one of a sign that is seen -/
def scan (x : Int) : Int → List Nat → Bool
  | _, [] => false
  | left, c :: r => if x < left + gW c then decide (left ≤ x) && decide (c ≠ 32) else scan x (left + gW c + 1) r
theorem scan_cons (x left : Int) (c : Nat) (r : List Nat) : scan x left (c :: r) = if x < left + gW c then decide (left ≤ x) && decide (c ≠ 32) else scan x (left + gW c + 1) r := rfl
theorem scan_no {x : Int} : ∀ {left : Int} {l : List Nat}, x < left → scan x left l = false
  | _, [], _ => rfl
  | left, c :: r, h => by
    have := gW_pos c
    unfold scan
    rw [if_pos (by omega), decide_eq_false (by omega)]
    rfl
def inkM (l : List Nat) (x y : Int) : Bool := decide (0 ≤ x ∧ 0 ≤ y ∧ y < 7) && scan x 0 l
theorem ne_space (c : Nat) : decide ((⟨#[c]⟩ : Str) = (" " : Str)) = decide (c = 32) := by
  rw [decide_eq_decide]
  rw [show (" " : Str) = ⟨#[32]⟩ by decide +kernel]
  constructor
  · intro h
    injection h with h
    injection h with h
    injection h
  · intro h
    rw [h]
/-- the signs that a text is drawn of -/
abbrev signsA : Str := ((" !\"#$&'()*+,-./0123456789:;<=>?@ABCDEFGHIJKLMNOPQRSTUVWXYZ[\\]^_`" : Str) ++ ("abcdefghijklmnopqrstuvwxyz{|}~" : Str))
theorem signsA_len : signsA.cps.toList.length = 94 := by decide +kernel
theorem signsA_len2 : signsA.length = 94 := by decide +kernel
theorem len_add (a b : Str) : (a ++ b).length = a.length + b.length := by
  show (a.cps ++ b.cps).size = a.cps.size + b.cps.size
  exact Array.size_append
theorem len_one (c : Nat) : (⟨#[c]⟩ : Str).length = 1 := rfl
theorem len_zero : (("" : Str)).length = 0 := by decide +kernel

-- math: glyph
/-! texts of plain signs -/
def Asc (z : Str) : Prop := ∀ c ∈ z.cps.toList, c < 128
theorem toList_add (a b : Str) : (a ++ b).cps.toList = a.cps.toList ++ b.cps.toList := by
  show (a.cps ++ b.cps).toList = _
  rw [Array.toList_append]
theorem Asc.add {a b : Str} (h1 : Asc a) (h2 : Asc b) : Asc (a ++ b) := fun c hc => by
  rw [toList_add] at hc
  rcases List.mem_append.mp hc with h | h
  · exact h1 c h
  · exact h2 c h
theorem Asc.of {z : Str} (h : z.cps.toList.all (fun c => decide (c < 128)) = true) : Asc z := fun c hc => of_decide_eq_true (List.all_eq_true.mp h c hc)
theorem Asc.one {c : Nat} (h : c < 128) : Asc ⟨#[c]⟩ := fun d hd => by
  have hd : d ∈ [c] := hd
  simp only [List.mem_cons, List.not_mem_nil, or_false] at hd
  omega
theorem Asc.nil : Asc ("" : Str) := .of (by decide +kernel)
theorem signsA_asc : Asc signsA := .of (by decide +kernel)
theorem Asc.rz {z : Str} (h : Asc z) {n : Nat} (hl : z.length ≤ n) : Rz (.str z) (10 * n + 2) 0 :=
  (Rz.str fun c hc => Nat.lt_of_lt_of_le (h c hc) (by decide)).mono (by omega) (Nat.le_refl _)
def cutT (z : Str) (a b : Option Int) : Str := ⟨(cut z.cps.toList a b).toArray⟩
theorem cutT_len (z : Str) (a b : Option Int) : (cutT z a b).length ≤ z.length := by
  have := cut_len z.cps.toList a b
  show (cut z.cps.toList a b).toArray.size ≤ z.cps.size
  rw [List.size_toArray]
  exact Nat.le_trans this (by rw [Array.length_toList]; exact Nat.le_refl _)
theorem cutT_asc {z : Str} (h : Asc z) (a b : Option Int) : Asc (cutT z a b) := fun c hc => by
  unfold cutT cut at hc
  exact h c (List.mem_of_mem_drop (List.mem_of_mem_take (by simpa using hc)))

-- import: KE.DataAny
/-! all, any of a list of truth values; sorted of a short list of texts -/
section
open PySem PySem.Spec PyProof.Rows L2
theorem RpAll.bls {K : Kw} {H : Hp} : ∀ {bs : List Bool} {vs : List V}, RpAll K H vs (bs.map D.bl) → vs = bs.map V.bl
  | [], _, h => by cases h; rfl
  | n :: ns, _, h => by
    cases h with
    | cons h1 h2 =>
      cases h1
      rw [RpAll.bls h2]
      rfl
theorem RpAll.strs {K : Kw} {H : Hp} : ∀ {bs : List Str} {vs : List V}, RpAll K H vs (bs.map D.str) → vs = bs.map V.str
  | [], _, h => by cases h; rfl
  | n :: ns, _, h => by
    cases h with
    | cons h1 h2 =>
      cases h1
      rw [RpAll.strs h2]
      rfl
theorem RpAll.ofStrs {K : Kw} {H : Hp} : ∀ (ns : List Str), RpAll K H (ns.map V.str) (ns.map D.str)
  | [] => .nil
  | n :: ns => .cons (.str n) (RpAll.ofStrs ns)
theorem reads_bls {h : Heap} : ∀ {bs : List Bool} {us : List Value}, Vals (bs.map V.bl) us → ReadsAll h us (bs.map PyData.bool) []
  | [], _, r => by cases r; exact .nil
  | b :: bs, _, r => by
    cases r with
    | cons ru rt =>
      cases ru
      exact ReadsAll.cons (as := []) (bs := []) (.bool b) (reads_bls rt)
theorem plain_bls : ∀ (bs : List Bool), PyData.plainAll (bs.map PyData.bool) = true
  | [] => by simp [PyData.plainAll]
  | b :: bs => by
    rw [List.map_cons, PyData.plainAll, plain_bls bs]
    simp [PyData.plain]
theorem fits_bls (bs : List Bool) : ∀ x ∈ bs.map PyData.bool, x.fits63 := by
  intro x hx
  obtain ⟨b, _, rfl⟩ := List.mem_map.mp hx
  simp [PyData.fits63]
theorem all_bls (bs : List Bool) : (bs.map PyData.bool).all PyData.truthy = bs.all id := by
  rw [List.all_map]
  congr 1
theorem any_bls (bs : List Bool) : (bs.map PyData.bool).any PyData.truthy = bs.any id := by
  rw [List.any_map]
  congr 1
def rAllB (K : PySem.W.Frag) : List V → Hp → VK → Prop := fun vs H Q => ∃ (a : Addr) (bs : List Bool), vs = [V.ref a] ∧ SqL K H a (bs.map V.bl) ∧ Q (.bl (bs.all id)) H
def rAnyB (K : PySem.W.Frag) : List V → Hp → VK → Prop := fun vs H Q => ∃ (a : Addr) (bs : List Bool), vs = [V.ref a] ∧ SqL K H a (bs.map V.bl) ∧ Q (.bl (bs.any id)) H
def bAllB : WB := fun ds S Q => match ds with
  | [.ref a] => onL S a fun xs => ∃ bs : List Bool, xs = bs.map D.bl ∧ Q (.bl (bs.all id)) S
  | _ => False
def bAnyB : WB := fun ds S Q => match ds with
  | [.ref a] => onL S a fun xs => ∃ bs : List Bool, xs = bs.map D.bl ∧ Q (.bl (bs.any id)) S
  | _ => False
def bSortedS : WB := fun ds S Q => match ds with
  | [.ref a] => onL S a fun xs => ∃ ts : List Str, xs = ts.map D.str ∧ ts.length < 64 ∧ ∀ ys p, ys.Perm ts → sortedS ys = true → sget S p = none → Q (.ref p) ((p, .lst (ys.map D.str)) :: S)
  | _ => False
section
variable {X : Cx}
theorem cr_allB (hc : X.calm = true) : CallR X (.builtin "all") (rAllB X.K) := by
  intro pins s σ H vs us Q I r h
  obtain ⟨a, bs, rfl, hs, q⟩ := h
  obtain ⟨its, rv, hl, _⟩ := I.list hs
  rw [Vals.ref1 r]
  refine PySem.W.all_list_data (I.ok.hd hc) hl.isList (reads_bls rv) (plain_bls bs) (fits_bls bs) fun h' tk hk => ?_
  rw [all_bls]
  exact ⟨.bl _, H, I.kept hk, rfl, q⟩
theorem cr_anyB (hc : X.calm = true) : CallR X (.builtin "any") (rAnyB X.K) := by
  intro pins s σ H vs us Q I r h
  obtain ⟨a, bs, rfl, hs, q⟩ := h
  obtain ⟨its, rv, hl, _⟩ := I.list hs
  rw [Vals.ref1 r]
  refine PySem.W.any_list_data (I.ok.hd hc) hl.isList (reads_bls rv) (plain_bls bs) (fits_bls bs) fun h' tk hk => ?_
  rw [any_bls]
  exact ⟨.bl _, H, I.kept hk, rfl, q⟩
theorem bf_allB : Bfr X (rAllB X.K) bAllB := fun ds S Q0 vs H Q h rs so ps => by
  unfold bAllB at h
  split at h
  · cases rs with
    | cons r1 r2 =>
      cases r1; cases r2
      obtain ⟨xs, e, bs, rfl, h⟩ := onL_iff.mp h
      obtain ⟨ws, e1, ra, _⟩ := so _ _ e
      have := ra.bls
      subst this
      exact ⟨_, bs, rfl, SqL.of e1, ps.here so h (.bl _)⟩
  · exact h.elim
theorem bf_anyB : Bfr X (rAnyB X.K) bAnyB := fun ds S Q0 vs H Q h rs so ps => by
  unfold bAnyB at h
  split at h
  · cases rs with
    | cons r1 r2 =>
      cases r1; cases r2
      obtain ⟨xs, e, bs, rfl, h⟩ := onL_iff.mp h
      obtain ⟨ws, e1, ra, _⟩ := so _ _ e
      have := ra.bls
      subst this
      exact ⟨_, bs, rfl, SqL.of e1, ps.here so h (.bl _)⟩
  · exact h.elim
theorem bf_sortedS : Bfr X (rSortedS X.K) bSortedS := fun ds S Q0 vs H Q h rs so ps => by
  unfold bSortedS at h
  split at h
  · cases rs with
    | cons r1 r2 =>
      cases r1; cases r2
      obtain ⟨xs, e, ts, rfl, h64, h⟩ := onL_iff.mp h
      obtain ⟨ws, e1, ra, _⟩ := so _ _ e
      have := ra.strs
      subst this
      refine ⟨_, ts, rfl, SqL.of e1, h64, fun ys p pm pw hp => ?_⟩
      have hl : (ys.map D.str).length ≤ sizeLine := by
        rw [List.length_map, pm.length_eq]
        exact small64 h64
      exact ps _ _ (h ys p pm pw (so.none hp)) _ _ (.ref p) (so.new hp (RpAll.ofStrs ys) hl) (.new S hp)
  · exact h.elim
end
end

-- import: HandS.Text
-- import: HandS.Replace
-- import: HandS.StrMore
-- math: allb
/-! methods of texts -/
section
open PySem PySem.Spec PyProof.Rows L2
section
variable {X : Cx} {e : Expr} {es : List Expr} {t : WA}
theorem q_methS {o : Expr} {to : WE} {name : Str} {id : String} {apos cpos : Pos} {r : V → List V → Hp → VK → Prop} {m : D → List D → Sto → WQ → Prop} (slot : Slot "str" name id) (hty : typeOf (.builtin id) = pure (.type "method_descriptor")) (hm : MtR X id r)
    (hr : ∀ z ds S Q0 vs H Q, m (.str z) ds S Q0 → RpAll X.kw H vs ds → SOk X.kw H S → PostE X.kw S H Q0 Q → r (.str z) vs H Q) (ho : QE X o to) (ha : QA X (e :: es) t)
    (hbase : attributeBase o name X.env (eval o X.env) = eval o X.env := by rfl)
    (hfew : ((backTo cpos (starEach (e :: es) X.env)).all (fun x => !x.1) && (backToKw cpos (keywordEach [] X.env)).all (fun x => x.1.isSome)
      && decide ((e :: es).length + ([] : List Keyword).length + (if ([] : List Keyword).isEmpty then 0 else 1) < 30)) = true := by rfl)
    (hline : (apos.endLine == cpos.line) = true := by rfl) (hs : starEach (e :: es) X.env = (false, eval e X.env) :: starEach es X.env := by rfl) (hplain : (backTo cpos (starEach es X.env)).any (·.1) = false := by rfl) :
    QE X (.Call (.Attribute o name apos) (e :: es) [] cpos) (eMethS m to t) := (pe_bm PySem.F.plainAttrs_str slot hty hm ho ha hbase hfew hline hs hplain).imp' fun σ H Q ⟨env, S, Q0, er, so, q, ps⟩ => by
  refine ⟨env, S, _, er, so, q, fun d S1 h1 v H1 rv s1 f1 => ?_⟩
  split at h1
  · cases rv
    exact ⟨rfl, env, S1, _, er.mono f1.tk, s1, h1, fun ds S2 h3 ws H2 rs s2 f2 => hr _ _ _ _ _ _ _ h3 rs s2 (ps.trans (f1.trans f2))⟩
  · exact h1.elim
def mSplit (x : D) (ds : List D) (S : Sto) (Q : WQ) : Prop := match x, ds with
  | .str a, [.str b] => ((b.length == 0) = false ∧ a.length + 2 ≤ sizeLine ∧ (Txt.split a b).length ≤ sizeLine) ∧ ∀ p, sget S p = none → Q (.ref p) ((p, .lst ((Txt.split a b).map D.str)) :: S)
  | _, _ => False
def mSIndex (x : D) (ds : List D) (S : Sto) (Q : WQ) : Prop := match x, ds with
  | .str a, [.str b] => ∃ i rest, Builtin.Str.occurrences a b 0 a.length 1 = i :: rest ∧ Q (.int (i : Nat)) S
  | _, _ => False
def mRemPre (x : D) (ds : List D) (S : Sto) (Q : WQ) : Prop := match x, ds with
  | .str a, [.str b] => a.length ≤ sizeLine ∧ Q (.str (Txt.removeprefix a b)) S
  | _, _ => False
def mSCount (x : D) (ds : List D) (S : Sto) (Q : WQ) : Prop := match x, ds with
  | .str a, [.str b] => Q (.int (Txt.count a b)) S
  | _, _ => False
def joinOk (a : Str) (ys : List Str) : Prop := (ys.map (·.length)).sum + ys.length * a.length ≤ 16777216
def mJoin (x : D) (ds : List D) (S : Sto) (Q : WQ) : Prop := match x, ds with
  | .str a, [y] => onSeq S y fun xs => ∃ ys : List Str, xs = ys.map D.str ∧ joinOk a ys ∧ Q (.str (Txt.join a ys)) S
  | _, _ => False
variable {o : Expr} {to : WE} {apos cpos : Pos}
theorem q_split (ho : QE X o to) (ha : QA X (e :: es) t)
    (hbase : attributeBase o "split" X.env (eval o X.env) = eval o X.env := by rfl)
    (hfew : ((backTo cpos (starEach (e :: es) X.env)).all (fun x => !x.1) && (backToKw cpos (keywordEach [] X.env)).all (fun x => x.1.isSome)
      && decide ((e :: es).length + ([] : List Keyword).length + (if ([] : List Keyword).isEmpty then 0 else 1) < 30)) = true := by rfl)
    (hline : (apos.endLine == cpos.line) = true := by rfl) (hs : starEach (e :: es) X.env = (false, eval e X.env) :: starEach es X.env := by rfl) (hplain : (backTo cpos (starEach es X.env)).any (·.1) = false := by rfl) :
    QE X (.Call (.Attribute o "split" apos) (e :: es) [] cpos) (eMethS mSplit to t) := q_methS PySem.F.slot_str_split PySem.F.type_str_split mt_split (fun z ds S Q0 vs H Q h rs so ps => by
  unfold mSplit at h
  split at h
  · rename_i a b he
    cases he
    cases rs with
    | cons r1 r2 =>
      cases r1; cases r2
      obtain ⟨⟨h1, h2, h3⟩, h⟩ := h
      exact ⟨_, _, rfl, rfl, h1, h2, fun p hp => ps _ _ (h p (so.none hp)) _ _ (.ref p) (so.new hp (RpAll.ofStrs _) (by rw [List.length_map]; exact h3)) (.new S hp)⟩
  · exact h.elim) ho ha hbase hfew hline hs hplain
theorem q_sindex (ho : QE X o to) (ha : QA X (e :: es) t)
    (hbase : attributeBase o "index" X.env (eval o X.env) = eval o X.env := by rfl)
    (hfew : ((backTo cpos (starEach (e :: es) X.env)).all (fun x => !x.1) && (backToKw cpos (keywordEach [] X.env)).all (fun x => x.1.isSome)
      && decide ((e :: es).length + ([] : List Keyword).length + (if ([] : List Keyword).isEmpty then 0 else 1) < 30)) = true := by rfl)
    (hline : (apos.endLine == cpos.line) = true := by rfl) (hs : starEach (e :: es) X.env = (false, eval e X.env) :: starEach es X.env := by rfl) (hplain : (backTo cpos (starEach es X.env)).any (·.1) = false := by rfl) :
    QE X (.Call (.Attribute o "index" apos) (e :: es) [] cpos) (eMethS mSIndex to t) := q_methS PySem.F.slot_str_index PySem.F.type_str_index mt_sindex (fun z ds S Q0 vs H Q h rs so ps => by
  unfold mSIndex at h
  split at h
  · rename_i a b he
    cases he
    cases rs with
    | cons r1 r2 =>
      cases r1; cases r2
      obtain ⟨i, rest, h1, h⟩ := h
      exact ⟨_, _, i, rest, rfl, rfl, h1, ps.here so h (.int _)⟩
  · exact h.elim) ho ha hbase hfew hline hs hplain
theorem q_remPre (ho : QE X o to) (ha : QA X (e :: es) t)
    (hbase : attributeBase o "removeprefix" X.env (eval o X.env) = eval o X.env := by rfl)
    (hfew : ((backTo cpos (starEach (e :: es) X.env)).all (fun x => !x.1) && (backToKw cpos (keywordEach [] X.env)).all (fun x => x.1.isSome)
      && decide ((e :: es).length + ([] : List Keyword).length + (if ([] : List Keyword).isEmpty then 0 else 1) < 30)) = true := by rfl)
    (hline : (apos.endLine == cpos.line) = true := by rfl) (hs : starEach (e :: es) X.env = (false, eval e X.env) :: starEach es X.env := by rfl) (hplain : (backTo cpos (starEach es X.env)).any (·.1) = false := by rfl) :
    QE X (.Call (.Attribute o "removeprefix" apos) (e :: es) [] cpos) (eMethS mRemPre to t) := q_methS PySem.F.slot_str_removeprefix PySem.F.type_str_removeprefix mt_removeprefix (fun z ds S Q0 vs H Q h rs so ps => by
  unfold mRemPre at h
  split at h
  · rename_i a b he
    cases he
    cases rs with
    | cons r1 r2 =>
      cases r1; cases r2
      exact ⟨_, _, rfl, rfl, h.1, ps.here so h.2 (.str _)⟩
  · exact h.elim) ho ha hbase hfew hline hs hplain
theorem q_scount (ho : QE X o to) (ha : QA X (e :: es) t)
    (hbase : attributeBase o "count" X.env (eval o X.env) = eval o X.env := by rfl)
    (hfew : ((backTo cpos (starEach (e :: es) X.env)).all (fun x => !x.1) && (backToKw cpos (keywordEach [] X.env)).all (fun x => x.1.isSome)
      && decide ((e :: es).length + ([] : List Keyword).length + (if ([] : List Keyword).isEmpty then 0 else 1) < 30)) = true := by rfl)
    (hline : (apos.endLine == cpos.line) = true := by rfl) (hs : starEach (e :: es) X.env = (false, eval e X.env) :: starEach es X.env := by rfl) (hplain : (backTo cpos (starEach es X.env)).any (·.1) = false := by rfl) :
    QE X (.Call (.Attribute o "count" apos) (e :: es) [] cpos) (eMethS mSCount to t) := q_methS PySem.F.slot_str_count PySem.F.type_str_count mt_count (fun z ds S Q0 vs H Q h rs so ps => by
  unfold mSCount at h
  split at h
  · rename_i a b he
    cases he
    cases rs with
    | cons r1 r2 =>
      cases r1; cases r2
      exact ⟨_, _, rfl, rfl, ps.here so h (.int _)⟩
  · exact h.elim) ho ha hbase hfew hline hs hplain
theorem q_sjoin (ho : QE X o to) (ha : QA X (e :: es) t)
    (hbase : attributeBase o "join" X.env (eval o X.env) = eval o X.env := by rfl)
    (hfew : ((backTo cpos (starEach (e :: es) X.env)).all (fun x => !x.1) && (backToKw cpos (keywordEach [] X.env)).all (fun x => x.1.isSome)
      && decide ((e :: es).length + ([] : List Keyword).length + (if ([] : List Keyword).isEmpty then 0 else 1) < 30)) = true := by rfl)
    (hline : (apos.endLine == cpos.line) = true := by rfl) (hs : starEach (e :: es) X.env = (false, eval e X.env) :: starEach es X.env := by rfl) (hplain : (backTo cpos (starEach es X.env)).any (·.1) = false := by rfl) :
    QE X (.Call (.Attribute o "join" apos) (e :: es) [] cpos) (eMethS mJoin to t) := q_methS PySem.F.slot_str_join PySem.F.type_str_join mt_join (fun z ds S Q0 vs H Q h rs so ps => by
  unfold mJoin at h
  split at h
  · rename_i a y he
    cases he
    cases rs with
    | cons r1 r2 =>
      cases r2
      obtain ⟨xs, hx, ys, rfl, hz, h⟩ := onSeq_iff.mp h
      obtain ⟨_, p, ws, rfl, rr, h1⟩ := seqOf_sq r1 so hx
      have := rr.strs
      subst this
      exact ⟨_, _, ys, rfl, rfl, h1.imp (·.1) (·.1), hz, ps.here so h (.str _)⟩
  · exact h.elim) ho ha hbase hfew hline hs hplain
end
end

-- import: HandS.FStr
-- math: strm
/-! f-strings; more methods of texts; int of a text -/
section
open PySem PySem.Spec PyProof.Rows L2
/-! ### f'..' -/
def fJs : List WE → Str → EV → Sto → (Str → Sto → Prop) → Prop
  | [], acc, _, S, Q => Q acc S
  | t :: ts, acc, env, S, Q => t env S fun x S1 => match x with
    | .str y => (acc ++ y).length ≤ sizeLine ∧ fJs ts (acc ++ y) env S1 Q
    | _ => False
def eFstr (ts : List WE) : WE := fun env S Q => fJs ts Str.empty env S fun out S1 => Q (.str out) S1
def eFmt (t : WE) : WE := fun env S Q => t env S fun x S1 => match x with
  | .str y => y.length ≤ sizeLine ∧ Q (.str y) S1
  | .int i => i.natAbs.log2 < 1920 ∧ Q (.str (toString i)) S1
  | _ => False
theorem js_ok {K : Kw} {σ : L2.St} {env : EV} : ∀ (ts : List WE) {acc : Str} {H : Hp} {Q : Str → Hp → Prop} {S : Sto} {R0 : Str → Sto → Prop}, ER K H σ env → SOk K H S → fJs ts acc env S R0 → (∀ out S1 H1, R0 out S1 → SOk K H1 S1 → Fr S S1 H H1 → Q out H1) → tJs (ts.map (lE K)) acc σ H Q
  | [], acc, H, Q, S, R0, er, so, h, k => k acc S H h so (.refl _ _)
  | t :: ts, acc, H, Q, S, R0, er, so, h, k => by
    refine ⟨env, S, _, er, so, h, fun d S1 h1 v H1 rv s1 f1 => ?_⟩
    split at h1
    · cases rv
      exact ⟨_, rfl, h1.1, js_ok ts (er.mono f1.tk) s1 h1.2 fun out S2 H2 r s2 f2 => k out S2 H2 r s2 (f1.trans f2)⟩
    · exact h1.elim
section
variable {X : Cx}
inductive QJ (X : Cx) : List Expr → List WE → Prop where
  | nil : QJ X [] []
  | cons {e : Expr} {t : WE} {es : List Expr} {ts : List WE} (h : QE X e t) (r : QJ X es ts) : QJ X (e :: es) (t :: ts)
theorem QJ.pj {es : List Expr} {ts : List WE} (h : QJ X es ts) : PJ X es (ts.map (lE X.kw)) := by
  induction h with
  | nil => exact .nil
  | cons h _ ih => exact .cons h ih
theorem q_fstr {v1 v2 : Expr} {rest : List Expr} {ts : List WE} {pos : Pos} (h : QJ X (v1 :: v2 :: rest) ts) : QE X (.JoinedStr (v1 :: v2 :: rest) pos) (eFstr ts) := (pe_joined h.pj).imp' fun σ H Q ⟨env, S, Q0, er, so, q, ps⟩ =>
  js_ok ts er so q fun out S1 H1 r s1 f1 => (ps.trans f1).here s1 r (.str _)
theorem q_fmt {e : Expr} {te : WE} {pos : Pos} (h : QE X e te) : QE X (.FormattedValue e (-1) none pos) (eFmt te) := (pe_fmt h).imp' fun σ H Q ⟨env, S, Q0, er, so, q, ps⟩ => by
  refine ⟨env, S, _, er, so, q, fun d S1 h1 v H1 rv s1 f1 => ?_⟩
  split at h1
  · cases rv
    exact .inl ⟨_, rfl, h1.1, (ps.trans f1).here s1 h1.2 (.str _)⟩
  · cases rv
    exact .inr ⟨_, rfl, h1.1, (ps.trans f1).here s1 h1.2 (.str _)⟩
  · exact h1.elim
end
/-! ### methods -/
def mZfill (x : D) (ds : List D) (S : Sto) (Q : WQ) : Prop := match x, ds with
  | .str a, [.int i] => PadOk i = true ∧ Q (.str (Txt.zfill a i)) S
  | _, _ => False
def mPartition (x : D) (ds : List D) (S : Sto) (Q : WQ) : Prop := match x, ds with
  | .str a, [.str b] => ((b.length == 0) = false ∧ a.length ≤ sizeLine) ∧ Q (.tup [.str (Txt.partition a b).1, .str (Txt.partition a b).2.1, .str (Txt.partition a b).2.2]) S
  | _, _ => False
def mStartswith (x : D) (ds : List D) (S : Sto) (Q : WQ) : Prop := match x, ds with
  | .str a, [.str b] => Q (.bl (Txt.startswith a b)) S
  | _, _ => False
def mIsdigit (x : D) (ds : List D) (S : Sto) (Q : WQ) : Prop := match x, ds with
  | .str a, [] => Q (.bl (Txt.isdigit a)) S
  | _, _ => False
def bIntA : WB := fun ds S Q => match ds with
  | [.int i] => Q (.int i) S
  | [.bl k] => Q (.int (if k then 1 else 0)) S
  | [.str a] => ∃ n, PySem.intText? a = some n ∧ a.length ≤ 640 ∧ Q (.int n) S
  | _ => False
section
variable {X : Cx} {e : Expr} {es : List Expr} {t : WA} {o : Expr} {to : WE} {apos cpos : Pos}
theorem q_methS0 {name : Str} {id : String} {r : V → List V → Hp → VK → Prop} {m : D → List D → Sto → WQ → Prop} (slot : Slot "str" name id) (hty : typeOf (.builtin id) = pure (.type "method_descriptor")) (hm : MtR X id r)
    (hr : ∀ z S Q0 H Q, m (.str z) [] S Q0 → SOk X.kw H S → PostE X.kw S H Q0 Q → r (.str z) [] H Q) (ho : QE X o to)
    (hbase : attributeBase o name X.env (eval o X.env) = eval o X.env := by rfl) (hline : (apos.endLine == cpos.line) = true := by rfl) :
    QE X (.Call (.Attribute o name apos) [] [] cpos) (eMethS m to aNil) := (pe_bm0 PySem.F.plainAttrs_str slot hty hm ho hbase hline).imp' fun σ H Q ⟨env, S, Q0, er, so, q, ps⟩ => by
  refine ⟨env, S, _, er, so, q, fun d S1 h1 v H1 rv s1 f1 => ?_⟩
  split at h1
  · cases rv
    exact ⟨rfl, hr _ _ _ _ _ h1 s1 (ps.trans f1)⟩
  · exact h1.elim
theorem q_isdigit (ho : QE X o to) (hbase : attributeBase o "isdigit" X.env (eval o X.env) = eval o X.env := by rfl) (hline : (apos.endLine == cpos.line) = true := by rfl) :
    QE X (.Call (.Attribute o "isdigit" apos) [] [] cpos) (eMethS mIsdigit to aNil) := q_methS0 PySem.F.slot_str_isdigit PySem.F.type_str_isdigit mt_isdigit (fun z S Q0 H Q h so ps => by
  have h : Q0 (.bl (Txt.isdigit z)) S := h
  exact ⟨z, rfl, rfl, trivial, ps.here so h (.bl _)⟩) ho hbase hline
theorem q_zfill (ho : QE X o to) (ha : QA X (e :: es) t)
    (hbase : attributeBase o "zfill" X.env (eval o X.env) = eval o X.env := by rfl)
    (hfew : ((backTo cpos (starEach (e :: es) X.env)).all (fun x => !x.1) && (backToKw cpos (keywordEach [] X.env)).all (fun x => x.1.isSome)
      && decide ((e :: es).length + ([] : List Keyword).length + (if ([] : List Keyword).isEmpty then 0 else 1) < 30)) = true := by rfl)
    (hline : (apos.endLine == cpos.line) = true := by rfl) (hs : starEach (e :: es) X.env = (false, eval e X.env) :: starEach es X.env := by rfl) (hplain : (backTo cpos (starEach es X.env)).any (·.1) = false := by rfl) :
    QE X (.Call (.Attribute o "zfill" apos) (e :: es) [] cpos) (eMethS mZfill to t) := q_methS PySem.F.slot_str_zfill PySem.F.type_str_zfill mt_zfill (fun z ds S Q0 vs H Q h rs so ps => by
  unfold mZfill at h
  split at h
  · rename_i a b he
    cases he
    cases rs with
    | cons r1 r2 =>
      cases r1; cases r2
      exact ⟨_, _, rfl, rfl, h.1, ps.here so h.2 (.str _)⟩
  · exact h.elim) ho ha hbase hfew hline hs hplain
theorem q_startswith (ho : QE X o to) (ha : QA X (e :: es) t)
    (hbase : attributeBase o "startswith" X.env (eval o X.env) = eval o X.env := by rfl)
    (hfew : ((backTo cpos (starEach (e :: es) X.env)).all (fun x => !x.1) && (backToKw cpos (keywordEach [] X.env)).all (fun x => x.1.isSome)
      && decide ((e :: es).length + ([] : List Keyword).length + (if ([] : List Keyword).isEmpty then 0 else 1) < 30)) = true := by rfl)
    (hline : (apos.endLine == cpos.line) = true := by rfl) (hs : starEach (e :: es) X.env = (false, eval e X.env) :: starEach es X.env := by rfl) (hplain : (backTo cpos (starEach es X.env)).any (·.1) = false := by rfl) :
    QE X (.Call (.Attribute o "startswith" apos) (e :: es) [] cpos) (eMethS mStartswith to t) := q_methS PySem.F.slot_str_startswith PySem.F.type_str_startswith mt_startswith (fun z ds S Q0 vs H Q h rs so ps => by
  unfold mStartswith at h
  split at h
  · rename_i a b he
    cases he
    cases rs with
    | cons r1 r2 =>
      cases r1; cases r2
      exact ⟨_, _, rfl, rfl, ps.here so h (.bl _)⟩
  · exact h.elim) ho ha hbase hfew hline hs hplain
theorem q_partition (ho : QE X o to) (ha : QA X (e :: es) t)
    (hbase : attributeBase o "partition" X.env (eval o X.env) = eval o X.env := by rfl)
    (hfew : ((backTo cpos (starEach (e :: es) X.env)).all (fun x => !x.1) && (backToKw cpos (keywordEach [] X.env)).all (fun x => x.1.isSome)
      && decide ((e :: es).length + ([] : List Keyword).length + (if ([] : List Keyword).isEmpty then 0 else 1) < 30)) = true := by rfl)
    (hline : (apos.endLine == cpos.line) = true := by rfl) (hs : starEach (e :: es) X.env = (false, eval e X.env) :: starEach es X.env := by rfl) (hplain : (backTo cpos (starEach es X.env)).any (·.1) = false := by rfl) :
    QE X (.Call (.Attribute o "partition" apos) (e :: es) [] cpos) (eMethS mPartition to t) := q_methS PySem.F.slot_str_partition PySem.F.type_str_partition mt_partition (fun z ds S Q0 vs H Q h rs so ps => by
  unfold mPartition at h
  split at h
  · rename_i a b he
    cases he
    cases rs with
    | cons r1 r2 =>
      cases r1; cases r2
      exact ⟨_, _, rfl, rfl, h.1.1, h.1.2, ps.tup so (.cons (.str _) (.cons (.str _) (.cons (.str _) .nil))) (by show 3 ≤ sizeLine; decide) h.2⟩
  · exact h.elim) ho ha hbase hfew hline hs hplain
theorem bf_intA : Bfr X (fun xs H Q => ((∃ i, xs = [V.int i] ∧ Q (.int i) H) ∨ ∃ k, xs = [V.bl k] ∧ Q (.int (if k then 1 else 0)) H) ∨ ∃ a n, xs = [V.str a] ∧ PySem.intText? a = some n ∧ a.length ≤ 640 ∧ Q (.int n) H) bIntA := fun ds S Q0 vs H Q h rs so ps => by
  unfold bIntA at h
  split at h
  · cases rs with
    | cons r1 r2 =>
      cases r1; cases r2
      exact .inl (.inl ⟨_, rfl, ps.here so h (.int _)⟩)
  · cases rs with
    | cons r1 r2 =>
      cases r1; cases r2
      exact .inl (.inr ⟨_, rfl, ps.here so h (.int _)⟩)
  · cases rs with
    | cons r1 r2 =>
      cases r1; cases r2
      obtain ⟨n, h1, h2, h3⟩ := h
      exact .inr ⟨_, n, rfl, h1, h2, ps.here so h3 (.int _)⟩
  · exact h.elim
theorem call_intA : CallR X (.type "int") (fun xs H Q => ((∃ i, xs = [V.int i] ∧ Q (.int i) H) ∨ ∃ k, xs = [V.bl k] ∧ Q (.int (if k then 1 else 0)) H) ∨ ∃ a n, xs = [V.str a] ∧ PySem.intText? a = some n ∧ a.length ≤ 640 ∧ Q (.int n) H) := call_int1.or call_int_str
end
end

-- import: KE.IntTextLaws
-- math: frac asc strn
/-! the texts of fractions -/
/-- how often p divides d, and what is left -/
def strip (p : Nat) : Nat → Nat → Nat × Nat
  | 0, d => (0, d)
  | f + 1, d => if d % p = 0 then ((strip p f (d / p)).1 + 1, (strip p f (d / p)).2) else (0, d)
theorem strip_eq {p : Nat} : ∀ (f d : Nat), d = p ^ (strip p f d).1 * (strip p f d).2
  | 0, d => by simp [strip]
  | f + 1, d => by
    unfold strip
    by_cases h : d % p = 0
    · rw [if_pos h]
      have ih := strip_eq (p := p) f (d / p)
      show d = p ^ ((strip p f (d / p)).1 + 1) * (strip p f (d / p)).2
      rw [Nat.pow_succ, Nat.mul_comm (p ^ _) p, Nat.mul_assoc, ← ih, Nat.mul_div_cancel' (Nat.dvd_of_mod_eq_zero h)]
    · rw [if_neg h]
      simp
/-- how many places behind the point -/
def dpl (d : Nat) : Option Nat :=
  let x := strip 2 d d
  let y := strip 5 x.2 x.2
  if y.2 = 1 then some (max x.1 y.1) else none
theorem dpl_dvd {d p : Nat} (h : dpl d = some p) : d ∣ 10 ^ p ∧ 2 ^ p ≤ d := by
  unfold dpl at h
  have e1 := strip_eq (p := 2) d d
  generalize strip 2 d d = x at h e1
  have e2 := strip_eq (p := 5) x.2 x.2
  dsimp only at h
  generalize strip 5 x.2 x.2 = y at h e2
  split at h
  · rename_i hy
    cases h
    rw [hy, Nat.mul_one] at e2
    rw [e2] at e1
    have a : 10 ^ max x.1 y.1 = 2 ^ max x.1 y.1 * 5 ^ max x.1 y.1 := by rw [← Nat.mul_pow]
    refine ⟨?_, ?_⟩
    · rw [e1, a]
      exact Nat.mul_dvd_mul (Nat.pow_dvd_pow 2 (Nat.le_max_left _ _)) (Nat.pow_dvd_pow 5 (Nat.le_max_right _ _))
    · rw [e1]
      rcases Nat.le_total x.1 y.1 with h | h
      · rw [Nat.max_eq_right h]
        calc 2 ^ y.1 ≤ 5 ^ y.1 := Nat.pow_le_pow_left (by decide) _
          _ ≤ 2 ^ x.1 * 5 ^ y.1 := Nat.le_mul_of_pos_left _ (Nat.pow_pos (by decide))
      · rw [Nat.max_eq_left h]
        exact Nat.le_mul_of_pos_right _ (Nat.pow_pos (by decide))
  · cases h
/-! ### texts of numbers -/
def natT (n : Nat) : Str := Str.ofString (toString (n : Int))
theorem natT_tl (n : Nat) : (natT n).cps.toList = n.repr.toList.map Char.toNat := by
  show TL.tl (Str.ofString (toString (n : Int))) = _
  rw [TL.tl_ofString]
  rfl
theorem natT_dig (n : Nat) : PySem.NumText.AllDigits (natT n).cps.toList := by
  rw [natT_tl]
  intro c hc
  rw [Nat.toList_repr] at hc
  obtain ⟨d, hd, rfl⟩ := List.mem_map.mp hc
  have := Nat.isDigit_of_mem_toDigits (by decide) (by decide) hd
  unfold Char.isDigit at this
  rw [Bool.and_eq_true, decide_eq_true_eq, decide_eq_true_eq] at this
  exact ⟨by have := this.1; rwa [ge_iff_le, UInt32.le_iff_toNat_le] at this, by have := this.2; rwa [UInt32.le_iff_toNat_le] at this⟩
theorem natT_ne (n : Nat) : (natT n).cps.toList ≠ [] := by
  rw [natT_tl, Nat.toList_repr]
  intro h
  exact Nat.toDigits_ne_nil (List.map_eq_nil_iff.mp h)
theorem str_len (z : Str) : z.length = z.cps.toList.length := by
  show z.cps.size = _
  rw [Array.length_toList]
theorem str_ext {x y : Str} (h : x.cps.toList = y.cps.toList) : x = y := Str.ext' (Array.toList_inj.mp h)
theorem str_assoc (x y z : Str) : x ++ y ++ z = x ++ (y ++ z) := str_ext (by rw [toList_add, toList_add, toList_add, toList_add, List.append_assoc])
theorem str_nil (x : Str) : (("" : String) : Str) ++ x = x := str_ext (by
  rw [toList_add]
  rfl)
theorem cutT_tl (z : Str) (a b : Option Int) : (cutT z a b).cps.toList = cut z.cps.toList a b := by
  unfold cutT
  simp
theorem cut_neg {α : Type} {l : List α} {p : Nat} (h0 : 0 < p) (h1 : p ≤ l.length) : cut l none (some (-(p : Int))) = cut l none (some ((l.length : Int) - (p : Int))) ∧ cut l (some (-(p : Int))) none = cut l (some ((l.length : Int) - (p : Int))) none := by
  have e1 : cutAt l.length l.length (some (-(p : Int))) = l.length - p := by
    show (if -(p : Int) < 0 then (-(p : Int) + (l.length : Int)).toNat else min (-(p : Int)).toNat l.length) = _
    rw [if_pos (by omega)]
    omega
  have e2 : cutAt l.length 0 (some (-(p : Int))) = l.length - p := by
    show (if -(p : Int) < 0 then (-(p : Int) + (l.length : Int)).toNat else min (-(p : Int)).toNat l.length) = _
    rw [if_pos (by omega)]
    omega
  have e3 : ∀ d, cutAt l.length d (some ((l.length : Int) - (p : Int))) = l.length - p := fun d => by
    show (if (l.length : Int) - (p : Int) < 0 then _ else min ((l.length : Int) - (p : Int)).toNat l.length) = _
    rw [if_neg (by omega)]
    omega
  unfold cut
  rw [e1, e2, e3, e3]
  exact ⟨rfl, rfl⟩
/-- with noughts ahead, to p + 1 signs -/
def padZ (p : Nat) (T : Str) : Str := Txt.mul "0" ((p : Int) + 1 - (T.length : Int)) ++ T
theorem mul_zero (k : Int) : (Txt.mul "0" k).cps.toList = List.replicate k.toNat 48 := by
  unfold Txt.mul
  by_cases h : k < 1
  · rw [if_pos h]
    have : k.toNat = 0 := by omega
    rw [this]
    rfl
  · rw [if_neg h]
    by_cases h2 : (k == 1 || (("0" : String) : Str).length == 0) = true
    · rw [if_pos h2]
      have : k = 1 := by
        rcases Bool.or_eq_true_iff.mp h2 with g | g
        · exact eq_of_beq g
        · exact absurd g (by decide +kernel)
      subst this
      rfl
    · rw [if_neg h2]
      show ((List.replicate k.toNat (("0" : String) : Str).cps).foldl (· ++ ·) #[]).toList = _
      have e : ∀ (n : Nat) (acc : Array Nat), ((List.replicate n (("0" : String) : Str).cps).foldl (· ++ ·) acc).toList = acc.toList ++ List.replicate n 48 := fun n => by
        induction n with
        | zero => intro acc; simp
        | succ n ih =>
          intro acc
          rw [List.replicate_succ, List.foldl_cons, ih, Array.toList_append, List.append_assoc, List.replicate_succ]
          rfl
      rw [e]
      rfl
theorem padZ_tl (p : Nat) (T : Str) : (padZ p T).cps.toList = List.replicate (p + 1 - T.length) 48 ++ T.cps.toList := by
  unfold padZ
  rw [toList_add, mul_zero]
  congr 2
  omega
theorem padZ_len (p : Nat) (T : Str) : (padZ p T).length = max (p + 1) T.length := by
  rw [str_len, padZ_tl, List.length_append, List.length_replicate, ← str_len]
  omega
theorem zfill_pad (p n : Nat) : Txt.zfill (natT n) ((p : Int) + 1) = padZ p (natT n) := by
  have hd := natT_dig n
  have hn := natT_ne n
  generalize natT n = T at *
  refine str_ext ?_
  rw [padZ_tl]
  unfold Txt.zfill
  by_cases h : ((p : Int) + 1) ≤ (T.length : Int)
  · rw [if_pos h]
    have : p + 1 - T.length = 0 := by omega
    rw [this]
    rfl
  · rw [if_neg h]
    have e : zfilled T (((p : Int) + 1).toNat - T.length) = Builtin.Str.padded T (((p : Int) + 1).toNat - T.length) 0 48 := by
      unfold zfilled
      cases hc : T.cps[0]? with
      | none => rfl
      | some c =>
        have hm : c ∈ T.cps.toList := by
          rw [← Array.getElem?_toList] at hc
          exact List.mem_of_getElem? hc
        have := hd c hm
        split
        · rename_i h; cases h; omega
        · rename_i h; cases h; omega
        · rfl
    rw [e, PyProof.Rows.padded_list, List.replicate_zero, List.append_nil]
    congr 2
/-- the text without its sign -/
def bodyT (p : Nat) (T : Str) : Str := if 0 < p then cutT (padZ p T) none (some (((padZ p T).length : Int) - (p : Int))) ++ "." ++ cutT (padZ p T) (some (((padZ p T).length : Int) - (p : Int))) none else T
def ftx (n : Int) (d : Nat) : Str := match dpl d with
  | none => (Str.ofString (toString n) ++ "/") ++ Str.ofString (toString (d : Int))
  | some p => if n < 0 then "-" ++ bodyT p (natT (n.natAbs * (10 ^ p / d))) else bodyT p (natT (n.natAbs * (10 ^ p / d)))
theorem padZ_zero {T : Str} (h : T.cps.toList ≠ []) : padZ 0 T = T := by
  refine str_ext ?_
  rw [padZ_tl]
  have : 0 < T.length := by rw [str_len]; exact List.length_pos_iff.mpr h
  have e : 0 + 1 - T.length = 0 := by omega
  rw [e]
  rfl
theorem empty_add (x : Str) : Str.empty ++ x = x := str_ext (by
  rw [toList_add]
  rfl)
theorem cutT_neg {z : Str} {p : Nat} (h0 : 0 < p) (h1 : p ≤ z.length) : cutT z none (some (-(p : Int))) = cutT z none (some ((z.length : Int) - (p : Int))) ∧ cutT z (some (-(p : Int))) none = cutT z (some ((z.length : Int) - (p : Int))) none := by
  have e := cut_neg (l := z.cps.toList) h0 (by rw [← str_len]; exact h1)
  rw [str_len]
  exact ⟨str_ext (by rw [cutT_tl, cutT_tl]; exact e.1), str_ext (by rw [cutT_tl, cutT_tl]; exact e.2)⟩
theorem pad_ok {k : Nat} (h : k ≤ 1001) : PadOk ((k : Nat) : Int) = true := by
  have big : 2000 ≤ sizeLine := by decide
  have a : fitsSsize ((k : Nat) : Int) = true := by
    unfold fitsSsize
    simp
    omega
  have b : Builtin.Str.tooLong ((k : Nat) : Int).toNat = false := by
    unfold Builtin.Str.tooLong
    simp
    omega
  unfold PadOk
  rw [a, b]
  rfl
theorem text_len {i : Int} (hi : i.natAbs < 2 ^ 1900) : (Str.ofString (toString i)).length ≤ 601 := by
  rw [PySem.ofString_length]
  exact PySem.int_text_length_le10 (k := 600) (by decide) (Nat.lt_of_lt_of_le hi (by decide +kernel))
/-- what a fraction's parts are at most -/
structure FB (n : Int) (d p : Nat) : Prop where
  pl : p ≤ 400
  m : n.natAbs * (10 ^ p / d) < 2 ^ 1900
  t : (10 ^ p).log2 ≤ 1600
theorem fb_of {n : Int} {d p : Nat} (hn : n.natAbs < 2 ^ 400) (hd : d < 2 ^ 400) (h : dpl d = some p) : FB n d p := by
  have pw := (dpl_dvd h).2
  have hp : p < 400 := (Nat.pow_lt_pow_iff_right (a := 2) (by decide)).mp (Nat.lt_of_le_of_lt pw hd)
  have ht : 10 ^ p ≤ 10 ^ 400 := Nat.pow_le_pow_right (by decide) (by omega)
  have h10 : 10 ^ 400 < 2 ^ 1400 := by decide +kernel
  refine ⟨Nat.le_of_lt hp, ?_, ?_⟩
  · have h1 : 10 ^ p / d ≤ 10 ^ p := Nat.div_le_self _ _
    calc n.natAbs * (10 ^ p / d) ≤ 2 ^ 400 * 10 ^ 400 := Nat.mul_le_mul (Nat.le_of_lt hn) (Nat.le_trans h1 ht)
      _ < 2 ^ 1900 := by decide +kernel
  · have : (10 ^ p).log2 < 1400 := log2_of (Nat.lt_of_le_of_lt ht h10) (by decide)
    omega
theorem dig_asc {z : Str} (h : PySem.NumText.AllDigits z.cps.toList) : Asc z := fun c hc => by
  have := h c hc
  omega
theorem int_asc (i : Int) : Asc (Str.ofString (toString i)) := by
  cases i with
  | ofNat n => exact dig_asc (natT_dig n)
  | negSucc n =>
    intro c hc
    have e : (Str.ofString (toString (Int.negSucc n))).cps.toList = ("-" ++ (n + 1).repr).toList.map Char.toNat := by
      show TL.tl (Str.ofString (toString (Int.negSucc n))) = _
      rw [TL.tl_ofString]
      rfl
    rw [e, String.toList_append, List.map_append] at hc
    rcases List.mem_append.mp hc with h | h
    · have e2 : ("-" : String).toList.map Char.toNat = [45] := by decide +kernel
      rw [e2] at h
      rw [List.mem_singleton.mp h]
      decide
    · have := natT_dig (n + 1)
      rw [natT_tl] at this
      have := this c h
      omega
theorem body_ok {p : Nat} {T : Str} (hp : p ≤ 400) (hT : T.length ≤ 601) (hd : PySem.NumText.AllDigits T.cps.toList) : (bodyT p T).length ≤ 3000 ∧ Asc (bodyT p T) := by
  have pl := padZ_len p T
  have pa : Asc (padZ p T) := fun c hc => by
    rw [padZ_tl] at hc
    rcases List.mem_append.mp hc with h | h
    · rw [(List.mem_replicate.mp h).2]; decide
    · have := hd c h; omega
  have s2 : (("." : String) : Str).length = 1 := by decide +kernel
  unfold bodyT
  split
  · have k1 := cutT_len (padZ p T) none (some (((padZ p T).length : Int) - (p : Int)))
    have k2 := cutT_len (padZ p T) (some (((padZ p T).length : Int) - (p : Int))) none
    exact ⟨by rw [len_add, len_add]; omega, ((cutT_asc pa _ _).add (.of (by decide +kernel))).add (cutT_asc pa _ _)⟩
  · exact ⟨by omega, dig_asc hd⟩
theorem ftx_ok {n : Int} {d : Nat} (hn : n.natAbs < 2 ^ 400) (hd : d < 2 ^ 400) : (ftx n d).length ≤ 3001 ∧ Asc (ftx n d) := by
  have s1 := text_len (i := n) (Nat.lt_of_lt_of_le hn (Nat.pow_le_pow_right (by decide) (by decide)))
  have s2 := text_len (i := (d : Int)) (Nat.lt_of_lt_of_le (show (d : Int).natAbs < 2 ^ 400 from hd) (Nat.pow_le_pow_right (by decide) (by decide)))
  have s3 : (("/" : String) : Str).length = 1 := by decide +kernel
  have s4 : (("-" : String) : Str).length = 1 := by decide +kernel
  unfold ftx
  cases h : dpl d with
  | none => exact ⟨by rw [len_add, len_add]; omega, ((int_asc n).add (.of (by decide +kernel))).add (int_asc d)⟩
  | some p =>
    have fb := fb_of hn hd h
    have tl : (natT (n.natAbs * (10 ^ p / d))).length ≤ 601 := text_len (i := ((n.natAbs * (10 ^ p / d) : Nat) : Int)) fb.m
    have bo := body_ok fb.pl tl (natT_dig _)
    dsimp only
    split
    · exact ⟨by rw [len_add]; omega, (Asc.of (by decide +kernel)).add bo.2⟩
    · exact ⟨by omega, bo.2⟩

-- math: ftext
/-! fractions read from texts -/
open PySem.NumText (AllDigits digitsVal)
def negS (z : Str) : Bool := z.cps.toList.head? == some 45
def bodyL (z : Str) : List Nat := if negS z then z.cps.toList.tail else z.cps.toList
def dgL (l : List Nat) : Bool := !l.isEmpty && l.all fun c => decide (48 ≤ c ∧ c ≤ 57)
def befC (c : Nat) (l : List Nat) : List Nat := l.takeWhile (· != c)
def aftC (c : Nat) (l : List Nat) : List Nat := (l.dropWhile (· != c)).drop 1
theorem bef_aft {c : Nat} : ∀ {l : List Nat}, c ∈ l → l = befC c l ++ c :: aftC c l ∧ c ∉ befC c l
  | x :: l, h => by
    unfold befC aftC
    by_cases hx : x = c
    · subst hx
      simp
    · have hm : c ∈ l := (List.mem_cons.mp h).resolve_left fun e => hx e.symm
      obtain ⟨e1, e2⟩ := bef_aft hm
      have hb : (x != c) = true := by simp [hx]
      rw [List.takeWhile_cons_of_pos (p := (· != c)) hb, List.dropWhile_cons_of_pos (p := (· != c)) hb]
      refine ⟨?_, ?_⟩
      · rw [List.cons_append]
        congr 1
      · intro hm2
        rcases List.mem_cons.mp hm2 with e | e
        · exact hx e.symm
        · exact e2 e
theorem bef_of {c : Nat} : ∀ {a r : List Nat}, c ∉ a → befC c (a ++ c :: r) = a ∧ aftC c (a ++ c :: r) = r
  | [], r, _ => by simp [befC, aftC]
  | x :: a, r, h => by
    have hx : (x != c) = true := by
      have : x ≠ c := fun e => h (by rw [e]; exact List.mem_cons_self)
      simp [this]
    obtain ⟨e1, e2⟩ := bef_of (r := r) (fun m => h (List.mem_cons_of_mem x m))
    unfold befC aftC at *
    rw [List.cons_append, List.takeWhile_cons_of_pos (p := (· != c)) hx, List.dropWhile_cons_of_pos (p := (· != c)) hx, e1, e2]
    exact ⟨rfl, rfl⟩
/-- numerator, denominator -/
def rdv (b : List Nat) : Option (Nat × Nat) :=
  if 47 ∈ b then (if dgL (befC 47 b) && dgL (aftC 47 b) then some (digitsVal (befC 47 b), digitsVal (aftC 47 b)) else none)
  else if 46 ∈ b then (if dgL (befC 46 b) && dgL (aftC 46 b) then some (digitsVal (befC 46 b ++ aftC 46 b), 10 ^ (aftC 46 b).length) else none)
  else if dgL b then some (digitsVal b, 1) else none
noncomputable def rdF (z : Str) : Option Fq := match rdv (bodyL z) with
  | none => none
  | some (n, d) => if d = 0 then none else if ftx (low (if negS z then -(n : Int) else (n : Int)) (d : Int)).n (low (if negS z then -(n : Int) else (n : Int)) (d : Int)).d.toNat = z then some (low (if negS z then -(n : Int) else (n : Int)) (d : Int)) else none
def oQ : Option Fq → D
  | none => .non
  | some x => x.t
theorem dg_all {l : List Nat} (h : dgL l = true) : AllDigits l ∧ l ≠ [] := by
  unfold dgL at h
  rw [Bool.and_eq_true, List.all_eq_true] at h
  refine ⟨fun c hc => of_decide_eq_true (h.2 c hc), fun e => ?_⟩
  rw [e] at h
  exact absurd h.1 (by decide)
theorem dg_no {l : List Nat} {c : Nat} (hc : c ∈ l) (h : c < 48) : dgL l = false := by
  cases e : dgL l with
  | false => rfl
  | true => exact absurd ((dg_all e).1 c hc) (by omega)
theorem dv_lt : ∀ (l : List Nat) (a k : Nat), AllDigits l → a < 10 ^ k → l.foldl (fun acc c => acc * 10 + (c - 48)) a < 10 ^ (k + l.length)
  | [], a, k, _, h => h
  | c :: l, a, k, hd, h => by
    rw [List.foldl_cons, List.length_cons, show k + (l.length + 1) = (k + 1) + l.length by omega]
    refine dv_lt l _ (k + 1) (fun d hm => hd d (List.mem_cons_of_mem _ hm)) ?_
    have := hd c List.mem_cons_self
    rw [Nat.pow_succ]
    omega
theorem dv_bd {l : List Nat} (hd : AllDigits l) (hl : l.length ≤ 100) : digitsVal l < 2 ^ 340 := by
  have h := dv_lt l 0 0 hd (by decide)
  refine Nat.lt_of_lt_of_le h ?_
  rw [Nat.zero_add]
  exact Nat.le_trans (Nat.pow_le_pow_right (by decide) hl) (by decide +kernel)
theorem minus_one : (("-" : String) : Str).length = 1 ∧ (("-" : String) : Str).cps.size = 1 ∧ (("-" : String) : Str).cps.toList = [45] := by decide +kernel
theorem sub_at (z : Str) : Builtin.Str.subAt z "-" 0 = negS z := by
  unfold Builtin.Str.subAt negS
  rw [Bool.eq_iff_iff, beq_iff_eq, beq_iff_eq, ← Array.toList_inj, Array.toList_extract, minus_one.2.2, minus_one.1]
  show List.take 1 (List.drop 0 z.cps.toList) = [45] ↔ _
  rw [List.drop_zero]
  cases z.cps.toList with
  | nil => simp
  | cons a l => simp
theorem neg_cons {z : Str} (h : negS z = true) : ∃ l, z.cps.toList = 45 :: l := by
  unfold negS at h
  cases hl : z.cps.toList with
  | nil => rw [hl] at h; cases h
  | cons a l =>
    rw [hl] at h
    have : a = 45 := by simpa using h
    exact ⟨l, by rw [this]⟩
theorem starts_eq (z : Str) : Txt.startswith z "-" = negS z := by
  unfold Txt.startswith
  rw [sub_at, minus_one.1]
  cases h : negS z with
  | false => simp
  | true =>
    obtain ⟨l, e⟩ := neg_cons h
    have : 0 + 1 ≤ z.length := by
      rw [str_len, e]
      simp
    simp [this]
theorem rempre_tl (z : Str) : (Txt.removeprefix z "-").cps.toList = bodyL z := by
  unfold Txt.removeprefix bodyL
  rw [sub_at, minus_one.1]
  cases h : negS z with
  | false => rfl
  | true =>
    obtain ⟨l, e⟩ := neg_cons h
    have ln : z.length = l.length + 1 := by rw [str_len, e]; rfl
    simp only [if_true]
    show (if (z.length - 1 == z.length) = true then z else PySem.Builtin.Str.strSub z 1 z.length).cps.toList = _
    rw [if_neg (by rw [beq_iff_eq]; omega)]
    have := TL.tl_strSub_end z 1
    show TL.tl _ = _
    rw [this]
    show List.drop 1 z.cps.toList = _
    rw [e]
    rfl
theorem cut_1 {α : Type} (l : List α) : cut l none (some 1) = l.take 1 := by
  cases l with
  | nil => rfl
  | cons a l => exact cut_to (by decide) (by simp)
theorem cut_r {α : Type} {l : List α} (h : l ≠ []) : cut l (some 1) none = l.tail := by
  cases l with
  | nil => exact absurd rfl h
  | cons a l => exact cut_from (by decide) (by simp)
theorem cut1 (z : Str) : decide (cutT z none (some 1) = (("-" : String) : Str)) = negS z := by
  rw [Bool.eq_iff_iff, decide_eq_true_eq]
  unfold negS
  rw [beq_iff_eq]
  constructor
  · intro h
    have : (cutT z none (some 1)).cps.toList = (("-" : String) : Str).cps.toList := by rw [h]
    rw [cutT_tl, cut_1, minus_one.2.2] at this
    cases hl : z.cps.toList with
    | nil => rw [hl] at this; cases this
    | cons a l =>
      rw [hl] at this
      have : a = 45 := by simpa using this
      rw [this]
      rfl
  · intro h
    refine str_ext ?_
    rw [cutT_tl, cut_1, minus_one.2.2]
    cases hl : z.cps.toList with
    | nil => rw [hl] at h; cases h
    | cons a l =>
      rw [hl] at h
      have : a = 45 := by simpa using h
      rw [this]
      rfl
theorem cutR_tl {z : Str} (h : negS z = true) : (cutT z (some 1) none).cps.toList = bodyL z := by
  obtain ⟨l, e⟩ := neg_cons h
  rw [cutT_tl, cut_r (by rw [e]; simp)]
  unfold bodyL
  rw [if_pos h]
theorem low_minus {n d : Int} (h : 0 < d) : low (-n) d = ⟨-(low n d).n, (low n d).d⟩ := by
  unfold low
  rw [if_neg (by omega), if_neg (by omega), Int.natAbs_neg]
  have hg : ((Nat.gcd n.natAbs d.natAbs : Nat) : Int) ∣ n := Int.ofNat_dvd_left.mpr (Nat.gcd_dvd_left _ _)
  rw [Int.neg_ediv_of_dvd hg]
theorem part_hit {B y : Str} {c : Nat} (ey : TL.tl y = [c]) (h : c ∈ B.cps.toList) : ∃ A C : Str, Txt.partition B y = (A, y, C) ∧ A.cps.toList = befC c B.cps.toList ∧ C.cps.toList = aftC c B.cps.toList := by
  obtain ⟨e1, e2⟩ := bef_aft h
  refine ⟨⟨(befC c B.cps.toList).toArray⟩, ⟨(aftC c B.cps.toList).toArray⟩, ?_, by simp, by simp⟩
  have e : B = ⟨(befC c B.cps.toList).toArray⟩ ++ y ++ ⟨(aftC c B.cps.toList).toArray⟩ := str_ext (by
    rw [toList_add, toList_add]
    show _ = (befC c B.cps.toList).toArray.toList ++ TL.tl y ++ (aftC c B.cps.toList).toArray.toList
    rw [ey]
    simpa using e1)
  conv => lhs; rw [e]
  exact TL.partition_app (s := c) (S := []) ey (by
    show c ∉ (befC c B.cps.toList).toArray.toList
    simpa using e2)
theorem part_miss {B y : Str} {c : Nat} (ey : TL.tl y = [c]) (h : c ∉ B.cps.toList) : Txt.partition B y = (B, Str.empty, Str.empty) := TL.partition_none (s := c) (S := []) ey h
theorem int_dg {z : Str} (h : dgL z.cps.toList = true) (hl : z.length ≤ 600) : PySem.intText? z = some ((digitsVal z.cps.toList : Nat) : Int) ∧ z.length ≤ 640 :=
  ⟨PySem.intText_digits (dg_all h).1 (dg_all h).2 (by omega), by omega⟩
theorem bodyL_len (z : Str) : (bodyL z).length ≤ z.length := by
  rw [str_len]
  unfold bodyL
  split
  · rw [List.length_tail]; omega
  · exact Nat.le_refl _
theorem bef_len {c : Nat} {l : List Nat} : (befC c l).length + (aftC c l).length ≤ l.length := by
  have := congrArg List.length (List.takeWhile_append_dropWhile (p := (· != c)) (l := l))
  rw [List.length_append] at this
  unfold befC aftC
  rw [List.length_drop]
  omega
structure RdB (n d : Nat) : Prop where
  n : n < 2 ^ 340
  d : d < 2 ^ 340
theorem ten_bd {k : Nat} (h : k ≤ 100) : 10 ^ k < 2 ^ 340 := Nat.lt_of_le_of_lt (Nat.pow_le_pow_right (by decide) h) (by decide +kernel)
theorem rdv_bd {b : List Nat} {n d : Nat} (hl : b.length ≤ 100) (h : rdv b = some (n, d)) : RdB n d := by
  unfold rdv at h
  have b1 := bef_len (c := 47) (l := b)
  have b2 := bef_len (c := 46) (l := b)
  split at h
  · split at h
    · rename_i g
      rw [Bool.and_eq_true] at g
      cases h
      exact ⟨dv_bd (dg_all g.1).1 (by omega), dv_bd (dg_all g.2).1 (by omega)⟩
    · cases h
  · split at h
    · split at h
      · rename_i g
        rw [Bool.and_eq_true] at g
        cases h
        refine ⟨dv_bd (fun c hc => ?_) (by rw [List.length_append]; omega), ten_bd (by omega)⟩
        rcases List.mem_append.mp hc with m | m
        · exact (dg_all g.1).1 c m
        · exact (dg_all g.2).1 c m
      · cases h
    · split at h
      · rename_i g
        cases h
        exact ⟨dv_bd (dg_all g).1 hl, by decide +kernel⟩
      · cases h
theorem rdF_ok {z : Str} {x : Fq} (hz : z.length ≤ 100) (h : rdF z = some x) : x.Ok 400 := by
  have hbl := bodyL_len z
  unfold rdF at h
  split at h
  · cases h
  · rename_i n d hr
    have hb := rdv_bd (by omega) hr
    have hm : Bd 340 (if negS z then -(n : Int) else (n : Int)) := by
      have := hb.n
      unfold Bd
      split
      · rw [Int.natAbs_neg]; exact this
      · exact this
    generalize (if negS z then -(n : Int) else (n : Int)) = m at hm h
    by_cases g0 : d = 0
    · rw [if_pos g0] at h
      cases h
    · rw [if_neg g0] at h
      by_cases g1 : ftx (low m (d : Int)).n (low m (d : Int)).d.toNat = z
      · rw [if_pos g1] at h
        rw [← Option.some.inj h]
        exact low_ok (by omega) (hm.mono (by decide)) (Bd.mono (show Bd 340 (d : Int) from hb.d) (by decide))
      · rw [if_neg g1] at h
        cases h
theorem oQ_py {z : Str} (hz : z.length ≤ 100) : ∃ p, (∀ S, PyR S (oQ (rdF z)) p) ∧ rpOk p := by
  cases h : rdF z with
  | none => exact ⟨.none, fun S => .non, Rz.non.ok (by decide) (by decide)⟩
  | some x => exact ⟨x.p, fun S => x.pyr S, Fq.ok (rdF_ok hz h) (by decide)⟩
theorem cut100 (T : Str) : (cutT T none (some 100)).length ≤ 100 := by
  rw [str_len, cutT_tl]
  unfold cut
  have h : cutAt T.cps.toList.length T.cps.toList.length (some 100) ≤ 100 := by
    show (if (100 : Int) < 0 then ((100 : Int) + (T.cps.toList.length : Int)).toNat else min (100 : Int).toNat T.cps.toList.length) ≤ 100
    rw [if_neg (by decide)]
    exact Nat.min_le_left _ _
  rw [List.length_take]
  omega

-- math: fread
/-! fractions read by splitting -/
def spL (c : Nat) (l : List Nat) : List (List Nat) := TL.spl [c] 0 [] l
theorem spL_no {c : Nat} {l : List Nat} (h : c ∉ l) : spL c l = [l] := TL.spl_last1 (s := c) (S := []) h
theorem spL_yes {c : Nat} {l : List Nat} (h : c ∈ l) : spL c l = befC c l :: spL c (aftC c l) := by
  obtain ⟨e1, e2⟩ := bef_aft h
  conv => lhs; rw [e1]
  exact TL.spl_part1 (s := c) (S := []) (acc := []) (rest := aftC c l) e2
theorem spL_ne (c : Nat) (l : List Nat) : 1 ≤ (spL c l).length := by
  by_cases h : c ∈ l
  · rw [spL_yes h, List.length_cons]; omega
  · rw [spL_no h]; exact Nat.le_refl _
theorem spL_mem {c x : Nat} (hx : x ≠ c) : ∀ (k : Nat) (l : List Nat), l.length ≤ k → x ∈ l → ∃ p ∈ spL c l, x ∈ p
  | 0, l, hl, hm => by
    have := List.eq_nil_of_length_eq_zero (Nat.le_zero.mp hl)
    subst this
    cases hm
  | k + 1, l, hl, hm => by
    by_cases h : c ∈ l
    · obtain ⟨e1, _⟩ := bef_aft h
      rw [spL_yes h]
      rw [e1] at hm
      rcases List.mem_append.mp hm with g | g
      · exact ⟨_, List.mem_cons_self, g⟩
      · have g := (List.mem_cons.mp g).resolve_left hx
        have ll := congrArg List.length e1
        rw [List.length_append, List.length_cons] at ll
        obtain ⟨p, hp, hxp⟩ := spL_mem hx k (aftC c l) (by omega) g
        exact ⟨p, List.mem_cons_of_mem _ hp, hxp⟩
    · rw [spL_no h]
      exact ⟨l, List.mem_singleton.mpr rfl, hm⟩
theorem split_spL {B y : Str} {c : Nat} (ey : TL.tl y = [c]) (hc : c < 256) : (Txt.split B y).map (·.cps.toList) = spL c B.cps.toList := by
  have h := TL.split_spl B y (by rw [ey]; simp) (TL.kind_ok (x := B) (y := y) (by
    rw [← Array.all_toList]
    show (TL.tl y).all _ = true
    rw [ey]
    simp [hc]))
  rw [ey] at h
  exact h
theorem spL_sub {c x : Nat} : ∀ (k : Nat) (l : List Nat), l.length ≤ k → ∀ p ∈ spL c l, x ∈ p → x ∈ l
  | 0, l, hl, p, hp, hx => by
    have := List.eq_nil_of_length_eq_zero (Nat.le_zero.mp hl)
    subst this
    rw [spL_no (by simp)] at hp
    rw [List.mem_singleton.mp hp] at hx
    exact hx
  | k + 1, l, hl, p, hp, hx => by
    by_cases h : c ∈ l
    · obtain ⟨e1, _⟩ := bef_aft h
      have ll := congrArg List.length e1
      rw [List.length_append, List.length_cons] at ll
      rw [spL_yes h] at hp
      rw [e1]
      rcases List.mem_cons.mp hp with rfl | hp
      · exact List.mem_append_left _ hx
      · exact List.mem_append_right _ (List.mem_cons_of_mem _ (spL_sub k _ (by omega) p hp hx))
    · rw [spL_no h] at hp
      rw [List.mem_singleton.mp hp] at hx
      exact hx
theorem spL_sum {c : Nat} : ∀ (k : Nat) (l : List Nat), l.length ≤ k → ((spL c l).map List.length).sum ≤ l.length ∧ (spL c l).length ≤ l.length + 1
  | 0, l, hl => by
    have := List.eq_nil_of_length_eq_zero (Nat.le_zero.mp hl)
    subst this
    rw [spL_no (by simp)]
    exact ⟨by simp, by simp⟩
  | k + 1, l, hl => by
    by_cases h : c ∈ l
    · obtain ⟨e1, _⟩ := bef_aft h
      have ll := congrArg List.length e1
      rw [List.length_append, List.length_cons] at ll
      have := spL_sum (c := c) k (aftC c l) (by omega)
      rw [spL_yes h, List.map_cons, List.sum_cons, List.length_cons]
      omega
    · rw [spL_no h]
      exact ⟨by simp, by simp⟩
theorem dig_uni : ∀ c, c < 128 → Unicode.isDigit c = decide (48 ≤ c ∧ c ≤ 57) := by
  have h : (List.range 128).all (fun c => Unicode.isDigit c == decide (48 ≤ c ∧ c ≤ 57)) = true := by decide +kernel
  intro c hc
  exact eq_of_beq (List.all_eq_true.mp h c (List.mem_range.mpr hc))
theorem isdigit_eq {z : Str} (h : Asc z) : Txt.isdigit z = dgL z.cps.toList := by
  unfold Txt.isdigit dgL
  rw [← Array.all_toList]
  congr 1
  · rw [Bool.eq_iff_iff, decide_eq_true_eq, Bool.not_eq_true', List.isEmpty_eq_false_iff, str_len]
    exact List.length_pos_iff
  · rw [Bool.eq_iff_iff, List.all_eq_true, List.all_eq_true]
    constructor
    · intro g c hc
      rw [← dig_uni c (h c hc)]
      exact g c hc
    · intro g c hc
      rw [dig_uni c (h c hc)]
      exact g c hc
theorem two_of {α : Type} {l : List α} (h : l.length = 2) : ∃ a b, l = [a, b] := by
  match l, h with
  | [a, b], _ => exact ⟨a, b, rfl⟩
abbrev tlS (p : Str) : List Nat := p.cps.toList
/-- parts and scale as the law has them, for the text's body b -/
structure Outp (b : List Nat) (ps : List Str) (s : Nat) : Prop where
  asc : ∀ p ∈ ps, Asc p
  ne : 1 ≤ ps.length
  len : (ps.map (·.length)).sum ≤ 100
  few : ps.length ≤ 101
  sb : s < 2 ^ 340
  yes : ps.length ≤ 2 → (∀ l ∈ ps.map tlS, dgL l = true) → rdv b = some (PySem.NumText.digitsVal (ps.map tlS).flatten, s)
  no : ¬ (ps.length ≤ 2 ∧ ∀ l ∈ ps.map tlS, dgL l = true) → rdv b = none
theorem outp_slash {b : List Nat} {A C : Str} (h : 47 ∈ b) (hb : b.length ≤ 100) (hA : A.cps.toList = befC 47 b) (hC : C.cps.toList = aftC 47 b) (hasc : Asc A) (g : dgL C.cps.toList = true) : Outp b [A] (PySem.NumText.digitsVal C.cps.toList) := by
  have hl := bef_len (c := 47) (l := b)
  refine ⟨fun p hp => ?_, Nat.le_refl _, ?_, by show 1 ≤ 101; decide, dv_bd (dg_all g).1 (by rw [hC]; omega), fun _ h2 => ?_, fun h2 => ?_⟩
  · rw [List.mem_singleton.mp hp]
    exact hasc
  · show A.length + 0 ≤ 100
    rw [str_len, hA]
    omega
  · have gA := h2 A.cps.toList (by simp [tlS])
    unfold rdv
    rw [if_pos h, ← hA, ← hC, gA, g]
    simp [tlS]
  · have gA : dgL A.cps.toList = false := by
      cases e : dgL A.cps.toList with
      | false => rfl
      | true => exact absurd ⟨(by show 1 ≤ 2; decide), fun l hl => by
          simp only [List.map_cons, List.map_nil, List.mem_singleton] at hl
          rw [hl]
          exact e⟩ h2
    unfold rdv
    rw [if_pos h, ← hA, gA]
    rfl
theorem outp_dot {B : Str} {s : Nat} (hasc : Asc B) (hb : B.length ≤ 100) (h47 : 47 ∈ B.cps.toList → dgL (aftC 47 B.cps.toList) = false)
    (hs : s = if (Txt.split B ".").length = 2 then 10 ^ ((Txt.split B ".").getD 1 "").length else 1) : Outp B.cps.toList (Txt.split B ".") s := by
  have e : (Txt.split B ".").map tlS = spL 46 B.cps.toList := split_spL (B := B) (y := ".") (c := 46) (by decide +kernel) (by decide)
  have ln : (Txt.split B ".").length = (spL 46 B.cps.toList).length := by rw [← e, List.length_map]
  have hbl : B.cps.toList.length ≤ 100 := by rw [← str_len]; exact hb
  generalize hps : Txt.split B "." = ps at *
  have sm := spL_sum (c := 46) _ _ (Nat.le_refl B.cps.toList.length)
  have hsum : (ps.map (·.length)).sum = ((spL 46 B.cps.toList).map List.length).sum := by
    rw [← e, List.map_map]
    congr 1
  have hsec : s < 2 ^ 340 := by
    rw [hs]
    split
    · rename_i h2
      refine ten_bd ?_
      obtain ⟨p, q, rfl⟩ := two_of h2
      simp only [List.map_cons, List.map_nil, List.sum_cons, List.sum_nil] at hsum
      show q.length ≤ 100
      omega
    · decide +kernel
  refine ⟨fun p hp c hc => ?_, by rw [ln]; exact spL_ne _ _, by omega, by omega, hsec, fun h2 hd => ?_, fun hn => ?_⟩
  · exact hasc c (spL_sub _ _ (Nat.le_refl _) p.cps.toList (by rw [← e]; exact List.mem_map.mpr ⟨p, hp, rfl⟩) hc)
  · rw [e] at hd ⊢
    have n47 : 47 ∉ B.cps.toList := fun h => by
      obtain ⟨p, hp, hx⟩ := spL_mem (c := 46) (x := 47) (by decide) _ _ (Nat.le_refl _) h
      have := hd p hp
      rw [dg_no hx (by decide)] at this
      cases this
    unfold rdv
    rw [if_neg n47]
    by_cases h46 : 46 ∈ B.cps.toList
    · have e2 := spL_yes h46
      have l2 : (spL 46 (aftC 46 B.cps.toList)).length = 1 := by
        have := spL_ne 46 (aftC 46 B.cps.toList)
        rw [ln, e2, List.length_cons] at h2
        omega
      have n46 : 46 ∉ aftC 46 B.cps.toList := fun h => by
        rw [spL_yes h, List.length_cons] at l2
        have := spL_ne 46 (aftC 46 (aftC 46 B.cps.toList))
        omega
      rw [spL_no n46] at e2
      rw [e2] at hd ⊢
      have g1 := hd (befC 46 B.cps.toList) (by simp)
      have g2 := hd (aftC 46 B.cps.toList) (by simp)
      rw [if_pos h46, g1, g2]
      have hs2 : s = 10 ^ (aftC 46 B.cps.toList).length := by
        rw [hs, if_pos (by rw [ln, e2]; rfl)]
        rw [e2] at e
        have l2 : ps.length = 2 := by rw [ln, e2]; rfl
        obtain ⟨p, q, rfl⟩ := two_of l2
        simp only [List.map_cons, List.map_nil, List.cons.injEq, and_true] at e
        show 10 ^ q.length = _
        rw [str_len, ← e.2]
      rw [hs2]
      simp
    · have e2 := spL_no h46
      rw [e2] at hd ⊢
      have g1 := hd B.cps.toList (by simp)
      rw [if_neg h46, g1]
      have hs2 : s = 1 := by rw [hs, if_neg (by rw [ln, e2]; simp)]
      rw [hs2]
      simp
  · unfold rdv
    by_cases h : 47 ∈ B.cps.toList
    · rw [if_pos h, h47 h, Bool.and_false]
      rfl
    · rw [if_neg h]
      by_cases h46 : 46 ∈ B.cps.toList
      · rw [if_pos h46]
        have e2 := spL_yes h46
        by_cases n46 : 46 ∈ aftC 46 B.cps.toList
        · rw [dg_no n46 (by decide), Bool.and_false]
          rfl
        · rw [spL_no n46] at e2
          rw [if_neg]
          intro g
          rw [Bool.and_eq_true] at g
          refine hn ⟨by rw [ln, e2]; exact Nat.le_refl _, fun l hl => ?_⟩
          rw [e, e2] at hl
          simp only [List.mem_cons, List.not_mem_nil, or_false] at hl
          rcases hl with rfl | rfl
          · exact g.1
          · exact g.2
      · rw [if_neg h46, if_neg]
        intro g
        refine hn ⟨by rw [ln, spL_no h46]; show 1 ≤ 2; decide, fun l hl => ?_⟩
        rw [e, spL_no h46] at hl
        rw [List.mem_singleton.mp hl]
        exact g
theorem split_few {B y : Str} {c : Nat} (ey : TL.tl y = [c]) (hc : c < 256) (hl : B.length ≤ 100) : (Txt.split B y).length ≤ 101 := by
  have e := split_spL (B := B) ey hc
  have := (spL_sum (c := c) _ _ (Nat.le_refl B.cps.toList.length)).2
  rw [← e, List.length_map, ← str_len] at this
  omega
/-- the cut at the slash: a denominator of digits, or none -/
theorem slash_cases (B : Str) (hA : Asc B) :
    (∃ A C, Txt.split B "/" = [A, C] ∧ 47 ∈ B.cps.toList ∧ A.cps.toList = befC 47 B.cps.toList ∧ C.cps.toList = aftC 47 B.cps.toList ∧ Asc A ∧ Asc C ∧ dgL C.cps.toList = true) ∨
    ((47 ∈ B.cps.toList → dgL (aftC 47 B.cps.toList) = false) ∧ ((Txt.split B "/").length ≠ 2 ∨ ∃ A C, Txt.split B "/" = [A, C] ∧ Asc C ∧ dgL C.cps.toList = false)) := by
  have e : (Txt.split B "/").map tlS = spL 47 B.cps.toList := split_spL (B := B) (y := "/") (c := 47) (by decide +kernel) (by decide)
  have ln : (Txt.split B "/").length = (spL 47 B.cps.toList).length := by rw [← e, List.length_map]
  generalize Txt.split B "/" = ps at *
  have asc : ∀ p ∈ ps, Asc p := fun p hp c hc => hA c (spL_sub _ _ (Nat.le_refl _) p.cps.toList (by rw [← e]; exact List.mem_map.mpr ⟨p, hp, rfl⟩) hc)
  by_cases h : 47 ∈ B.cps.toList
  · have e2 := spL_yes h
    by_cases h2 : 47 ∈ aftC 47 B.cps.toList
    · refine .inr ⟨fun _ => dg_no h2 (by decide), .inl ?_⟩
      rw [ln, e2, List.length_cons, spL_yes h2, List.length_cons]
      have := spL_ne 47 (aftC 47 (aftC 47 B.cps.toList))
      omega
    · rw [spL_no h2] at e2
      have l2 : ps.length = 2 := by rw [ln, e2]; rfl
      obtain ⟨A, C, rfl⟩ := two_of l2
      rw [e2] at e
      simp only [List.map_cons, List.map_nil, List.cons.injEq, and_true] at e
      cases g : dgL C.cps.toList with
      | true => exact .inl ⟨A, C, rfl, h, e.1, e.2, asc A (by simp), asc C (by simp), g⟩
      | false => exact .inr ⟨fun _ => by rw [← e.2]; exact g, .inr ⟨A, C, rfl, asc C (by simp), g⟩⟩
  · refine .inr ⟨fun h2 => absurd h2 h, .inl ?_⟩
    rw [ln, spL_no h]
    simp
theorem join_tl (ps : List Str) : (Txt.join "" ps).cps.toList = (ps.map tlS).flatten := by
  rw [TL.join_eq]
  show TL.tl _ = _
  rw [TL.tl_join]
  have e : TL.tl (("" : String) : Str) = [] := rfl
  rw [e]
  have h : ∀ l : List (List Nat), TL.joinL [] l = l.flatten := fun l => by
    induction l with
    | nil => rfl
    | cons a l ih =>
      cases l with
      | nil => simp [TL.joinL]
      | cons b l =>
        simp only [TL.joinL] at ih ⊢
        rw [ih]
        simp
  exact h _
theorem dgL_flat : ∀ {L : List (List Nat)}, 1 ≤ L.length → (∀ l ∈ L, dgL l = true) → dgL L.flatten = true
  | [a], _, h => by simpa using h a (by simp)
  | a :: b :: L, _, h => by
    rw [List.flatten_cons]
    have h1 := h a (by simp)
    have h2 := dgL_flat (L := b :: L) (by simp) (fun l hl => h l (List.mem_cons_of_mem _ hl))
    unfold dgL at *
    rw [Bool.and_eq_true] at *
    rw [List.all_append, h1.2, h2.2]
    refine ⟨?_, rfl⟩
    cases a with
    | nil => exact absurd h1.1 (by decide)
    | cons x l => rfl
theorem flatS_len (ps : List Str) : ((ps.map tlS).flatten).length = (ps.map (·.length)).sum := by
  rw [List.length_flatten, List.map_map]
  congr 1

-- import: HandS.ReplaceLit
-- math: strm
/-! "c" + e.replace(y, z) of written texts -/
section
open PySem PySem.Spec PyProof.Rows L2
def eReplC (to : WE) (y z : Str) : WE := fun env S Q => to env S fun v S1 => match v with
  | .str x => x.length + (x.length + 1) * z.length ≤ 16777216 ∧ Q (.str (Txt.replace x y z)) S1
  | _ => False
section
variable {X : Cx} {o : Expr} {to : WE} {c y z : Str} {jc j k : Nat} {p0 c0 c1 apos pos bpos : Pos}
theorem pet_replQ (ho : QE X o to) (hyz : (y == z) = false := by decide)
    (hst : starEach [.Constant (.str y) j c0, .Constant (.str z) k c1] X.env = [(false, eval (.Constant (.str y) j c0) X.env), (false, eval (.Constant (.str z) k c1) X.env)] := by rfl)
    (hbase : attributeBase o "replace" X.env (eval o X.env) = eval o X.env := by rfl) (hline : (apos.endLine == pos.line) = true := by rfl) :
    PET X (.Call (.Attribute o "replace" apos) [.Constant (.str y) j c0, .Constant (.str z) k c1] [] pos) (lE X.kw (eReplC to y z)) := fun pins s σ H Q h0 I h =>
  CwR.pet_replC ho hyz hst hbase hline pins s σ H Q h0 I (by
    obtain ⟨env, S, Q0, er, so, q, ps⟩ := h
    refine ⟨env, S, _, er, so, q, fun d S1 h1 v H1 rv s1 f1 => ?_⟩
    split at h1
    · cases rv
      exact ⟨_, rfl, h1.1, (ps.trans f1).here s1 h1.2 (.str _)⟩
    · exact h1.elim)
theorem q_add_repl (ho : QE X o to) (hyz : (y == z) = false := by decide)
    (hst : starEach [.Constant (.str y) j c0, .Constant (.str z) k c1] X.env = [(false, eval (.Constant (.str y) j c0) X.env), (false, eval (.Constant (.str z) k c1) X.env)] := by rfl)
    (hbase : attributeBase o "replace" X.env (eval o X.env) = eval o X.env := by rfl) (hline : (apos.endLine == pos.line) = true := by rfl) :
    QE X (.BinOp (.Constant (.str c) jc p0) .Add (.Call (.Attribute o "replace" apos) [.Constant (.str y) j c0, .Constant (.str z) k c1] [] pos) bpos) (eBin dAdd (eC (.str c)) (eReplC to y z)) := by
  have key : PE X (.BinOp (.Constant (.str c) jc p0) .Add (.Call (.Attribute o "replace" apos) [.Constant (.str y) j c0, .Constant (.str z) k c1] [] pos) bpos) (tOp (rAddAny X) (lE X.kw (eC (.str c))) (lE X.kw (eReplC to y z))) := by
    refine ⟨fun pins s σ H Q I h => wpAny_BinOp (Calls.Constant_str ?_)⟩
    obtain ⟨env, S, Q0, er, so, q, ps⟩ := h
    have h2 := ps.here so q (.str _)
    exact thn (pet_replQ ho hyz hst hbase hline pins { s with toks := s.toks + 1 } σ H _ (by show 1 ≤ s.toks + 1; omega) (I.tok _) h2) fun u s2 ⟨y', H2, I2, r2, q2⟩ => op_addAny pins s2 σ H2 (.str c) y' (.str c s.toks) u Q I2 ⟨_, rfl⟩ r2 q2
  exact key.imp' fun σ H Q h => lE_bin h fun x y S2 Q0 v u H2 => opr_add x y S2 Q0 v u H2 Q
end
end

-- math: repl
/-! e.replace(y, z) of written texts, behind a token that len gave out -/
section
open PySem PySem.Spec PyProof.Rows L2
def PEU (X : Cx) (e : Expr) (t : TE) : Prop := ∀ (pins : List (Addr × Obj)) (s : Shared) (σ : L2.St) (H : Hp) (Q : VK), Inv X pins σ H s → t σ H Q → wpAny (model X.prog X.w) X.A (eval e X.env) (fun v s' => 1 ≤ s'.toks ∧ EP X pins σ Q v s') X.xe s
def POU (X : Cx) (e : Option Expr) (t : TO) : Prop := ∀ (pins : List (Addr × Obj)) (s : Shared) (σ : L2.St) (H : Hp) (Q : Option Int → Hp → Prop), Inv X pins σ H s → t σ H Q →
    wpAny (model X.prog X.w) X.A (evalPart e X.env) (fun u s' => 1 ≤ s'.toks ∧ ∃ o H', Inv X pins σ H' s' ∧ IsPart u o ∧ Q o H') X.xe s
def PSU (X : Cx) (st : Stmt) (t : TS) : Prop := ∀ (pins : List (Addr × Obj)) (s : Shared) (σ : L2.St) (H : Hp) (D : L2.Ends), Inv X pins σ H s → t D σ H → wpAny (model X.prog X.w) X.A (exec st X.env) (fun f s' => 1 ≤ s'.toks ∧ SP X pins D f s') X.xe s
def rLenS : List V → Hp → VK → Prop := fun xs H Q => ∃ z, xs = [.str z] ∧ z.length ≤ sizeLine ∧ Q (.int z.length) H
section
variable {X : Cx} {x : Str} {e : Expr} {es : List Expr} {ta : TA} {te : TE} {th : TO} {p p2 p3 pos : Pos}
theorem up {α : Type} {t : Sem α} {Q : α → Shared → Prop} {E : Value → Shared → Prop} {M : Model} {A : Around} {s : Shared} (hk : 1 ≤ s.toks) (h : wpAny M A t Q E s) : wpAny M A t (fun a s' => 1 ≤ s'.toks ∧ Q a s') E s :=
  wpAny_mono (PySem.wpAny_toks_of hk h) (fun _ _ z => z) fun _ _ z => z.2
theorem peu_len (hg : Gl X x) (hm : X.mg x = none) (hv : bootBuiltins x = some (.builtin "len")) (ha : PA X (e :: es) ta) (hn : x ≠ "__name__" := by decide) (hdb : (x == ("__debug__" : Str)) = false := by decide)
    (he : starEach (e :: es) X.env = (false, eval e X.env) :: starEach es X.env := by rfl) (hpl : (backTo pos (starEach es X.env)).any (·.1) = false := by rfl) : PEU X (.Call (.Name x p) (e :: es) [] pos) (tCB rLenS ta) := by
  intro pins s σ H Q I h
  refine wpAny_Call_Name_kw (ld_blt I hg hm hv ?_ hn hdb)
  refine PyProof.Rows.callWith_builtin1 (thn (ha.run pos pins s σ H _ I h) fun us s1 ⟨vs, H1, I1, r1, q1⟩ => ?_) he hpl
  obtain ⟨z, rfl, hz, q⟩ := q1
  obtain ⟨u, rfl, t, rfl⟩ := vals1 r1
  have hl := line63
  exact len_str (by omega) ⟨by show 1 ≤ s1.toks + 1 + 1; omega, .int z.length, H1, I1.tok _, ⟨_, rfl⟩, q⟩
theorem pou_some (h : PEU X e te) : POU X (some e) (tPart te) := by
  intro pins s σ H Q I hw
  rw [evalPart_some]
  refine thn (h pins s σ H _ I hw) fun u s1 ⟨hk, x, H1, I1, r1, q1⟩ => ?_
  obtain ⟨i, rfl, q⟩ := q1
  obtain ⟨t, rfl⟩ := r1
  exact ⟨hk, some i, H1, I1, .int i t, q⟩
theorem peu_slice {r : V → Option Int → Option Int → Hp → VK → Prop} {lo hi : Option Expr} {tl : TO} (hr : SlR X r) (he : PE X e te) (hl : POU X lo tl) (hu : PO X hi th) : PEU X (.Subscript e (.Slice lo hi none p2) pos) (tSl r te tl th) := by
  intro pins s σ H Q I h
  refine Subscript_ (thn (he.run pins s σ H _ I h) fun v s1 ⟨x, H1, I1, r1, q1⟩ => ?_)
  refine wpAny_Slice (thn (hl pins s1 σ H1 _ I1 q1) fun vl s2 ⟨hk, l, H2, I2, pl, q2⟩ => thn (up hk (hu.run pins s2 σ H2 _ I2 q2)) fun vu s3 ⟨hk3, u, H3, I3, pu, q3⟩ => ?_)
  rw [evalPart_none]
  refine wpAny_pure ?_
  have I4 : Inv X pins σ H3 { s3 with heap := s3.heap.push { cls := .type "slice", data := .fields #[vl, vu, .none] } } := I3.kept (t' := s3.toks) fun b ob q => Heap.get?_push_of_some _ q
  obtain ⟨T, id, hT, ht, hg⟩ := hr pins { s3 with heap := s3.heap.push { cls := .type "slice", data := .fields #[vl, vu, .none] } } σ H3 x v vl vu l u s3.heap.objs.size Q I4 r1 (Heap.IsSliceOf.new ..) pl pu q3
  refine up (s := { s3 with heap := s3.heap.push { cls := .type "slice", data := .fields #[vl, vu, .none] } }) hk3 ?_
  show wpAny (model X.prog X.w) X.A (subscriptTail e (.Slice lo hi none p2) v (.ref s3.heap.objs.size)) (EP X pins σ Q) X.xe { s3 with heap := s3.heap.push { cls := .type "slice", data := .fields #[vl, vu, .none] } }
  exact tail_any (ops := [.ref s3.heap.objs.size, v]) ht hT hg (by with_unfolding_all rfl)
theorem psu_set {i : Nat} (hN : X.N.Nodup) (hi : X.N[i]? = some x) (hx : Loc X.env.scope x) (he : PEU X e te) (hs : swapsWith e (some (.Name x p2)) pos.line X.env = pure false := by rfl) (hf : X.fn x = true ∨ X.env.scope.names.lookup x = some .local := by first | exact .inl rfl | exact .inr rfl | assumption) :
    PSU X (.Assign [.Name x p2] e pos) (tAsg te (L2.gName i)) := by
  intro pins s σ H D I h
  refine wpAny_Assign_Name (thn (he pins s σ H _ I h) fun v s1 ⟨hk, y, H1, I1, r1, q1⟩ => ?_) hs
  exact up hk (store_ok I1 hN hi hx r1 (fun s2 I2 => ⟨_, H1, I2, q1⟩) hf)
theorem pst_set {i : Nat} (hN : X.N.Nodup) (hi : X.N[i]? = some x) (hx : Loc X.env.scope x) (he : PET X e te) (hs : swapsWith e (some (.Name x p2)) pos.line X.env = pure false := by rfl) (hf : X.fn x = true ∨ X.env.scope.names.lookup x = some .local := by first | exact .inl rfl | exact .inr rfl | assumption) :
    PST X (.Assign [.Name x p2] e pos) (tAsg te (L2.gName i)) := by
  intro pins s σ H D h0 I h
  refine wpAny_Assign_Name (thn (he pins s σ H _ h0 I h) fun v s1 ⟨y, H1, I1, r1, q1⟩ => ?_) hs
  exact store_ok I1 hN hi hx r1 (fun s2 I2 => ⟨_, H1, I2, q1⟩) hf
theorem pss_consU {st : Stmt} {rest : List Stmt} {t u : TS} (h1 : PSU X st t) (h2 : PSsT X rest u) : PSs X (st :: rest) (tSeq t u) := by
  refine ⟨fun pins s σ H D I h => ?_⟩
  refine wpAny_execs_cons (thn (h1 pins s σ H { D with nx := u D } I h) fun f s1 ⟨hk, q⟩ => ?_)
  cases f with
  | next =>
    obtain ⟨σ', H', I', q⟩ := q
    exact h2 pins s1 σ' H' D hk I' q
  | ret v => exact q
  | brk => exact q
  | cont => exact q
end
/-! over data -/
def bLenX : WB := fun ds S Q => match ds with
  | [.str z] => z.length ≤ sizeLine ∧ Q (.int z.length) S
  | _ => False
section
variable {X : Cx} {x : Str} {a b e : Expr} {es : List Expr} {ta te : WE} {tb : WA} {hi : Option Expr} {th : WO} {st : Stmt} {rest : List Stmt} {t u : WS} {p p1 p2 p3 p4 pos : Pos}
/-- x = a[len(b):hi] -/
theorem psu_sl {i : Nat} {y : Str} (hN : X.N.Nodup) (hi' : X.N[i]? = some x) (hx : Loc X.env.scope x) (ha : QE X a ta)
    (hg : Gl X y) (hm : X.mg y = none) (hv : bootBuiltins y = some (.builtin "len")) (hb : QA X (b :: es) tb) (hh : QO X hi th)
    (hn : y ≠ "__name__" := by decide) (hdb : (y == ("__debug__" : Str)) = false := by decide)
    (he : starEach (b :: es) X.env = (false, eval b X.env) :: starEach es X.env := by rfl) (hpl : (backTo p3 (starEach es X.env)).any (·.1) = false := by rfl)
    (hs : swapsWith (.Subscript a (.Slice (some (.Call (.Name y p) (b :: es) [] p3)) hi none p1) p4) (some (.Name x p2)) pos.line X.env = pure false := by rfl) (hf : X.fn x = true ∨ X.env.scope.names.lookup x = some .local := by first | exact .inl rfl | exact .inr rfl | assumption) :
    PSU X (.Assign [.Name x p2] (.Subscript a (.Slice (some (.Call (.Name y p) (b :: es) [] p3)) hi none p1) p4) pos) (lS X.kw (sAsg (eSl ta (oSome (eCall bLenX tb)) th) (DL.gName i))) := by
  intro pins s σ H D I h
  refine psu_set hN hi' hx (peu_slice sl_any ha (pou_some (peu_len hg hm hv hb hn hdb he hpl)) hh) hs hf pins s σ H D I ?_
  obtain ⟨env, S, D0, er, so, q, ps⟩ := h
  refine ⟨env, S, _, er, so, q, fun x S1 h1 v H1 rv s1 f1 => ?_⟩
  refine ⟨env, S1, _, er.mono f1.tk, s1, h1, fun ds S2 h2 vs H2 rs s2 f2 => ?_⟩
  unfold bLenX at h2
  split at h2
  · cases rs with
    | cons r1 r2 =>
      cases r1; cases r2
      refine ⟨_, rfl, h2.1, _, rfl, ?_⟩
      refine ⟨env, S2, _, er.mono (f1.trans f2).tk, s2, h2.2, fun u S3 h3 H3 s3 f3 => ?_⟩
      have rv3 := rv.mono (f2.trans f3).tk
      have f123 := (f1.trans f2).trans f3
      have pe : PostE X.kw S3 H3 (fun d S' => DL.gName i d env S' D0.nx) (fun y H' => L2.gName i y σ H' D.nx) := fun d S' h v H' r s g => ps.nx _ _ h _ _ ((er.mono (f123.trans g).tk).set i r) s (f123.trans g)
      unfold dSl at h3
      split at h3
      · cases rv3 with
        | tup h1 r1 hz =>
          refine .inl ⟨_, _, rfl, h1, fun e => ?_, fun _ => pe.tup s3 (cut_RpAll r1 _ u) (Nat.le_trans (cut_len _ _ _) hz) h3⟩
          rw [cut_whole (by rw [← r1.length]; exact e)] at h3
          exact pe.here s3 h3 (.tup h1 r1 hz)
      · cases rv3
        obtain ⟨xs, e, h3⟩ := onL_iff.mp h3
        obtain ⟨vs, h1, r1, hz⟩ := s3.lst e
        exact .inr (.inl ⟨_, _, rfl, SqL.of h1, pe.made s3 (cut_RpAll r1 _ u) (Nat.le_trans (cut_len _ _ _) hz) h3⟩)
      · cases rv3
        refine .inr (.inr ⟨_, rfl, h3.1, ?_⟩)
        exact pe.here s3 h3.2 (.str _)
      · exact h3.elim
  · exact h2.elim
theorem qs_consU (h1 : PSU X st (lS X.kw t)) (h2 : PSsT X rest (lS X.kw u)) : QSs X (st :: rest) (sSeq t u) := (pss_consU h1 h2).imp' fun D σ H h => seq_ok h
theorem qst_of (h : QS X st t) : PST X st (lS X.kw t) := fun pins s σ H D _ I q => h.run pins s σ H D I q
theorem qsst_nil : PSsT X [] (lS X.kw sNil) := PSsT.of (qs_nil (X := X))
theorem qsst_cons (h1 : PST X st (lS X.kw t)) (h2 : PSsT X rest (lS X.kw u)) : PSsT X (st :: rest) (lS X.kw (sSeq t u)) := fun pins s σ H D h0 I q => psst_cons h1 h2 pins s σ H D h0 I (seq_ok q)
theorem qsst_one (h : PST X st (lS X.kw t)) : PSsT X [st] (lS X.kw t) := fun pins s σ H D h0 I q => by
  refine wpAny_execs_cons (thn (h pins s σ H D h0 I q) fun f s1 q => ?_)
  cases f with
  | next => exact wpAny_execs_nil q
  | ret v => exact q
  | brk => exact q
  | cont => exact q
/-- if c: x = o.replace(y, z) -/
theorem qst_if_repl {i j k : Nat} {c o : Expr} {tc : WT} {to : WE} {y z : Str} {c0 c1 apos rpos : Pos} (hc : QT X c tc) (hN : X.N.Nodup) (hi' : X.N[i]? = some x) (hx : Loc X.env.scope x) (ho : QE X o to) (hyz : (y == z) = false := by decide)
    (hst : starEach [.Constant (.str y) j c0, .Constant (.str z) k c1] X.env = [(false, eval (.Constant (.str y) j c0) X.env), (false, eval (.Constant (.str z) k c1) X.env)] := by rfl)
    (hbase : attributeBase o "replace" X.env (eval o X.env) = eval o X.env := by rfl) (hline : (apos.endLine == rpos.line) = true := by rfl)
    (hs : swapsWith (.Call (.Attribute o "replace" apos) [.Constant (.str y) j c0, .Constant (.str z) k c1] [] rpos) (some (.Name x p2)) p3.line X.env = pure false := by rfl) (hf : X.fn x = true ∨ X.env.scope.names.lookup x = some .local := by first | exact .inl rfl | exact .inr rfl | assumption) :
    PST X (.If c [.Assign [.Name x p2] (.Call (.Attribute o "replace" apos) [.Constant (.str y) j c0, .Constant (.str z) k c1] [] rpos) p3] [] pos) (lS X.kw (sIf tc (sAsg (eReplC to y z) (DL.gName i)) sNil)) := by
  have body : PSsT X [.Assign [.Name x p2] (.Call (.Attribute o "replace" apos) [.Constant (.str y) j c0, .Constant (.str z) k c1] [] rpos) p3] (lS X.kw (sAsg (eReplC to y z) (DL.gName i))) := qsst_one fun pins s σ H D h0 I q => by
    refine pst_set hN hi' hx (pet_replQ ho hyz hst hbase hline) hs hf pins s σ H D h0 I ?_
    obtain ⟨env, S, D0, er, so, q, ps⟩ := q
    exact ⟨env, S, _, er, so, q, fun d S1 h1 v H1 rv s1 f1 => ps.nx _ _ h1 _ _ ((er.mono f1.tk).set i rv) s1 f1⟩
  intro pins s σ H D h0 I q
  refine CwR.pst_if hc body qsst_nil pins s σ H D h0 I ?_
  obtain ⟨env, S, D0, er, so, q, ps⟩ := q
  refine ⟨env, S, _, er, so, q, fun k S1 h1 H1 s1 f1 => ?_⟩
  cases k with
  | true => exact ⟨env, S1, D0, er.mono f1.tk, s1, h1, ps.trans f1⟩
  | false => exact ⟨env, S1, D0, er.mono f1.tk, s1, h1, ps.trans f1⟩
theorem qst_join (h : PST X st (lS X.kw t)) : PST X st (lS X.kw (sJoin t)) := fun pins s σ H D h0 I q => by
  refine h pins s σ H D h0 I ?_
  obtain ⟨env, S, D0, er, so, q, ps⟩ := q
  unfold sJoin at q
  obtain ⟨P, h1, h2⟩ := q
  refine ⟨env, S, _, er, so, h1, ⟨fun env' S' h σ' H' er' s' f => ?_, ps.rt, ps.bk, ps.ct⟩⟩
  obtain ⟨S0, sb, h⟩ := (show UpS (P env') S' from h).ex
  exact ps.nx _ _ (h2 _ _ h) _ _ er' (s'.sub sb) (f.sub sb)
end
end

-- import: KE.KRevSl
/-! xs[::-1] of a list -/
section
open PySem PySem.Spec PyProof.Rows L2
def eRevS (ta ts : WE) : WE := fun env S Q => ta env S fun x S1 => ts env S1 fun k S2 => k = .int (-1) ∧ match x with
  | .ref a => onL S2 a fun xs => ∀ p, sget S2 p = none → Q (.ref p) ((p, .lst xs.reverse) :: S2)
  | _ => False
def tRevS (K : PySem.W.Frag) (te ts : TE) : TE := fun σ H Q => te σ H fun x H1 => ts σ H1 fun k H2 => k = .int (-1) ∧ ∃ a xs, x = .ref a ∧ SqL K H2 a xs ∧ ∀ p, H2 p = none → Q (.ref p) (upd H2 p (.lst xs.reverse))
section
variable {X : Cx} {e st : Expr} {te ts : TE} {ta tb : WE} {p2 pos : Pos}
theorem pe_revS (he : PE X e te) (hs : PE X st ts) (hsub : ∀ a b : Addr, subscripted (.Slice none none (some st) p2) false (.ref a) (.ref b) = operate [.ref a, .ref b] (getItem (.ref a) (.ref b)) := by intro _ _; first | rfl | simp [PySem.subscripted]) : PE X (.Subscript e (.Slice none none (some st) p2) pos) (tRevS X.K te ts) := by
  refine ⟨fun pins s σ H Q I h => ?_⟩
  refine Subscript_ (thn (he.run pins s σ H _ I h) fun v s1 ⟨x, H1, I1, r1, q1⟩ => ?_)
  refine wpAny_Slice ?_
  rw [evalPart_none, evalPart_some]
  refine wpAny_pure (wpAny_pure (thn (hs.run pins s1 σ H1 _ I1 q1) fun vs s3 ⟨k, H3, I3, r3, q3⟩ => ?_))
  obtain ⟨rfl, a, xs, rfl, hx, q⟩ := q3
  obtain ⟨tk, rfl⟩ := r3
  cases r1
  have I4 : Inv X pins σ H3 { s3 with heap := s3.heap.push { cls := .type "slice", data := .fields #[.none, .none, .int (-1) tk] } } := I3.kept (t' := s3.toks) fun b ob q => Heap.get?_push_of_some _ q
  obtain ⟨its, r, ht, hz⟩ := I4.list hx
  have hlen := r.length
  show wpAny (model X.prog X.w) X.A (subscriptTail e (.Slice none none (some st) p2) (.ref a) (.ref s3.heap.objs.size)) (EP X pins σ Q) X.xe { s3 with heap := s3.heap.push { cls := .type "slice", data := .fields #[.none, .none, .int (-1) tk] } }
  refine tail_any (ops := [.ref a, .ref s3.heap.objs.size]) ht.isList.typeIs slot_list_getitem.lookup ?_ (hsub _ _)
  refine wpAny_getItem_list_slice ht.isList (Heap.IsSliceOf.new ..) .none .none (.int (-1) tk) (by simp) ?_ (by rw [List.size_toArray] <;> omega)
  rw [PySem.W.krv_pick]
  refine ⟨.ref _, _, I4.laid (t' := s3.toks) (o := .lst xs.reverse) (fun b ob q => Heap.get?_push_of_some _ q) (Nat.le_refl _) ?_, rfl, q _ (I4.hok.fresh (Nat.le_refl _))⟩
  exact ⟨by rw [List.length_reverse]; exact hz, _, 0, r.reverse, Heap.get?_push_size _ rfl⟩
theorem q_revS (he : QE X e ta) (hs : QE X st tb) (hsub : ∀ a b : Addr, subscripted (.Slice none none (some st) p2) false (.ref a) (.ref b) = operate [.ref a, .ref b] (getItem (.ref a) (.ref b)) := by intro _ _; first | rfl | simp [PySem.subscripted]) : QE X (.Subscript e (.Slice none none (some st) p2) pos) (eRevS ta tb) := (pe_revS he hs hsub).imp' fun σ H Q ⟨env, S, Q0, er, so, q, ps⟩ => by
  refine ⟨env, S, _, er, so, q, fun x S1 h1 v H1 rv s1 f1 => ?_⟩
  refine ⟨env, S1, _, er.mono f1.tk, s1, h1, fun k S2 ⟨hk, h2⟩ w H2 rw2 s2 f2 => ?_⟩
  subst hk
  cases rw2
  refine ⟨rfl, ?_⟩
  have rv3 := rv.mono f2.tk
  split at h2
  · cases rv3
    obtain ⟨xs, e, h3⟩ := onL_iff.mp h2
    obtain ⟨vs, h1, r1, hz⟩ := s2.lst e
    exact ⟨_, _, rfl, SqL.of h1, (ps.trans (f1.trans f2)).made s2 r1.rev (by rw [List.length_reverse]; exact hz) h3⟩
  · exact h2.elim
end
example {X : Cx} {e : Expr} {ta : WE} {p p' p2 pos : Pos} (he : QE X e ta) : QE X (.Subscript e (.Slice none none (some (.UnaryOp .USub (.Constant (.int 1) 0 p) p')) p2) pos) (eRevS ta (eNeg (eC (.int 1)))) := q_revS he (q_neg q_int)
example {X : Cx} {e : Expr} {ta : WE} {p p' p2 pos : Pos} (he : QE X e ta) : QE X (.Subscript e (.Slice none none (some (.Constant (.int (-1)) 0 p)) p2) pos) (eRevS ta (eC (.int (-1)))) := q_revS he q_int
end

-- math: fread
-- import: HandS.Text
/-! a fraction's text tells the fraction -/
open PySem.NumText (AllDigits digitsVal)
theorem natT_val (n : Nat) : digitsVal (natT n).cps.toList = n := by
  rw [natT_tl]
  have e : n.repr.toList = Nat.toDigits 10 n := by simp [Nat.repr]
  rw [e]
  exact PySem.W.KIN.val_back n
theorem dgL_of {l : List Nat} (h : AllDigits l) (h1 : l ≠ []) : dgL l = true := by
  unfold dgL
  rw [Bool.and_eq_true, List.all_eq_true]
  refine ⟨?_, fun c hc => decide_eq_true (h c hc)⟩
  cases l with
  | nil => exact absurd rfl h1
  | cons a r => rfl
theorem int_tl (i : Int) : (Str.ofString (toString i)).cps.toList = (if i < 0 then [45] else []) ++ (natT i.natAbs).cps.toList := by
  cases i with
  | ofNat n =>
    rw [if_neg (by show ¬ ((n : Nat) : Int) < 0; omega)]
    rfl
  | negSucc n =>
    rw [if_pos (by omega)]
    have e : (Str.ofString (toString (Int.negSucc n))).cps.toList = ("-" ++ (n + 1).repr).toList.map Char.toNat := by
      show TL.tl (Str.ofString (toString (Int.negSucc n))) = _
      rw [TL.tl_ofString]
      rfl
    rw [e, String.toList_append, List.map_append, natT_tl]
    rfl
theorem sgn_split {z : Str} {s : Bool} {b : List Nat} (h : z.cps.toList = (if s = true then [45] else []) ++ b) (hb : b ≠ []) (hd : ∀ c ∈ b, c ≠ 45) : negS z = s ∧ bodyL z = b := by
  have hn : negS z = s := by
    unfold negS
    rw [h]
    cases s with
    | true => rfl
    | false =>
      cases b with
      | nil => exact absurd rfl hb
      | cons c r =>
        have := hd c List.mem_cons_self
        show (some c == some 45) = false
        simp [this]
  refine ⟨hn, ?_⟩
  unfold bodyL
  rw [hn, h]
  cases s <;> rfl
/-- what is read, unasked -/
noncomputable def valF (z : Str) : Option Fq := match rdv (bodyL z) with
  | none => none
  | some (n, d) => some (low (if negS z then -(n : Int) else (n : Int)) (d : Int))
theorem zeros_val : ∀ (k : Nat) (l : List Nat), digitsVal (List.replicate k 48 ++ l) = digitsVal l
  | 0, _ => rfl
  | k + 1, l => zeros_val k l
theorem dig_no {l : List Nat} (h : AllDigits l) {c : Nat} (hc : c < 48) : c ∉ l := fun m => by
  have := h c m
  omega
theorem sgn_if {n : Int} (m : Nat) (h : n = (if n < 0 then -1 else 1) * (n.natAbs : Int)) : (if decide (n < 0) = true then -((n.natAbs * m : Nat) : Int) else ((n.natAbs * m : Nat) : Int)) = n * (m : Int) := by
  by_cases g : n < 0
  · rw [if_pos (decide_eq_true g)]
    rw [show n = -(n.natAbs : Int) by omega]
    rw [Int.natAbs_neg, Int.natAbs_natCast, Int.natCast_mul, Int.neg_mul]
  · rw [if_neg (by simp [g])]
    conv => rhs; rw [show n = (n.natAbs : Int) by omega]
    rw [Int.natCast_mul]
theorem low_up {x : Fq} {k : Nat} (hx : x.Ok k) {m e : Nat} (he : (e : Int) = x.d * (m : Int)) (hm : m ≠ 0) : low (x.n * (m : Int)) (e : Int) = x := by
  rw [he, low_mul hx.pos (by omega)]
  exact low_self hx
theorem body_read {p : Nat} {m : Nat} : (∀ c ∈ (bodyT p (natT m)).cps.toList, c ≠ 45) ∧ (bodyT p (natT m)).cps.toList ≠ [] ∧ rdv (bodyT p (natT m)).cps.toList = some (m, 10 ^ p) := by
  have dg := natT_dig m
  have ne := natT_ne m
  have vl := natT_val m
  generalize hT : natT m = T at dg ne vl
  unfold bodyT
  split
  · rename_i hp
    have pl := padZ_len p T
    have pt := padZ_tl p T
    have pd : AllDigits (padZ p T).cps.toList := fun c hc => by
      rw [pt] at hc
      rcases List.mem_append.mp hc with h | h
      · rw [(List.mem_replicate.mp h).2]; decide
      · exact dg c h
    have l1 := str_len (padZ p T)
    obtain ⟨q, e, hq⟩ : ∃ q : Nat, ((padZ p T).length : Int) - (p : Int) = (q : Int) ∧ q + p = (padZ p T).length := ⟨(padZ p T).length - p, by omega, by omega⟩
    have hw : (cutT (padZ p T) none (some (((padZ p T).length : Int) - (p : Int))) ++ "." ++ cutT (padZ p T) (some (((padZ p T).length : Int) - (p : Int))) none).cps.toList = (padZ p T).cps.toList.take q ++ 46 :: (padZ p T).cps.toList.drop q := by
      rw [toList_add, toList_add, cutT_tl, cutT_tl, e, cut_to (by omega) (by omega), cut_from (by omega) (by omega), List.append_assoc]
      rfl
    rw [hw]
    have d1 : AllDigits ((padZ p T).cps.toList.take q) := fun c hc => pd c (List.mem_of_mem_take hc)
    have d2 : AllDigits ((padZ p T).cps.toList.drop q) := fun c hc => pd c (List.mem_of_mem_drop hc)
    have n1 : (padZ p T).cps.toList.take q ≠ [] := fun e0 => by
      have := congrArg List.length e0
      rw [List.length_take, List.length_nil] at this
      omega
    have n2 : (padZ p T).cps.toList.drop q ≠ [] := fun e0 => by
      have := congrArg List.length e0
      rw [List.length_drop, List.length_nil] at this
      omega
    have ln : ((padZ p T).cps.toList.drop q).length = p := by rw [List.length_drop]; omega
    have vv : digitsVal ((padZ p T).cps.toList.take q ++ (padZ p T).cps.toList.drop q) = m := by
      rw [List.take_append_drop, pt, zeros_val, vl]
    generalize (padZ p T).cps.toList.take q = A at *
    generalize (padZ p T).cps.toList.drop q = B at *
    have h47 : 47 ∉ A ++ 46 :: B := fun hm => by
      rcases List.mem_append.mp hm with h | h
      · exact dig_no d1 (by decide) h
      · rcases List.mem_cons.mp h with h | h
        · exact absurd h (by decide)
        · exact dig_no d2 (by decide) h
    refine ⟨fun c hc => ?_, fun e0 => by simp at e0, ?_⟩
    · rcases List.mem_append.mp hc with h | h
      · have := d1 c h; omega
      · rcases List.mem_cons.mp h with h | h
        · omega
        · have := d2 c h; omega
    · obtain ⟨b1, b2⟩ := bef_of (c := 46) (a := A) (r := B) (dig_no d1 (by decide))
      unfold rdv
      rw [if_neg h47, if_pos (by simp), b1, b2, dgL_of d1 n1, dgL_of d2 n2, vv, ln]
      rfl
  · rename_i hp
    have hp0 : p = 0 := by omega
    subst hp0
    refine ⟨fun c hc => by have := dg c hc; omega, ne, ?_⟩
    unfold rdv
    rw [if_neg (dig_no dg (by decide)), if_neg (dig_no dg (by decide)), if_pos (dgL_of dg ne), vl]
theorem ftx_back {x : Fq} {k : Nat} (hx : x.Ok k) : valF (ftx x.n x.d.toNat) = some x := by
  have hd : ((x.d.toNat : Nat) : Int) = x.d := Int.toNat_of_nonneg (Int.le_of_lt hx.pos)
  have hs : x.n = (if x.n < 0 then -1 else 1) * (x.n.natAbs : Int) := by split <;> omega
  unfold ftx
  cases h : dpl x.d.toNat with
  | none =>
    dsimp only
    have e : (Str.ofString (toString x.n) ++ "/" ++ Str.ofString (toString ((x.d.toNat : Nat) : Int))).cps.toList = (if decide (x.n < 0) = true then [45] else []) ++ ((natT x.n.natAbs).cps.toList ++ 47 :: (natT x.d.toNat).cps.toList) := by
      rw [toList_add, toList_add, int_tl]
      have e2 : (Str.ofString (toString ((x.d.toNat : Nat) : Int))).cps.toList = (natT x.d.toNat).cps.toList := rfl
      rw [e2]
      by_cases g : x.n < 0
      · rw [if_pos g, if_pos (decide_eq_true g)]; simp; rfl
      · rw [if_neg g, if_neg (by simp [g])]; simp; rfl
    have d1 := natT_dig x.n.natAbs
    have d2 := natT_dig x.d.toNat
    obtain ⟨s1, s2⟩ := sgn_split e (by simp) fun c hc => by
      rcases List.mem_append.mp hc with h | h
      · have := d1 c h; omega
      · rcases List.mem_cons.mp h with h | h
        · omega
        · have := d2 c h; omega
    obtain ⟨b1, b2⟩ := bef_of (c := 47) (a := (natT x.n.natAbs).cps.toList) (r := (natT x.d.toNat).cps.toList) (dig_no d1 (by decide))
    unfold valF
    rw [s1, s2]
    unfold rdv
    rw [if_pos (by simp), b1, b2, dgL_of d1 (natT_ne _), dgL_of d2 (natT_ne _), natT_val, natT_val]
    have := sgn_if 1 hs
    rw [Nat.mul_one] at this
    rw [if_pos (show (true && true) = true from rfl)]
    show some (low (if decide (x.n < 0) = true then -((x.n.natAbs : Nat) : Int) else ((x.n.natAbs : Nat) : Int)) ((x.d.toNat : Nat) : Int)) = some x
    rw [this]
    rw [low_up hx (by rw [hd]; omega) (by decide)]
  | some p =>
    dsimp only
    obtain ⟨r1, r2, r3⟩ := body_read (p := p) (m := x.n.natAbs * (10 ^ p / x.d.toNat))
    have dv := (dpl_dvd h).1
    have e : (if x.n < 0 then "-" ++ bodyT p (natT (x.n.natAbs * (10 ^ p / x.d.toNat))) else bodyT p (natT (x.n.natAbs * (10 ^ p / x.d.toNat)))).cps.toList = (if decide (x.n < 0) = true then [45] else []) ++ (bodyT p (natT (x.n.natAbs * (10 ^ p / x.d.toNat)))).cps.toList := by
      by_cases g : x.n < 0
      · rw [if_pos g, if_pos (decide_eq_true g), toList_add]; rfl
      · rw [if_neg g, if_neg (by simp [g])]; rfl
    obtain ⟨s1, s2⟩ := sgn_split e r2 r1
    unfold valF
    rw [s1, s2, r3]
    dsimp only
    rw [sgn_if _ hs]
    have hp : 10 ^ p = x.d.toNat * (10 ^ p / x.d.toNat) := (Nat.mul_div_cancel' dv).symm
    have hp2 : ((10 ^ p : Nat) : Int) = x.d * ((10 ^ p / x.d.toNat : Nat) : Int) := by
      conv => lhs; rw [hp]
      rw [Int.natCast_mul, hd]
    rw [low_up hx (m := 10 ^ p / x.d.toNat) hp2 (fun e0 => by
      rw [e0, Nat.mul_zero] at hp
      exact absurd hp (Nat.ne_of_gt (Nat.pow_pos (by decide))))]
theorem ftx_inj {x y : Fq} {k : Nat} (hx : x.Ok k) (hy : y.Ok k) (h : ftx x.n x.d.toNat = ftx y.n y.d.toNat) : x = y := by
  have a := ftx_back hx
  rw [h, ftx_back hy] at a
  exact (Option.some.inj a).symm

-- math: fread2 repl2 revsl fback
-- import: PyProof.Rows.StrStrike
/-! numbers with commas; labels of numbers -/
/-- digits in groups of three, from the right -/
def grp : Nat → List Nat → List (List Nat)
  | 0, l => [l]
  | f + 1, l => if l.length ≤ 3 then [l] else grp f (l.take (l.length - 3)) ++ [l.drop (l.length - 3)]
def joinC (c : Nat) : List (List Nat) → List Nat
  | [] => []
  | [x] => x
  | x :: y :: r => x ++ c :: joinC c (y :: r)
def wcom (l : List Nat) : List Nat := joinC 44 (grp l.length l)
theorem grp_ne : ∀ (f : Nat) (l : List Nat), grp f l ≠ []
  | 0, _ => by simp [grp]
  | f + 1, l => by unfold grp; split <;> simp
theorem grp_flat : ∀ (f : Nat) (l : List Nat), (grp f l).flatten = l
  | 0, _ => by simp [grp]
  | f + 1, l => by
    unfold grp
    split
    · simp
    · rw [List.flatten_append, grp_flat f]
      simp
theorem grp_len : ∀ (f : Nat) (l : List Nat), (grp f l).length ≤ l.length + 1
  | 0, _ => by simp [grp]
  | f + 1, l => by
    unfold grp
    split
    · simp
    · have := grp_len f (l.take (l.length - 3))
      rw [List.length_take] at this
      rw [List.length_append, List.length_singleton]
      omega
/-- how far the digits are grouped: w is left -/
def GI (l w : List Nat) (gs : List (List Nat)) : Prop := ∃ f, w.length ≤ f ∧ grp l.length l = grp f w ++ gs
theorem GI.start (l : List Nat) : GI l l [] := ⟨l.length, Nat.le_refl _, by simp⟩
theorem GI.step {l w : List Nat} {gs : List (List Nat)} (h : GI l w gs) (hw : 3 < w.length) : GI l (w.take (w.length - 3)) (w.drop (w.length - 3) :: gs) := by
  obtain ⟨f, h1, h2⟩ := h
  cases f with
  | zero => omega
  | succ f =>
    refine ⟨f, by rw [List.length_take]; omega, ?_⟩
    rw [h2]
    show (if w.length ≤ 3 then [w] else grp f (w.take (w.length - 3)) ++ [w.drop (w.length - 3)]) ++ gs = _
    rw [if_neg (by omega), List.append_assoc]
    rfl
theorem GI.stop {l w : List Nat} {gs : List (List Nat)} (h : GI l w gs) (hw : w.length ≤ 3) : grp l.length l = w :: gs := by
  obtain ⟨f, h1, h2⟩ := h
  rw [h2]
  cases f with
  | zero => rfl
  | succ f =>
    show (if w.length ≤ 3 then [w] else _) ++ gs = _
    rw [if_pos hw]
    rfl
theorem GI.small {l w : List Nat} {gs : List (List Nat)} (h : GI l w gs) : w.length + (gs.map List.length).sum = l.length ∧ gs.length ≤ l.length := by
  obtain ⟨f, h1, h2⟩ := h
  have a := congrArg (fun x => x.flatten.length) h2
  rw [grp_flat, List.flatten_append, List.length_append, grp_flat, List.length_flatten] at a
  have b := grp_len l.length l
  have c := congrArg List.length h2
  rw [List.length_append] at c
  have d := List.length_pos_iff.mpr (grp_ne f w)
  exact ⟨a.symm, by omega⟩
theorem joinC_len (c : Nat) : ∀ gs : List (List Nat), (joinC c gs).length ≤ (gs.map List.length).sum + gs.length
  | [] => Nat.le_refl _
  | [x] => by simp [joinC]
  | x :: y :: r => by
    have := joinC_len c (y :: r)
    simp only [joinC, List.length_append, List.length_cons, List.map_cons, List.sum_cons] at this ⊢
    omega
theorem joinC_mem {c x : Nat} : ∀ {gs : List (List Nat)}, x ∈ joinC c gs → x = c ∨ x ∈ gs.flatten
  | [x], h => .inr (by simpa [joinC] using h)
  | y :: z :: r, h => by
    simp only [joinC] at h
    rcases List.mem_append.mp h with h | h
    · exact .inr (by simp [h])
    · rcases List.mem_cons.mp h with h | h
      · exact .inl h
      · rcases joinC_mem h with h | h
        · exact .inl h
        · exact .inr (by rw [List.flatten_cons]; exact List.mem_append_right _ h)
theorem wcom_len (l : List Nat) : (wcom l).length ≤ 2 * l.length + 1 := by
  have a := joinC_len 44 (grp l.length l)
  have b := grp_len l.length l
  have c := congrArg List.length (grp_flat l.length l)
  rw [List.length_flatten] at c
  unfold wcom
  omega
theorem wcom_mem {l : List Nat} {x : Nat} (h : x ∈ wcom l) : x = 44 ∨ x ∈ l := by
  rcases joinC_mem h with h | h
  · exact .inl h
  · rw [grp_flat] at h
    exact .inr h
theorem joinT {y : Str} {c : Nat} (ey : TL.tl y = [c]) : ∀ ps : List Str, (Txt.join y ps).cps.toList = joinC c (ps.map tlS) := by
  intro ps
  rw [TL.join_eq]
  induction ps with
  | nil => rfl
  | cons p ps ih =>
    cases ps with
    | nil => rfl
    | cons q r =>
      have e : Str.join y (p :: q :: r) = p ++ y ++ Str.join y (q :: r) := rfl
      rw [e, toList_add, toList_add, ih]
      have e2 : y.cps.toList = [c] := ey
      rw [e2]
      simp [joinC, tlS]
/-- a text with commas in the digits before the point -/
def wcL (z : Str) : List Nat := (if negS z = true then [45] else []) ++ wcom (befC 46 (bodyL z)) ++ (if 46 ∈ bodyL z then 46 :: aftC 46 (bodyL z) else [])
def wcS (z : Str) : Str := ⟨(wcL z).toArray⟩
theorem wcS_tl (z : Str) : (wcS z).cps.toList = wcL z := by simp [wcS]
theorem aft_mem {c x : Nat} {l : List Nat} (h : x ∈ aftC c l) : x ∈ l := (List.dropWhile_suffix _).subset (List.mem_of_mem_drop h)
theorem bef_mem {c x : Nat} {l : List Nat} (h : x ∈ befC c l) : x ∈ l := (List.takeWhile_prefix _).subset h
theorem body_mem {z : Str} {x : Nat} (h : x ∈ bodyL z) : x ∈ z.cps.toList := by
  unfold bodyL at h
  split at h
  · exact List.mem_of_mem_tail h
  · exact h
theorem wcS_ok {z : Str} (hA : Asc z) : (wcS z).length ≤ 3 * z.length + 3 ∧ Asc (wcS z) := by
  refine ⟨?_, fun c hc => ?_⟩
  · have a := wcom_len (befC 46 (bodyL z))
    have b := bef_len (c := 46) (l := bodyL z)
    have d := bodyL_len z
    rw [str_len, wcS_tl, wcL, List.length_append, List.length_append]
    have e1 : (if negS z = true then [45] else ([] : List Nat)).length ≤ 1 := by split <;> simp
    have e2 : (if 46 ∈ bodyL z then 46 :: aftC 46 (bodyL z) else []).length ≤ 1 + (aftC 46 (bodyL z)).length := by split <;> simp; omega
    omega
  · rw [wcS_tl, wcL] at hc
    rcases List.mem_append.mp hc with h | h
    · rcases List.mem_append.mp h with h | h
      · split at h
        · rw [List.mem_singleton.mp h]; decide
        · cases h
      · rcases wcom_mem h with h | h
        · omega
        · exact hA c (body_mem (bef_mem h))
    · split at h
      · rcases List.mem_cons.mp h with h | h
        · omega
        · exact hA c (body_mem (aft_mem h))
      · cases h
/-- a style of labels -/
structure Sty where
  b : Str
  a : Str
  g : Bool
def Sty.d (s : Sty) : D := .tup [.str s.b, .str s.a, .bl s.g]
structure Sty.Ok (s : Sty) : Prop where
  b : s.b.length ≤ 8
  a : s.a.length ≤ 8
  bA : Asc s.b
  aA : Asc s.a
/-- the label of a number -/
noncomputable def labN (x : Fq) (s : Sty) : Str := s.b ++ (if s.g = true ∧ 47 ∉ (ftx x.n x.d.toNat).cps.toList then wcS (ftx x.n x.d.toNat) else ftx x.n x.d.toNat) ++ s.a
/-- a number's text, told without a stroke: one point at most -/
theorem ftx_point {x : Fq} {k : Nat} (hx : x.Ok k) (h : 47 ∉ (ftx x.n x.d.toNat).cps.toList) : 46 ∉ aftC 46 (bodyL (ftx x.n x.d.toNat)) := by
  unfold ftx at h ⊢
  cases hd : dpl x.d.toNat with
  | none =>
    rw [hd] at h
    exact absurd (by rw [toList_add, toList_add]; exact List.mem_append_left _ (List.mem_append_right _ (by decide +kernel))) h
  | some p =>
    dsimp only
    generalize hm : x.n.natAbs * (10 ^ p / x.d.toNat) = m
    obtain ⟨r1, r2, r3⟩ := body_read (p := p) (m := m)
    have e : (if x.n < 0 then "-" ++ bodyT p (natT m) else bodyT p (natT m)).cps.toList = (if decide (x.n < 0) = true then [45] else []) ++ (bodyT p (natT m)).cps.toList := by
      by_cases g : x.n < 0
      · rw [if_pos g, if_pos (decide_eq_true g), toList_add]; rfl
      · rw [if_neg g, if_neg (by simp [g])]; rfl
    rw [(sgn_split e r2 r1).2]
    intro hc
    unfold rdv at r3
    have h47 : 47 ∉ (bodyT p (natT m)).cps.toList := fun h2 => by
      rw [hd] at h
      dsimp only at h
      rw [hm] at h
      apply h
      rw [e]
      exact List.mem_append_right _ h2
    rw [if_neg h47] at r3
    by_cases h46 : 46 ∈ (bodyT p (natT m)).cps.toList
    · rw [if_pos h46] at r3
      have : dgL (aftC 46 (bodyT p (natT m)).cps.toList) = false := dg_no hc (by decide)
      rw [this, Bool.and_false] at r3
      cases r3
    · exact h46 (aft_mem hc)
theorem labN_ok {x : Fq} {s : Sty} (hx : x.Ok 400) (hs : s.Ok) : (labN x s).length ≤ 10000 ∧ Asc (labN x s) := by
  obtain ⟨fl, fa⟩ := ftx_ok (n := x.n) (d := x.d.toNat) hx.bn (by have h1 : x.d.natAbs < 2 ^ 400 := hx.bd; have h2 := hx.pos; omega)
  obtain ⟨wl, wa⟩ := wcS_ok fa
  have h1 := hs.b
  have h2 := hs.a
  unfold labN
  split
  · exact ⟨by rw [len_add, len_add]; omega, (hs.bA.add wa).add hs.aA⟩
  · exact ⟨by rw [len_add, len_add]; omega, (hs.bA.add fa).add hs.aA⟩
/-- without commas -/
def strike (z : Str) : Str := Txt.replace z "," ""
theorem strike_tl (z : Str) : (strike z).cps.toList = z.cps.toList.filter (· != 44) := PyProof.Rows.replace_strikes z 44
/-- a label read back -/
noncomputable def rdL (z : Str) (s : Sty) : Option Fq :=
  if z.length < s.b.length + s.a.length then none else
  match rdF (if s.g = true then strike (cutT z (some (s.b.length : Int)) (some ((z.length : Int) - (s.a.length : Int)))) else cutT z (some (s.b.length : Int)) (some ((z.length : Int) - (s.a.length : Int)))) with
  | none => none
  | some x => if labN x s = z then some x else none
theorem rdL_none {z : Str} {s : Sty} (h : ∀ x, labN x s ≠ z) : rdL z s = none := by
  unfold rdL
  split
  · rfl
  · split
    · rfl
    · rename_i x _
      rw [if_neg (h x)]
theorem lab_ends {x : Fq} {s : Sty} {z : Str} (h : labN x s = z) : cutT z none (some (s.b.length : Int)) = s.b ∧ cutT z (some ((z.length : Int) - (s.a.length : Int))) none = s.a := by
  unfold labN at h
  generalize (if s.g = true ∧ 47 ∉ (ftx x.n x.d.toNat).cps.toList then wcS (ftx x.n x.d.toNat) else ftx x.n x.d.toNat) = T at h
  subst h
  have l1 := str_len s.b
  have l2 := str_len s.a
  have l3 := str_len T
  have lz : ((s.b ++ T ++ s.a : Str).cps.toList).length = s.b.length + T.length + s.a.length := by
    rw [toList_add, toList_add, List.length_append, List.length_append]
    omega
  have lz2 : (s.b ++ T ++ s.a : Str).length = s.b.length + T.length + s.a.length := by rw [str_len, lz]
  constructor
  · refine str_ext ?_
    rw [cutT_tl, cut_to (by omega) (by rw [lz]; omega), toList_add, toList_add, List.append_assoc, Int.toNat_natCast, l1, List.take_left]
  · refine str_ext ?_
    obtain ⟨m, e, hm⟩ : ∃ m : Nat, ((s.b ++ T ++ s.a : Str).length : Int) - (s.a.length : Int) = (m : Int) ∧ m = s.b.length + T.length := ⟨s.b.length + T.length, by omega, rfl⟩
    rw [cutT_tl, e, cut_from (by omega) (by rw [lz]; omega), toList_add, toList_add, Int.toNat_natCast]
    have : m = (s.b.cps.toList ++ T.cps.toList).length := by rw [List.length_append]; omega
    rw [this, List.drop_left]
theorem strike_ok {I : Str} (hl : I.length ≤ 100) : (strike I).length ≤ 100 ∧ (Asc I → Asc (strike I)) := by
  refine ⟨?_, fun h c hc => ?_⟩
  · rw [str_len, strike_tl]
    have := List.length_filter_le (· != 44) I.cps.toList
    rw [str_len] at hl
    omega
  · rw [strike_tl] at hc
    exact h c (List.mem_filter.mp hc).1
theorem bef_self {c : Nat} : ∀ {l : List Nat}, c ∉ l → befC c l = l
  | [], _ => rfl
  | x :: r, h => by
    have hx : (x != c) = true := by
      have : x ≠ c := fun e => h (by rw [e]; exact List.mem_cons_self)
      simp [this]
    have ih := bef_self (l := r) (c := c) fun m => h (List.mem_cons_of_mem _ m)
    unfold befC at *
    rw [List.takeWhile_cons_of_pos (p := (· != c)) hx, ih]
/-- the last three signs off -/
theorem cut3 {w : Str} (h : 3 < w.length) : tlS (cutT w none (some (-3))) = (tlS w).take ((tlS w).length - 3) ∧ tlS (cutT w (some (-3)) none) = (tlS w).drop ((tlS w).length - 3) ∧
    tlS (cutT w none (some ((w.length : Int) - 3))) = (tlS w).take ((tlS w).length - 3) ∧ tlS (cutT w (some ((w.length : Int) - 3)) none) = (tlS w).drop ((tlS w).length - 3) := by
  have l1 : w.length = (tlS w).length := str_len w
  obtain ⟨c1, c2⟩ := cutT_neg (z := w) (p := 3) (by decide) (by omega)
  have c1 : cutT w none (some (-3)) = cutT w none (some ((w.length : Int) - 3)) := c1
  have c2 : cutT w (some (-3)) none = cutT w (some ((w.length : Int) - 3)) none := c2
  have e : ((w.length : Int) - 3) = (((tlS w).length - 3 : Nat) : Int) := by omega
  have d1 : tlS (cutT w none (some ((w.length : Int) - 3))) = (tlS w).take ((tlS w).length - 3) := by
    show (cutT w none (some ((w.length : Int) - 3))).cps.toList = _
    rw [cutT_tl, e, cut_to (by omega) (by show (((tlS w).length - 3 : Nat) : Int).toNat ≤ (tlS w).length; omega)]
    rfl
  have d2 : tlS (cutT w (some ((w.length : Int) - 3)) none) = (tlS w).drop ((tlS w).length - 3) := by
    show (cutT w (some ((w.length : Int) - 3)) none).cps.toList = _
    rw [cutT_tl, e, cut_from (by omega) (by show (((tlS w).length - 3 : Nat) : Int).toNat ≤ (tlS w).length; omega)]
    rfl
  exact ⟨by rw [c1, d1], by rw [c2, d2], d1, d2⟩
theorem gi_join {l : List Nat} {w : Str} {gs : List Str} (h : GI l (tlS w) (gs.map tlS)) (hl : l.length ≤ 10000) : joinOk "," (w :: gs) := by
  obtain ⟨a, b⟩ := h.small
  have e1 : (("," : String) : Str).length = 1 := by decide +kernel
  have e2 : (gs.map (·.length)) = (gs.map tlS).map List.length := by
    rw [List.map_map]
    exact List.map_congr_left fun x _ => str_len x
  have e3 : w.length = (tlS w).length := str_len w
  rw [List.length_map] at b
  unfold joinOk
  rw [e1, List.map_cons, List.sum_cons, e2, e3, List.length_cons]
  omega
theorem gi_text {l : List Nat} {w : Str} {gs : List Str} (h : GI l (tlS w) (gs.map tlS)) (hw : w.length ≤ 3) : (Txt.join "," (w :: gs)).cps.toList = wcom l := by
  rw [joinT (c := 44) (by decide +kernel), wcom, h.stop (by rw [← str_len w] at *; exact hw)]
  rfl
theorem rdL_py {z : Str} {s : Sty} (hz : z.length ≤ 100) : ∃ p, (∀ S, PyR S (oQ (rdL z s)) p) ∧ rpOk p := by
  have no : ∃ p, (∀ S, PyR S (oQ none) p) ∧ rpOk p := ⟨.none, fun S => .non, Rz.non.ok (by decide) (by decide)⟩
  unfold rdL
  split
  · exact no
  · have il := cutT_len z (some (s.b.length : Int)) (some ((z.length : Int) - (s.a.length : Int)))
    generalize cutT z (some (s.b.length : Int)) (some ((z.length : Int) - (s.a.length : Int))) = I at il
    have jl : (if s.g = true then strike I else I).length ≤ 100 := by
      split
      · exact (strike_ok (by omega)).1
      · omega
    split
    · exact no
    · rename_i x hr
      split
      · exact ⟨x.p, fun S => x.pyr S, Fq.ok (rdF_ok jl hr) (by decide)⟩
      · exact no

def b_lowest : WS :=
  (sSeq (sIf (tB (eBin dLt (eVar 1) (eC (.int 0)))) (sPar 0 1 (aCons (eNeg (eVar 0)) (aCons (eNeg (eVar 1)) aNil))) sNil)
  (sSeq (sAsg (eCall bGcd (aCons (eVar 0) (aCons (eVar 1) aNil))) (gName 2))
  (sRet (eTup (aCons (eBin dDiv (eVar 0) (eVar 2)) (aCons (eBin dDiv (eVar 1) (eVar 2)) aNil))))))
-- math: frac
@[irreducible] def F_lowest : WF := wf2 fun a b S Q => ∃ n d : Int, a = .int n ∧ b = .int d ∧ d ≠ 0 ∧ Bd 7000 d ∧ Q (low n d).t S
theorem p_lowest : ∀ ds S Q, F_lowest ds S Q → b_lowest (enOf Q) (DL.start 3 ds) S := by
  unfold F_lowest
  refine ok2 fun a b S Q h => ?_
  obtain ⟨n, d, rfl, rfl, h0, hb, q⟩ := h
  show b_lowest (enOf Q) [some (.int n), some (.int d), none] S
  walk_at "wk"
  refine ifB_dec (fun h => ?_) (fun h => ?_)
  · rw [low_neg n d h] at q
    have hg := gcd_div (n := -n) (d := -d) (by omega) hb.neg (by decide)
    unfold low at q
    rw [if_neg (by omega)] at q
    walk_at "wk"
    exact .here q
  · have hg := gcd_div (n := n) (d := d) h0 hb (by decide)
    unfold low at q
    rw [if_neg h] at q
    walk_at "wk"
    exact .here q
theorem lowest_in {n d : Int} {S : Sto} {Q : WQ} (h0 : d ≠ 0) (hb : Bd 7000 d) (q : Q (low n d).t S) : F_lowest [.int n, .int d] S Q := by
  unfold F_lowest
  exact ⟨n, d, rfl, rfl, h0, hb, q⟩

def b_power_of_ten : WS :=
  (sSeq (sAsg (eC (.int 1)) (gName 1))
  (sSeq (sFor (iRng (aCons (eVar 0) aNil)) (gName 2) (sAsg (eBin dMul (eVar 1) (eC (.int 10))) (gName 1)))
  (sRet (eVar 1))))
-- math: ftext
@[irreducible] def F_power_of_ten : WF := wf1 fun a S Q => ∃ p : Nat, a = .int (p : Int) ∧ p ≤ 1000 ∧ Q (.int ((10 ^ p : Nat) : Int)) S
theorem p_power_of_ten : ∀ ds S Q, F_power_of_ten ds S Q → b_power_of_ten (enOf Q) (DL.start 3 ds) S := by
  unfold F_power_of_ten
  refine ok1 fun a S Q h => ?_
  obtain ⟨p, rfl, hp, q⟩ := h
  show b_power_of_ten (enOf Q) [some (.int p), none, none] S
  walk_at "wk"
  refine for_in ?_
  walk_at "wk"
  refine rng_w (fun i env S' => ∃ o : Option D, env = [some (.int p), some (.int ((10 ^ i : Nat) : Int)), o] ∧ S' = S) ⟨none, rfl, rfl⟩ ?_ ?_
  · rintro i env S' hi ⟨o, rfl, rfl⟩
    have m10 : mulOk ((10 ^ i : Nat) : Int) 10 := .inr (.inl (by decide))
    walk_at "wk"
    have e : ((10 ^ i : Nat) : Int) * 10 = ((10 ^ (i + 1) : Nat) : Int) := by rw [Nat.pow_succ]; simp
    rw [e]
    exact .here ⟨_, rfl, rfl⟩
  · rintro env S' ⟨o, rfl, rfl⟩
    walk_at "wk"
    exact .here q
theorem power_of_ten_in {p : Nat} {S : Sto} {Q : WQ} (hp : p ≤ 1000) (q : Q (.int ((10 ^ p : Nat) : Int)) S) : F_power_of_ten [.int (p : Int)] S Q := by
  unfold F_power_of_ten
  exact ⟨p, rfl, hp, q⟩

def b_decimal_places : WS :=
  (sSeq (sAsg (eC (.int 0)) (gName 1))
  (sSeq (sJoin (sWhile (tB (eBin dEq (eBin dMod (eVar 0) (eC (.int 2))) (eC (.int 0)))) (sSeq (sAsg (eBin dDiv (eVar 0) (eC (.int 2))) (gName 0))
  (sAug 1 dIAdd (eC (.int 1))))))
  (sSeq (sAsg (eC (.int 0)) (gName 2))
  (sSeq (sJoin (sWhile (tB (eBin dEq (eBin dMod (eVar 0) (eC (.int 5))) (eC (.int 0)))) (sSeq (sAsg (eBin dDiv (eVar 0) (eC (.int 5))) (gName 0))
  (sAug 2 dIAdd (eC (.int 1))))))
  (sSeq (sIf (tB (eBin dNe (eVar 0) (eC (.int 1)))) (sRet (eC .non)) sNil)
  (sRet (eCall bMax2 (aCons (eVar 1) (aCons (eVar 2) aNil)))))))))
-- math: ftext
-- join: while denominator % 2
-- join: while denominator % 5
def oN : Option Nat → D
  | none => .non
  | some p => .int (p : Int)
@[irreducible] def F_decimal_places : WF := wf1 fun a S Q => ∃ d : Nat, a = .int (d : Int) ∧ 0 < d ∧ Q (oN (dpl d)) S
theorem p_decimal_places : ∀ ds S Q, F_decimal_places ds S Q → b_decimal_places (enOf Q) (DL.start 3 ds) S := by
  unfold F_decimal_places
  refine ok1 fun a S Q h => ?_
  obtain ⟨d, rfl, hd, q⟩ := h
  show b_decimal_places (enOf Q) [some (.int d), none, none] S
  walk_at "wk"
  refine join_in (fun env S' => env = [some (.int ((strip 2 d d).2 : Nat)), some (.int ((strip 2 d d).1 : Nat)), none] ∧ S' = S ∧ 0 < (strip 2 d d).2) ?_ ?_
  · walk_at "wk"
    refine while_in (fun m env S' => ∃ (e k f : Nat), m = e ∧ 0 < e ∧ e ≤ f ∧ strip 2 d d = ((strip 2 f e).1 + k, (strip 2 f e).2) ∧ env = [some (.int (e : Nat)), some (.int (k : Nat)), none] ∧ S' = S) d ⟨d, 0, d, rfl, hd, Nat.le_refl _, rfl, rfl, rfl⟩ ?_
    rintro m env S' ⟨e, k, f, rfl, he, hf, hs, rfl, rfl⟩
    walk_at "wk"
    obtain ⟨f, rfl⟩ : ∃ g, f = g + 1 := ⟨f - 1, by omega⟩
    refine ifB_dec (fun g => ?_) (fun g => ?_)
    · have g : m % 2 = 0 := by omega
      walk_at "wk"
      refine .here ⟨m / 2, by omega, m / 2, k + 1, f, rfl, by omega, by omega, ?_, ?_, rfl⟩
      · rw [hs]
        conv => lhs; unfold strip
        rw [if_pos g]
        rw [Nat.add_assoc, Nat.add_comm 1 k]
      · simp
    · have g : ¬ m % 2 = 0 := by omega
      have e : strip 2 d d = (k, m) := by
        rw [hs]
        conv => lhs; unfold strip
        rw [if_neg g, Nat.zero_add]
      rw [e]
      exact .here ⟨rfl, rfl, he⟩
  rintro env S' ⟨rfl, rfl, h2⟩
  generalize hx : strip 2 d d = x at h2
  obtain ⟨t, c⟩ := x
  walk_at "wk"
  refine join_in (fun env S2 => env = [some (.int ((strip 5 c c).2 : Nat)), some (.int (t : Nat)), some (.int ((strip 5 c c).1 : Nat))] ∧ S2 = S') ?_ ?_
  · walk_at "wk"
    refine while_in (fun m env S2 => ∃ (e k f : Nat), m = e ∧ 0 < e ∧ e ≤ f ∧ strip 5 c c = ((strip 5 f e).1 + k, (strip 5 f e).2) ∧ env = [some (.int (e : Nat)), some (.int (t : Nat)), some (.int (k : Nat))] ∧ S2 = S') c ⟨c, 0, c, rfl, h2, Nat.le_refl _, rfl, rfl, rfl⟩ ?_
    rintro m env S2 ⟨e, k, f, rfl, he, hf, hs, rfl, rfl⟩
    walk_at "wk"
    obtain ⟨f, rfl⟩ : ∃ g, f = g + 1 := ⟨f - 1, by omega⟩
    refine ifB_dec (fun g => ?_) (fun g => ?_)
    · have g : m % 5 = 0 := by omega
      walk_at "wk"
      refine .here ⟨m / 5, by omega, m / 5, k + 1, f, rfl, by omega, by omega, ?_, ?_, rfl⟩
      · rw [hs]
        conv => lhs; unfold strip
        rw [if_pos g]
        rw [Nat.add_assoc, Nat.add_comm 1 k]
      · simp
    · have g : ¬ m % 5 = 0 := by omega
      have e : strip 5 c c = (k, m) := by
        rw [hs]
        conv => lhs; unfold strip
        rw [if_neg g, Nat.zero_add]
      rw [e]
      exact .here ⟨rfl, rfl⟩
  rintro env S2 ⟨rfl, rfl⟩
  have q : Q (oN (if (strip 5 c c).2 = 1 then some (max t (strip 5 c c).1) else none)) S2 := by
    unfold dpl at q
    rw [hx] at q
    exact q
  generalize strip 5 c c = y at q
  obtain ⟨f, r⟩ := y
  walk_at "wk"
  refine ifB_ndec (fun g => ?_) (fun g => ?_)
  · walk_at "wk"
    rw [if_neg (by dsimp only; omega)] at q
    exact .here q
  · walk_at "wk"
    rw [if_pos (by dsimp only; omega)] at q
    have e : (max (t : Int) (f : Int)) = ((max t f : Nat) : Int) := by omega
    rw [e]
    exact .here q
theorem decimal_places_in {d : Nat} {S : Sto} {Q : WQ} (hd : 0 < d) (q : Q (oN (dpl d)) S) : F_decimal_places [.int (d : Int)] S Q := by
  unfold F_decimal_places
  exact ⟨d, rfl, hd, q⟩

def b_fraction_text : WS :=
  (sSeq (sAsg (eCall F_decimal_places (aCons (eBin dIx (eVar 0) (eC (.int 1))) aNil)) (gName 1))
  (sSeq (sIf (tB (eIsN (eVar 1))) (sRet (eFstr [(eFmt (eBin dIx (eVar 0) (eC (.int 0)))), (eC (.str "/")), (eFmt (eBin dIx (eVar 0) (eC (.int 1))))])) sNil)
  (sSeq (sAsg (eC (.str "")) (gName 2))
  (sSeq (sJoin (sIf (tB (eBin dLt (eBin dIx (eVar 0) (eC (.int 0))) (eC (.int 0)))) (sAsg (eC (.str "-")) (gName 2)) sNil))
  (sSeq (sAsg (eMethS mZfill (eCall bStr (aCons (eBin dDiv (eBin dMul (eCall bAbs (aCons (eBin dIx (eVar 0) (eC (.int 0))) aNil)) (eCall F_power_of_ten (aCons (eVar 1) aNil))) (eBin dIx (eVar 0) (eC (.int 1)))) aNil)) (aCons (eBin dAdd (eVar 1) (eC (.int 1))) aNil)) (gName 3))
  (sSeq (sIf (tB (eBin dEq (eVar 1) (eC (.int 0)))) (sRet (eBin dAdd (eVar 2) (eVar 3))) sNil)
  (sRet (eBin dAdd (eBin dAdd (eBin dAdd (eVar 2) (eSl (eVar 3) oNone (oSome (eNeg (eVar 1))))) (eC (.str "."))) (eSl (eVar 3) (oSome (eNeg (eVar 1))) oNone)))))))))
-- math: ftext
-- fn: decimal_places
-- join: if a[0] < 0
@[irreducible] def F_fraction_text : WF := wf1 fun a S Q => ∃ x : Fq, a = x.t ∧ x.Ok 400 ∧ Q (.str (ftx x.n x.d.toNat)) S
set_option maxHeartbeats 2000000 in
theorem p_fraction_text : ∀ ds S Q, F_fraction_text ds S Q → b_fraction_text (enOf Q) (DL.start 4 ds) S := by
  unfold F_fraction_text
  refine ok1 fun a S Q h => ?_
  obtain ⟨⟨n, d⟩, rfl, hx, q⟩ := h
  obtain ⟨d, rfl⟩ : ∃ e : Nat, d = (e : Int) := ⟨d.toNat, by have := hx.pos; dsimp only at this; omega⟩
  show b_fraction_text (enOf Q) [some (.tup [.int n, .int d]), none, none, none] S
  have q : Q (.str (ftx n d)) S := q
  have hd : 0 < d := by have := hx.pos; dsimp only at this; omega
  have bn : n.natAbs < 2 ^ 400 := hx.bn
  have bd : d < 2 ^ 400 := by have := hx.bd; unfold Bd at this; dsimp only at this; omega
  have l1 : n.natAbs.log2 < 1920 := Nat.lt_of_lt_of_le (log2_of bn (by decide)) (by decide)
  have l2 : (d : Int).natAbs.log2 < 1920 := Nat.lt_of_lt_of_le (log2_of (show (d : Int).natAbs < 2 ^ 400 from bd) (by decide)) (by decide)
  have big : 100000 ≤ sizeLine := by decide
  walk_at "wk"
  refine decimal_places_in hd ?_
  cases hp : dpl d with
  | none =>
    unfold ftx at q
    rw [hp] at q
    walk_at "wk"
    have s1 := text_len (i := n) (Nat.lt_of_lt_of_le bn (Nat.pow_le_pow_right (by decide) (by decide)))
    have s2 := text_len (i := (d : Int)) (Nat.lt_of_lt_of_le (show (d : Int).natAbs < 2 ^ 400 from bd) (Nat.pow_le_pow_right (by decide) (by decide)))
    have s3 : (("/" : String) : Str).length = 1 := by decide +kernel
    rw [empty_add]
    refine ⟨by omega, ?_⟩
    walk_at "wk"
    refine ⟨by rw [len_add]; omega, ?_⟩
    walk_at "wk"
    refine ⟨by rw [len_add, len_add]; omega, ?_⟩
    walk_at "wk"
    exact .here q
  | some p =>
    unfold ftx at q
    rw [hp] at q
    dsimp only at q
    obtain ⟨dv, pw⟩ := dpl_dvd hp
    walk_at "wk"
    refine join_in (fun env S' => env = [some (.tup [.int n, .int d]), some (.int p), some (.str (if n < 0 then "-" else "")), none] ∧ S' = S) ?_ ?_
    · walk_at "wk"
      refine ifB_dec (fun g => ?_) (fun g => ?_)
      · walk_at "wk"
        exact .here ⟨by rw [if_pos g]; rfl, rfl⟩
      · exact .here ⟨by rw [if_neg g]; rfl, rfl⟩
    rintro env S' ⟨rfl, rfl⟩
    walk_at "wk"
    have fb := fb_of bn bd hp
    have ea : (if n < 0 then -n else n) = (n.natAbs : Int) := by split <;> omega
    rw [ea]
    refine power_of_ten_in (by have := fb.pl; omega) ?_
    have mo : mulOk (n.natAbs : Int) ((10 ^ p : Nat) : Int) := .inr (.inr (by
      have h1 : (n.natAbs : Int).natAbs.log2 < 1920 := l1
      have h2 : ((10 ^ p : Nat) : Int).natAbs.log2 ≤ 1600 := fb.t
      omega))
    have hd2 : 0 < (d : Int) ∧ (d : Int).natAbs.log2 < 8000 := ⟨by omega, by omega⟩
    refine ⟨mo, ?_⟩
    walk_at "wk"
    have ed : ((n.natAbs : Int) * ((10 ^ p : Nat) : Int)) / (d : Int) = ((n.natAbs * (10 ^ p / d) : Nat) : Int) := by
      rw [← Nat.mul_div_assoc _ dv]
      simp
    rw [ed]
    have lm := fb.m
    generalize n.natAbs * (10 ^ p / d) = M at lm q
    have lm2 : ((M : Nat) : Int).natAbs.log2 < 1920 := Nat.lt_of_lt_of_le (log2_of (k := 1900) lm (by decide)) (by decide)
    walk_at "wk"
    have e1 : ((p : Int) + 1) = ((p + 1 : Nat) : Int) := by omega
    refine ⟨by rw [e1]; exact pad_ok (by have := fb.pl; omega), ?_⟩
    rw [show Str.ofString (toString ((M : Nat) : Int)) = natT M from rfl, zfill_pad]
    have tl := text_len (i := (M : Int)) lm
    have pl := padZ_len p (natT M)
    have tl2 : (natT M).length ≤ 601 := tl
    have hle : (padZ p (natT M)).length ≤ sizeLine := by rw [pl]; have := fb.pl; omega
    have s1 : (("-" : String) : Str).length = 1 := by decide +kernel
    have s2 : (("." : String) : Str).length = 1 := by decide +kernel
    have s3 : (("" : String) : Str).length = 0 := by decide +kernel
    have sl : (if n < 0 then (("-" : String) : Str) else (("" : String) : Str)).length ≤ 1 := by split <;> omega
    have bsz : 5000 ≤ sizeLine := by decide
    have room : (if n < 0 then (("-" : String) : Str) else (("" : String) : Str)).length + (padZ p (natT M)).length ≤ sizeLine := by rw [pl]; have := fb.pl; omega
    walk_at "wk"
    refine ifB_dec (fun g => ?_) (fun g => ?_)
    · have g : p = 0 := by omega
      subst g
      walk_at "wk"
      have e : (if n < 0 then (("-" : String) : Str) else (("" : String) : Str)) ++ padZ 0 (natT M) = (if n < 0 then "-" ++ bodyT 0 (natT M) else bodyT 0 (natT M)) := by
        rw [padZ_zero (natT_ne M)]
        have : bodyT 0 (natT M) = natT M := rfl
        rw [this]
        split
        · rfl
        · exact str_nil _
      rw [e]
      exact .here q
    · have g : 0 < p := by omega
      obtain ⟨c1, c2⟩ := cutT_neg (z := padZ p (natT M)) g (by rw [pl]; omega)
      walk_at "wk"
      show _ ∧ _
      have k1 := cutT_len (padZ p (natT M)) none (some (-(p : Int)))
      have k2 := cutT_len (padZ p (natT M)) (some (-(p : Int))) none
      have pp := fb.pl
      refine ⟨by show _ + (cutT (padZ p (natT M)) none (some (-(p : Int)))).length ≤ _; omega, ?_⟩
      walk_at "wk"
      show _ ∧ _
      refine ⟨by rw [len_add]; show _ + (cutT (padZ p (natT M)) none (some (-(p : Int)))).length + _ ≤ _; omega, ?_⟩
      walk_at "wk"
      show _ ∧ _
      refine ⟨by rw [len_add, len_add]; show _ + (cutT (padZ p (natT M)) none (some (-(p : Int)))).length + _ + (cutT (padZ p (natT M)) (some (-(p : Int))) none).length ≤ _; omega, ?_⟩
      walk_at "wk"
      have e : (if n < 0 then (("-" : String) : Str) else (("" : String) : Str)) ++ cutT (padZ p (natT M)) none (some (-(p : Int))) ++ "." ++ cutT (padZ p (natT M)) (some (-(p : Int))) none = (if n < 0 then "-" ++ bodyT p (natT M) else bodyT p (natT M)) := by
        rw [c1, c2]
        have : bodyT p (natT M) = cutT (padZ p (natT M)) none (some (((padZ p (natT M)).length : Int) - (p : Int))) ++ "." ++ cutT (padZ p (natT M)) (some (((padZ p (natT M)).length : Int) - (p : Int))) none := by unfold bodyT; rw [if_pos g]
        rw [this]
        split
        · simp only [str_assoc]
        · rw [str_nil]
      rw [← e] at q
      exact .here q
theorem fraction_text_in {x : Fq} {S : Sto} {Q : WQ} (hx : x.Ok 400) (q : Q (.str (ftx x.n x.d.toNat)) S) : F_fraction_text [x.t] S Q := by
  unfold F_fraction_text
  exact ⟨x, rfl, hx, q⟩

def b_has_digits : WS :=
  (sRet (eAnd (eBin dNe (eVar 0) (eC (.str ""))) (eCall bAllB (aCons (eComp (iSeq (eVar 0)) (gName 1) tYes (eBin dIn (eVar 1) (eC (.str "0123456789"))) [1]) aNil))))
-- math: ftext
def digS : Str := "0123456789"
def isdg (z : Str) : Bool := decide (z ≠ "") && z.cps.toList.all (fun c => decide (c ∈ digS.cps.toList))
@[irreducible] def F_has_digits : WF := wf1 fun a S Q => ∃ z : Str, a = .str z ∧ z.length ≤ 100000 ∧ Q (.bl (isdg z)) S
theorem p_has_digits : ∀ ds S Q, F_has_digits ds S Q → b_has_digits (enOf Q) (DL.start 2 ds) S := by
  unfold F_has_digits
  refine ok1 fun a S Q h => ?_
  obtain ⟨z, rfl, hz, q⟩ := h
  show b_has_digits (enOf Q) [some (.str z), none] S
  have big : 100000 ≤ sizeLine := by decide
  unfold isdg at q
  walk_at "wk"
  by_cases h : z = ""
  · subst h
    walk_at "wk"
    exact .here q
  · rw [show decide (z ≠ (("" : String) : Str)) = true from decide_eq_true h, Bool.true_and] at q
    refine ifB_ndec (fun _ => ?_) (fun g => absurd g h)
    walk_at "wk"
    refine comp_map z.cps.toList sg1 (fun c => .bl (decide (c ∈ digS.cps.toList))) (yl_str (fun Q h => by walk_at "wk"; exact h) (by omega)) trivial (fun c _ Q' hQ => ?_) fun l hl => ?_
    · walk_at "wk"
      exact ⟨c, rfl, hQ⟩
    · walk_at "wk"
      refine ⟨z.cps.toList.map fun c => decide (c ∈ digS.cps.toList), by simp, ?_⟩
      walk_at "wk"
      rw [List.all_map]
      exact .new hl (.here q)
theorem has_digits_in {z : Str} {S : Sto} {Q : WQ} (hz : z.length ≤ 100000) (q : Q (.bl (isdg z)) S) : F_has_digits [.str z] S Q := by
  unfold F_has_digits
  exact ⟨z, rfl, hz, q⟩

def b_read_fraction : WS :=
  (sSeq (sAsg (eMethS mRemPre (eVar 0) (aCons (eC (.str "-")) aNil)) (gName 1))
  (sSeq (sJoin (sIf (tB (eBin dIn (eC (.str "/")) (eVar 1))) (sAsg (eMethS mPartition (eVar 1) (aCons (eC (.str "/")) aNil)) (gTup 3 (gsCons (gName 2) (gsCons (gName 3) (gsCons (gName 4) gsNil))))) (sAsg (eMethS mPartition (eVar 1) (aCons (eC (.str ".")) aNil)) (gTup 3 (gsCons (gName 2) (gsCons (gName 3) (gsCons (gName 4) gsNil)))))))
  (sSeq (sJoin (sIf (tOr (tNot (tTru (eCall F_has_digits (aCons (eVar 2) aNil)))) (tAnd (tB (eBin dNe (eVar 3) (eC (.str "")))) (tNot (tTru (eCall F_has_digits (aCons (eVar 4) aNil)))))) (sRet (eC .non)) sNil))
  (sSeq (sJoin (sIf (tB (eBin dEq (eVar 3) (eC (.str "/")))) (sPar 5 6 (aCons (eCall bIntA (aCons (eVar 2) aNil)) (aCons (eCall bIntA (aCons (eVar 4) aNil)) aNil))) (sPar 5 6 (aCons (eCall bIntA (aCons (eBin dAdd (eVar 2) (eVar 4)) aNil)) (aCons (eCall F_power_of_ten (aCons (eCall bLen (aCons (eVar 4) aNil)) aNil)) aNil)))))
  (sSeq (sIf (tB (eBin dEq (eVar 6) (eC (.int 0)))) (sRet (eC .non)) sNil)
  (sSeq (sJoin (sIf (tTru (eMethS mStartswith (eVar 0) (aCons (eC (.str "-")) aNil))) (sAsg (eNeg (eVar 5)) (gName 5)) sNil))
  (sSeq (sAsg (eCall F_lowest (aCons (eVar 5) (aCons (eVar 6) aNil))) (gName 7))
  (sSeq (sIf (tB (eBin dNe (eCall F_fraction_text (aCons (eVar 7) aNil)) (eVar 0))) (sRet (eC .non)) sNil)
  (sRet (eVar 7))))))))))
-- math: fread
-- fn: has_digits
-- intstr
-- join: if '/' in digits
-- join: if not has_digits(first)
-- join: if mark == '/'
-- join: if text.startswith
theorem isdg_eq (z : Str) : isdg z = dgL z.cps.toList := by
  have e : digS.cps.toList = [48, 49, 50, 51, 52, 53, 54, 55, 56, 57] := by decide +kernel
  unfold isdg dgL
  rw [e]
  congr 1
  · rw [Bool.eq_iff_iff, decide_eq_true_eq, Bool.not_eq_true', List.isEmpty_eq_false_iff]
    constructor
    · intro h h2
      exact h (str_ext (by rw [h2]; rfl))
    · intro h h2
      rw [h2] at h
      exact h rfl
  · congr 1
    funext c
    rw [decide_eq_decide]
    simp only [List.mem_cons, List.not_mem_nil, or_false]
    omega
/-- what stands before and behind the mark -/
def Parts (b : List Nat) (A M C : Str) : Prop :=
  (47 ∈ b ∧ M = "/" ∧ A.cps.toList = befC 47 b ∧ C.cps.toList = aftC 47 b) ∨ (47 ∉ b ∧ 46 ∈ b ∧ M = "." ∧ A.cps.toList = befC 46 b ∧ C.cps.toList = aftC 46 b) ∨ (47 ∉ b ∧ 46 ∉ b ∧ M = "" ∧ A.cps.toList = b ∧ C = "")
theorem parts_fail {b : List Nat} {A M C : Str} (h : Parts b A M C) (g : dgL A.cps.toList = false ∨ (M ≠ "" ∧ dgL C.cps.toList = false)) : rdv b = none := by
  unfold rdv
  rcases h with ⟨h1, rfl, e1, e2⟩ | ⟨h1, h2, rfl, e1, e2⟩ | ⟨h1, h2, rfl, e1, e2⟩
  · rw [if_pos h1, ← e1, ← e2]
    rcases g with g | g
    · rw [g]; rfl
    · rw [g.2, Bool.and_false]; rfl
  · rw [if_neg h1, if_pos h2, ← e1, ← e2]
    rcases g with g | g
    · rw [g]; rfl
    · rw [g.2, Bool.and_false]; rfl
  · rw [if_neg h1, if_neg h2, ← e1]
    rcases g with g | g
    · rw [g]; rfl
    · exact absurd rfl g.1
theorem dgL_add {a c : List Nat} (h1 : dgL a = true) (h2 : dgL c = true) : dgL (a ++ c) = true := by
  unfold dgL at *
  rw [Bool.and_eq_true] at *
  rw [List.all_append, h1.2, h2.2]
  refine ⟨?_, rfl⟩
  cases a with
  | nil => exact absurd h1.1 (by decide)
  | cons x l => rfl
theorem parts_ok {b : List Nat} {A M C : Str} (h : Parts b A M C) (g1 : dgL A.cps.toList = true) (g2 : M = "" ∨ dgL C.cps.toList = true) :
    (M = "/" ∧ dgL C.cps.toList = true ∧ rdv b = some (PySem.NumText.digitsVal A.cps.toList, PySem.NumText.digitsVal C.cps.toList)) ∨ (M ≠ "/" ∧ dgL (A ++ C).cps.toList = true ∧ rdv b = some (PySem.NumText.digitsVal (A ++ C).cps.toList, 10 ^ C.length)) := by
  have slash : (("/" : String) : Str) ≠ "" := by decide +kernel
  have dot : (("." : String) : Str) ≠ "" := by decide +kernel
  have ds : (("." : String) : Str) ≠ "/" := by decide +kernel
  unfold rdv
  rcases h with ⟨h1, rfl, e1, e2⟩ | ⟨h1, h2, rfl, e1, e2⟩ | ⟨h1, h2, rfl, e1, rfl⟩
  · have g2 := g2.resolve_left slash
    refine .inl ⟨rfl, g2, ?_⟩
    rw [if_pos h1, ← e1, ← e2, g1, g2]
    rfl
  · have g2 := g2.resolve_left dot
    refine .inr ⟨ds, by rw [toList_add]; exact dgL_add g1 g2, ?_⟩
    rw [if_neg h1, if_pos h2, ← e1, ← e2, g1, g2, toList_add, str_len C]
    rfl
  · have e : A ++ (("" : String) : Str) = A := str_ext (by rw [toList_add]; exact List.append_nil _)
    refine .inr ⟨fun h => slash h.symm, by rw [e]; exact g1, ?_⟩
    rw [if_neg h1, if_neg h2, ← e1, g1, e]
    rfl
@[irreducible] def F_read_fraction : WF := wf1 fun a S Q => ∃ z : Str, a = .str z ∧ z.length ≤ 100 ∧ Q (oQ (rdF z)) S
set_option maxHeartbeats 2000000 in
theorem p_read_fraction : ∀ ds S Q, F_read_fraction ds S Q → b_read_fraction (enOf Q) (DL.start 8 ds) S := by
  unfold F_read_fraction
  refine ok1 fun a S Q h => ?_
  obtain ⟨z, rfl, hz, q⟩ := h
  show b_read_fraction (enOf Q) [some (.str z), none, none, none, none, none, none, none] S
  have big : 100000 ≤ sizeLine := by decide
  have hzs : z.length ≤ sizeLine := by omega
  walk_at "wk"
  have hB := rempre_tl z
  have hbl := bodyL_len z
  generalize Txt.removeprefix z "-" = B at hB
  have hBl : B.length ≤ 100 := by rw [str_len, hB]; omega
  have hBs : B.length ≤ sizeLine := by omega
  refine join_in (fun env S' => ∃ A M C : Str, Parts (bodyL z) A M C ∧ env = [some (.str z), some (.str B), some (.str A), some (.str M), some (.str C), none, none, none] ∧ S' = S) ?_ ?_
  · walk_at "wk"
    refine ⟨47, rfl, ?_⟩
    walk_at "wk"
    refine ifB_dec (fun g => ?_) (fun g => ?_)
    · obtain ⟨A, C, e1, e2, e3⟩ := part_hit (B := B) (y := "/") (c := 47) (by decide +kernel) g
      walk_at "wk"
      rw [e1]
      refine .here ⟨A, "/", C, .inl ⟨by rw [← hB]; exact g, rfl, by rw [e2, hB], by rw [e3, hB]⟩, rfl, rfl⟩
    · by_cases g2 : 46 ∈ B.cps.toList
      · obtain ⟨A, C, e1, e2, e3⟩ := part_hit (B := B) (y := ".") (c := 46) (by decide +kernel) g2
        walk_at "wk"
        rw [e1]
        refine .here ⟨A, ".", C, .inr (.inl ⟨by rw [← hB]; exact g, by rw [← hB]; exact g2, rfl, by rw [e2, hB], by rw [e3, hB]⟩), rfl, rfl⟩
      · have e1 := part_miss (B := B) (y := ".") (c := 46) (by decide +kernel) g2
        walk_at "wk"
        rw [e1]
        refine .here ⟨B, Str.empty, Str.empty, .inr (.inr ⟨by rw [← hB]; exact g, by rw [← hB]; exact g2, rfl, hB, rfl⟩), rfl, rfl⟩
  rintro env S' ⟨A, M, C, hP, rfl, rfl⟩
  have lens : A.length + C.length ≤ 100 := by
    rw [str_len A, str_len C]
    rcases hP with ⟨_, _, e1, e2⟩ | ⟨_, _, _, e1, e2⟩ | ⟨_, _, _, e1, rfl⟩
    · rw [e1, e2]; have := bef_len (c := 47) (l := bodyL z); omega
    · rw [e1, e2]; have := bef_len (c := 46) (l := bodyL z); omega
    · rw [e1]; have : (("" : String) : Str).cps.toList.length = 0 := rfl; omega
  walk_at "wk"
  have fails : rdv (bodyL z) = none → Q .non S' := fun e => by
    have : rdF z = none := by unfold rdF; rw [e]
    rw [this] at q
    exact q
  refine join_in (fun env S2 => (dgL A.cps.toList = true ∧ (M = "" ∨ dgL C.cps.toList = true)) ∧ env = [some (.str z), some (.str B), some (.str A), some (.str M), some (.str C), none, none, none] ∧ S2 = S') ?_ ?_
  · walk_at "wk"
    refine has_digits_in (by omega) ?_
    rw [isdg_eq]
    cases gA : dgL A.cps.toList with
    | false =>
      walk_at "wk"
      exact .here (fails (parts_fail hP (.inl gA)))
    | true =>
      walk_at "wk"
      refine ifB_ndec (fun gM => ?_) (fun gM => ?_)
      · walk_at "wk"
        refine has_digits_in (by omega) ?_
        rw [isdg_eq]
        cases gC : dgL C.cps.toList with
        | false =>
          walk_at "wk"
          exact .here (fails (parts_fail hP (.inr ⟨gM, gC⟩)))
        | true =>
          walk_at "wk"
          exact .here ⟨⟨rfl, .inr rfl⟩, rfl, rfl⟩
      · exact .here ⟨⟨rfl, .inl gM⟩, rfl, rfl⟩
  rintro env S2 ⟨⟨gA, gC⟩, rfl, rfl⟩
  walk_at "wk"
  refine join_in (fun env S3 => ∃ n d : Nat, rdv (bodyL z) = some (n, d) ∧ RdB n d ∧ env = [some (.str z), some (.str B), some (.str A), some (.str M), some (.str C), some (.int (n : Int)), some (.int (d : Int)), none] ∧ S3 = S2) ?_ ?_
  · walk_at "wk"
    rcases parts_ok hP gA gC with ⟨hM, g2, e⟩ | ⟨hM, g2, e⟩
    · obtain ⟨i1, i2⟩ := int_dg gA (by omega)
      obtain ⟨j1, j2⟩ := int_dg g2 (by omega)
      refine ifB_t (decide_eq_true hM) ?_
      walk_at "wk"
      refine ⟨_, i1, i2, ?_⟩
      walk_at "wk"
      refine ⟨_, j1, j2, ?_⟩
      walk_at "wk"
      exact .here ⟨_, _, e, ⟨dv_bd (dg_all gA).1 (by rw [← str_len]; omega), dv_bd (dg_all g2).1 (by rw [← str_len]; omega)⟩, rfl, rfl⟩
    · have lac : (A ++ C).length ≤ 100 := by rw [len_add]; omega
      obtain ⟨i1, i2⟩ := int_dg g2 (by omega)
      have room : A.length + C.length ≤ sizeLine := by omega
      have roomC : C.length ≤ sizeLine := by omega
      refine ifB_f (decide_eq_false hM) ?_
      walk_at "wk"
      refine ⟨_, i1, i2, ?_⟩
      walk_at "wk"
      refine power_of_ten_in (by omega) ?_
      walk_at "wk"
      exact .here ⟨_, _, e, ⟨dv_bd (dg_all g2).1 (by rw [← str_len]; omega), ten_bd (by omega)⟩, rfl, rfl⟩
  rintro env S3 ⟨n, d, hr, hb, rfl, rfl⟩
  unfold rdF at q
  rw [hr] at q
  dsimp only at q
  walk_at "wk"
  refine ifB_dec (fun g0 => ?_) (fun g0 => ?_)
  · rw [if_pos (by omega)] at q
    walk_at "wk"
    exact .here q
  rw [if_neg (by omega)] at q
  walk_at "wk"
  refine join_in (fun env S4 => env = [some (.str z), some (.str B), some (.str A), some (.str M), some (.str C), some (.int (if negS z then -(n : Int) else (n : Int))), some (.int (d : Int)), none] ∧ S4 = S3) ?_ ?_
  · walk_at "wk"
    rw [starts_eq]
    cases hs : negS z with
    | false =>
      walk_at "wk"
      exact .here ⟨rfl, rfl⟩
    | true =>
      walk_at "wk"
      exact .here ⟨rfl, rfl⟩
  rintro env S4 ⟨rfl, rfl⟩
  have hn : Bd 340 (if negS z then -(n : Int) else (n : Int)) := by
    have := hb.n
    unfold Bd
    split
    · rw [Int.natAbs_neg]; exact this
    · exact this
  have hd : Bd 340 (d : Int) := hb.d
  generalize (if negS z then -(n : Int) else (n : Int)) = m at hn q
  have hx := low_ok (show (d : Int) ≠ 0 by omega) (hn.mono (m := 400) (by decide)) (hd.mono (m := 400) (by decide))
  walk_at "wk"
  refine lowest_in (by omega) (hd.mono (by decide)) ?_
  generalize low m (d : Int) = x at hx q
  walk_at "wk"
  refine fraction_text_in hx ?_
  walk_at "wk"
  refine ifB_ndec (fun g => ?_) (fun g => ?_)
  · rw [if_neg g] at q
    walk_at "wk"
    exact .here q
  · rw [if_pos g] at q
    walk_at "wk"
    exact .here q
theorem read_fraction_in {z : Str} {S : Sto} {Q : WQ} (hz : z.length ≤ 100) (q : Q (oQ (rdF z)) S) : F_read_fraction [.str z] S Q := by
  unfold F_read_fraction
  exact ⟨z, rfl, hz, q⟩

def b_with_commas : WS :=
  (sSeq (sAsg (eMethS mPartition (eMethS mRemPre (eVar 0) (aCons (eC (.str "-")) aNil)) (aCons (eC (.str ".")) aNil)) (gTup 3 (gsCons (gName 1) (gsCons (gName 2) (gsCons (gName 3) gsNil)))))
  (sSeq (sAsg (eLst aNil) (gName 4))
  (sSeq (sWhile (tB (eBin dGt (eCall bLen (aCons (eVar 1) aNil)) (eC (.int 3)))) (sSeq (sDrop (eMethL mAppend (eVar 4) (aCons (eSl (eVar 1) (oSome (eNeg (eC (.int 3)))) oNone) aNil)))
  (sAsg (eSl (eVar 1) oNone (oSome (eNeg (eC (.int 3))))) (gName 1))))
  (sSeq (sAsg (eBin dAdd (eBin dAdd (eMethS mJoin (eC (.str ",")) (aCons (eBin dAdd (eLst (aCons (eVar 1) aNil)) (eRevS (eVar 4) (eNeg (eC (.int 1))))) aNil)) (eVar 2)) (eVar 3)) (gName 5))
  (sSeq (sIf (tTru (eMethS mStartswith (eVar 0) (aCons (eC (.str "-")) aNil))) (sRet (eBin dAdd (eC (.str "-")) (eVar 5))) sNil)
  (sRet (eVar 5)))))))
-- math: nlab
@[irreducible] def F_with_commas : WF := wf1 fun a S Q => ∃ z : Str, a = .str z ∧ z.length ≤ 10000 ∧ Q (.str (wcS z)) S
set_option maxHeartbeats 2000000 in
theorem p_with_commas : ∀ ds S Q, F_with_commas ds S Q → b_with_commas (enOf Q) (DL.start 6 ds) S := by
  unfold F_with_commas
  refine ok1 fun a S Q h => ?_
  obtain ⟨z, rfl, hz, q⟩ := h
  show b_with_commas (enOf Q) [some (.str z), none, none, none, none, none] S
  have big : 100000 ≤ sizeLine := by decide
  have hzs : z.length ≤ sizeLine := by omega
  walk_at "wk"
  have hB := rempre_tl z
  have hbl := bodyL_len z
  generalize Txt.removeprefix z "-" = B at hB
  have hBl : B.length ≤ 10000 := by rw [str_len, hB]; omega
  have hBs : B.length ≤ sizeLine := by omega
  have hparts : ∃ A M C : Str, Txt.partition B "." = (A, M, C) ∧ A.cps.toList = befC 46 (bodyL z) ∧ M.cps.toList ++ C.cps.toList = (if 46 ∈ bodyL z then 46 :: aftC 46 (bodyL z) else []) := by
    by_cases g2 : 46 ∈ B.cps.toList
    · obtain ⟨A, C, e1, e2, e3⟩ := part_hit (B := B) (y := ".") (c := 46) (by decide +kernel) g2
      refine ⟨A, ".", C, e1, by rw [e2, hB], ?_⟩
      rw [if_pos (by rw [← hB]; exact g2), e3, hB]
      rfl
    · refine ⟨B, Str.empty, Str.empty, part_miss (B := B) (y := ".") (c := 46) (by decide +kernel) g2, ?_, ?_⟩
      · rw [hB]
        rw [hB] at g2
        exact (bef_self g2).symm
      · rw [if_neg (by rw [← hB]; exact g2)]
        rfl
  obtain ⟨A, M, C, eP, eA, eMC⟩ := hparts
  refine ⟨⟨by decide +kernel, hBs⟩, ?_⟩
  rw [eP]
  have al : A.length ≤ 10000 := by
    rw [str_len, eA]
    have := bef_len (c := 46) (l := bodyL z)
    omega
  have mcl : M.length + C.length ≤ 10001 := by
    have := congrArg List.length eMC
    rw [List.length_append, ← str_len, ← str_len] at this
    have h2 : (if 46 ∈ bodyL z then 46 :: aftC 46 (bodyL z) else []).length ≤ 1 + (aftC 46 (bodyL z)).length := by split <;> simp; omega
    have h3 := bef_len (c := 46) (l := bodyL z)
    omega
  walk_at "wk"
  intro l hl
  walk_at "wk"
  have hLA : (tlS A).length ≤ 10000 := by rw [← str_len A] at *; exact al
  refine while_in (fun m env S' => ∃ (w : Str) (gs : List Str), m = w.length ∧ GI (tlS A) (tlS w) ((gs.reverse).map tlS) ∧ env = [some (.str z), some (.str w), some (.str M), some (.str C), some (.ref l), none] ∧ S' = (l, .lst (gs.map D.str)) :: S) A.length ⟨A, [], rfl, GI.start _, rfl, rfl⟩ ?_
  rintro m env S' ⟨w, gs, rfl, gi, rfl, rfl⟩
  have sm := gi.small
  rw [← str_len w, List.length_map, List.length_reverse] at sm
  have wl : w.length ≤ sizeLine := by omega
  have gl : (gs.map D.str).length < sizeLine := by rw [List.length_map]; omega
  walk_at "wk"
  refine ifB_dec (fun g => ?_) fun g => ?_
  · have g3 : 3 < w.length := by omega
    obtain ⟨c1, c2, _, _⟩ := cut3 g3
    walk_at "wk"
    rw [sset_self]
    refine .here ⟨(cutT w none (some (-3))).length, ?_, cutT w none (some (-3)), gs ++ [cutT w (some (-3)) none], rfl, ?_, rfl, ?_⟩
    · have := congrArg List.length c1
      rw [List.length_take, ← str_len w, ← str_len] at this
      omega
    · rw [List.reverse_append, List.map_append, c1]
      show GI (tlS A) _ (tlS (cutT w (some (-3)) none) :: _)
      rw [c2]
      exact gi.step (by rw [← str_len w]; exact g3)
    · rw [List.map_append]
      rfl
  · have g3 : w.length ≤ 3 := by omega
    have jt := gi_text gi g3
    have jok := gi_join gi hLA
    have wlen := wcom_len (tlS A)
    walk_at "wk"
    generalize hT0 : ((l, LO.lst (gs.map D.str)) :: S : Sto) = T0
    have h0 := new_get hT0
    have sub0 := new_sub hT0 hl
    clear hT0
    intro l2 n2
    generalize hT2 : ((l2, LO.lst [.str w]) :: T0 : Sto) = T2
    have h2 := new_get hT2
    have h02 := new_sub hT2 n2 _ _ h0
    have sub2 := sub0.trans (new_sub hT2 n2)
    clear hT2
    walk_at "wk"
    intro l3 n3
    generalize hT3 : ((l3, LO.lst (gs.map D.str).reverse) :: T2 : Sto) = T3
    have h3 := new_get hT3
    have h23 := new_sub hT3 n3 _ _ h2
    have sub3 := sub2.trans (new_sub hT3 n3)
    clear hT3
    have z5 : ([D.str w] : List D).length + (gs.map D.str).reverse.length ≤ sizeLine := by
      rw [List.length_reverse, List.length_map]
      show 1 + gs.length ≤ sizeLine
      omega
    walk_at "wk"
    intro l4 n4
    have sub4 := sub3.trans (Sub.new (o := LO.lst ([D.str w] ++ (gs.map D.str).reverse)) n4)
    walk_at "wk"
    refine ⟨w :: gs.reverse, by rw [List.map_cons, List.map_reverse]; rfl, jok, ?_⟩
    generalize Txt.join "," (w :: gs.reverse) = T at jt
    have tl : T.length ≤ 20001 := by
      rw [str_len, jt]
      rw [← str_len A] at wlen
      omega
    have b1 : T.length + M.length ≤ sizeLine := by omega
    have b2 : (T ++ M : Str).length + C.length ≤ sizeLine := by rw [len_add]; omega
    have b3 : (("-" : String) : Str).length + (T ++ M ++ C : Str).length ≤ sizeLine := by
      rw [len_add, len_add]
      have := minus_one.1
      omega
    have eT : wcom (tlS A) = wcom (befC 46 (bodyL z)) := congrArg wcom eA
    walk_at "wk"
    rw [starts_eq]
    cases hn : negS z with
    | true =>
      walk_at "wk"
      have e : (("-" : String) : Str) ++ (T ++ M ++ C) = wcS z := by
        refine str_ext ?_
        rw [wcS_tl, wcL, hn, toList_add, toList_add, toList_add, jt, eT, List.append_assoc, eMC]
        rfl
      rw [e]
      exact (UpS.here q).sub sub4
    | false =>
      walk_at "wk"
      have e : T ++ M ++ C = wcS z := by
        refine str_ext ?_
        rw [wcS_tl, wcL, hn, toList_add, toList_add, jt, eT, List.append_assoc, eMC]
        rfl
      rw [e]
      exact (UpS.here q).sub sub4
theorem with_commas_in {z : Str} {S : Sto} {Q : WQ} (hz : z.length ≤ 10000) (q : Q (.str (wcS z)) S) : F_with_commas [.str z] S Q := by
  unfold F_with_commas
  exact ⟨z, rfl, hz, q⟩

def b_number_label : WS :=
  (sSeq (sAsg (eVar 1) (gTup 3 (gsCons (gName 2) (gsCons (gName 3) (gsCons (gName 4) gsNil)))))
  (sSeq (sAsg (eCall F_fraction_text (aCons (eVar 0) aNil)) (gName 5))
  (sSeq (sJoin (sIf (tAnd (tTru (eVar 4)) (tB (eBin dNotIn (eC (.str "/")) (eVar 5)))) (sAsg (eCall F_with_commas (aCons (eVar 5) aNil)) (gName 5)) sNil))
  (sRet (eBin dAdd (eBin dAdd (eVar 2) (eVar 5)) (eVar 3))))))
-- math: nlab
-- join: if grouped and
@[irreducible] def F_number_label : WF := wf2 fun a b S Q => ∃ (x : Fq) (s : Sty), a = x.t ∧ b = s.d ∧ x.Ok 400 ∧ s.Ok ∧ Q (.str (labN x s)) S
theorem p_number_label : ∀ ds S Q, F_number_label ds S Q → b_number_label (enOf Q) (DL.start 6 ds) S := by
  unfold F_number_label
  refine ok2 fun a b S Q h => ?_
  obtain ⟨x, s, rfl, rfl, hx, hs, q⟩ := h
  show b_number_label (enOf Q) [some x.t, some s.d, none, none, none, none] S
  obtain ⟨fl, fa⟩ := ftx_ok (n := x.n) (d := x.d.toNat) hx.bn (by have h1 : x.d.natAbs < 2 ^ 400 := hx.bd; have h2 := hx.pos; omega)
  obtain ⟨wl, wa⟩ := wcS_ok fa
  obtain ⟨ll, la⟩ := labN_ok hx hs
  have hb := hs.b
  have ha := hs.a
  have big : 100000 ≤ sizeLine := by decide
  obtain ⟨B, A, g⟩ := s
  walk_at "wk"
  refine fraction_text_in hx ?_
  walk_at "wk"
  have hb' : B.length ≤ 8 := hb
  have ha' : A.length ≤ 8 := ha
  unfold labN at q ll
  dsimp only at q ll
  have hp := fun h => ftx_point hx h
  generalize hF : ftx x.n x.d.toNat = F at *
  refine join_in (fun env S' => ∃ T : Str, T.length ≤ 9006 ∧ T = (if g = true ∧ 47 ∉ F.cps.toList then wcS F else F) ∧ env = [some x.t, some (Sty.mk B A g).d, some (.str B), some (.str A), some (.bl g), some (.str T)] ∧ S' = S) ?_ ?_
  · cases g with
    | false =>
      walk_at "wk"
      exact .here ⟨F, by omega, by rw [if_neg (by simp)], rfl, rfl⟩
    | true =>
      walk_at "wk"
      refine ⟨47, rfl, ?_⟩
      walk_at "wk"
      refine ifB_ndec (fun h => ?_) fun h => ?_
      · walk_at "wk"
        refine with_commas_in (by omega) ?_
        exact .here ⟨wcS F, by omega, by rw [if_pos ⟨rfl, h⟩], rfl, rfl⟩
      · exact .here ⟨F, by omega, by rw [if_neg (fun h2 => h2.2 h)], rfl, rfl⟩
  rintro env S' ⟨T, tl, eT, rfl, rfl⟩
  rw [← eT] at q ll
  have s1 : B.length + T.length ≤ sizeLine := by omega
  have s2 : (B ++ T : Str).length + A.length ≤ sizeLine := by rw [len_add]; omega
  walk_at "wk"
  exact .here q
theorem number_label_in {x : Fq} {s : Sty} {S : Sto} {Q : WQ} (hx : x.Ok 400) (hs : s.Ok) (q : Q (.str (labN x s)) S) : F_number_label [x.t, s.d] S Q := by
  unfold F_number_label
  exact ⟨x, s, rfl, rfl, hx, hs, q⟩

def b_read_label : WS :=
  (sSeq (sAsg (eVar 1) (gTup 3 (gsCons (gName 2) (gsCons (gName 3) (gsCons (gName 4) gsNil)))))
  (sSeq (sIf (tB (eBin dLt (eCall bLen (aCons (eVar 0) aNil)) (eBin dAdd (eCall bLen (aCons (eVar 2) aNil)) (eCall bLen (aCons (eVar 3) aNil))))) (sRet (eC .non)) sNil)
  (sSeq (sAsg (eSl (eVar 0) (oSome (eCall bLenX (aCons (eVar 2) aNil))) (oSome (eBin dSub (eCall bLen (aCons (eVar 0) aNil)) (eCall bLen (aCons (eVar 3) aNil))))) (gName 5))
  (sSeq (sJoin (sIf (tTru (eVar 4)) (sAsg (eReplC (eVar 5) "," "") (gName 5)) sNil))
  (sSeq (sAsg (eCall F_read_fraction (aCons (eVar 5) aNil)) (gName 6))
  (sSeq (sIf (tOr (tB (eIsN (eVar 6))) (tB (eBin dNe (eCall F_number_label (aCons (eVar 6) (aCons (eVar 1) aNil))) (eVar 0)))) (sRet (eC .non)) sNil)
  (sRet (eVar 6))))))))
-- math: nlab
-- join: if grouped:
@[irreducible] def F_read_label : WF := wf2 fun a b S Q => ∃ (z : Str) (s : Sty), a = .str z ∧ b = s.d ∧ z.length ≤ 100 ∧ s.Ok ∧ Q (oQ (rdL z s)) S
theorem p_read_label : ∀ ds S Q, F_read_label ds S Q → b_read_label (enOf Q) (DL.start 7 ds) S := by
  unfold F_read_label
  refine ok2 fun a b S Q h => ?_
  obtain ⟨z, s, rfl, rfl, hz, hs, q⟩ := h
  show b_read_label (enOf Q) [some (.str z), some s.d, none, none, none, none, none] S
  have hb := hs.b
  have ha := hs.a
  have big : 100000 ≤ sizeLine := by decide
  walk_at "wk"
  unfold rdL at q
  by_cases hl : z.length < s.b.length + s.a.length
  · rw [if_pos hl] at q
    refine ifB_t (decide_eq_true (by omega)) ?_
    walk_at "wk"
    exact .here q
  · rw [if_neg hl] at q
    refine ifB_f (decide_eq_false (by omega)) ?_
    walk_at "wk"
    have e : ({ cps := (cut z.cps.toList (some (s.b.length : Int)) (some ((z.length : Int) - (s.a.length : Int)))).toArray } : Str) = cutT z (some (s.b.length : Int)) (some ((z.length : Int) - (s.a.length : Int))) := rfl
    rw [e]
    have il := cutT_len z (some (s.b.length : Int)) (some ((z.length : Int) - (s.a.length : Int)))
    generalize cutT z (some (s.b.length : Int)) (some ((z.length : Int) - (s.a.length : Int))) = I at q il ⊢
    obtain ⟨k1, _⟩ := strike_ok (I := I) (by omega)
    refine join_in (fun env S' => ∃ J : Str, J.length ≤ 100 ∧ J = (if s.g = true then strike I else I) ∧ env = [some (.str z), some s.d, some (.str s.b), some (.str s.a), some (.bl s.g), some (.str J), none] ∧ S' = S) ?_ ?_
    · have l0 : (("" : String) : Str).length = 0 := by decide +kernel
      have b1 : I.length + (I.length + 1) * (("" : String) : Str).length ≤ 16777216 := by rw [l0]; omega
      obtain ⟨B, A, g⟩ := s
      cases g with
      | true =>
        walk_at "wk"
        exact .here ⟨strike I, k1, rfl, rfl, rfl⟩
      | false =>
        walk_at "wk"
        exact .here ⟨I, by omega, rfl, rfl, rfl⟩
    rintro env S' ⟨J, jl, eJ, rfl, rfl⟩
    rw [← eJ] at q
    walk_at "wk"
    refine read_fraction_in jl ?_
    cases hr : rdF J with
    | none =>
      rw [hr] at q
      walk_at "wk"
      exact .here q
    | some x =>
      rw [hr] at q
      have hx := rdF_ok jl hr
      obtain ⟨ll, la⟩ := labN_ok hx hs
      show DL.gName 6 x.t _ _ _
      walk_at "wk"
      refine number_label_in hx hs ?_
      walk_at "wk"
      dsimp only at q
      refine ifB_ndec (fun g => ?_) fun g => ?_
      · rw [if_neg g] at q
        walk_at "wk"
        exact .here q
      · rw [if_pos g] at q
        walk_at "wk"
        exact .here q
theorem read_label_in {z : Str} {s : Sty} {S : Sto} {Q : WQ} (hz : z.length ≤ 100) (hs : s.Ok) (q : Q (oQ (rdL z s)) S) : F_read_label [.str z, s.d] S Q := by
  unfold F_read_label
  exact ⟨z, s, rfl, rfl, hz, hs, q⟩

def b__law_tape : WS :=
  (sSeq (sAsg (eC (.int 7)) (gName 1))
  (sSeq (sFor (iSeq (eVar 0)) (gName 2) (sAsg (eBin dMod (eCall bInt (aCons (eBin dAdd (eBin dMul (eVar 1) (eC (.int 31))) (eCall bAbs (aCons (eCall bInt (aCons (eVar 2) aNil)) aNil))) aNil)) (eC (.int 2147483647))) (gName 1)))
  (sRet (eLst (aCons (eCall bList (aCons (eVar 0) aNil)) (aCons (eC (.int 0)) (aCons (eC (.int 0)) (aCons (eVar 1) aNil))))))))
theorem p__law_tape : ∀ ds S Q, FC__law_tape ds S Q → b__law_tape (enOf Q) (DL.start 3 ds) S := ok1 fun a S Q h => by
  obtain ⟨ns, rfl, q⟩ := h
  show b__law_tape (enOf Q) [some (.frz (dInt ns)), none, none] S
  walk_at "wk"
  refine for_pre (chk := fun _ => True) ns D.int (fun pre env S' => S' = S ∧ ∃ (t : Int) (o : Option D), env = [some (.frz (dInt ns)), some (.int t), o] ∧ 0 ≤ t ∧ t < 2147483647) (yl_frz fun Q h => h) ⟨rfl, 7, none, rfl, by decide, by decide⟩ ?_ ?_
  · rintro pre n post env S' - ⟨rfl, t, o, rfl, h0, h1⟩
    refine ⟨trivial, ?_⟩
    walk_at "wk"
    exact .here ⟨rfl, _, _, rfl, Int.emod_nonneg _ (by decide), Int.emod_lt_of_pos _ (by decide)⟩
  · rintro env S' ⟨rfl, t, o, rfl, h0, h1⟩
    refine ⟨trivial, ?_⟩
    walk_at "wk"
    intro p hp
    walk_at "wk"
    intro r hr
    obtain ⟨e, -, hr⟩ := fresh_cons hr
    exact .here <| q r p t hr hp e h0 (Int.lt_trans h1 (by decide))

def b__law_draw : WS :=
  (sSeq (sIf (tB (eBin dEq (eBin dIx (eVar 0) (eC (.int 2))) (eC (.int 0)))) (sSeq (sAsg (eBin dIx (eVar 0) (eC (.int 1))) (gName 2))
  (sSeq (sAsg (eC (.int 0)) (gName 3))
  (sSeq (sIf (tB (eBin dLt (eVar 2) (eCall bLen (aCons (eBin dIx (eVar 0) (eC (.int 0))) aNil)))) (sAsg (eCall bAbs (aCons (eCall bInt (aCons (eBin dIx (eBin dIx (eVar 0) (eC (.int 0))) (eVar 2)) aNil)) aNil)) (gName 3)) (sSeq (sAsg (eBin dMod (eCall bInt (aCons (eBin dAdd (eBin dAdd (eBin dMul (eBin dIx (eVar 0) (eC (.int 3))) (eC (.int 48271))) (eVar 2)) (eC (.int 1))) aNil)) (eC (.int 2147483647))) (gSub (eVar 0) (eC (.int 3))))
  (sAsg (eBin dIx (eVar 0) (eC (.int 3))) (gName 3))))
  (sSeq (sAsg (eBin dAdd (eVar 2) (eC (.int 1))) (gSub (eVar 0) (eC (.int 1))))
  (sSeq (sIf (tB (eBin dLt (eVar 3) (eBin dPow (eC (.int 10)) (eC (.int 18))))) (sSeq (sAsg (eBin dMod (eCall bInt (aCons (eBin dAdd (eBin dAdd (eBin dMul (eVar 3) (eC (.int 48271))) (eBin dMul (eVar 2) (eC (.int 69621)))) (eC (.int 5))) aNil)) (eC (.int 2147483647))) (gName 3))
  (sSeq (sAsg (eBin dMod (eCall bInt (aCons (eBin dMul (eVar 3) (eC (.int 69621))) aNil)) (eC (.int 2147483629))) (gName 3))
  (sRet (eBin dMod (eCall bInt (aCons (eVar 3) aNil)) (eCall bMax2 (aCons (eVar 1) (aCons (eC (.int 1)) aNil))))))) sNil)
  (sAsg (eVar 3) (gSub (eVar 0) (eC (.int 2))))))))) sNil)
  (sSeq (sAsg (eBin dIx (eVar 0) (eC (.int 2))) (gName 3))
  (sSeq (sAsg (eBin dDiv (eVar 3) (eCall bMax2 (aCons (eVar 1) (aCons (eC (.int 2)) aNil)))) (gSub (eVar 0) (eC (.int 2))))
  (sRet (eBin dMod (eCall bInt (aCons (eVar 3) aNil)) (eCall bMax2 (aCons (eVar 1) (aCons (eC (.int 1)) aNil))))))))
theorem p__law_draw : ∀ ds S Q, FC__law_draw ds S Q → b__law_draw (enOf Q) (DL.start 4 ds) S := ok2 fun a b S Q h => by
  obtain ⟨p, q, many, ns, k, b, t, rfl, rfl, hp, hq, hm, npq, h0, h1, h2, h3, fin⟩ := h
  have last : ∀ (x k' b' t' : Int), 0 ≤ k' → 0 ≤ b' → 0 ≤ t' → t' < 2 ^ 31 → Q (.int (x % max many 1)) (sset S p (.lst [.ref q, .int k', .int b', .int t'])) := fun x k' b' t' a1 a2 a3 a4 => by
    exact fin _ _ _ _ (Int.emod_nonneg _ (by omega)) (Int.emod_lt_of_pos _ (by omega)) a1 a2 a3 a4
  have hd : 0 < max many 2 ∧ (max many 2).natAbs.log2 < 8000 := by
    refine ⟨by omega, Nat.lt_of_lt_of_le (log2_of (k := 250) ?_ (by decide)) (by decide)⟩
    rcases Int.le_total many 2 with h | h
    · rw [Int.max_eq_right h]; decide
    · rw [Int.max_eq_left h]; exact hm
  have hd2 : 0 < max many 1 := by omega
  have big : ∀ z : Int, 0 ≤ z → 0 ≤ z / max many 2 := fun z hz => Int.ediv_nonneg hz (by omega)
  have lists : ∀ {x k' b' t'}, x = [D.ref q, .int k', .int b', .int t'] → 0 ≤ k' → 0 ≤ b' → 0 ≤ t' → t' < 2 ^ 31 → ∀ y, Q (.int (y % max many 1)) (sset S p (.lst x)) := fun e a1 a2 a3 a4 y => by
    rw [e]
    exact last y _ _ _ a1 a2 a3 a4
  show b__law_draw (enOf Q) [some (.ref p), some (.int many), none, none] S
  walk_at "wk"
  refine ifB_dec (fun hb => ?_) (fun hb => ?_)
  · subst hb
    walk_at "wk"
    refine ifB_dec (fun hk => ?_) (fun hk => ?_)
    · walk_at "wk"
      obtain ⟨n, hn⟩ := at_dInt h0 hk
      refine onAt_in hn ?_
      walk_at "wk"
      refine ifB_dec (fun hs => ?_) (fun hs => ?_)
      · walk_at "wk"
        exact .here <| lists rfl (by omega) h1 h2 h3 _
      · walk_at "wk"
        rw [sset_sset, sset_sset]
        exact .here <| lists rfl (by omega) (big _ (by omega)) h2 h3 _
    · have ht : 0 ≤ (t * 48271 + k + 1) % 2147483647 := Int.emod_nonneg _ (by decide)
      have ht2 : (t * 48271 + k + 1) % 2147483647 < 2147483647 := Int.emod_lt_of_pos _ (by decide)
      walk_at "wk"
      refine ifB_dec (fun hs => ?_) (fun hs => ?_)
      · walk_at "wk"
        rw [sset_sset]
        exact .here <| lists rfl (by omega) h1 ht (Int.lt_trans ht2 (by decide)) _
      · walk_at "wk"
        rw [sset_sset, sset_sset, sset_sset]
        exact .here <| lists rfl (by omega) (big _ ht) ht (Int.lt_trans ht2 (by decide)) _
  · walk_at "wk"
    exact .here <| lists rfl h0 (big _ h1) h2 h3 _

def b__law_gcd : WS :=
  (sSeq (sAsg (eCall bAbs (aCons (eVar 0) aNil)) (gName 0))
  (sSeq (sAsg (eCall bAbs (aCons (eVar 1) aNil)) (gName 1))
  (sSeq (sWhile (tB (eBin dGt (eVar 1) (eC (.int 0)))) (sSeq (sAsg (eBin dMod (eCall bInt (aCons (eVar 0) aNil)) (eVar 1)) (gName 2))
  (sSeq (sAsg (eVar 1) (gName 0))
  (sAsg (eVar 2) (gName 1)))))
  (sRet (eVar 0)))))
-- math: frac
@[irreducible] def F__law_gcd : WF := wf2 fun a b S Q => ∃ n d : Int, a = .int n ∧ b = .int d ∧ Q (.int ((Nat.gcd n.natAbs d.natAbs : Nat) : Int)) S
theorem p__law_gcd : ∀ ds S Q, F__law_gcd ds S Q → b__law_gcd (enOf Q) (DL.start 3 ds) S := by
  unfold F__law_gcd
  refine ok2 fun a b S Q h => ?_
  obtain ⟨n, d, rfl, rfl, q⟩ := h
  show b__law_gcd (enOf Q) [some (.int n), some (.int d), none] S
  walk_at "wk"
  rw [abs_if, abs_if]
  refine while_in (fun m env S' => ∃ (x y : Nat) (o : Option D), env = [some (.int x), some (.int y), o] ∧ S' = S ∧ m = y ∧ Nat.gcd x y = Nat.gcd n.natAbs d.natAbs) d.natAbs ⟨_, _, none, rfl, rfl, rfl, rfl⟩ ?_
  rintro m env S' ⟨x, y, o, rfl, rfl, rfl, hg⟩
  walk_at "wk"
  refine ifB_dec (fun h => ?_) (fun h => ?_)
  · walk_at "wk"
    refine .here ⟨x % m, Nat.mod_lt _ (by omega), m, x % m, _, rfl, rfl, rfl, ?_⟩
    rw [← hg, Nat.gcd_comm x m]
    exact Nat.gcd_rec m x ▸ (Nat.gcd_comm m (x % m))
  · have : m = 0 := by omega
    subst this
    rw [Nat.gcd_zero_right] at hg
    rw [← hg] at q
    walk_at "wk"
    exact .here q
theorem law_gcd_in {n d : Int} {S : Sto} {Q : WQ} (q : Q (.int ((Nat.gcd n.natAbs d.natAbs : Nat) : Int)) S) : F__law_gcd [.int n, .int d] S Q := by
  unfold F__law_gcd
  exact ⟨n, d, rfl, rfl, q⟩

def b__law_ratio : WS :=
  (sSeq (sAsg (eCall F__law_gcd (aCons (eVar 0) (aCons (eVar 1) aNil))) (gName 2))
  (sSeq (sIf (tB (eBin dLt (eVar 1) (eC (.int 0)))) (sAsg (eNeg (eVar 2)) (gName 2)) sNil)
  (sRet (eTup (aCons (eBin dFdiv (eVar 0) (eVar 2)) (aCons (eBin dFdiv (eVar 1) (eVar 2)) aNil))))))
-- math: frac
-- fdiv
@[irreducible] def F__law_ratio : WF := wf2 fun a b S Q => ∃ n d : Int, a = .int n ∧ b = .int d ∧ d ≠ 0 ∧ Bd 7000 d ∧ Q (low n d).t S
theorem p__law_ratio : ∀ ds S Q, F__law_ratio ds S Q → b__law_ratio (enOf Q) (DL.start 3 ds) S := by
  unfold F__law_ratio
  refine ok2 fun a b S Q h => ?_
  obtain ⟨n, d, rfl, rfl, h0, hb, q⟩ := h
  show b__law_ratio (enOf Q) [some (.int n), some (.int d), none] S
  have hg := gcd_div (n := n) h0 hb (by decide)
  unfold low at q
  walk_at "wk"
  refine law_gcd_in ?_
  walk_at "wk"
  refine ifB_dec (fun h => ?_) (fun h => ?_)
  · rw [if_pos h] at q
    have hg2 : -((Nat.gcd n.natAbs d.natAbs : Nat) : Int) ≠ 0 ∧ (-((Nat.gcd n.natAbs d.natAbs : Nat) : Int)).natAbs.log2 < 8000 := ⟨by omega, by rw [Int.natAbs_neg]; exact hg.2⟩
    have e : ∀ z : Int, z.fdiv (-((Nat.gcd n.natAbs d.natAbs : Nat) : Int)) = -z / ((Nat.gcd n.natAbs d.natAbs : Nat) : Int) := fun z => by
      rw [← Int.neg_fdiv_neg, Int.neg_neg, Int.fdiv_eq_ediv_of_nonneg _ (by omega)]
    rw [← e, ← e] at q
    walk_at "wk"
    exact .here q
  · rw [if_neg h] at q
    have hg2 : ((Nat.gcd n.natAbs d.natAbs : Nat) : Int) ≠ 0 ∧ ((Nat.gcd n.natAbs d.natAbs : Nat) : Int).natAbs.log2 < 8000 := ⟨by omega, hg.2⟩
    have e : ∀ z : Int, z.fdiv ((Nat.gcd n.natAbs d.natAbs : Nat) : Int) = z / ((Nat.gcd n.natAbs d.natAbs : Nat) : Int) := fun z => Int.fdiv_eq_ediv_of_nonneg _ (by omega)
    rw [← e, ← e] at q
    walk_at "wk"
    exact .here q
theorem law_ratio_in {n d : Int} {S : Sto} {Q : WQ} (h0 : d ≠ 0) (hb : Bd 7000 d) (q : Q (low n d).t S) : F__law_ratio [.int n, .int d] S Q := by
  unfold F__law_ratio
  exact ⟨n, d, rfl, rfl, h0, hb, q⟩

def b__law_number : WS :=
  (sSeq (sAsg (eCall F__law_draw (aCons (eVar 0) (aCons (eC (.int 9)) aNil))) (gName 1))
  (sSeq (sJoin (sAsg (eCall F__law_draw (aCons (eVar 0) (aCons (eBin dIx (eLst (aCons (eC (.int 2)) (aCons (eC (.int 4)) (aCons (eC (.int 12)) (aCons (eC (.int 13)) (aCons (eC (.int 101)) (aCons (eC (.int 1001)) (aCons (eBin dPow (eC (.int 10)) (eC (.int 6))) (aCons (eC (.int 50)) (aCons (eBin dPow (eC (.int 10)) (eC (.int 6))) aNil)))))))))) (eVar 1)) aNil))) (gName 2)))
  (sSeq (sJoin (sIf (tB (eBin dEq (eVar 1) (eC (.int 7)))) (sAsg (eBin dSub (eBin dSub (eBin dPow (eC (.int 10)) (eC (.int 12))) (eC (.int 1))) (eVar 2)) (gName 2)) sNil))
  (sSeq (sJoin (sIf (tB (eBin dEq (eVar 1) (eC (.int 8)))) (sAsg (eBin dAdd (eBin dMul (eVar 2) (eBin dPow (eC (.int 10)) (eC (.int 6)))) (eCall F__law_draw (aCons (eVar 0) (aCons (eBin dPow (eC (.int 10)) (eC (.int 6))) aNil)))) (gName 2)) sNil))
  (sSeq (sAsg (eLst (aCons (eC (.int 1)) (aCons (eC (.int 1)) (aCons (eC (.int 1)) (aCons (eC (.int 1)) (aCons (eC (.int 1)) (aCons (eC (.int 2)) (aCons (eC (.int 3)) (aCons (eC (.int 4)) (aCons (eC (.int 5)) (aCons (eC (.int 7)) (aCons (eC (.int 8)) (aCons (eC (.int 10)) (aCons (eC (.int 12)) (aCons (eC (.int 25)) (aCons (eC (.int 100)) (aCons (eC (.int 1000)) (aCons (eBin dPow (eC (.int 2)) (eC (.int 39))) (aCons (eBin dPow (eC (.int 5)) (eC (.int 17))) (aCons (eBin dSub (eBin dPow (eC (.int 10)) (eC (.int 12))) (eC (.int 1))) (aCons (eC (.int 999999)) aNil))))))))))))))))))))) (gName 3))
  (sSeq (sJoin (sAsg (eBin dIx (eVar 3) (eCall F__law_draw (aCons (eVar 0) (aCons (eC (.int 20)) aNil)))) (gName 4)))
  (sSeq (sJoin (sIf (tB (eBin dEq (eCall F__law_draw (aCons (eVar 0) (aCons (eC (.int 5)) aNil))) (eC (.int 0)))) (sAsg (eBin dAdd (eC (.int 1)) (eCall F__law_draw (aCons (eVar 0) (aCons (eBin dIx (eLst (aCons (eC (.int 40)) (aCons (eBin dPow (eC (.int 10)) (eC (.int 6))) aNil))) (eCall F__law_draw (aCons (eVar 0) (aCons (eC (.int 2)) aNil)))) aNil)))) (gName 4)) sNil))
  (sSeq (sJoin (sIf (tB (eBin dEq (eCall F__law_draw (aCons (eVar 0) (aCons (eC (.int 3)) aNil))) (eC (.int 0)))) (sAsg (eNeg (eVar 2)) (gName 2)) sNil))
  (sRet (eCall F__law_ratio (aCons (eVar 2) (aCons (eVar 4) aNil))))))))))))
-- math: frac
-- join: _law_top = _law_draw(
-- join: if _law_shape == 7
-- join: if _law_shape == 8
-- join: _law_bottom = _law_bottoms
-- join: if _law_draw(_law_tape_here, 5) == 0
-- join: if _law_draw(_law_tape_here, 3) == 0
@[irreducible] def F__law_number : WF := wf1 fun a S Q => ∃ (p q : Addr) (ns : List Int), a = .ref p ∧ sget S p = some (.tape q) ∧ sget S q = some (.lst (dInt ns)) ∧ ∀ x : Fq, x.Ok 60 → Q x.t S
theorem p__law_number : ∀ ds S Q, F__law_number ds S Q → b__law_number (enOf Q) (DL.start 5 ds) S := by
  unfold F__law_number
  refine ok1 fun a S Q h => ?_
  obtain ⟨p, q, ns, rfl, hp, hq, fin⟩ := h
  show b__law_number (enOf Q) [some (.ref p), none, none, none, none] S
  have e6 : (10 ^ Int.toNat 6 : Int) = 1000000 := by decide
  have e12 : (10 ^ Int.toNat 12 : Int) = 1000000000000 := by decide
  have e39 : (2 ^ Int.toNat 39 : Int) = 549755813888 := by decide
  have e17 : (5 ^ Int.toNat 17 : Int) = 762939453125 := by decide
  walk_at "wk"
  refine draw_in hp hq (by decide) ?_
  intro sh sh0 sh1
  walk_at "wk"
  refine join_in (fun env S' => ∃ top : Int, 0 ≤ top ∧ top ≤ 1000000 ∧ env = [some (.ref p), some (.int sh), some (.int top), none, none] ∧ S' = S) ?_ ?_
  · walk_at "wk"
    intro l hl
    have keep : ∀ {a o o2}, sget S a = some o → sget ((l, o2) :: S) a = some o := fun h => Sub.new hl _ _ h
    walk_at "wk"
    refine onAt_all sh0 (by show sh < 9; omega) fun x5 hx5 => ?_
    obtain ⟨n, rfl, hn⟩ : ∃ h : Int, x5 = .int h ∧ 0 < h ∧ h ≤ 1000000 := by
      simp only [List.mem_cons, List.not_mem_nil, or_false] at hx5
      rcases hx5 with rfl | rfl | rfl | rfl | rfl | rfl | rfl | rfl | rfl <;> exact ⟨_, rfl, by decide, by decide⟩
    walk_at "wk"
    refine draw_in (keep hp) (keep hq) (by omega) ?_
    intro top t0 t1
    walk_at "wk"
    exact .new hl (.here ⟨top, t0, by omega, rfl, rfl⟩)
  rintro env S' ⟨top, t0, t1, rfl, rfl⟩
  walk_at "wk"
  refine join_set 2 (fun d => ∃ top : Int, 0 ≤ top ∧ top < 1000000000000 ∧ d = .int top) ?_ ?_
  · walk_at "wk"
    refine ifB_dec (fun _ => ?_) (fun _ => ?_)
    · walk_at "wk"
      exact .here ⟨⟨_, ⟨_, by rw [e12]; omega, by rw [e12]; omega, rfl⟩, rfl⟩, rfl⟩
    · exact .here ⟨⟨_, ⟨top, by omega, by omega, rfl⟩, rfl⟩, rfl⟩
  rintro d ⟨top, t0, t1, rfl⟩
  walk_at "wk"
  refine join_set 2 (fun d => ∃ top : Int, 0 ≤ top ∧ top < 1000000000000000000 ∧ d = .int top) ?_ ?_
  · walk_at "wk"
    refine ifB_dec (fun h8 => ?_) (fun h8 => ?_)
    · have m6 : mulOk top 1000000 := .inr (.inl (by decide))
      walk_at "wk"
      refine draw_in hp hq (by rw [e6]; decide) ?_
      intro z z0 z1
      rw [e6] at z1
      walk_at "wk"
      exact .here ⟨⟨_, ⟨_, by rw [e6]; omega, by rw [e6]; omega, rfl⟩, rfl⟩, rfl⟩
    · exact .here ⟨⟨_, ⟨top, by omega, by omega, rfl⟩, rfl⟩, rfl⟩
  rintro d ⟨top, t0, t1, rfl⟩
  walk_at "wk"
  intro l hl
  have keep : ∀ {a o o2}, sget S' a = some o → sget ((l, o2) :: S') a = some o := fun h => Sub.new hl _ _ h
  walk_at "wk"
  refine join_in (fun env S2 => ∃ (o3 : Option D) (b : Int), 0 < b ∧ b < 1000000000000 ∧ env = [some (.ref p), some (.int sh), some (.int top), o3, some (.int b)] ∧ S2 = S') ?_ ?_
  · walk_at "wk"
    refine draw_in (keep hp) (keep hq) (by decide) ?_
    intro z z0 z1
    walk_at "wk"
    refine onAt_all z0 (by show z < 20; omega) fun x5 hx5 => ?_
    obtain ⟨n, rfl, hn⟩ : ∃ h : Int, x5 = .int h ∧ 0 < h ∧ h < 1000000000000 := by
      simp only [e12, e39, e17, List.mem_cons, List.not_mem_nil, or_false] at hx5
      rcases hx5 with rfl | rfl | rfl | rfl | rfl | rfl | rfl | rfl | rfl | rfl | rfl | rfl | rfl | rfl | rfl | rfl | rfl | rfl | rfl | rfl <;> exact ⟨_, rfl, by decide, by decide⟩
    walk_at "wk"
    exact .new hl (.here ⟨_, _, hn.1, hn.2, rfl, rfl⟩)
  rintro env S2 ⟨o3, b, b0, b1, rfl, rfl⟩
  walk_at "wk"
  refine join_in (fun env S3 => ∃ (b : Int), 0 < b ∧ b < 1000000000000 ∧ env = [some (.ref p), some (.int sh), some (.int top), o3, some (.int b)] ∧ S3 = S2) ?_ ?_
  · walk_at "wk"
    refine draw_in hp hq (by decide) ?_
    intro z z0 z1
    walk_at "wk"
    refine ifB_dec (fun h8 => ?_) (fun h8 => ?_)
    · walk_at "wk"
      intro l2 hl2
      have keep2 : ∀ {a o o2}, sget S2 a = some o → sget ((l2, o2) :: S2) a = some o := fun h => Sub.new hl2 _ _ h
      walk_at "wk"
      refine draw_in (keep2 hp) (keep2 hq) (by decide) ?_
      intro y y0 y1
      walk_at "wk"
      refine onAt_all y0 (by show y < 2; omega) fun x5 hx5 => ?_
      obtain ⟨n, rfl, hn⟩ : ∃ h : Int, x5 = .int h ∧ 0 < h ∧ h ≤ 1000000 := by
        simp only [e6, List.mem_cons, List.not_mem_nil, or_false] at hx5
        rcases hx5 with rfl | rfl <;> exact ⟨_, rfl, by decide, by decide⟩
      walk_at "wk"
      refine draw_in (keep2 hp) (keep2 hq) (by omega) ?_
      intro w w0 w1
      walk_at "wk"
      exact .new hl2 (.here ⟨_, by omega, by omega, rfl, rfl⟩)
    · exact .here ⟨b, b0, b1, rfl, rfl⟩
  rintro env S3 ⟨b, b0, b1, rfl, rfl⟩
  walk_at "wk"
  refine join_set 2 (fun d => ∃ top : Int, (-1000000000000000000 < top ∧ top < 1000000000000000000) ∧ d = .int top) ?_ ?_
  · walk_at "wk"
    refine draw_in hp hq (by decide) ?_
    intro z z0 z1
    walk_at "wk"
    refine ifB_dec (fun h8 => ?_) (fun h8 => ?_)
    · walk_at "wk"
      exact .here ⟨⟨_, ⟨_, by omega, rfl⟩, rfl⟩, rfl⟩
    · exact .here ⟨⟨_, ⟨top, by omega, rfl⟩, rfl⟩, rfl⟩
  rintro d ⟨top, ht, rfl⟩
  have bn : Bd 60 top := .of ht (by decide)
  have bd : Bd 60 b := .of (m := 1000000000000) (by omega) (by decide)
  walk_at "wk"
  refine law_ratio_in (by omega) (bd.mono (by decide)) ?_
  walk_at "wk"
  exact .here (fin _ (low_ok (by omega) bn bd))
theorem law_number_in {p q : Addr} {ns : List Int} {S : Sto} {Q : WQ} (hp : sget S p = some (.tape q)) (hq : sget S q = some (.lst (dInt ns))) (h : ∀ x : Fq, x.Ok 60 → Q x.t S) : F__law_number [.ref p] S Q := by
  unfold F__law_number
  exact ⟨p, q, ns, rfl, hp, hq, h⟩

def b__law_small : WS :=
  (sSeq (sAsg (eBin dSub (eCall F__law_draw (aCons (eVar 0) (aCons (eC (.int 41)) aNil))) (eC (.int 20))) (gName 1))
  (sRet (eCall F__law_ratio (aCons (eVar 1) (aCons (eBin dIx (eLst (aCons (eC (.int 1)) (aCons (eC (.int 1)) (aCons (eC (.int 1)) (aCons (eC (.int 1)) (aCons (eC (.int 2)) (aCons (eC (.int 3)) (aCons (eC (.int 4)) (aCons (eC (.int 10)) aNil))))))))) (eCall F__law_draw (aCons (eVar 0) (aCons (eC (.int 8)) aNil)))) aNil)))))
-- math: frac
@[irreducible] def F__law_small : WF := wf1 fun a S Q => ∃ (p q : Addr) (ns : List Int), a = .ref p ∧ sget S p = some (.tape q) ∧ sget S q = some (.lst (dInt ns)) ∧ ∀ x : Fq, x.Ok 20 → Q x.t S
theorem p__law_small : ∀ ds S Q, F__law_small ds S Q → b__law_small (enOf Q) (DL.start 2 ds) S := by
  unfold F__law_small
  refine ok1 fun a S Q h => ?_
  obtain ⟨p, q, ns, rfl, hp, hq, fin⟩ := h
  show b__law_small (enOf Q) [some (.ref p), none] S
  walk_at "wk"
  walk_at "dr"; intro x hx0 hx1; walk_at "wk"
  intro l hl
  have keep : ∀ {a o o2}, sget S a = some o → sget ((l, o2) :: S) a = some o := fun h => Sub.new hl _ _ h
  walk_at "wk"
  refine draw_in (keep hp) (keep hq) (by decide) ?_
  intro k hk0 hk1
  walk_at "wk"
  refine onAt_all hk0 (by show k < 8; omega) fun x5 hx5 => ?_
  obtain ⟨n, rfl, hn⟩ : ∃ h : Int, x5 = .int h ∧ 0 < h ∧ h ≤ 10 := by
    simp only [List.mem_cons, List.not_mem_nil, or_false] at hx5
    rcases hx5 with rfl | rfl | rfl | rfl | rfl | rfl | rfl | rfl <;> exact ⟨_, rfl, by decide, by decide⟩
  walk_at "wk"
  have bn : Bd 20 (x - 20) := .of (m := 1000) (by omega) (by decide)
  have bd : Bd 20 n := .of (m := 1000) (by omega) (by decide)
  refine law_ratio_in (by omega) (bd.mono (by decide)) ?_
  walk_at "wk"
  exact .new hl (.here (fin _ (low_ok (by omega) bn bd)))
theorem law_small_in {p q : Addr} {ns : List Int} {S : Sto} {Q : WQ} (hp : sget S p = some (.tape q)) (hq : sget S q = some (.lst (dInt ns))) (h : ∀ x : Fq, x.Ok 20 → Q x.t S) : F__law_small [.ref p] S Q := by
  unfold F__law_small
  exact ⟨p, q, ns, rfl, hp, hq, h⟩

def b__law_large : WS :=
  (sSeq (sAsg (eC (.int 0)) (gName 2))
  (sSeq (sFor (iRng (aCons (eCall F__law_draw (aCons (eVar 0) (aCons (eBin dAdd (eVar 1) (eC (.int 1))) aNil))) aNil)) (gName 3) (sAsg (eBin dAdd (eBin dMul (eVar 2) (eBin dPow (eC (.int 10)) (eC (.int 9)))) (eCall F__law_draw (aCons (eVar 0) (aCons (eBin dPow (eC (.int 10)) (eC (.int 9))) aNil)))) (gName 2)))
  (sRet (eVar 2))))
-- math: frac
@[irreducible] def F__law_large : WF := wf2 fun a b S Q => ∃ (p q : Addr) (ns : List Int) (m : Int), a = .ref p ∧ b = .int m ∧ 0 ≤ m ∧ m ≤ 30 ∧ sget S p = some (.tape q) ∧ sget S q = some (.lst (dInt ns)) ∧ ∀ x : Int, 0 ≤ x → Bd (30 * m.toNat) x → Q (.int x) S
theorem p__law_large : ∀ ds S Q, F__law_large ds S Q → b__law_large (enOf Q) (DL.start 4 ds) S := by
  unfold F__law_large
  refine ok2 fun a b S Q h => ?_
  obtain ⟨p, q, ns, m, rfl, rfl, m0, m1, hp, hq, fin⟩ := h
  show b__law_large (enOf Q) [some (.ref p), some (.int m), none, none] S
  walk_at "wk"
  refine for_in ?_
  walk_at "wk"
  refine draw_in hp hq (by omega) ?_
  intro k hk0 hk1
  walk_at "wk"
  refine rng_w (fun i env S' => ∃ (x : Int) (o : Option D), 0 ≤ x ∧ Bd (30 * i) x ∧ env = [some (.ref p), some (.int m), some (.int x), o] ∧ S' = S) ⟨0, none, by decide, by unfold Bd; decide, rfl, rfl⟩ ?_ ?_
  · rintro i env S' hi ⟨x, o, x0, bx, rfl, rfl⟩
    walk_at "wk"
    refine draw_in hp hq (by decide) ?_
    intro y hy0 hy1
    walk_at "wk"
    have e : (10 ^ Int.toNat 9 : Int) = 1000000000 := by decide
    rw [e] at hy1 ⊢
    refine .here ⟨_, _, by omega, ?_, rfl, rfl⟩
    unfold Bd at *
    rw [Nat.mul_add, Nat.pow_add]
    have e2 : 2 ^ (30 * 1) = 1073741824 := by decide
    omega
  · rintro env S' ⟨x, o, x0, bx, rfl, rfl⟩
    walk_at "wk"
    exact .here (fin _ x0 (bx.mono (by omega)))
theorem law_large_in {p q : Addr} {ns : List Int} {m : Int} {S : Sto} {Q : WQ} (m0 : 0 ≤ m) (m1 : m ≤ 30) (hp : sget S p = some (.tape q)) (hq : sget S q = some (.lst (dInt ns))) (h : ∀ x : Int, 0 ≤ x → Bd (30 * m.toNat) x → Q (.int x) S) : F__law_large [.ref p, .int m] S Q := by
  unfold F__law_large
  exact ⟨p, q, ns, m, rfl, rfl, m0, m1, hp, hq, h⟩

def b__law_fraction : WS :=
  (sSeq (sAsg (eCall F__law_draw (aCons (eVar 0) (aCons (eC (.int 5)) aNil))) (gName 1))
  (sSeq (sIf (tB (eBin dEq (eVar 1) (eC (.int 0)))) (sRet (eCall F__law_small (aCons (eVar 0) aNil))) sNil)
  (sSeq (sIf (tB (eBin dEq (eVar 1) (eC (.int 1)))) (sRet (eCall F__law_number (aCons (eVar 0) aNil))) sNil)
  (sSeq (sAsg (eCall F__law_large (aCons (eVar 0) (aCons (eC (.int 6)) aNil))) (gName 2))
  (sSeq (sAsg (eBin dAdd (eC (.int 1)) (eCall F__law_large (aCons (eVar 0) (aCons (eC (.int 6)) aNil)))) (gName 3))
  (sSeq (sJoin (sIf (tB (eBin dEq (eVar 1) (eC (.int 2)))) (sSeq (sAsg (eBin dSub (eBin dSub (eBin dPow (eC (.int 10)) (eC (.int 60))) (eC (.int 1))) (eCall F__law_draw (aCons (eVar 0) (aCons (eC (.int 1000)) aNil)))) (gName 2))
  (sAsg (eBin dIx (eLst (aCons (eVar 3) (aCons (eC (.int 1)) (aCons (eBin dSub (eBin dSub (eBin dPow (eC (.int 10)) (eC (.int 60))) (eC (.int 1))) (eCall F__law_draw (aCons (eVar 0) (aCons (eC (.int 1000)) aNil)))) aNil)))) (eCall F__law_draw (aCons (eVar 0) (aCons (eC (.int 3)) aNil)))) (gName 3))) sNil))
  (sSeq (sJoin (sIf (tB (eBin dEq (eVar 1) (eC (.int 3)))) (sAsg (eBin dIx (eLst (aCons (eBin dMul (eBin dMul (eBin dPow (eC (.int 2)) (eC (.int 64))) (eBin dPow (eC (.int 2)) (eC (.int 64)))) (eBin dPow (eC (.int 2)) (eC (.int 64)))) (aCons (eBin dPow (eC (.int 5)) (eC (.int 64))) (aCons (eBin dPow (eC (.int 10)) (eC (.int 59))) (aCons (eBin dPow (eC (.int 2)) (eC (.int 39))) (aCons (eBin dPow (eC (.int 10)) (eC (.int 12))) (aCons (eC (.int 8)) (aCons (eC (.int 50)) aNil)))))))) (eCall F__law_draw (aCons (eVar 0) (aCons (eC (.int 7)) aNil)))) (gName 3)) sNil))
  (sSeq (sJoin (sIf (tB (eBin dEq (eCall F__law_draw (aCons (eVar 0) (aCons (eC (.int 2)) aNil))) (eC (.int 0)))) (sAsg (eNeg (eVar 2)) (gName 2)) sNil))
  (sRet (eCall F__law_ratio (aCons (eVar 2) (aCons (eVar 3) aNil))))))))))))
-- math: frac
-- join: if _law_choice == 2
-- join: if _law_choice == 3
-- join: if _law_draw(_law_tape_here, 2) == 0
@[irreducible] def F__law_fraction : WF := wf1 fun a S Q => ∃ (p q : Addr) (ns : List Int), a = .ref p ∧ sget S p = some (.tape q) ∧ sget S q = some (.lst (dInt ns)) ∧ ∀ x : Fq, x.Ok 240 → Q x.t S
theorem p__law_fraction : ∀ ds S Q, F__law_fraction ds S Q → b__law_fraction (enOf Q) (DL.start 4 ds) S := by
  unfold F__law_fraction
  refine ok1 fun a S Q h => ?_
  obtain ⟨p, q, ns, rfl, hp, hq, fin⟩ := h
  show b__law_fraction (enOf Q) [some (.ref p), none, none, none] S
  walk_at "wk"
  refine draw_in hp hq (by decide) ?_
  intro ch c0 c1
  walk_at "wk"
  refine ifB_dec (fun _ => ?_) (fun _ => ?_)
  · walk_at "wk"
    refine law_small_in hp hq fun x hx => ?_
    walk_at "wk"
    exact .here (fin x (hx.mono (by decide)))
  walk_at "wk"
  refine ifB_dec (fun _ => ?_) (fun _ => ?_)
  · walk_at "wk"
    refine law_number_in hp hq fun x hx => ?_
    walk_at "wk"
    exact .here (fin x (hx.mono (by decide)))
  walk_at "wk"
  refine law_large_in (by decide) (by decide) hp hq fun top t0 bt => ?_
  walk_at "wk"
  refine law_large_in (by decide) (by decide) hp hq fun bot b0 bb => ?_
  walk_at "wk"
  have bt : Bd 240 top := bt.mono (by decide)
  have bb : Bd 240 (1 + bot) := (Bd.add (a := 1) (i := 1) (by unfold Bd; decide) bb).mono (by decide)
  have b1 : 0 < 1 + bot := by omega
  generalize 1 + bot = bot at *
  obtain ⟨P60, e60, h60⟩ : ∃ P : Int, (10 ^ Int.toNat 60 : Int) = P ∧ (2000 : Int) < P ∧ P < 2 ^ 240 := ⟨_, rfl, by decide⟩
  have near : ∀ z : Int, 0 ≤ z → z < max 1000 1 → Bd 240 (P60 - 1 - z) ∧ 0 < P60 - 1 - z := fun z h0 h1 => ⟨.of (m := P60) (by omega) (by omega), by omega⟩
  refine join_in (fun env S' => ∃ top bot : Int, Bd 240 top ∧ Bd 240 bot ∧ 0 < bot ∧ env = [some (.ref p), some (.int ch), some (.int top), some (.int bot)] ∧ S' = S) ?_ ?_
  · walk_at "wk"
    refine ifB_dec (fun h2 => ?_) (fun h2 => ?_)
    · walk_at "wk"
      refine draw_in hp hq (by decide) ?_
      intro z z0 z1
      walk_at "wk"
      refine draw_in hp hq (by decide) ?_
      intro w w0 w1
      walk_at "wk"
      intro l hl
      have keep : ∀ {a o o2}, sget S a = some o → sget ((l, o2) :: S) a = some o := fun h => Sub.new hl _ _ h
      walk_at "wk"
      refine draw_in (keep hp) (keep hq) (by decide) ?_
      intro y y0 y1
      walk_at "wk"
      refine onAt_all y0 (by show y < 3; omega) fun x5 hx5 => ?_
      obtain ⟨n, rfl, hn⟩ : ∃ h : Int, x5 = .int h ∧ Bd 240 h ∧ 0 < h := by
        simp only [List.mem_cons, List.not_mem_nil, or_false] at hx5
        rcases hx5 with rfl | rfl | rfl
        · exact ⟨_, rfl, bb, b1⟩
        · exact ⟨_, rfl, by unfold Bd; decide, by decide⟩
        · exact ⟨_, rfl, near w w0 w1⟩
      walk_at "wk"
      exact .new hl (.here ⟨_, _, by rw [e60]; exact (near z z0 z1).1, hn.1, hn.2, rfl, rfl⟩)
    · exact .here ⟨_, _, bt, bb, b1, rfl, rfl⟩
  rintro env S' ⟨top, bot, bt, bb, b1, rfl, rfl⟩
  walk_at "wk"
  refine join_in (fun env S2 => ∃ bot : Int, Bd 240 bot ∧ 0 < bot ∧ env = [some (.ref p), some (.int ch), some (.int top), some (.int bot)] ∧ S2 = S') ?_ ?_
  · walk_at "wk"
    refine ifB_dec (fun h2 => ?_) (fun h2 => ?_)
    ·
      have m1 : mulOk (2 ^ Int.toNat 64) (2 ^ Int.toNat 64) := Bd.mulOk (a := 65) (b := 65) (by unfold Bd; decide) (by unfold Bd; decide) (by decide)
      have m2 : mulOk (2 ^ Int.toNat 64 * 2 ^ Int.toNat 64) (2 ^ Int.toNat 64) := Bd.mulOk (a := 130) (b := 65) (by unfold Bd; decide) (by unfold Bd; decide) (by decide)
      walk_at "wk"
      intro l hl
      have keep : ∀ {a o o2}, sget S' a = some o → sget ((l, o2) :: S') a = some o := fun h => Sub.new hl _ _ h
      walk_at "wk"
      refine draw_in (keep hp) (keep hq) (by decide) ?_
      intro y y0 y1
      walk_at "wk"
      refine onAt_all y0 (by show y < 7; omega) fun x5 hx5 => ?_
      obtain ⟨n, rfl, hn⟩ : ∃ h : Int, x5 = .int h ∧ Bd 240 h ∧ 0 < h := by
        simp only [List.mem_cons, List.not_mem_nil, or_false] at hx5
        rcases hx5 with rfl | rfl | rfl | rfl | rfl | rfl | rfl <;> exact ⟨_, rfl, by unfold Bd; decide, by decide⟩
      walk_at "wk"
      exact .new hl (.here ⟨_, hn.1, hn.2, rfl, rfl⟩)
    · exact .here ⟨_, bb, b1, rfl, rfl⟩
  rintro env S2 ⟨bot, bb, b1, rfl, rfl⟩
  walk_at "wk"
  refine join_set 2 (fun d => ∃ top : Int, Bd 240 top ∧ d = .int top) ?_ ?_
  · walk_at "wk"
    refine draw_in hp hq (by decide) ?_
    intro z z0 z1
    walk_at "wk"
    refine ifB_dec (fun h8 => ?_) (fun h8 => ?_)
    · walk_at "wk"
      exact .here ⟨⟨_, ⟨_, bt.neg, rfl⟩, rfl⟩, rfl⟩
    · exact .here ⟨⟨_, ⟨top, bt, rfl⟩, rfl⟩, rfl⟩
  rintro d ⟨top, bt, rfl⟩
  walk_at "wk"
  refine law_ratio_in (by omega) (bb.mono (by decide)) ?_
  walk_at "wk"
  exact .here (fin _ (low_ok (by omega) bt bb))
theorem law_fraction_in {p q : Addr} {ns : List Int} {S : Sto} {Q : WQ} (hp : sget S p = some (.tape q)) (hq : sget S q = some (.lst (dInt ns))) (h : ∀ x : Fq, x.Ok 240 → Q x.t S) : F__law_fraction [.ref p] S Q := by
  unfold F__law_fraction
  exact ⟨p, q, ns, rfl, hp, hq, h⟩

def b__law_fraction_text : WS :=
  (sSeq (sAsg (eBin dIx (eVar 0) (eC (.int 1))) (gName 1))
  (sSeq (sAsg (eC (.int 0)) (gName 2))
  (sSeq (sAsg (eC (.int 0)) (gName 3))
  (sSeq (sJoin (sWhile (tB (eBin dEq (eBin dMod (eCall bInt (aCons (eVar 1) aNil)) (eC (.int 2))) (eC (.int 0)))) (sSeq (sAsg (eBin dDiv (eVar 1) (eC (.int 2))) (gName 1))
  (sAsg (eBin dAdd (eVar 2) (eC (.int 1))) (gName 2)))))
  (sSeq (sJoin (sWhile (tB (eBin dEq (eBin dMod (eCall bInt (aCons (eVar 1) aNil)) (eC (.int 5))) (eC (.int 0)))) (sSeq (sAsg (eBin dDiv (eVar 1) (eC (.int 5))) (gName 1))
  (sAsg (eBin dAdd (eVar 3) (eC (.int 1))) (gName 3)))))
  (sSeq (sIf (tB (eBin dNe (eVar 1) (eC (.int 1)))) (sRet (eBin dAdd (eBin dAdd (eCall bStr (aCons (eBin dIx (eVar 0) (eC (.int 0))) aNil)) (eC (.str "/"))) (eCall bStr (aCons (eBin dIx (eVar 0) (eC (.int 1))) aNil)))) sNil)
  (sSeq (sAsg (eCall bMax2 (aCons (eVar 2) (aCons (eVar 3) aNil))) (gName 4))
  (sSeq (sAsg (eC (.int 1)) (gName 5))
  (sSeq (sJoin (sFor (iRng (aCons (eVar 4) aNil)) (gName 6) (sAsg (eBin dMul (eVar 5) (eC (.int 10))) (gName 5))))
  (sSeq (sAsg (eCall bStr (aCons (eBin dMul (eCall bAbs (aCons (eBin dIx (eVar 0) (eC (.int 0))) aNil)) (eBin dDiv (eVar 5) (eBin dIx (eVar 0) (eC (.int 1))))) aNil)) (gName 7))
  (sSeq (sJoin (sIf (tB (eBin dGt (eVar 4) (eC (.int 0)))) (sSeq (sAsg (eBin dAdd (eBin dMul (eC (.str "0")) (eBin dSub (eBin dAdd (eVar 4) (eC (.int 1))) (eCall bLen (aCons (eVar 7) aNil)))) (eVar 7)) (gName 7))
  (sAsg (eBin dAdd (eBin dAdd (eSl (eVar 7) oNone (oSome (eBin dSub (eCall bLen (aCons (eVar 7) aNil)) (eVar 4)))) (eC (.str "."))) (eSl (eVar 7) (oSome (eBin dSub (eCall bLen (aCons (eVar 7) aNil)) (eVar 4))) oNone)) (gName 7))) sNil))
  (sSeq (sIf (tB (eBin dLt (eBin dIx (eVar 0) (eC (.int 0))) (eC (.int 0)))) (sAsg (eBin dAdd (eC (.str "-")) (eVar 7)) (gName 7)) sNil)
  (sRet (eVar 7))))))))))))))
-- math: ftext
-- join: while int(_law_rest) % 2
-- join: while int(_law_rest) % 5
-- join: for _law_k in range(_law_digits)
-- join: if _law_digits > 0
@[irreducible] def F__law_fraction_text : WF := wf1 fun a S Q => ∃ x : Fq, a = x.t ∧ x.Ok 400 ∧ Q (.str (ftx x.n x.d.toNat)) S
set_option maxHeartbeats 2000000 in
theorem p__law_fraction_text : ∀ ds S Q, F__law_fraction_text ds S Q → b__law_fraction_text (enOf Q) (DL.start 8 ds) S := by
  unfold F__law_fraction_text
  refine ok1 fun a S Q h => ?_
  obtain ⟨⟨n, d⟩, rfl, hx, q⟩ := h
  obtain ⟨d, rfl⟩ : ∃ e : Nat, d = (e : Int) := ⟨d.toNat, by have := hx.pos; dsimp only at this; omega⟩
  show b__law_fraction_text (enOf Q) [some (.tup [.int n, .int d]), none, none, none, none, none, none, none] S
  have q : Q (.str (ftx n d)) S := q
  have hd : 0 < d := by have := hx.pos; dsimp only at this; omega
  have bn : n.natAbs < 2 ^ 400 := hx.bn
  have bd : d < 2 ^ 400 := by have := hx.bd; unfold Bd at this; dsimp only at this; omega
  have l1 : n.natAbs.log2 < 1920 := Nat.lt_of_lt_of_le (log2_of bn (by decide)) (by decide)
  have l2 : (d : Int).natAbs.log2 < 1920 := Nat.lt_of_lt_of_le (log2_of (show (d : Int).natAbs < 2 ^ 400 from bd) (by decide)) (by decide)
  have big : 100000 ≤ sizeLine := by decide
  walk_at "wk"
  refine join_in (fun env S' => env = [some (.tup [.int n, .int d]), some (.int ((strip 2 d d).2 : Nat)), some (.int ((strip 2 d d).1 : Nat)), some (.int 0), none, none, none, none] ∧ S' = S ∧ 0 < (strip 2 d d).2) ?_ ?_
  · walk_at "wk"
    refine while_in (fun m env S' => ∃ (e k f : Nat), m = e ∧ 0 < e ∧ e ≤ f ∧ strip 2 d d = ((strip 2 f e).1 + k, (strip 2 f e).2) ∧ env = [some (.tup [.int n, .int d]), some (.int (e : Nat)), some (.int (k : Nat)), some (.int 0), none, none, none, none] ∧ S' = S) d ⟨d, 0, d, rfl, hd, Nat.le_refl _, rfl, rfl, rfl⟩ ?_
    rintro m env S' ⟨e, k, f, rfl, he, hf, hs, rfl, rfl⟩
    walk_at "wk"
    obtain ⟨f, rfl⟩ : ∃ g, f = g + 1 := ⟨f - 1, by omega⟩
    refine ifB_dec (fun g => ?_) (fun g => ?_)
    · have g : m % 2 = 0 := by omega
      walk_at "wk"
      refine .here ⟨m / 2, by omega, m / 2, k + 1, f, rfl, by omega, by omega, ?_, ?_, rfl⟩
      · rw [hs]
        conv => lhs; unfold strip
        rw [if_pos g]
        rw [Nat.add_assoc, Nat.add_comm 1 k]
      · simp
    · have g : ¬ m % 2 = 0 := by omega
      have e : strip 2 d d = (k, m) := by
        rw [hs]
        conv => lhs; unfold strip
        rw [if_neg g, Nat.zero_add]
      rw [e]
      exact .here ⟨rfl, rfl, he⟩
  rintro env S' ⟨rfl, rfl, h2⟩
  have hdp : dpl d = (let y := strip 5 (strip 2 d d).2 (strip 2 d d).2; if y.2 = 1 then some (max (strip 2 d d).1 y.1) else none) := rfl
  generalize hx2 : strip 2 d d = x at h2 hdp
  obtain ⟨t, c⟩ := x
  walk_at "wk"
  refine join_in (fun env S2 => env = [some (.tup [.int n, .int d]), some (.int ((strip 5 c c).2 : Nat)), some (.int (t : Nat)), some (.int ((strip 5 c c).1 : Nat)), none, none, none, none] ∧ S2 = S') ?_ ?_
  · walk_at "wk"
    refine while_in (fun m env S2 => ∃ (e k f : Nat), m = e ∧ 0 < e ∧ e ≤ f ∧ strip 5 c c = ((strip 5 f e).1 + k, (strip 5 f e).2) ∧ env = [some (.tup [.int n, .int d]), some (.int (e : Nat)), some (.int (t : Nat)), some (.int (k : Nat)), none, none, none, none] ∧ S2 = S') c ⟨c, 0, c, rfl, h2, Nat.le_refl _, rfl, rfl, rfl⟩ ?_
    rintro m env S2 ⟨e, k, f, rfl, he, hf, hs, rfl, rfl⟩
    walk_at "wk"
    obtain ⟨f, rfl⟩ : ∃ g, f = g + 1 := ⟨f - 1, by omega⟩
    refine ifB_dec (fun g => ?_) (fun g => ?_)
    · have g : m % 5 = 0 := by omega
      walk_at "wk"
      refine .here ⟨m / 5, by omega, m / 5, k + 1, f, rfl, by omega, by omega, ?_, ?_, rfl⟩
      · rw [hs]
        conv => lhs; unfold strip
        rw [if_pos g]
        rw [Nat.add_assoc, Nat.add_comm 1 k]
      · simp
    · have g : ¬ m % 5 = 0 := by omega
      have e : strip 5 c c = (k, m) := by
        rw [hs]
        conv => lhs; unfold strip
        rw [if_neg g, Nat.zero_add]
      rw [e]
      exact .here ⟨rfl, rfl⟩
  rintro env S2 ⟨rfl, rfl⟩
  dsimp only at hdp
  generalize strip 5 c c = y at hdp
  obtain ⟨f, r⟩ := y
  dsimp only at hdp
  walk_at "wk"
  refine ifB_ndec (fun g => ?_) (fun g => ?_)
  · rw [if_neg (by omega)] at hdp
    unfold ftx at q
    rw [hdp] at q
    dsimp only at q
    have s1 := text_len (i := n) (Nat.lt_of_lt_of_le bn (Nat.pow_le_pow_right (by decide) (by decide)))
    have s2 := text_len (i := (d : Int)) (Nat.lt_of_lt_of_le (show (d : Int).natAbs < 2 ^ 400 from bd) (Nat.pow_le_pow_right (by decide) (by decide)))
    have s3 : (("/" : String) : Str).length = 1 := by decide +kernel
    have r1 : (Str.ofString (toString n)).length + (("/" : String) : Str).length ≤ sizeLine := by omega
    have r2 : (Str.ofString (toString n) ++ (("/" : String) : Str)).length + (Str.ofString (toString (d : Int))).length ≤ sizeLine := by rw [len_add]; omega
    walk_at "wk"
    exact .here q
  · rw [if_pos (by omega)] at hdp
    obtain ⟨dv, pw⟩ := dpl_dvd hdp
    have fb := fb_of bn bd hdp
    unfold ftx at q
    rw [hdp] at q
    dsimp only at q
    have e : (max (t : Int) (f : Int)) = ((max t f : Nat) : Int) := by omega
    walk_at "wk"
    rw [e]
    generalize max t f = p at *
    have pp := fb.pl
    refine join_in (fun env S' => ∃ o6 : Option D, env = [some (.tup [.int n, .int d]), some (.int (r : Nat)), some (.int (t : Nat)), some (.int (f : Nat)), some (.int (p : Nat)), some (.int ((10 ^ p : Nat) : Int)), o6, none] ∧ S' = S2) ?_ ?_
    · walk_at "wk"
      refine for_in ?_
      walk_at "wk"
      refine rng_w (fun i env S' => ∃ o : Option D, env = [some (.tup [.int n, .int d]), some (.int (r : Nat)), some (.int (t : Nat)), some (.int (f : Nat)), some (.int (p : Nat)), some (.int ((10 ^ i : Nat) : Int)), o, none] ∧ S' = S2) ⟨none, rfl, rfl⟩ ?_ ?_
      · rintro i env S' hi ⟨o, rfl, rfl⟩
        have m10 : mulOk ((10 ^ i : Nat) : Int) 10 := .inr (.inl (by decide))
        walk_at "wk"
        have e : ((10 ^ i : Nat) : Int) * 10 = ((10 ^ (i + 1) : Nat) : Int) := by rw [Nat.pow_succ]; simp
        rw [e]
        exact .here ⟨_, rfl, rfl⟩
      · rintro env S' ⟨o, rfl, rfl⟩
        exact .here ⟨_, rfl, rfl⟩
    rintro env S' ⟨o6, rfl, rfl⟩
    have ea : (if n < 0 then -n else n) = (n.natAbs : Int) := by split <;> omega
    have hd2 : 0 < (d : Int) ∧ (d : Int).natAbs.log2 < 8000 := ⟨by omega, by omega⟩
    walk_at "wk"
    rw [ea]
    have ed : ((10 ^ p : Nat) : Int) / (d : Int) = ((10 ^ p / d : Nat) : Int) := by simp
    rw [ed]
    have lm := fb.m
    have lt : (10 ^ p / d).log2 ≤ 1600 := by
      have h1 : 10 ^ p / d ≤ 10 ^ p := Nat.div_le_self _ _
      have h2 : (10 ^ p / d).log2 ≤ (10 ^ p).log2 := by
        by_cases h0 : 10 ^ p / d = 0
        · rw [h0]; exact Nat.zero_le _
        · exact (Nat.le_log2 (Nat.ne_of_gt (Nat.pow_pos (by decide)))).mpr (Nat.le_trans (Nat.log2_self_le h0) h1)
      have := fb.t
      omega
    have mo : mulOk (n.natAbs : Int) ((10 ^ p / d : Nat) : Int) := .inr (.inr (by
      have h1 : (n.natAbs : Int).natAbs.log2 < 1920 := l1
      have h2 : ((10 ^ p / d : Nat) : Int).natAbs.log2 ≤ 1600 := lt
      omega))
    refine ⟨mo, ?_⟩
    rw [show (n.natAbs : Int) * ((10 ^ p / d : Nat) : Int) = ((n.natAbs * (10 ^ p / d) : Nat) : Int) by simp]
    generalize n.natAbs * (10 ^ p / d) = M at lm q
    have lm2 : ((M : Nat) : Int).natAbs.log2 < 1920 := Nat.lt_of_lt_of_le (log2_of (k := 1900) lm (by decide)) (by decide)
    walk_at "wk"
    rw [show Str.ofString (toString ((M : Nat) : Int)) = natT M from rfl]
    have tl : (natT M).length ≤ 601 := text_len (i := (M : Int)) lm
    have pl := padZ_len p (natT M)
    have hz := mul_zero ((p : Int) + 1 - (natT M).length)
    have s1 : (("-" : String) : Str).length = 1 := by decide +kernel
    have s2 : (("." : String) : Str).length = 1 := by decide +kernel
    have s0 : (("0" : String) : Str).length = 1 := by decide +kernel
    have tlz : (natT M).length ≤ sizeLine := by omega
    refine join_in (fun env S2 => env = [some (.tup [.int n, .int d]), some (.int (r : Nat)), some (.int (t : Nat)), some (.int (f : Nat)), some (.int (p : Nat)), some (.int ((10 ^ p : Nat) : Int)), o6, some (.str (bodyT p (natT M)))] ∧ S2 = S') ?_ ?_
    · walk_at "wk"
      refine ifB_dec (fun g => ?_) (fun g => ?_)
      · have g : 0 < p := by omega
        walk_at "wk"
        refine ⟨⟨by omega, by omega, by rw [s0]; omega⟩, ?_⟩
        walk_at "wk"
        have m1 : (Txt.mul "0" ((p : Int) + 1 - (natT M).length)).length = p + 1 - (natT M).length := by rw [str_len, hz, List.length_replicate]; omega
        refine ⟨by rw [m1]; omega, ?_⟩
        rw [show Txt.mul "0" ((p : Int) + 1 - (natT M).length) ++ natT M = padZ p (natT M) from rfl]
        have hle : (padZ p (natT M)).length ≤ sizeLine := by rw [pl]; omega
        walk_at "wk"
        have k1 := cutT_len (padZ p (natT M)) none (some (((padZ p (natT M)).length : Int) - (p : Int)))
        have k2 := cutT_len (padZ p (natT M)) (some (((padZ p (natT M)).length : Int) - (p : Int))) none
        show _ ∧ _
        refine ⟨by show (cutT (padZ p (natT M)) none (some (((padZ p (natT M)).length : Int) - (p : Int)))).length + _ ≤ _; omega, ?_⟩
        walk_at "wk"
        show _ ∧ _
        refine ⟨by rw [len_add]; show (cutT (padZ p (natT M)) none (some (((padZ p (natT M)).length : Int) - (p : Int)))).length + _ + (cutT (padZ p (natT M)) (some (((padZ p (natT M)).length : Int) - (p : Int))) none).length ≤ _; omega, ?_⟩
        walk_at "wk"
        have e : bodyT p (natT M) = cutT (padZ p (natT M)) none (some (((padZ p (natT M)).length : Int) - (p : Int))) ++ "." ++ cutT (padZ p (natT M)) (some (((padZ p (natT M)).length : Int) - (p : Int))) none := by unfold bodyT; rw [if_pos g]
        rw [e]
        exact .here ⟨rfl, rfl⟩
      · have g : p = 0 := by omega
        subst g
        exact .here ⟨rfl, rfl⟩
    rintro env S2 ⟨rfl, rfl⟩
    have bl : (bodyT p (natT M)).length ≤ 3000 := by
      unfold bodyT
      split
      · rw [len_add, len_add]
        have k1 := cutT_len (padZ p (natT M)) none (some (((padZ p (natT M)).length : Int) - (p : Int)))
        have k2 := cutT_len (padZ p (natT M)) (some (((padZ p (natT M)).length : Int) - (p : Int))) none
        omega
      · omega
    have r3 : (("-" : String) : Str).length + (bodyT p (natT M)).length ≤ sizeLine := by omega
    walk_at "wk"
    refine ifB_dec (fun g => ?_) (fun g => ?_)
    · rw [if_pos g] at q
      walk_at "wk"
      exact .here q
    · rw [if_neg g] at q
      walk_at "wk"
      exact .here q
theorem law_fraction_text_in {x : Fq} {S : Sto} {Q : WQ} (hx : x.Ok 400) (q : Q (.str (ftx x.n x.d.toNat)) S) : F__law_fraction_text [x.t] S Q := by
  unfold F__law_fraction_text
  exact ⟨x, rfl, hx, q⟩

def b__law_read : WS :=
  (sSeq (sAsg (eVar 0) (gName 1))
  (sSeq (sJoin (sIf (tB (eBin dEq (eSl (eVar 1) oNone (oSome (eC (.int 1)))) (eC (.str "-")))) (sAsg (eSl (eVar 1) (oSome (eC (.int 1))) oNone) (gName 1)) sNil))
  (sSeq (sAsg (eC (.int 1)) (gName 2))
  (sSeq (sAsg (eMethS mSplit (eVar 1) (aCons (eC (.str "/")) aNil)) (gName 3))
  (sSeq (sJoin (sIf (tAnd (tB (eBin dEq (eCall bLen (aCons (eVar 3) aNil)) (eC (.int 2)))) (tTru (eMethS mIsdigit (eBin dIx (eVar 3) (eC (.int 1))) aNil))) (sSeq (sAsg (eCall bIntA (aCons (eBin dIx (eVar 3) (eC (.int 1))) aNil)) (gName 2))
  (sAsg (eLst (aCons (eBin dIx (eVar 3) (eC (.int 0))) aNil)) (gName 3))) (sSeq (sAsg (eMethS mSplit (eVar 1) (aCons (eC (.str ".")) aNil)) (gName 3))
  (sJoin (sIf (tB (eBin dEq (eCall bLen (aCons (eVar 3) aNil)) (eC (.int 2)))) (sFor (iRng (aCons (eCall bLen (aCons (eBin dIx (eVar 3) (eC (.int 1))) aNil)) aNil)) (gName 4) (sAsg (eBin dMul (eVar 2) (eC (.int 10))) (gName 2))) sNil)))))
  (sSeq (sJoin (sIf (tOr (tB (eBin dGt (eCall bLen (aCons (eVar 3) aNil)) (eC (.int 2)))) (tOr (tB (eBin dEq (eVar 2) (eC (.int 0)))) (tB (eBin dGt (eCall bLen (aCons (eComp (iSeq (eVar 3)) (gName 5) (tNot (tTru (eMethS mIsdigit (eVar 5) aNil))) (eVar 5) [5]) aNil)) (eC (.int 0)))))) (sRet (eC .non)) sNil))
  (sSeq (sAsg (eCall F__law_ratio (aCons (eCall bIntA (aCons (eMethS mJoin (eC (.str "")) (aCons (eVar 3) aNil)) aNil)) (aCons (eVar 2) aNil))) (gName 6))
  (sSeq (sJoin (sIf (tB (eBin dEq (eSl (eVar 0) oNone (oSome (eC (.int 1)))) (eC (.str "-")))) (sAsg (eTup (aCons (eNeg (eBin dIx (eVar 6) (eC (.int 0)))) (aCons (eBin dIx (eVar 6) (eC (.int 1))) aNil))) (gName 6)) sNil))
  (sSeq (sIf (tB (eBin dEq (eCall F__law_fraction_text (aCons (eVar 6) aNil)) (eVar 0))) (sRet (eVar 6)) sNil)
  (sRet (eC .non)))))))))))
-- math: fread2
-- fn: has_digits
-- intstr
-- join: if _law_body[:1]
-- join: if len(_law_parts) == 2 and _law_parts[1]
-- join: if len(_law_parts) == 2:
-- join: if len(_law_parts) > 2
-- join: if _law_text
@[irreducible] def F__law_read : WF := wf1 fun a S Q => ∃ z : Str, a = .str z ∧ z.length ≤ 100 ∧ Asc z ∧ Q (oQ (rdF z)) S
set_option maxHeartbeats 2000000 in
theorem p__law_read : ∀ ds S Q, F__law_read ds S Q → b__law_read (enOf Q) (DL.start 7 ds) S := by
  unfold F__law_read
  refine ok1 fun a S Q h => ?_
  obtain ⟨z, rfl, hz, hA, q⟩ := h
  show b__law_read (enOf Q) [some (.str z), none, none, none, none, none, none] S
  have big : 100000 ≤ sizeLine := by decide
  have hzs : z.length ≤ sizeLine := by omega
  have hbl := bodyL_len z
  walk_at "wk"
  refine join_in (fun env S' => ∃ B : Str, B.cps.toList = bodyL z ∧ env = [some (.str z), some (.str B), none, none, none, none, none] ∧ S' = S) ?_ ?_
  · walk_at "wk"
    show ifB (decide (cutT z none (some 1) = _)) _ _
    rw [cut1]
    cases hs : negS z with
    | false =>
      exact .here ⟨z, by unfold bodyL; rw [hs]; rfl, rfl, rfl⟩
    | true =>
      walk_at "wk"
      exact .here ⟨cutT z (some 1) none, cutR_tl hs, rfl, rfl⟩
  rintro env S' ⟨B, hB, rfl, rfl⟩
  have hBl : B.length ≤ 100 := by rw [str_len, hB]; omega
  have hBs : B.length ≤ sizeLine := by omega
  have hBa : Asc B := fun c hc => by
    rw [hB] at hc
    unfold bodyL at hc
    split at hc
    · exact hA c (List.mem_of_mem_tail hc)
    · exact hA c hc
  have f1 := split_few (B := B) (y := "/") (c := 47) (by decide +kernel) (by decide) hBl
  have f2 := split_few (B := B) (y := ".") (c := 46) (by decide +kernel) (by decide) hBl
  have y1 : ((("/" : String) : Str).length == 0) = false ∧ B.length + 2 ≤ sizeLine ∧ (Txt.split B "/").length ≤ sizeLine := ⟨by decide +kernel, by omega, by omega⟩
  have y2 : ((("." : String) : Str).length == 0) = false ∧ B.length + 2 ≤ sizeLine ∧ (Txt.split B ".").length ≤ sizeLine := ⟨by decide +kernel, by omega, by omega⟩
  have sc := slash_cases B hBa
  walk_at "wk"
  intro l1 hl1
  have sb1 : ∀ o, Sub S' ((l1, o) :: S') := fun o => Sub.new hl1
  walk_at "wk"
  refine join_in (fun env S2 => ∃ (l : Addr) (ps : List Str) (s : Nat) (o4 : Option D), Outp (bodyL z) ps s ∧ sget S2 l = some (.lst (ps.map D.str)) ∧ Sub S' S2 ∧ env = [some (.str z), some (.str B), some (.int (s : Int)), some (.ref l), o4, none, none]) ?_ ?_
  · walk_at "wk"
    rcases sc with ⟨A, C, eS, h47, eA, eC, aA, aC, gC⟩ | ⟨h47, hno⟩
    · rw [eS] at y1 ⊢
      obtain ⟨i1, i2⟩ := int_dg gC (by rw [str_len, eC]; have := bef_len (c := 47) (l := B.cps.toList); rw [str_len] at hBl; omega)
      walk_at "wk"
      rw [isdigit_eq aC, gC]
      walk_at "wk"
      refine ⟨_, i1, i2, ?_⟩
      walk_at "wk"
      intro l2 hl2
      refine .here ⟨l2, [A], _, none, outp_slash (by rw [← hB]; exact h47) (by omega) (by rw [← hB]; exact eA) (by rw [← hB]; exact eC) aA gC, sget_self _ _ _, (sb1 _).trans (Sub.new hl2), rfl⟩
    · rcases hno with hne | ⟨A, C, eS, aC, gC⟩
      all_goals first
        | (refine ifB_f (decide_eq_false (fun h => hne (by rw [List.length_map] at h; omega))) ?_)
        | (rw [eS] at y1 ⊢; walk_at "wk"; rw [isdigit_eq aC, gC])
      all_goals
        walk_at "wk"
        intro l3 hl3
        have sb3 := (sb1 _).trans (Sub.new (o := LO.lst ((Txt.split B ".").map D.str)) hl3)
        generalize hT : ((l1, _) :: S' : Sto) = T at sb3 hl3 ⊢
        have h3 : sget ((l3, LO.lst ((Txt.split B ".").map D.str)) :: T) l3 = some (LO.lst ((Txt.split B ".").map D.str)) := sget_self _ _ _
        clear hT
        generalize ((l3, LO.lst ((Txt.split B ".").map D.str)) :: T : Sto) = St at sb3 h3 ⊢
        have lz : ((Txt.split B ".").map D.str).length ≤ sizeLine := by rw [List.length_map]; omega
        walk_at "wk"
        refine join_in (fun env S4 => ∃ (s : Nat) (o4 : Option D), s = (if (Txt.split B ".").length = 2 then 10 ^ ((Txt.split B ".").getD 1 "").length else 1) ∧ env = [some (.str z), some (.str B), some (.int (s : Int)), some (.ref l3), o4, none, none] ∧ S4 = St) ?_ ?_
        · walk_at "wk"
          refine ifB_dec (fun g => ?_) (fun g => ?_)
          · have g2 : (Txt.split B ".").length = 2 := by rw [List.length_map] at g; omega
            rw [if_pos g2]
            have e1 : atD ((Txt.split B ".").map D.str) 1 = some (.str ((Txt.split B ".").getD 1 "")) := by
              obtain ⟨P, R, e⟩ := two_of g2
              rw [e]
              rfl
            have l100 : ((Txt.split B ".").getD 1 "").length ≤ 100 := by
              have e := split_spL (B := B) (y := ".") (c := 46) (by decide +kernel) (by decide)
              have sm := (spL_sum (c := 46) _ _ (Nat.le_refl B.cps.toList.length)).1
              rw [← e, ← str_len] at sm
              obtain ⟨P, R, e⟩ := two_of g2
              rw [e] at sm ⊢
              simp only [List.map_cons, List.map_nil, List.sum_cons, List.sum_nil, ← str_len] at sm
              show R.length ≤ 100
              omega
            generalize (Txt.split B ".").getD 1 "" = R at *
            have lR : R.length ≤ sizeLine := by omega
            walk_at "wk"
            refine for_in ?_
            walk_at "wk"
            refine onAt_in e1 ?_
            walk_at "wk"
            refine rng_w (fun i env S' => ∃ o : Option D, env = [some (.str z), some (.str B), some (.int ((10 ^ i : Nat) : Int)), some (.ref l3), o, none, none] ∧ S' = St) ⟨none, rfl, rfl⟩ ?_ ?_
            · rintro i env S' hi ⟨o, rfl, rfl⟩
              have m10 : mulOk ((10 ^ i : Nat) : Int) 10 := .inr (.inl (by decide))
              walk_at "wk"
              have e : ((10 ^ i : Nat) : Int) * 10 = ((10 ^ (i + 1) : Nat) : Int) := by rw [Nat.pow_succ]; simp
              rw [e]
              exact .here ⟨_, rfl, rfl⟩
            · rintro env S' ⟨o, rfl, rfl⟩
              exact .here ⟨_, _, rfl, rfl, rfl⟩
          · rw [if_neg (by rw [List.length_map] at g; omega)]
            exact .here ⟨1, _, rfl, rfl, rfl⟩
        rintro env S4 ⟨s, o4, hs, rfl, rfl⟩
        exact .here ⟨l3, _, s, o4, by rw [← hB]; exact outp_dot hBa hBl h47 hs, h3, sb3, rfl⟩
  rintro env S2 ⟨l, ps, s, o4, hO, hL, hS, rfl⟩
  have none_ : (rdv (bodyL z) = none ∨ ∃ n, rdv (bodyL z) = some (n, 0)) → UpS (Q .non) S2 := fun h => by
    have e : rdF z = none := by
      unfold rdF
      rcases h with h | ⟨n, h⟩
      · rw [h]
      · rw [h]; rfl
    rw [e] at q
    exact ⟨S', hS, q⟩
  have few := hO.few
  have lz : (ps.map D.str).length ≤ sizeLine := by rw [List.length_map]; omega
  walk_at "wk"
  refine join_in (fun env S3 => (ps.length ≤ 2 ∧ (∀ l ∈ ps.map tlS, dgL l = true) ∧ s ≠ 0) ∧ env = [some (.str z), some (.str B), some (.int (s : Int)), some (.ref l), o4, none, none] ∧ S3 = S2) ?_ ?_
  · walk_at "wk"
    refine ifB_dec (fun g => ?_) (fun g => ?_)
    · walk_at "wk"
      exact none_ (.inl (hO.no fun h => by rw [List.length_map] at g; omega))
    have g2 : ps.length ≤ 2 := by rw [List.length_map] at g; omega
    walk_at "wk"
    refine ifB_dec (fun g0 => ?_) (fun g0 => ?_)
    · walk_at "wk"
      have g0 : s = 0 := by omega
      subst g0
      by_cases hd : ∀ l ∈ ps.map tlS, dgL l = true
      · exact none_ (.inr ⟨_, hO.yes g2 hd⟩)
      · exact none_ (.inl (hO.no fun h => hd h.2))
    walk_at "wk"
    refine comp_filter ps D.str D.str (fun p => !dgL p.cps.toList) (yl_ref (fun Q h => by walk_at "wk"; exact h) hL) hL (fun p hp Q' hQ => ?_) (fun p hp hk Q' hQ => ?_) fun lc hlc => ?_
    · have ap := hO.asc p hp
      walk_at "wk"
      rw [isdigit_eq ap]
      exact hQ
    · walk_at "wk"
      exact hQ
    · have lf : (ps.filter fun p => !dgL p.cps.toList).length ≤ ps.length := List.length_filter_le _ _
      have lz2 : ((ps.filter fun p => !dgL p.cps.toList).map D.str).length ≤ sizeLine := by rw [List.length_map]; omega
      walk_at "wk"
      refine ifB_dec (fun g => ?_) (fun g => ?_)
      · walk_at "wk"
        refine .new hlc (none_ (.inl (hO.no fun h => ?_)))
        have e : (ps.filter fun p => !dgL p.cps.toList) = [] := List.filter_eq_nil_iff.mpr fun p hp => by
          have := h.2 p.cps.toList (List.mem_map.mpr ⟨p, hp, rfl⟩)
          rw [this]
          decide
        rw [e] at g
        exact absurd g (by decide)
      · refine .new hlc (.here ⟨⟨g2, fun l' hl' => ?_, by omega⟩, rfl, rfl⟩)
        obtain ⟨p, hp, rfl⟩ := List.mem_map.mp hl'
        cases e : dgL p.cps.toList with
        | true => rfl
        | false =>
          have hm : p ∈ ps.filter fun p => !dgL p.cps.toList := List.mem_filter.mpr ⟨hp, by rw [e]; rfl⟩
          have := List.length_pos_of_mem hm
          rw [List.length_map] at g
          omega
  rintro env S3 ⟨⟨g2, gd, g0⟩, rfl, rfl⟩
  have hr := hO.yes g2 gd
  have hj := join_tl ps
  have hfl := flatS_len ps
  have hsum := hO.len
  have jok : joinOk "" ps := by
    unfold joinOk
    have e0 : (("" : String) : Str).length = 0 := by decide +kernel
    rw [e0]
    omega
  have hdf := dgL_flat (L := ps.map tlS) (by rw [List.length_map]; exact hO.ne) gd
  rw [← hj] at hr hdf hfl
  have jl : (Txt.join "" ps).length ≤ 100 := by rw [str_len, hfl]; exact hsum
  obtain ⟨i1, i2⟩ := int_dg hdf (by omega)
  have hnb : PySem.NumText.digitsVal (Txt.join "" ps).cps.toList < 2 ^ 340 := dv_bd (dg_all hdf).1 (by rw [← str_len]; exact jl)
  have hsb := hO.sb
  walk_at "wk"
  refine ⟨ps, rfl, jok, ?_⟩
  walk_at "wk"
  refine ⟨_, i1, i2, ?_⟩
  walk_at "wk"
  generalize PySem.NumText.digitsVal (Txt.join "" ps).cps.toList = n at hr hnb
  unfold rdF at q
  rw [hr] at q
  dsimp only at q
  rw [if_neg g0] at q
  have hn : Bd 340 (n : Int) := hnb
  have hd : Bd 340 (s : Int) := hsb
  refine law_ratio_in (by omega) (hd.mono (by decide)) ?_
  walk_at "wk"
  have sp : (0 : Int) < (s : Int) := by omega
  refine join_in (fun env S4 => env = [some (.str z), some (.str B), some (.int (s : Int)), some (.ref l), o4, none, some (low (if negS z then -(n : Int) else (n : Int)) (s : Int)).t] ∧ S4 = S3) ?_ ?_
  · walk_at "wk"
    show ifB (decide (cutT z none (some 1) = _)) _ _
    rw [cut1]
    cases hs : negS z with
    | false =>
      exact .here ⟨rfl, rfl⟩
    | true =>
      walk_at "wk"
      refine .here ⟨?_, rfl⟩
      show _ = [_, _, _, _, _, _, some (low (-(n : Int)) (s : Int)).t]
      rw [low_minus sp]
      rfl
  rintro env S4 ⟨rfl, rfl⟩
  have hm : Bd 340 (if negS z then -(n : Int) else (n : Int)) := by
    unfold Bd
    split
    · rw [Int.natAbs_neg]; exact hnb
    · exact hnb
  generalize (if negS z then -(n : Int) else (n : Int)) = m at hm q
  have hx := low_ok (show (s : Int) ≠ 0 by omega) (hm.mono (m := 400) (by decide)) (hd.mono (m := 400) (by decide))
  generalize low m (s : Int) = x at hx q
  walk_at "wk"
  refine law_fraction_text_in hx ?_
  walk_at "wk"
  refine ifB_dec (fun g => ?_) (fun g => ?_)
  · rw [if_pos g] at q
    walk_at "wk"
    exact ⟨S', hS, q⟩
  · rw [if_neg g] at q
    walk_at "wk"
    exact ⟨S', hS, q⟩
theorem law_read_in {z : Str} {S : Sto} {Q : WQ} (hz : z.length ≤ 100) (hA : Asc z) (q : Q (oQ (rdF z)) S) : F__law_read [.str z] S Q := by
  unfold F__law_read
  exact ⟨z, rfl, hz, hA, q⟩

def b__law_spoilt : WS :=
  (sSeq (sAsg (eCall F__law_draw (aCons (eVar 0) (aCons (eBin dAdd (eCall bLen (aCons (eVar 1) aNil)) (eC (.int 1))) aNil))) (gName 2))
  (sSeq (sAsg (eCall F__law_draw (aCons (eVar 0) (aCons (eC (.int 6)) aNil))) (gName 3))
  (sSeq (sAsg (eBin dIx (eLst (aCons (eC (.str "0")) (aCons (eC (.str ".")) (aCons (eC (.str "-")) (aCons (eC (.str "/")) (aCons (eC (.str " ")) (aCons (eC (.str "1")) (aCons (eC (.str "5")) (aCons (eC (.str ",")) (aCons (eC (.str "+")) (aCons (eC (.str "a")) (aCons (eC (.str "\"")) aNil)))))))))))) (eCall F__law_draw (aCons (eVar 0) (aCons (eC (.int 11)) aNil)))) (gName 4))
  (sSeq (sIf (tB (eBin dEq (eVar 3) (eC (.int 0)))) (sRet (eBin dAdd (eSl (eVar 1) oNone (oSome (eVar 2))) (eSl (eVar 1) (oSome (eBin dAdd (eVar 2) (eC (.int 1)))) oNone))) sNil)
  (sSeq (sIf (tB (eBin dEq (eVar 3) (eC (.int 1)))) (sRet (eBin dAdd (eBin dAdd (eSl (eVar 1) oNone (oSome (eVar 2))) (eSl (eVar 1) (oSome (eVar 2)) (oSome (eBin dAdd (eVar 2) (eC (.int 1)))))) (eSl (eVar 1) (oSome (eVar 2)) oNone))) sNil)
  (sSeq (sIf (tB (eBin dEq (eVar 3) (eC (.int 2)))) (sRet (eBin dAdd (eBin dAdd (eSl (eVar 1) oNone (oSome (eVar 2))) (eVar 4)) (eSl (eVar 1) (oSome (eBin dAdd (eVar 2) (eC (.int 1)))) oNone))) sNil)
  (sSeq (sIf (tB (eBin dEq (eVar 3) (eC (.int 3)))) (sRet (eBin dIx (eLst (aCons (eBin dAdd (eVar 1) (eVar 4)) (aCons (eBin dAdd (eVar 4) (eVar 1)) aNil))) (eCall F__law_draw (aCons (eVar 0) (aCons (eC (.int 2)) aNil))))) sNil)
  (sRet (eBin dAdd (eBin dAdd (eSl (eVar 1) oNone (oSome (eVar 2))) (eVar 4)) (eSl (eVar 1) (oSome (eVar 2)) oNone))))))))))
-- math: asc
@[irreducible] def F__law_spoilt : WF := wf2 fun a b S Q => ∃ (p q : Addr) (ns : List Int) (z : Str), a = .ref p ∧ b = .str z ∧ z.length ≤ 100000 ∧ Asc z ∧ sget S p = some (.tape q) ∧ sget S q = some (.lst (dInt ns)) ∧ ∀ y : Str, y.length ≤ 3 * z.length + 1 → Asc y → Q (.str y) S
set_option maxHeartbeats 2000000 in
theorem p__law_spoilt : ∀ ds S Q, F__law_spoilt ds S Q → b__law_spoilt (enOf Q) (DL.start 5 ds) S := by
  unfold F__law_spoilt
  refine ok2 fun a b S Q h => ?_
  obtain ⟨p, q, ns, z, rfl, rfl, hz, hA, hp, hq, fin⟩ := h
  show b__law_spoilt (enOf Q) [some (.ref p), some (.str z), none, none, none] S
  have big : 1000000 ≤ sizeLine := by decide
  have hzs : z.length ≤ sizeLine := by omega
  walk_at "wk"
  refine draw_in hp hq (Nat.lt_of_le_of_lt (m := 1000000) (by omega) (by decide)) fun j j0 j1 => ?_
  walk_at "wk"
  refine draw_in hp hq (by decide) fun k k0 k1 => ?_
  walk_at "wk"
  intro l hl
  walk_at "wk"
  refine draw_in (Sub.new hl _ _ hp) (Sub.new hl _ _ hq) (by decide) fun i i0 i1 => ?_
  walk_at "wk"
  refine onAt_all i0 i1 fun d hd => ?_
  obtain ⟨s, rfl, sl, sA⟩ : ∃ s : Str, d = .str s ∧ s.length = 1 ∧ Asc s := by
    simp only [List.mem_cons, List.not_mem_nil, or_false] at hd
    rcases hd with rfl | rfl | rfl | rfl | rfl | rfl | rfl | rfl | rfl | rfl | rfl <;> exact ⟨_, rfl, by decide +kernel, .of (by decide +kernel)⟩
  generalize hS1 : ((l, _) :: S : Sto) = S1
  have sb := new_sub hS1 hl
  clear hS1
  have fin : ∀ y : Str, y.length ≤ 3 * z.length + 1 → Asc y → UpS (Q (.str y)) S1 := fun y h1 h2 => (UpS.here (fin y h1 h2)).sub sb
  have hp1 := sb _ _ hp
  have hq1 := sb _ _ hq
  have c1 := cutT_len z none (some j)
  have c2 := cutT_len z (some (j + 1)) none
  have c3 := cutT_len z (some j) (some (j + 1))
  have c4 := cutT_len z (some j) none
  have a1 := cutT_asc hA none (some j)
  have a2 := cutT_asc hA (some (j + 1)) none
  have a3 := cutT_asc hA (some j) (some (j + 1))
  have a4 := cutT_asc hA (some j) none
  unfold cutT at c1 c2 c3 c4 a1 a2 a3 a4
  walk_at "wk"
  refine ifB_dec (fun h => ?_) fun h => ?_
  · walk_at "wk"
    generalize (⟨(cut z.cps.toList none (some j)).toArray⟩ : Str) = L at *
    generalize (⟨(cut z.cps.toList (some (j + 1)) none).toArray⟩ : Str) = R at *
    have r1 : L.length + R.length ≤ sizeLine := by omega
    walk_at "wk"
    exact fin _ (by rw [len_add]; omega) (a1.add a2)
  walk_at "wk"
  refine ifB_dec (fun h => ?_) fun h => ?_
  · walk_at "wk"
    generalize (⟨(cut z.cps.toList none (some j)).toArray⟩ : Str) = L at *
    generalize (⟨(cut z.cps.toList (some j) (some (j + 1))).toArray⟩ : Str) = M at *
    have r1 : L.length + M.length ≤ sizeLine := by omega
    walk_at "wk"
    generalize (⟨(cut z.cps.toList (some j) none).toArray⟩ : Str) = R at *
    have r2 : (L ++ M).length + R.length ≤ sizeLine := by rw [len_add]; omega
    walk_at "wk"
    exact fin _ (by rw [len_add, len_add]; omega) ((a1.add a3).add a4)
  walk_at "wk"
  refine ifB_dec (fun h => ?_) fun h => ?_
  · walk_at "wk"
    generalize (⟨(cut z.cps.toList none (some j)).toArray⟩ : Str) = L at *
    have r1 : L.length + s.length ≤ sizeLine := by omega
    walk_at "wk"
    generalize (⟨(cut z.cps.toList (some (j + 1)) none).toArray⟩ : Str) = R at *
    have r2 : (L ++ s).length + R.length ≤ sizeLine := by rw [len_add]; omega
    walk_at "wk"
    exact fin _ (by rw [len_add, len_add]; omega) ((a1.add sA).add a2)
  walk_at "wk"
  refine ifB_dec (fun h => ?_) fun h => ?_
  · have r1 : z.length + s.length ≤ sizeLine := by omega
    have r2 : s.length + z.length ≤ sizeLine := by omega
    walk_at "wk"
    intro l2 hl2
    walk_at "wk"
    refine draw_in (Sub.new hl2 _ _ hp1) (Sub.new hl2 _ _ hq1) (by decide) fun i2 i20 i21 => ?_
    walk_at "wk"
    refine onAt_all i20 i21 fun d hd => ?_
    simp only [List.mem_cons, List.not_mem_nil, or_false] at hd
    rcases hd with rfl | rfl
    · exact .new hl2 (fin _ (by rw [len_add]; omega) (hA.add sA))
    · exact .new hl2 (fin _ (by rw [len_add]; omega) (sA.add hA))
  · walk_at "wk"
    generalize (⟨(cut z.cps.toList none (some j)).toArray⟩ : Str) = L at *
    have r1 : L.length + s.length ≤ sizeLine := by omega
    walk_at "wk"
    generalize (⟨(cut z.cps.toList (some j) none).toArray⟩ : Str) = R at *
    have r2 : (L ++ s).length + R.length ≤ sizeLine := by rw [len_add]; omega
    walk_at "wk"
    exact fin _ (by rw [len_add, len_add]; omega) ((a1.add sA).add a4)
theorem law_spoilt_in {p q : Addr} {ns : List Int} {z : Str} {S : Sto} {Q : WQ} (hz : z.length ≤ 100000) (hA : Asc z) (hp : sget S p = some (.tape q)) (hq : sget S q = some (.lst (dInt ns))) (h : ∀ y : Str, y.length ≤ 3 * z.length + 1 → Asc y → Q (.str y) S) : F__law_spoilt [.ref p, .str z] S Q := by
  unfold F__law_spoilt
  exact ⟨p, q, ns, z, rfl, rfl, hz, hA, hp, hq, h⟩

def b__law_style : WS :=
  (sSeq (sAsg (eC (.str " !\"#$&'()*+:;<=>?@ABCDEFGHIJKLMNOPQRSTUVWXYZ[\\]^_`abcdefghijklmnopqrstuvwxyz{|}~")) (gName 1))
  (sSeq (sAsg (eLst aNil) (gName 2))
  (sSeq (sFor (iRng (aCons (eC (.int 2)) aNil)) (gName 3) (sSeq (sAsg (eBin dIx (eLst (aCons (eC (.str "")) (aCons (eC (.str "")) (aCons (eC (.str " kg")) (aCons (eC (.str "$")) (aCons (eC (.str "about ")) aNil)))))) (eCall F__law_draw (aCons (eVar 0) (aCons (eC (.int 5)) aNil)))) (gName 4))
  (sSeq (sJoin (sFor (iRng (aCons (eBin dIx (eLst (aCons (eC (.int 0)) (aCons (eC (.int 0)) (aCons (eC (.int 0)) (aCons (eC (.int 1)) (aCons (eC (.int 2)) (aCons (eBin dSub (eC (.int 8)) (eCall bLen (aCons (eVar 4) aNil))) aNil))))))) (eCall F__law_draw (aCons (eVar 0) (aCons (eC (.int 6)) aNil)))) aNil)) (gName 5) (sAsg (eBin dAdd (eVar 4) (eBin dIx (eVar 1) (eCall F__law_draw (aCons (eVar 0) (aCons (eC (.int 80)) aNil))))) (gName 4))))
  (sDrop (eMethL mAppend (eVar 2) (aCons (eVar 4) aNil))))))
  (sRet (eTup (aCons (eBin dIx (eVar 2) (eC (.int 0))) (aCons (eBin dIx (eVar 2) (eC (.int 1))) (aCons (eBin dEq (eCall F__law_draw (aCons (eVar 0) (aCons (eC (.int 2)) aNil))) (eC (.int 0))) aNil))))))))
-- math: nlab
-- join: for _law_i
abbrev signsY : Str := " !\"#$&'()*+:;<=>?@ABCDEFGHIJKLMNOPQRSTUVWXYZ[\\]^_`abcdefghijklmnopqrstuvwxyz{|}~"
theorem signsY_len : signsY.cps.toList.length = 80 := by decide +kernel
theorem signsY_len2 : signsY.length = 80 := by decide +kernel
theorem signsY_asc : Asc signsY := .of (by decide +kernel)
@[irreducible] def F__law_style : WF := wf1 fun a S Q => ∃ (p q : Addr) (ns : List Int), a = .ref p ∧ sget S p = some (.tape q) ∧ sget S q = some (.lst (dInt ns)) ∧ ∀ s : Sty, s.Ok → Q s.d S
theorem p__law_style : ∀ ds S Q, F__law_style ds S Q → b__law_style (enOf Q) (DL.start 6 ds) S := by
  unfold F__law_style
  refine ok1 fun a S Q h => ?_
  obtain ⟨p, q, ns, rfl, hp, hq, fin⟩ := h
  show b__law_style (enOf Q) [some (.ref p), none, none, none, none, none] S
  have big : 100000 ≤ sizeLine := by decide
  walk_at "wk"
  intro l hl
  have keep : ∀ {a o o2}, sget S a = some o → sget ((l, o2) :: S) a = some o := fun h => Sub.new hl _ _ h
  walk_at "wk"
  refine for_in ?_
  walk_at "wk"
  refine rng_w (fun i env S' => ∃ (ts : List Str) (o3 o4 o5 : Option D), ts.length = i ∧ (∀ t ∈ ts, t.length ≤ 8 ∧ Asc t) ∧ env = [some (.ref p), some (.str signsY), some (.ref l), o3, o4, o5] ∧ S' = (l, .lst (ts.map D.str)) :: S) ⟨[], _, _, _, rfl, by simp, rfl, rfl⟩ ?_ ?_
  · rintro i env S' hi ⟨ts, o3, o4, o5, tl, th, rfl, rfl⟩
    have keepS : ∀ {a o}, sget S a = some o → sget ((l, .lst (ts.map D.str)) :: S) a = some o := fun h => Sub.new hl _ _ h
    walk_at "wk"
    intro l2 n2
    have k2 : ∀ {a o o2}, sget S a = some o → sget ((l2, o2) :: (l, .lst (ts.map D.str)) :: S) a = some o := fun h => Sub.new n2 _ _ (keepS h)
    walk_at "wk"
    refine draw_in (k2 hp) (k2 hq) (by decide) fun u u0 u1 => ?_
    walk_at "wk"
    refine onAt_all u0 (by show u < 5; omega) fun x5 hx5 => ?_
    obtain ⟨y, rfl, y1, yA⟩ : ∃ y : Str, x5 = .str y ∧ y.length ≤ 6 ∧ Asc y := by
      simp only [List.mem_cons, List.not_mem_nil, or_false] at hx5
      rcases hx5 with rfl | rfl | rfl | rfl | rfl <;> exact ⟨_, rfl, by decide +kernel, .of (by decide +kernel)⟩
    walk_at "wk"
    have room : (ts.map D.str).length < sizeLine := by rw [List.length_map]; omega
    refine join_in (fun env S' => ∃ (y : Str) (o3 o5 : Option D), y.length ≤ 8 ∧ Asc y ∧ env = [some (.ref p), some (.str signsY), some (.ref l), o3, some (.str y), o5] ∧ S' = (l, .lst (ts.map D.str)) :: S) ?_ ?_
    · refine for_in ?_
      have yz : y.length ≤ sizeLine := by omega
      walk_at "wk"
      intro l3 n3
      walk_at "wk"
      refine draw_in (Sub.new n3 _ _ (k2 hp)) (Sub.new n3 _ _ (k2 hq)) (by decide) fun v v0 v1 => ?_
      walk_at "wk"
      refine onAt_all v0 (by show v < 6; omega) fun x6 hx6 => ?_
      obtain ⟨m, rfl, m0, m1⟩ : ∃ m : Int, x6 = .int m ∧ 0 ≤ m ∧ m ≤ 8 - (y.length : Int) := by
        simp only [List.mem_cons, List.not_mem_nil, or_false] at hx6
        rcases hx6 with rfl | rfl | rfl | rfl | rfl | rfl <;> exact ⟨_, rfl, by omega, by omega⟩
      walk_at "wk"
      refine rng_w (fun k env S' => ∃ (w : Str) (o5 : Option D), w.length ≤ y.length + k ∧ Asc w ∧ env = [some (.ref p), some (.str signsY), some (.ref l), some (.int (0 + (i : Int))), some (.str w), o5] ∧
        S' = (l3, .lst [.int 0, .int 0, .int 0, .int 1, .int 2, .int (8 - (y.length : Int))]) :: (l2, .lst [.str "", .str "", .str " kg", .str "$", .str "about "]) :: (l, .lst (ts.map D.str)) :: S) ⟨y, _, Nat.le_refl _, yA, rfl, rfl⟩ ?_ ?_
      · rintro k env S' hk ⟨w, o5, wl, wa, rfl, rfl⟩
        have hs2 : signsY.length ≤ sizeLine := by rw [signsY_len2]; decide
        have w1 : w.length + (⟨#[0]⟩ : Str).length ≤ sizeLine := by show w.length + 1 ≤ sizeLine; omega
        walk_at "wk"
        refine draw_in (Sub.new n3 _ _ (k2 hp)) (Sub.new n3 _ _ (k2 hq)) (by decide) fun v v0 v1 => ?_
        walk_at "wk"
        refine onAt_all v0 (by rw [signsY_len]; omega) fun c hc => ?_
        have w2 : w.length + (⟨#[c]⟩ : Str).length ≤ sizeLine := w1
        walk_at "wk"
        refine .here ⟨w ++ ⟨#[c]⟩, _, by rw [len_add]; show w.length + 1 ≤ _; omega, wa.add fun d hd => ?_, rfl, rfl⟩
        have : d = c := by simpa using hd
        rw [this]
        exact signsY_asc c hc
      · rintro env S' ⟨w, o5, wl, wa, rfl, rfl⟩
        exact .new n3 (.new n2 (.here ⟨w, _, _, by omega, wa, rfl, rfl⟩))
    rintro env S' ⟨y, o3, o5, yl, ya, rfl, rfl⟩
    walk_at "wk"
    rw [sset_self]
    refine .here ⟨ts ++ [y], _, _, _, by rw [List.length_append, tl]; rfl, fun t ht => ?_, rfl, by rw [List.map_append]; rfl⟩
    rcases List.mem_append.mp ht with h | h
    · exact th t h
    · rw [List.mem_singleton.mp h]
      exact ⟨yl, ya⟩
  · rintro env S' ⟨ts, o3, o4, o5, tl, th, rfl, rfl⟩
    match ts, tl with
    | [b, a], _ =>
      walk_at "wk"
      refine draw_in (keep hp) (keep hq) (by decide) fun u u0 u1 => ?_
      walk_at "wk"
      exact .new hl (.here (fin ⟨b, a, _⟩ ⟨(th b (by simp)).1, (th a (by simp)).1, (th b (by simp)).2, (th a (by simp)).2⟩))
theorem law_style_in {p q : Addr} {ns : List Int} {S : Sto} {Q : WQ} (hp : sget S p = some (.tape q)) (hq : sget S q = some (.lst (dInt ns))) (h : ∀ s : Sty, s.Ok → Q s.d S) : F__law_style [.ref p] S Q := by
  unfold F__law_style
  exact ⟨p, q, ns, rfl, hp, hq, h⟩

def b__law_commas : WS :=
  (sSeq (sAsg (eC (.str "")) (gName 1))
  (sSeq (sJoin (sIf (tB (eBin dEq (eSl (eVar 0) oNone (oSome (eC (.int 1)))) (eC (.str "-")))) (sSeq (sAsg (eC (.str "-")) (gName 1))
  (sAsg (eSl (eVar 0) (oSome (eC (.int 1))) oNone) (gName 0))) sNil))
  (sSeq (sAsg (eMethS mSplit (eVar 0) (aCons (eC (.str ".")) aNil)) (gName 2))
  (sSeq (sAsg (eBin dIx (eVar 2) (eC (.int 0))) (gName 3))
  (sSeq (sAsg (eLst aNil) (gName 4))
  (sSeq (sWhile (tB (eBin dGt (eCall bLen (aCons (eVar 3) aNil)) (eC (.int 3)))) (sSeq (sDrop (eMethL mInsert (eVar 4) (aCons (eC (.int 0)) (aCons (eSl (eVar 3) (oSome (eBin dSub (eCall bLen (aCons (eVar 3) aNil)) (eC (.int 3)))) oNone) aNil))))
  (sAsg (eSl (eVar 3) oNone (oSome (eBin dSub (eCall bLen (aCons (eVar 3) aNil)) (eC (.int 3))))) (gName 3))))
  (sSeq (sDrop (eMethL mInsert (eVar 4) (aCons (eC (.int 0)) (aCons (eVar 3) aNil))))
  (sSeq (sAsg (eMethS mJoin (eC (.str ",")) (aCons (eVar 4) aNil)) (gSub (eVar 2) (eC (.int 0))))
  (sRet (eBin dAdd (eVar 1) (eMethS mJoin (eC (.str ".")) (aCons (eVar 2) aNil))))))))))))
-- math: nlab
-- join: if _law_text
@[irreducible] def F__law_commas : WF := wf1 fun a S Q => ∃ z : Str, a = .str z ∧ z.length ≤ 10000 ∧ Asc z ∧ 46 ∉ aftC 46 (bodyL z) ∧ Q (.str (wcS z)) S
set_option maxHeartbeats 2000000 in
theorem p__law_commas : ∀ ds S Q, F__law_commas ds S Q → b__law_commas (enOf Q) (DL.start 5 ds) S := by
  unfold F__law_commas
  refine ok1 fun a S Q h => ?_
  obtain ⟨z, rfl, hz, hA, hp, q⟩ := h
  show b__law_commas (enOf Q) [some (.str z), none, none, none, none] S
  have big : 100000 ≤ sizeLine := by decide
  have hzs : z.length ≤ sizeLine := by omega
  have hbl := bodyL_len z
  walk_at "wk"
  refine join_in (fun env S' => ∃ B G : Str, B.cps.toList = bodyL z ∧ G.cps.toList = (if negS z = true then [45] else []) ∧ env = [some (.str B), some (.str G), none, none, none] ∧ S' = S) ?_ ?_
  · walk_at "wk"
    show ifB (decide (cutT z none (some 1) = _)) _ _
    rw [cut1]
    cases hs : negS z with
    | false =>
      exact .here ⟨z, "", by unfold bodyL; rw [hs]; rfl, rfl, rfl, rfl⟩
    | true =>
      walk_at "wk"
      exact .here ⟨cutT z (some 1) none, "-", cutR_tl hs, rfl, rfl, rfl⟩
  rintro env S' ⟨B, G, hB, hG, rfl, rfl⟩
  have hBl : B.length ≤ 10000 := by rw [str_len, hB]; omega
  have hBs : B.length ≤ sizeLine := by omega
  have hBa : Asc B := fun c hc => by
    rw [hB] at hc
    exact hA c (body_mem hc)
  have gl : G.length ≤ 1 := by
    rw [str_len, hG]
    split <;> simp
  have hsp := split_spL (B := B) (y := ".") (c := 46) (by decide +kernel) (by decide)
  obtain ⟨A, rs, eS, eA, eR, rl⟩ : ∃ (A : Str) (rs : List Str), Txt.split B "." = A :: rs ∧ A.cps.toList = befC 46 (bodyL z) ∧ (rs.map tlS = if 46 ∈ bodyL z then [aftC 46 (bodyL z)] else []) ∧ rs.length ≤ 1 := by
    by_cases h : 46 ∈ bodyL z
    · rw [hB, spL_yes h, spL_no hp] at hsp
      obtain ⟨A, C, e⟩ := two_of (l := Txt.split B ".") (by have := congrArg List.length hsp; rw [List.length_map] at this; exact this)
      rw [e] at hsp
      simp only [List.map_cons, List.map_nil, List.cons.injEq, and_true] at hsp
      refine ⟨A, [C], e, hsp.1, ?_, by simp⟩
      rw [if_pos h]
      show [tlS C] = _
      rw [show tlS C = aftC 46 (bodyL z) from hsp.2]
    · rw [hB, spL_no h] at hsp
      cases e : Txt.split B "." with
      | nil => rw [e] at hsp; cases hsp
      | cons A rs =>
        rw [e] at hsp
        simp only [List.map_cons, List.cons.injEq, List.map_eq_nil_iff] at hsp
        refine ⟨A, rs, rfl, by rw [hsp.1, bef_self h], ?_, by rw [hsp.2]; simp⟩
        rw [if_neg h, hsp.2]
        rfl
  have al : A.length ≤ 10000 := by
    rw [str_len, eA]
    have := bef_len (c := 46) (l := bodyL z)
    omega
  have hLA : (tlS A).length ≤ 10000 := by rw [← str_len A] at *; exact al
  have y2 : ((("." : String) : Str).length == 0) = false ∧ B.length + 2 ≤ sizeLine ∧ (A :: rs).length ≤ sizeLine := ⟨by decide +kernel, by omega, by rw [List.length_cons]; omega⟩
  walk_at "wk"
  rw [eS]
  refine ⟨y2, ?_⟩
  intro lp np
  have hlp : ((A :: rs).map D.str).length ≤ sizeLine := by rw [List.length_map]; exact y2.2.2
  walk_at "wk"
  intro l n1
  have n1' := n1
  simp only [fr_cons] at n1'
  walk_at "wk"
  refine while_in (fun m env S2 => ∃ (w : Str) (gs : List Str), m = w.length ∧ GI (tlS A) (tlS w) (gs.map tlS) ∧ env = [some (.str B), some (.str G), some (.ref lp), some (.str w), some (.ref l)] ∧ S2 = (l, .lst (gs.map D.str)) :: (lp, .lst ((A :: rs).map D.str)) :: S') A.length ⟨A, [], rfl, GI.start _, rfl, rfl⟩ ?_
  rintro m env S2 ⟨w, gs, rfl, gi, rfl, rfl⟩
  have sm := gi.small
  rw [← str_len w, List.length_map] at sm
  have wl : w.length ≤ sizeLine := by omega
  have gl2 : (gs.map D.str).length < sizeLine := by rw [List.length_map]; omega
  walk_at "wk"
  refine ifB_dec (fun g => ?_) fun g => ?_
  · have g3 : 3 < w.length := by omega
    obtain ⟨_, _, c1, c2⟩ := cut3 g3
    walk_at "wk"
    rw [sset_self]
    refine .here ⟨(cutT w none (some ((w.length : Int) - 3))).length, ?_, cutT w none (some ((w.length : Int) - 3)), cutT w (some ((w.length : Int) - 3)) none :: gs, rfl, ?_, rfl, ?_⟩
    · have := congrArg List.length c1
      rw [List.length_take, ← str_len w, ← str_len] at this
      omega
    · rw [List.map_cons, c1, c2]
      exact gi.step (by rw [← str_len w]; exact g3)
    · rfl
  · have g3 : w.length ≤ 3 := by omega
    have jt := gi_text gi g3
    have jok := gi_join gi hLA
    have wlen := wcom_len (tlS A)
    walk_at "wk"
    rw [sset_self]
    refine ⟨w :: gs, rfl, jok, ?_⟩
    generalize Txt.join "," (w :: gs) = T at jt
    have tl : T.length ≤ 20001 := by
      rw [str_len, jt]
      rw [← str_len A] at wlen
      omega
    have n1s : sget S' l = none := n1'.2
    walk_at "wk"
    have rsum : (rs.map (·.length)).sum ≤ 10000 := by
      have e2 : (rs.map (·.length)) = (rs.map tlS).map List.length := by
        rw [List.map_map]
        exact List.map_congr_left fun x _ => str_len x
      rw [e2, eR]
      have := bef_len (c := 46) (l := bodyL z)
      split
      · simp only [List.map_cons, List.map_nil, List.sum_cons, List.sum_nil]; omega
      · simp
    have jok2 : joinOk "." (T :: rs) := by
      have e1 : (("." : String) : Str).length = 1 := by decide +kernel
      unfold joinOk
      rw [e1, List.map_cons, List.sum_cons, List.length_cons]
      omega
    have jt2 : (Txt.join "." (T :: rs)).cps.toList = wcom (befC 46 (bodyL z)) ++ (if 46 ∈ bodyL z then 46 :: aftC 46 (bodyL z) else []) := by
      rw [joinT (c := 46) (by decide +kernel), List.map_cons, eR]
      have eT : tlS T = wcom (befC 46 (bodyL z)) := by rw [← eA]; exact jt
      rw [eT]
      split
      · rfl
      · simp [joinC]
    have ik : L2.ixN ((A :: rs).map D.str).length 0 = some 0 := by
      unfold L2.ixN
      rw [if_pos (by decide), if_pos (by rw [List.length_map, List.length_cons]; omega)]
      rfl
    rw [ik]
    dsimp only
    rw [sset_ne n1'.1.2, sset_self]
    show (sRet (eBin dAdd (eVar 1) (eMethS mJoin (eC (D.str (Str.ofString "."))) (aCons (eVar 2) aNil)))) _ _ ((l, _) :: (lp, .lst ((T :: rs).map D.str)) :: S')
    walk_at "wk"
    refine ⟨T :: rs, rfl, jok2, ?_⟩
    generalize Txt.join "." (T :: rs) = J at jt2
    have jl : J.length ≤ 40000 := by
      rw [str_len, jt2, List.length_append]
      have a := wcom_len (befC 46 (bodyL z))
      have b := bef_len (c := 46) (l := bodyL z)
      have e2 : (if 46 ∈ bodyL z then 46 :: aftC 46 (bodyL z) else []).length ≤ 1 + (aftC 46 (bodyL z)).length := by split <;> simp; omega
      omega
    have bz : G.length + J.length ≤ sizeLine := by omega
    walk_at "wk"
    have e : G ++ J = wcS z := by
      refine str_ext ?_
      rw [wcS_tl, wcL, toList_add, hG, jt2, List.append_assoc]
    rw [e]
    exact .new (fr_cons.mpr ⟨n1'.1, n1s⟩) (.new np (.here q))
theorem law_commas_in {z : Str} {S : Sto} {Q : WQ} (hz : z.length ≤ 10000) (hA : Asc z) (hp : 46 ∉ aftC 46 (bodyL z)) (q : Q (.str (wcS z)) S) : F__law_commas [.str z] S Q := by
  unfold F__law_commas
  exact ⟨z, rfl, hz, hA, hp, q⟩

def b__law_label : WS :=
  (sSeq (sAsg (eCall F__law_fraction_text (aCons (eVar 0) aNil)) (gName 2))
  (sSeq (sJoin (sIf (tAnd (tTru (eBin dIx (eVar 1) (eC (.int 2)))) (tB (eBin dNotIn (eC (.str "/")) (eVar 2)))) (sAsg (eCall F__law_commas (aCons (eVar 2) aNil)) (gName 2)) sNil))
  (sRet (eBin dAdd (eBin dAdd (eBin dIx (eVar 1) (eC (.int 0))) (eVar 2)) (eBin dIx (eVar 1) (eC (.int 1)))))))
-- math: nlab
-- join: if _law_style_here[2] and
@[irreducible] def F__law_label : WF := wf2 fun a b S Q => ∃ (x : Fq) (s : Sty), a = x.t ∧ b = s.d ∧ x.Ok 400 ∧ s.Ok ∧ Q (.str (labN x s)) S
theorem p__law_label : ∀ ds S Q, F__law_label ds S Q → b__law_label (enOf Q) (DL.start 3 ds) S := by
  unfold F__law_label
  refine ok2 fun a b S Q h => ?_
  obtain ⟨x, s, rfl, rfl, hx, hs, q⟩ := h
  show b__law_label (enOf Q) [some x.t, some s.d, none] S
  obtain ⟨fl, fa⟩ := ftx_ok (n := x.n) (d := x.d.toNat) hx.bn (by have h1 : x.d.natAbs < 2 ^ 400 := hx.bd; have h2 := hx.pos; omega)
  obtain ⟨wl, wa⟩ := wcS_ok fa
  obtain ⟨ll, la⟩ := labN_ok hx hs
  have hb := hs.b
  have ha := hs.a
  have big : 100000 ≤ sizeLine := by decide
  obtain ⟨B, A, g⟩ := s
  walk_at "wk"
  refine law_fraction_text_in hx ?_
  walk_at "wk"
  have hb' : B.length ≤ 8 := hb
  have ha' : A.length ≤ 8 := ha
  unfold labN at q ll
  dsimp only at q ll
  have hp := fun h => ftx_point hx h
  generalize hF : ftx x.n x.d.toNat = F at *
  refine join_in (fun env S' => ∃ T : Str, T.length ≤ 9006 ∧ T = (if g = true ∧ 47 ∉ F.cps.toList then wcS F else F) ∧ env = [some x.t, some (Sty.mk B A g).d, some (.str T)] ∧ S' = S) ?_ ?_
  · cases g with
    | false =>
      walk_at "wk"
      exact .here ⟨F, by omega, by rw [if_neg (by simp)], rfl, rfl⟩
    | true =>
      walk_at "wk"
      refine ⟨47, rfl, ?_⟩
      walk_at "wk"
      refine ifB_ndec (fun h => ?_) fun h => ?_
      · walk_at "wk"
        refine law_commas_in (by omega) fa (hp h) ?_
        exact .here ⟨wcS F, by omega, by rw [if_pos ⟨rfl, h⟩], rfl, rfl⟩
      · exact .here ⟨F, by omega, by rw [if_neg (fun h2 => h2.2 h)], rfl, rfl⟩
  rintro env S' ⟨T, tl, eT, rfl, rfl⟩
  rw [← eT] at q ll
  have s1 : B.length + T.length ≤ sizeLine := by omega
  have s2 : (B ++ T : Str).length + A.length ≤ sizeLine := by rw [len_add]; omega
  walk_at "wk"
  exact .here q
theorem law_label_in {x : Fq} {s : Sty} {S : Sto} {Q : WQ} (hx : x.Ok 400) (hs : s.Ok) (q : Q (.str (labN x s)) S) : F__law_label [x.t, s.d] S Q := by
  unfold F__law_label
  exact ⟨x, s, rfl, rfl, hx, hs, q⟩

def b__law_read_label : WS :=
  (sSeq (sAsg (eBin dSub (eBin dSub (eCall bLen (aCons (eVar 0) aNil)) (eCall bLen (aCons (eBin dIx (eVar 1) (eC (.int 0))) aNil))) (eCall bLen (aCons (eBin dIx (eVar 1) (eC (.int 1))) aNil))) (gName 2))
  (sSeq (sIf (tOr (tB (eBin dLt (eVar 2) (eC (.int 0)))) (tOr (tB (eBin dNe (eSl (eVar 0) oNone (oSome (eCall bLen (aCons (eBin dIx (eVar 1) (eC (.int 0))) aNil)))) (eBin dIx (eVar 1) (eC (.int 0))))) (tB (eBin dNe (eSl (eVar 0) (oSome (eBin dSub (eCall bLen (aCons (eVar 0) aNil)) (eCall bLen (aCons (eBin dIx (eVar 1) (eC (.int 1))) aNil)))) oNone) (eBin dIx (eVar 1) (eC (.int 1))))))) (sRet (eC .non)) sNil)
  (sSeq (sAsg (eSl (eVar 0) (oSome (eCall bLenX (aCons (eBin dIx (eVar 1) (eC (.int 0))) aNil))) (oSome (eBin dAdd (eCall bLen (aCons (eBin dIx (eVar 1) (eC (.int 0))) aNil)) (eVar 2)))) (gName 3))
  (sSeq (sJoin (sIf (tTru (eBin dIx (eVar 1) (eC (.int 2)))) (sAsg (eReplC (eVar 3) "," "") (gName 3)) sNil))
  (sSeq (sAsg (eCall F__law_read (aCons (eVar 3) aNil)) (gName 4))
  (sSeq (sIf (tAnd (tB (eNotN (eVar 4))) (tB (eBin dEq (eCall F__law_label (aCons (eVar 4) (aCons (eVar 1) aNil))) (eVar 0)))) (sRet (eVar 4)) sNil)
  (sRet (eC .non))))))))
-- math: nlab
-- join: if _law_style_here[2]:
@[irreducible] def F__law_read_label : WF := wf2 fun a b S Q => ∃ (z : Str) (s : Sty), a = .str z ∧ b = s.d ∧ z.length ≤ 100 ∧ Asc z ∧ s.Ok ∧ Q (oQ (rdL z s)) S
theorem p__law_read_label : ∀ ds S Q, F__law_read_label ds S Q → b__law_read_label (enOf Q) (DL.start 5 ds) S := by
  unfold F__law_read_label
  refine ok2 fun a b S Q h => ?_
  obtain ⟨z, s, rfl, rfl, hz, hA, hs, q⟩ := h
  show b__law_read_label (enOf Q) [some (.str z), some s.d, none, none, none] S
  have hb := hs.b
  have ha := hs.a
  have big : 100000 ≤ sizeLine := by decide
  walk_at "wk"
  have none_in : (∀ x, labN x s ≠ z) → Q .non S := fun h => by
    rw [rdL_none h] at q
    exact q
  unfold rdL at q
  by_cases hl : z.length < s.b.length + s.a.length
  · rw [if_pos hl] at q
    refine ifB_t (decide_eq_true (by omega)) ?_
    walk_at "wk"
    exact .here q
  · rw [if_neg hl] at q
    refine ifB_f (decide_eq_false (by omega)) ?_
    walk_at "wk"
    show ifB (!decide (cutT z none (some (s.b.length : Int)) = s.b)) _ _
    refine ifB_ndec (fun g1 => ?_) fun g1 => ?_
    · walk_at "wk"
      exact .here (none_in fun x h => g1 (lab_ends h).1)
    walk_at "wk"
    show ifB (!decide (cutT z (some ((z.length : Int) - (s.a.length : Int))) none = s.a)) _ _
    refine ifB_ndec (fun g2 => ?_) fun g2 => ?_
    · walk_at "wk"
      exact .here (none_in fun x h => g2 (lab_ends h).2)
    walk_at "wk"
    clear g1 g2 none_in
    have e0 : (s.b.length : Int) + ((z.length : Int) - (s.b.length : Int) - (s.a.length : Int)) = (z.length : Int) - (s.a.length : Int) := by omega
    rw [e0]
    have e : ({ cps := (cut z.cps.toList (some (s.b.length : Int)) (some ((z.length : Int) - (s.a.length : Int)))).toArray } : Str) = cutT z (some (s.b.length : Int)) (some ((z.length : Int) - (s.a.length : Int))) := rfl
    rw [e]
    have il := cutT_len z (some (s.b.length : Int)) (some ((z.length : Int) - (s.a.length : Int)))
    have ia := cutT_asc hA (some (s.b.length : Int)) (some ((z.length : Int) - (s.a.length : Int)))
    generalize cutT z (some (s.b.length : Int)) (some ((z.length : Int) - (s.a.length : Int))) = I at q il ia ⊢
    obtain ⟨k1, k2⟩ := strike_ok (I := I) (by omega)
    refine join_in (fun env S' => ∃ J : Str, J.length ≤ 100 ∧ Asc J ∧ J = (if s.g = true then strike I else I) ∧ env = [some (.str z), some s.d, some (.int ((z.length : Int) - (s.b.length : Int) - (s.a.length : Int))), some (.str J), none] ∧ S' = S) ?_ ?_
    · have l0 : (("" : String) : Str).length = 0 := by decide +kernel
      have b1 : I.length + (I.length + 1) * (("" : String) : Str).length ≤ 16777216 := by rw [l0]; omega
      obtain ⟨B, A, g⟩ := s
      cases g with
      | true =>
        walk_at "wk"
        exact .here ⟨strike I, k1, k2 ia, rfl, rfl, rfl⟩
      | false =>
        walk_at "wk"
        exact .here ⟨I, by omega, ia, rfl, rfl, rfl⟩
    rintro env S' ⟨J, jl, ja, eJ, rfl, rfl⟩
    rw [← eJ] at q
    walk_at "wk"
    refine law_read_in jl ja ?_
    cases hr : rdF J with
    | none =>
      rw [hr] at q
      walk_at "wk"
      exact .here q
    | some x =>
      rw [hr] at q
      have hx := rdF_ok jl hr
      obtain ⟨ll, la⟩ := labN_ok hx hs
      show DL.gName 4 x.t _ _ _
      walk_at "wk"
      refine law_label_in hx hs ?_
      walk_at "wk"
      dsimp only at q
      refine ifB_dec (fun g => ?_) fun g => ?_
      · rw [if_pos g] at q
        walk_at "wk"
        exact .here q
      · rw [if_neg g] at q
        walk_at "wk"
        exact .here q
theorem law_read_label_in {z : Str} {s : Sty} {S : Sto} {Q : WQ} (hz : z.length ≤ 100) (hA : Asc z) (hs : s.Ok) (q : Q (oQ (rdL z s)) S) : F__law_read_label [.str z, s.d] S Q := by
  unfold F__law_read_label
  exact ⟨z, s, rfl, rfl, hz, hA, hs, q⟩

def b_law : WS :=
  (sSeq (sAsg (eCall F__law_tape (aCons (eVar 0) aNil)) (gName 1))
  (sSeq (sAsg (eCall F__law_fraction (aCons (eVar 1) aNil)) (gName 2))
  (sSeq (sAsg (eCall F__law_style (aCons (eVar 1) aNil)) (gName 3))
  (sSeq (sAsg (eCall F__law_label (aCons (eVar 2) (aCons (eVar 3) aNil))) (gName 4))
  (sSeq (sIf (tB (eBin dNe (eCall bRepr (aCons (eCall F_number_label (aCons (eVar 2) (aCons (eVar 3) aNil))) aNil)) (eCall bRepr (aCons (eVar 4) aNil)))) (sRet (eC (.bl false))) sNil)
  (sSeq (sAsg (eSl (eVar 4) oNone (oSome (eC (.int 100)))) (gName 4))
  (sSeq (sIf (tB (eBin dNe (eCall bRepr (aCons (eCall F_read_label (aCons (eVar 4) (aCons (eVar 3) aNil))) aNil)) (eCall bRepr (aCons (eCall F__law_read_label (aCons (eVar 4) (aCons (eVar 3) aNil))) aNil)))) (sRet (eC (.bl false))) sNil)
  (sSeq (sJoin (sFor (iRng (aCons (eBin dIx (eLst (aCons (eC (.int 0)) (aCons (eC (.int 0)) (aCons (eC (.int 1)) (aCons (eC (.int 2)) aNil))))) (eCall F__law_draw (aCons (eVar 1) (aCons (eC (.int 4)) aNil)))) aNil)) (gName 5) (sAsg (eCall F__law_spoilt (aCons (eVar 1) (aCons (eVar 4) aNil))) (gName 4))))
  (sSeq (sJoin (sIf (tB (eBin dEq (eCall F__law_draw (aCons (eVar 1) (aCons (eC (.int 4)) aNil))) (eC (.int 0)))) (sAsg (eTup (aCons (eBin dIx (eVar 3) (eC (.int 0))) (aCons (eBin dIx (eVar 3) (eC (.int 1))) (aCons (eNot (eBin dIx (eVar 3) (eC (.int 2)))) aNil)))) (gName 3)) sNil))
  (sSeq (sJoin (sIf (tB (eBin dEq (eCall F__law_draw (aCons (eVar 1) (aCons (eC (.int 8)) aNil))) (eC (.int 0)))) (sAsg (eBin dAdd (eBin dIx (eVar 3) (eC (.int 0))) (eBin dIx (eVar 3) (eC (.int 1)))) (gName 4)) sNil))
  (sSeq (sAsg (eSl (eVar 4) oNone (oSome (eC (.int 100)))) (gName 4))
  (sRet (eBin dEq (eCall bRepr (aCons (eCall F_read_label (aCons (eVar 4) (aCons (eVar 3) aNil))) aNil)) (eCall bRepr (aCons (eCall F__law_read_label (aCons (eVar 4) (aCons (eVar 3) aNil))) aNil)))))))))))))))
-- math: nlab
-- join: for _law_k
-- join: if _law_draw(_law_tape_here, 4)
-- join: if _law_draw(_law_tape_here, 8)
theorem p_law : ∀ ds S Q, F_law ds S Q → b_law (enOf Q) (DL.start 6 ds) S := ok1 fun a S Q h => by
  obtain ⟨⟨ns, rfl, rfl⟩, fin⟩ := h
  have done : ∀ S', UpS (Q (.bl true)) S' := fun S' => .here (fin S')
  show b_law (enOf Q) [some (.frz (dInt ns)), none, none, none, none, none] []
  have big : 100000 ≤ sizeLine := by decide
  walk_at "wk"
  refine tape_in fun p q hp hq npq nqp => ?_
  have hp' : sget [(p, LO.tape q), (q, LO.lst (dInt ns))] p = some (.tape q) := by walk_at "sg"
  have hq' : sget [(p, LO.tape q), (q, LO.lst (dInt ns))] q = some (.lst (dInt ns)) := by walk_at "sg"
  generalize hS : ([(p, LO.tape q), (q, LO.lst (dInt ns))] : Sto) = S at *
  clear hS
  walk_at "wk"
  refine law_fraction_in hp' hq' fun x hx => ?_
  have hx4 := hx.mono (m := 400) (by decide)
  walk_at "wk"
  refine law_style_in hp' hq' fun s hs => ?_
  obtain ⟨ll, la⟩ := labN_ok hx4 hs
  walk_at "wk"
  refine law_label_in hx4 hs ?_
  walk_at "wk"
  refine number_label_in hx4 hs ?_
  generalize labN x s = T at ll la
  have rp : rpOk (.str T) := (la.rz ll).ok (by decide) (by decide)
  have tz : T.length ≤ sizeLine := by omega
  walk_at "wk"
  refine ⟨.str T, .str _, rp, ?_⟩
  walk_at "wk"
  refine ⟨.str T, .str _, rp, ?_⟩
  walk_at "wk"
  refine ifB_f (by simp) ?_
  walk_at "wk"
  have e : ({ cps := (cut T.cps.toList none (some 100)).toArray } : Str) = cutT T none (some 100) := rfl
  rw [e]
  have cl := cut100 T
  have ca := cutT_asc la none (some 100)
  generalize cutT T none (some 100) = Z at cl ca
  obtain ⟨pd, pd1, pd2⟩ := rdL_py (s := s) cl
  refine read_label_in cl hs ?_
  walk_at "wk"
  refine ⟨pd, pd1 _, pd2, ?_⟩
  walk_at "wk"
  refine law_read_label_in cl ca hs ?_
  walk_at "wk"
  refine ⟨pd, pd1 _, pd2, ?_⟩
  walk_at "wk"
  refine ifB_f (by simp) ?_
  walk_at "wk"
  refine join_in (fun env S' => ∃ (T : Str) (o5 : Option D), T.length ≤ 1000 ∧ Asc T ∧ env = [some (.frz (dInt ns)), some (.ref p), some x.t, some s.d, some (.str T), o5] ∧ S' = S) ?_ ?_
  · refine for_in ?_
    walk_at "wk"
    intro l hl
    have keep : ∀ {a o o2}, sget S a = some o → sget ((l, o2) :: S) a = some o := fun h => Sub.new hl _ _ h
    walk_at "wk"
    refine draw_in (keep hp') (keep hq') (by decide) fun v v0 v1 => ?_
    walk_at "wk"
    refine onAt_all v0 (by show v < 4; omega) fun x6 hx6 => ?_
    obtain ⟨m, rfl, m0, m1⟩ : ∃ m : Int, x6 = .int m ∧ 0 ≤ m ∧ m ≤ 2 := by
      simp only [List.mem_cons, List.not_mem_nil, or_false] at hx6
      rcases hx6 with rfl | rfl | rfl | rfl <;> exact ⟨_, rfl, by omega, by omega⟩
    walk_at "wk"
    refine rng_w (fun k env S' => ∃ (T : Str) (o5 : Option D), T.length + 1 ≤ 101 * 3 ^ k ∧ Asc T ∧ env = [some (.frz (dInt ns)), some (.ref p), some x.t, some s.d, some (.str T), o5] ∧ S' = (l, .lst [.int 0, .int 0, .int 1, .int 2]) :: S) ⟨Z, _, by omega, ca, rfl, rfl⟩ ?_ ?_
    · rintro k env S' hk ⟨T, o5, tl, ta, rfl, rfl⟩
      have h3 : 3 ^ k ≤ 3 ^ 2 := Nat.pow_le_pow_right (by decide) (by omega)
      walk_at "wk"
      refine law_spoilt_in (by omega) ta (keep hp') (keep hq') fun y h1 h2 => ?_
      exact .here ⟨y, _, by rw [Nat.pow_succ]; omega, h2, rfl, rfl⟩
    · rintro env S' ⟨T, o5, tl, ta, rfl, rfl⟩
      have h3 : 3 ^ m.toNat ≤ 3 ^ 2 := Nat.pow_le_pow_right (by decide) (by omega)
      exact .new hl (.here ⟨T, _, by omega, ta, rfl, rfl⟩)
  clear cl ca pd pd1 pd2
  rintro env S' ⟨T, o5, tl, ta, rfl, rfl⟩
  walk_at "wk"
  refine join_in (fun env S2 => ∃ (s : Sty) (o5 : Option D), s.Ok ∧ env = [some (.frz (dInt ns)), some (.ref p), some x.t, some s.d, some (.str T), o5] ∧ S2 = S') ?_ ?_
  · refine draw_in hp' hq' (by decide) fun u u0 u1 => ?_
    walk_at "wk"
    refine ifB_dec (fun _ => ?_) fun _ => ?_
    · obtain ⟨B, A, g⟩ := s
      walk_at "wk"
      exact .here ⟨⟨B, A, !g⟩, _, ⟨hs.b, hs.a, hs.bA, hs.aA⟩, rfl, rfl⟩
    · exact .here ⟨s, _, hs, rfl, rfl⟩
  clear hs
  rintro env S2 ⟨s, o5, hs, rfl, rfl⟩
  walk_at "wk"
  refine join_in (fun env S3 => ∃ (T : Str) (o5 : Option D), T.length ≤ 1000 ∧ Asc T ∧ env = [some (.frz (dInt ns)), some (.ref p), some x.t, some s.d, some (.str T), o5] ∧ S3 = S2) ?_ ?_
  · refine draw_in hp' hq' (by decide) fun u u0 u1 => ?_
    walk_at "wk"
    refine ifB_dec (fun _ => ?_) fun _ => ?_
    · have h1 := hs.b
      have h2 := hs.a
      have h3 : s.b.length + s.a.length ≤ sizeLine := by omega
      walk_at "wk"
      exact .here ⟨s.b ++ s.a, _, by rw [len_add]; omega, hs.bA.add hs.aA, rfl, rfl⟩
    · exact .here ⟨T, _, tl, ta, rfl, rfl⟩
  clear tl ta
  rintro env S3 ⟨T, o5, tl, ta, rfl, rfl⟩
  have tz : T.length ≤ sizeLine := by omega
  walk_at "wk"
  have e : ({ cps := (cut T.cps.toList none (some 100)).toArray } : Str) = cutT T none (some 100) := rfl
  rw [e]
  have cl := cut100 T
  have ca := cutT_asc ta none (some 100)
  generalize cutT T none (some 100) = Z at cl ca
  obtain ⟨pd, pd1, pd2⟩ := rdL_py (s := s) cl
  refine read_label_in cl hs ?_
  walk_at "wk"
  refine ⟨pd, pd1 _, pd2, ?_⟩
  walk_at "wk"
  refine law_read_label_in cl ca hs ?_
  walk_at "wk"
  refine ⟨pd, pd1 _, pd2, ?_⟩
  walk_at "wk"
  rw [decide_eq_true rfl]
  exact done _

end DL
namespace DL
open PySem PySem.Spec PyProof.Rows L2
abbrev topS (i : Nat) : Stmt := PySem.Challenge.pw_chartspec_k21_number_labels_read_back.main.body.getD i (.Pass ⟨0, 0, 0, 0⟩)
abbrev s_lowest : Stmt := topS 3
theorem sc_lowest : FnScope ["numerator", "denominator", "common"] ["numerator", "denominator"] (defScope s_lowest) := ⟨rfl, rfl, rfl, by decide +kernel, rfl, by decide +kernel, by decide +kernel⟩
abbrev s_power_of_ten : Stmt := topS 4
theorem sc_power_of_ten : FnScope ["exponent", "result", "_"] ["exponent"] (defScope s_power_of_ten) := ⟨rfl, rfl, rfl, by decide +kernel, rfl, by decide +kernel, by decide +kernel⟩
abbrev s_decimal_places : Stmt := topS 5
theorem sc_decimal_places : FnScope ["denominator", "twos", "fives"] ["denominator"] (defScope s_decimal_places) := ⟨rfl, rfl, rfl, by decide +kernel, rfl, by decide +kernel, by decide +kernel⟩
abbrev s_fraction_text : Stmt := topS 6
theorem sc_fraction_text : FnScope ["a", "places", "sign", "digits"] ["a"] (defScope s_fraction_text) := ⟨rfl, rfl, rfl, by decide +kernel, rfl, by decide +kernel, by decide +kernel⟩
abbrev s_has_digits : Stmt := topS 7
theorem sc_has_digits : FnScope ["text", "character"] ["text"] (defScope s_has_digits) := ⟨rfl, rfl, rfl, by decide +kernel, rfl, by decide +kernel, by decide +kernel⟩
abbrev s_read_fraction : Stmt := topS 8
theorem sc_read_fraction : FnScope ["text", "digits", "first", "mark", "second", "numerator", "denominator", "fraction"] ["text"] (defScope s_read_fraction) := ⟨rfl, rfl, rfl, by decide +kernel, rfl, by decide +kernel, by decide +kernel⟩
abbrev s_with_commas : Stmt := topS 10
theorem sc_with_commas : FnScope ["text", "whole", "point", "rest", "groups", "grouped"] ["text"] (defScope s_with_commas) := ⟨rfl, rfl, rfl, by decide +kernel, rfl, by decide +kernel, by decide +kernel⟩
abbrev s_number_label : Stmt := topS 11
theorem sc_number_label : FnScope ["fraction", "style", "before", "after", "grouped", "text"] ["fraction", "style"] (defScope s_number_label) := ⟨rfl, rfl, rfl, by decide +kernel, rfl, by decide +kernel, by decide +kernel⟩
abbrev s_read_label : Stmt := topS 12
theorem sc_read_label : FnScope ["text", "style", "before", "after", "grouped", "inner", "fraction"] ["text", "style"] (defScope s_read_label) := ⟨rfl, rfl, rfl, by decide +kernel, rfl, by decide +kernel, by decide +kernel⟩
abbrev s__law_tape : Stmt := topS 14
theorem sc__law_tape : FnScope ["_law_script", "_law_total", "_law_cell"] ["_law_script"] (defScope s__law_tape) := ⟨rfl, rfl, rfl, by decide +kernel, rfl, by decide +kernel, by decide +kernel⟩
abbrev s__law_draw : Stmt := topS 15
theorem sc__law_draw : FnScope ["_law_tape_here", "_law_many", "_law_place", "_law_number_here"] ["_law_tape_here", "_law_many"] (defScope s__law_draw) := ⟨rfl, rfl, rfl, by decide +kernel, rfl, by decide +kernel, by decide +kernel⟩
abbrev s__law_gcd : Stmt := topS 16
theorem sc__law_gcd : FnScope ["_law_first", "_law_second", "_law_rest"] ["_law_first", "_law_second"] (defScope s__law_gcd) := ⟨rfl, rfl, rfl, by decide +kernel, rfl, by decide +kernel, by decide +kernel⟩
abbrev s__law_ratio : Stmt := topS 17
theorem sc__law_ratio : FnScope ["_law_top", "_law_bottom", "_law_shared"] ["_law_top", "_law_bottom"] (defScope s__law_ratio) := ⟨rfl, rfl, rfl, by decide +kernel, rfl, by decide +kernel, by decide +kernel⟩
abbrev s__law_number : Stmt := topS 18
theorem sc__law_number : FnScope ["_law_tape_here", "_law_shape", "_law_top", "_law_bottoms", "_law_bottom"] ["_law_tape_here"] (defScope s__law_number) := ⟨rfl, rfl, rfl, by decide +kernel, rfl, by decide +kernel, by decide +kernel⟩
abbrev s__law_small : Stmt := topS 19
theorem sc__law_small : FnScope ["_law_tape_here", "_law_top"] ["_law_tape_here"] (defScope s__law_small) := ⟨rfl, rfl, rfl, by decide +kernel, rfl, by decide +kernel, by decide +kernel⟩
abbrev s__law_large : Stmt := topS 20
theorem sc__law_large : FnScope ["_law_tape_here", "_law_blocks", "_law_number_here", "_law_k"] ["_law_tape_here", "_law_blocks"] (defScope s__law_large) := ⟨rfl, rfl, rfl, by decide +kernel, rfl, by decide +kernel, by decide +kernel⟩
abbrev s__law_fraction : Stmt := topS 21
theorem sc__law_fraction : FnScope ["_law_tape_here", "_law_choice", "_law_top", "_law_bottom"] ["_law_tape_here"] (defScope s__law_fraction) := ⟨rfl, rfl, rfl, by decide +kernel, rfl, by decide +kernel, by decide +kernel⟩
abbrev s__law_fraction_text : Stmt := topS 22
theorem sc__law_fraction_text : FnScope ["_law_a", "_law_rest", "_law_twos", "_law_fives", "_law_digits", "_law_scale", "_law_k", "_law_text"] ["_law_a"] (defScope s__law_fraction_text) := ⟨rfl, rfl, rfl, by decide +kernel, rfl, by decide +kernel, by decide +kernel⟩
abbrev s__law_read : Stmt := topS 23
theorem sc__law_read : FnScope ["_law_text", "_law_body", "_law_scale", "_law_parts", "_law_k", "_law_part", "_law_value"] ["_law_text"] (defScope s__law_read) := ⟨rfl, rfl, rfl, by decide +kernel, rfl, by decide +kernel, by decide +kernel⟩
abbrev s__law_spoilt : Stmt := topS 24
theorem sc__law_spoilt : FnScope ["_law_tape_here", "_law_text", "_law_place", "_law_choice", "_law_sign"] ["_law_tape_here", "_law_text"] (defScope s__law_spoilt) := ⟨rfl, rfl, rfl, by decide +kernel, rfl, by decide +kernel, by decide +kernel⟩
abbrev s__law_style : Stmt := topS 25
theorem sc__law_style : FnScope ["_law_tape_here", "_law_signs", "_law_texts", "_law_k", "_law_text", "_law_i"] ["_law_tape_here"] (defScope s__law_style) := ⟨rfl, rfl, rfl, by decide +kernel, rfl, by decide +kernel, by decide +kernel⟩
abbrev s__law_commas : Stmt := topS 26
theorem sc__law_commas : FnScope ["_law_text", "_law_sign", "_law_parts", "_law_digits", "_law_groups"] ["_law_text"] (defScope s__law_commas) := ⟨rfl, rfl, rfl, by decide +kernel, rfl, by decide +kernel, by decide +kernel⟩
abbrev s__law_label : Stmt := topS 27
theorem sc__law_label : FnScope ["_law_number_here", "_law_style_here", "_law_text"] ["_law_number_here", "_law_style_here"] (defScope s__law_label) := ⟨rfl, rfl, rfl, by decide +kernel, rfl, by decide +kernel, by decide +kernel⟩
abbrev s__law_read_label : Stmt := topS 28
theorem sc__law_read_label : FnScope ["_law_text", "_law_style_here", "_law_room", "_law_body", "_law_value"] ["_law_text", "_law_style_here"] (defScope s__law_read_label) := ⟨rfl, rfl, rfl, by decide +kernel, rfl, by decide +kernel, by decide +kernel⟩
abbrev s_law : Stmt := topS 29
theorem sc_law : FnScope ["_law_script", "_law_tape_here", "_law_a", "_law_style_here", "_law_text", "_law_k"] ["_law_script"] (defScope s_law) := ⟨rfl, rfl, rfl, by decide +kernel, rfl, by decide +kernel, by decide +kernel⟩
section
variable {P : Program} {w : World} {K : PySem.W.Frag} {mg : Str → Option Value} {base : Heap}
theorem w_lowest {f : Addr} {fd : FuncData} (F0 : Fun K "lowest" "lowest" s_lowest f fd) (hm : mg "lowest" = some (.ref f)) (B : Blt mg) (g_gcd : mg "gcd" = some (.builtin "math.gcd")) : Cal P w K mg base "lowest" 1 ["numerator", "denominator"] F_lowest :=
  cal_of (b := b_lowest) F0 hm (F0.binds fun _ _ _ _ _ _ us hl => match us, hl with | [_, _], _ => rfl) sc_lowest (by decide) (by unfold F_lowest; exact len2) (fun cdv A outer s H E C => by
    exact (qs_cons (q_if (qt_lt (q_var 1) q_int) (qs_one (q_par (i := 0) (j := 1) C.calm C.nd rfl rfl (by decide) rfl rfl (qa_cons (q_neg (q_var 0)) (qa_cons (q_neg (q_var 1)) qa_nil)) rfl)) qs_nil)
  (qs_cons (q_set (i := 2) C.nd rfl (by first | exact Or.inl rfl | exact Or.inr rfl) (q_gcd rfl g_gcd (qa_cons (q_var 0) (qa_cons (q_var 1) qa_nil))))
  (qs_one (q_ret (q_tup (qa_cons (q_div (q_var 0) (q_var 2)) (qa_cons (q_div (q_var 1) (q_var 2)) qa_nil)))))))) p_lowest
theorem w_power_of_ten {f : Addr} {fd : FuncData} (F0 : Fun K "power_of_ten" "power_of_ten" s_power_of_ten f fd) (hm : mg "power_of_ten" = some (.ref f)) (B : Blt mg)  : Cal P w K mg base "power_of_ten" 1 ["exponent"] F_power_of_ten :=
  cal_of (b := b_power_of_ten) F0 hm (F0.binds fun _ _ _ _ _ _ us hl => match us, hl with | [_], _ => rfl) sc_power_of_ten (by decide) (by unfold F_power_of_ten; exact len1) (fun cdv A outer s H E C => by
    exact (qs_cons (q_set (i := 1) C.nd rfl (by first | exact Or.inl rfl | exact Or.inr rfl) q_int)
  (qs_cons (q_for PassesOwn.never rfl (qi_rng1 rfl B.range (qa_cons (q_var 0) qa_nil)) (qg_name (i := 2) C.nd rfl (by first | exact Or.inl rfl | exact Or.inr rfl)) (qs_one (q_set (i := 1) C.nd rfl (by first | exact Or.inl rfl | exact Or.inr rfl) (q_mul (q_var 1) q_int))))
  (qs_one (q_ret (q_var 1)))))) p_power_of_ten
theorem w_decimal_places {f : Addr} {fd : FuncData} (F0 : Fun K "decimal_places" "decimal_places" s_decimal_places f fd) (hm : mg "decimal_places" = some (.ref f)) (B : Blt mg)  : Cal P w K mg base "decimal_places" 1 ["denominator"] F_decimal_places :=
  cal_of (b := b_decimal_places) F0 hm (F0.binds fun _ _ _ _ _ _ us hl => match us, hl with | [_], _ => rfl) sc_decimal_places (by decide) (by unfold F_decimal_places; exact len1) (fun cdv A outer s H E C => by
    exact (qs_cons (q_set (i := 1) C.nd rfl (by first | exact Or.inl rfl | exact Or.inr rfl) q_int)
  (qs_cons (q_join (q_while PassesOwn.never (qt_eq C.room (q_mod (q_var 0) q_int) q_int) (qs_cons (q_set (i := 0) C.nd rfl (by first | exact Or.inl rfl | exact Or.inr rfl) (q_div (q_var 0) q_int))
  (qs_one (q_iadd (i := 1) C.nd rfl (by first | exact Or.inl rfl | exact Or.inr rfl) q_int)))))
  (qs_cons (q_set (i := 2) C.nd rfl (by first | exact Or.inl rfl | exact Or.inr rfl) q_int)
  (qs_cons (q_join (q_while PassesOwn.never (qt_eq C.room (q_mod (q_var 0) q_int) q_int) (qs_cons (q_set (i := 0) C.nd rfl (by first | exact Or.inl rfl | exact Or.inr rfl) (q_div (q_var 0) q_int))
  (qs_one (q_iadd (i := 2) C.nd rfl (by first | exact Or.inl rfl | exact Or.inr rfl) q_int)))))
  (qs_cons (q_if (qt_ne C.room (q_var 0) q_int) (qs_one (q_ret q_non)) qs_nil)
  (qs_one (q_ret (q_blt (call_max2 C.calm) bf_max2 rfl B.max boot_max (qa_cons (q_var 1) (qa_cons (q_var 2) qa_nil))))))))))) p_decimal_places
theorem w_fraction_text {f : Addr} {fd : FuncData} (F0 : Fun K "fraction_text" "fraction_text" s_fraction_text f fd) (hm : mg "fraction_text" = some (.ref f)) (B : Blt mg) (c_decimal_places : Cal P w K mg base "decimal_places" 1 ["denominator"] F_decimal_places) (c_power_of_ten : Cal P w K mg base "power_of_ten" 1 ["exponent"] F_power_of_ten) : Cal P w K mg base "fraction_text" 2 ["a"] F_fraction_text :=
  cal_of (b := b_fraction_text) F0 hm (F0.binds fun _ _ _ _ _ _ us hl => match us, hl with | [_], _ => rfl) sc_fraction_text (by decide) (by unfold F_fraction_text; exact len1) (fun cdv A outer s H E C => by
    exact (qs_cons (q_set (i := 1) C.nd rfl (by first | exact Or.inl rfl | exact Or.inr rfl) (q_call C c_decimal_places (by decide) rfl (qa_cons (q_ix (q_var 0) q_int) qa_nil)))
  (qs_cons (q_if (qt_isN (q_var 1)) (qs_one (q_ret (q_fstr (QJ.cons (q_fmt (q_ix (q_var 0) q_int)) (QJ.cons q_str (QJ.cons (q_fmt (q_ix (q_var 0) q_int)) QJ.nil)))))) qs_nil)
  (qs_cons (q_set (i := 2) C.nd rfl (by first | exact Or.inl rfl | exact Or.inr rfl) q_str)
  (qs_cons (q_join (q_if (qt_lt (q_ix (q_var 0) q_int) q_int) (qs_one (q_set (i := 2) C.nd rfl (by first | exact Or.inl rfl | exact Or.inr rfl) q_str)) qs_nil))
  (qs_cons (q_set (i := 3) C.nd rfl (by first | exact Or.inl rfl | exact Or.inr rfl) (q_zfill (q_blTy (call_str_int.or SkE.call_str_str) bf_str rfl B.str boot_str (qa_cons (q_div (q_mul (q_blt call_abs bf_abs rfl B.abs boot_abs (qa_cons (q_ix (q_var 0) q_int) qa_nil)) (q_call C c_power_of_ten (by decide) rfl (qa_cons (q_var 1) qa_nil))) (q_ix (q_var 0) q_int)) qa_nil)) (qa_cons (q_add (q_var 1) q_int) qa_nil)))
  (qs_cons (q_if (qt_eq C.room (q_var 1) q_int) (qs_one (q_ret (q_add (q_var 2) (q_var 3)))) qs_nil)
  (qs_one (q_ret (q_add (q_add (q_add (q_var 2) (q_sl (q_var 3) qo_none (qo_some (q_neg (q_var 1))))) q_str) (q_sl (q_var 3) (qo_some (q_neg (q_var 1))) qo_none))))))))))) p_fraction_text
theorem w_has_digits {f : Addr} {fd : FuncData} (F0 : Fun K "has_digits" "has_digits" s_has_digits f fd) (hm : mg "has_digits" = some (.ref f)) (B : Blt mg) {t_DIGITS : Tok} (g_DIGITS : mg "DIGITS" = some (.str "0123456789" t_DIGITS)) : Cal P w K mg base "has_digits" 1 ["text"] F_has_digits :=
  cal_of (b := b_has_digits) F0 hm (F0.binds fun _ _ _ _ _ _ us hl => match us, hl with | [_], _ => rfl) sc_has_digits (by decide) (by unfold F_has_digits; exact len1) (fun cdv A outer s H E C => by
    exact (qs_one (q_ret (q_and (q_ne C.room (q_var 0) q_str) (q_one (q_blt (cr_allB C.calm) bf_allB rfl B.all PyProof.Rows.boot_all (qa_cons (q_comp C (own := [("character", 1)]) (qi_seq (q_var 0)) (blkOk_by (N := ["text", "character"]) (sc := defScope s_has_digits) (by decide +kernel)) (gv_name (i := 1) (by decide)) (fun _ _ _ _ _ => (pg_name (i := 1) C.nd rfl (by first | exact Or.inl rfl | exact Or.inr rfl))) (fun _ _ _ _ _ => qts_nil) (fun _ _ _ _ _ => (q_in C.room (q_var 1) (q_globS rfl g_DIGITS)))) qa_nil))))))) p_has_digits
theorem w_read_fraction {f : Addr} {fd : FuncData} (F0 : Fun K "read_fraction" "read_fraction" s_read_fraction f fd) (hm : mg "read_fraction" = some (.ref f)) (B : Blt mg) (c_has_digits : Cal P w K mg base "has_digits" 1 ["text"] F_has_digits) (c_power_of_ten : Cal P w K mg base "power_of_ten" 1 ["exponent"] F_power_of_ten) (c_lowest : Cal P w K mg base "lowest" 1 ["numerator", "denominator"] F_lowest) (c_fraction_text : Cal P w K mg base "fraction_text" 2 ["a"] F_fraction_text) : Cal P w K mg base "read_fraction" 3 ["text"] F_read_fraction :=
  cal_of (b := b_read_fraction) F0 hm (F0.binds fun _ _ _ _ _ _ us hl => match us, hl with | [_], _ => rfl) sc_read_fraction (by decide) (by unfold F_read_fraction; exact len1) (fun cdv A outer s H E C => by
    exact (qs_cons (q_set (i := 1) C.nd rfl (by first | exact Or.inl rfl | exact Or.inr rfl) (q_remPre (q_var 0) (qa_cons q_str qa_nil)))
  (qs_cons (q_join (q_if (qt_in C.room q_str (q_var 1)) (qs_one (q_asg (q_partition (q_var 1) (qa_cons q_str qa_nil)) (qg_tup C.calm (qgs_cons (qg_name (i := 2) C.nd rfl (by first | exact Or.inl rfl | exact Or.inr rfl)) (qgs_cons (qg_name (i := 3) C.nd rfl (by first | exact Or.inl rfl | exact Or.inr rfl)) (qgs_cons (qg_name (i := 4) C.nd rfl (by first | exact Or.inl rfl | exact Or.inr rfl)) qgs_nil)))))) (qs_one (q_asg (q_partition (q_var 1) (qa_cons q_str qa_nil)) (qg_tup C.calm (qgs_cons (qg_name (i := 2) C.nd rfl (by first | exact Or.inl rfl | exact Or.inr rfl)) (qgs_cons (qg_name (i := 3) C.nd rfl (by first | exact Or.inl rfl | exact Or.inr rfl)) (qgs_cons (qg_name (i := 4) C.nd rfl (by first | exact Or.inl rfl | exact Or.inr rfl)) qgs_nil))))))))
  (qs_cons (q_join (q_if (qt_w (qw_or (qt_not (qt_tru (q_call C c_has_digits (by decide) rfl (qa_cons (q_var 2) qa_nil)))) (qw_or1 (qt_w (qw_and (qt_ne C.room (q_var 3) q_str) (qw_and1 (qt_not (qt_tru (q_call C c_has_digits (by decide) rfl (qa_cons (q_var 4) qa_nil)))))))))) (qs_one (q_ret q_non)) qs_nil))
  (qs_cons (q_join (q_if (qt_eq C.room (q_var 3) q_str) (qs_one (q_par (i := 5) (j := 6) C.calm C.nd rfl rfl (by decide) rfl rfl (qa_cons (q_blTy call_intA bf_intA rfl B.int boot_int (qa_cons (q_var 2) qa_nil)) (qa_cons (q_blTy call_intA bf_intA rfl B.int boot_int (qa_cons (q_var 4) qa_nil)) qa_nil)) rfl)) (qs_one (q_par (i := 5) (j := 6) C.calm C.nd rfl rfl (by decide) rfl rfl (qa_cons (q_blTy call_intA bf_intA rfl B.int boot_int (qa_cons (q_add (q_var 2) (q_var 4)) qa_nil)) (qa_cons (q_call C c_power_of_ten (by decide) rfl (qa_cons (q_blt call_len bf_len rfl B.len PySem.boot_len (qa_cons (q_var 4) qa_nil)) qa_nil)) qa_nil)) rfl))))
  (qs_cons (q_if (qt_eq C.room (q_var 6) q_int) (qs_one (q_ret q_non)) qs_nil)
  (qs_cons (q_join (q_if (qt_tru (q_startswith (q_var 0) (qa_cons q_str qa_nil))) (qs_one (q_set (i := 5) C.nd rfl (by first | exact Or.inl rfl | exact Or.inr rfl) (q_neg (q_var 5)))) qs_nil))
  (qs_cons (q_set (i := 7) C.nd rfl (by first | exact Or.inl rfl | exact Or.inr rfl) (q_call C c_lowest (by decide) rfl (qa_cons (q_var 5) (qa_cons (q_var 6) qa_nil))))
  (qs_cons (q_if (qt_ne C.room (q_call C c_fraction_text (by decide) rfl (qa_cons (q_var 7) qa_nil)) (q_var 0)) (qs_one (q_ret q_non)) qs_nil)
  (qs_one (q_ret (q_var 7)))))))))))) p_read_fraction
theorem w_with_commas {f : Addr} {fd : FuncData} (F0 : Fun K "with_commas" "with_commas" s_with_commas f fd) (hm : mg "with_commas" = some (.ref f)) (B : Blt mg)  : Cal P w K mg base "with_commas" 1 ["text"] F_with_commas :=
  cal_of (b := b_with_commas) F0 hm (F0.binds fun _ _ _ _ _ _ us hl => match us, hl with | [_], _ => rfl) sc_with_commas (by decide) (by unfold F_with_commas; exact len1) (fun cdv A outer s H E C => by
    exact (qs_cons (q_asg (q_partition (q_remPre (q_var 0) (qa_cons q_str qa_nil)) (qa_cons q_str qa_nil)) (qg_tup C.calm (qgs_cons (qg_name (i := 1) C.nd rfl (by first | exact Or.inl rfl | exact Or.inr rfl)) (qgs_cons (qg_name (i := 2) C.nd rfl (by first | exact Or.inl rfl | exact Or.inr rfl)) (qgs_cons (qg_name (i := 3) C.nd rfl (by first | exact Or.inl rfl | exact Or.inr rfl)) qgs_nil)))))
  (qs_cons (q_set (i := 4) C.nd rfl (by first | exact Or.inl rfl | exact Or.inr rfl) (q_lst qa_nil))
  (qs_cons (q_while PassesOwn.never (qt_gt (q_blt call_len bf_len rfl B.len PySem.boot_len (qa_cons (q_var 1) qa_nil)) q_int) (qs_cons (q_expr (q_append (q_var 4) (qa_cons (q_sl (q_var 1) (qo_some (q_neg q_int)) qo_none) qa_nil)))
  (qs_one (q_set (i := 1) C.nd rfl (by first | exact Or.inl rfl | exact Or.inr rfl) (q_sl (q_var 1) qo_none (qo_some (q_neg q_int)))))))
  (qs_cons (q_set (i := 5) C.nd rfl (by first | exact Or.inl rfl | exact Or.inr rfl) (q_add (q_add (q_sjoin q_str (qa_cons (q_add (q_lst (qa_cons (q_var 1) qa_nil)) (q_revS (q_var 4) (q_neg q_int))) qa_nil)) (q_var 2)) (q_var 3)))
  (qs_cons (q_if (qt_tru (q_startswith (q_var 0) (qa_cons q_str qa_nil))) (qs_one (q_ret (q_add q_str (q_var 5)))) qs_nil)
  (qs_one (q_ret (q_var 5))))))))) p_with_commas
theorem w_number_label {f : Addr} {fd : FuncData} (F0 : Fun K "number_label" "number_label" s_number_label f fd) (hm : mg "number_label" = some (.ref f)) (B : Blt mg) (c_fraction_text : Cal P w K mg base "fraction_text" 2 ["a"] F_fraction_text) (c_with_commas : Cal P w K mg base "with_commas" 1 ["text"] F_with_commas) : Cal P w K mg base "number_label" 3 ["fraction", "style"] F_number_label :=
  cal_of (b := b_number_label) F0 hm (F0.binds fun _ _ _ _ _ _ us hl => match us, hl with | [_, _], _ => rfl) sc_number_label (by decide) (by unfold F_number_label; exact len2) (fun cdv A outer s H E C => by
    exact (qs_cons (q_asg (q_var 1) (qg_tup C.calm (qgs_cons (qg_name (i := 2) C.nd rfl (by first | exact Or.inl rfl | exact Or.inr rfl)) (qgs_cons (qg_name (i := 3) C.nd rfl (by first | exact Or.inl rfl | exact Or.inr rfl)) (qgs_cons (qg_name (i := 4) C.nd rfl (by first | exact Or.inl rfl | exact Or.inr rfl)) qgs_nil)))))
  (qs_cons (q_set (i := 5) C.nd rfl (by first | exact Or.inl rfl | exact Or.inr rfl) (q_call C c_fraction_text (by decide) rfl (qa_cons (q_var 0) qa_nil)))
  (qs_cons (q_join (q_if (qt_w (qw_and (qt_tru (q_var 4)) (qw_and1 (qt_notIn C.room q_str (q_var 5))))) (qs_one (q_set (i := 5) C.nd rfl (by first | exact Or.inl rfl | exact Or.inr rfl) (q_call C c_with_commas (by decide) rfl (qa_cons (q_var 5) qa_nil)))) qs_nil))
  (qs_one (q_ret (q_add (q_add (q_var 2) (q_var 5)) (q_var 3)))))))) p_number_label
theorem w_read_label {f : Addr} {fd : FuncData} (F0 : Fun K "read_label" "read_label" s_read_label f fd) (hm : mg "read_label" = some (.ref f)) (B : Blt mg) (c_read_fraction : Cal P w K mg base "read_fraction" 3 ["text"] F_read_fraction) (c_number_label : Cal P w K mg base "number_label" 3 ["fraction", "style"] F_number_label) : Cal P w K mg base "read_label" 4 ["text", "style"] F_read_label :=
  cal_of (b := b_read_label) F0 hm (F0.binds fun _ _ _ _ _ _ us hl => match us, hl with | [_, _], _ => rfl) sc_read_label (by decide) (by unfold F_read_label; exact len2) (fun cdv A outer s H E C => by
    exact (qs_cons (q_asg (q_var 1) (qg_tup C.calm (qgs_cons (qg_name (i := 2) C.nd rfl (by first | exact Or.inl rfl | exact Or.inr rfl)) (qgs_cons (qg_name (i := 3) C.nd rfl (by first | exact Or.inl rfl | exact Or.inr rfl)) (qgs_cons (qg_name (i := 4) C.nd rfl (by first | exact Or.inl rfl | exact Or.inr rfl)) qgs_nil)))))
  (qs_cons (q_if (qt_lt (q_blt call_len bf_len rfl B.len PySem.boot_len (qa_cons (q_var 0) qa_nil)) (q_add (q_blt call_len bf_len rfl B.len PySem.boot_len (qa_cons (q_var 2) qa_nil)) (q_blt call_len bf_len rfl B.len PySem.boot_len (qa_cons (q_var 3) qa_nil)))) (qs_one (q_ret q_non)) qs_nil)
  (qs_consU (psu_sl (i := 5) C.nd rfl (by first | exact Or.inl rfl | exact Or.inr rfl) (q_var 0) rfl B.len PySem.boot_len (qa_cons (q_var 2) qa_nil) (qo_some (q_sub (q_blt call_len bf_len rfl B.len PySem.boot_len (qa_cons (q_var 0) qa_nil)) (q_blt call_len bf_len rfl B.len PySem.boot_len (qa_cons (q_var 3) qa_nil)))))
  (qsst_cons (qst_join (qst_if_repl (i := 5) (qt_tru (q_var 4)) C.nd rfl (by first | exact Or.inl rfl | exact Or.inr rfl) (q_var 5)))
  (qsst_cons (qst_of (q_set (i := 6) C.nd rfl (by first | exact Or.inl rfl | exact Or.inr rfl) (q_call C c_read_fraction (by decide) rfl (qa_cons (q_var 5) qa_nil))))
  (qsst_cons (qst_of (q_if (qt_w (qw_or (qt_isN (q_var 6)) (qw_or1 (qt_ne C.room (q_call C c_number_label (by decide) rfl (qa_cons (q_var 6) (qa_cons (q_var 1) qa_nil))) (q_var 0))))) (qs_one (q_ret q_non)) qs_nil))
  (qsst_one (qst_of (q_ret (q_var 6))))))))))) p_read_label
theorem w__law_tape {f : Addr} {fd : FuncData} (F0 : Fun K "_law_tape" "_law_tape" s__law_tape f fd) (hm : mg "_law_tape" = some (.ref f)) (B : Blt mg)  : Cal P w K mg base "_law_tape" 1 ["_law_script"] FC__law_tape :=
  cal_of (b := b__law_tape) F0 hm (F0.binds fun _ _ _ _ _ _ us hl => match us, hl with | [_], _ => rfl) sc__law_tape (by decide) (by unfold FC__law_tape; exact len1) (fun cdv A outer s H E C => by
    exact (qs_cons (q_set (i := 1) C.nd rfl (by first | exact Or.inl rfl | exact Or.inr rfl) q_int)
  (qs_cons (q_for PassesOwn.never rfl (qi_seq (q_var 0)) (qg_name (i := 2) C.nd rfl (by first | exact Or.inl rfl | exact Or.inr rfl)) (qs_one (q_set (i := 1) C.nd rfl (by first | exact Or.inl rfl | exact Or.inr rfl) (q_mod (q_blTy call_int1 bf_int rfl B.int boot_int (qa_cons (q_add (q_mul (q_var 1) q_int) (q_blt call_abs bf_abs rfl B.abs boot_abs (qa_cons (q_blTy call_int1 bf_int rfl B.int boot_int (qa_cons (q_var 2) qa_nil)) qa_nil))) qa_nil)) q_int))))
  (qs_one (q_ret (q_lst (qa_cons (q_blTy call_list_of bf_list rfl B.list boot_list (qa_cons (q_var 0) qa_nil)) (qa_cons q_int (qa_cons q_int (qa_cons (q_var 1) qa_nil)))))))))) p__law_tape
theorem w__law_draw {f : Addr} {fd : FuncData} (F0 : Fun K "_law_draw" "_law_draw" s__law_draw f fd) (hm : mg "_law_draw" = some (.ref f)) (B : Blt mg)  : Cal P w K mg base "_law_draw" 1 ["_law_tape_here", "_law_many"] FC__law_draw :=
  cal_of (b := b__law_draw) F0 hm (F0.binds fun _ _ _ _ _ _ us hl => match us, hl with | [_, _], _ => rfl) sc__law_draw (by decide) (by unfold FC__law_draw; exact len2) (fun cdv A outer s H E C => by
    exact (qs_cons (q_if (qt_eq C.room (q_ix (q_var 0) q_int) q_int) (qs_cons (q_set (i := 2) C.nd rfl (by first | exact Or.inl rfl | exact Or.inr rfl) (q_ix (q_var 0) q_int))
  (qs_cons (q_set (i := 3) C.nd rfl (by first | exact Or.inl rfl | exact Or.inr rfl) q_int)
  (qs_cons (q_if (qt_lt (q_var 2) (q_blt call_len bf_len rfl B.len PySem.boot_len (qa_cons (q_ix (q_var 0) q_int) qa_nil))) (qs_one (q_set (i := 3) C.nd rfl (by first | exact Or.inl rfl | exact Or.inr rfl) (q_blt call_abs bf_abs rfl B.abs boot_abs (qa_cons (q_blTy call_int1 bf_int rfl B.int boot_int (qa_cons (q_ix (q_ix (q_var 0) q_int) (q_var 2)) qa_nil)) qa_nil)))) (qs_cons (q_asg (q_mod (q_blTy call_int1 bf_int rfl B.int boot_int (qa_cons (q_add (q_add (q_mul (q_ix (q_var 0) q_int) q_int) (q_var 2)) q_int) qa_nil)) q_int) (qg_sub (q_var 0) q_int))
  (qs_one (q_set (i := 3) C.nd rfl (by first | exact Or.inl rfl | exact Or.inr rfl) (q_ix (q_var 0) q_int)))))
  (qs_cons (q_asg (q_add (q_var 2) q_int) (qg_sub (q_var 0) q_int))
  (qs_cons (q_if (qt_lt (q_var 3) (q_pow q_int q_int)) (qs_cons (q_set (i := 3) C.nd rfl (by first | exact Or.inl rfl | exact Or.inr rfl) (q_mod (q_blTy call_int1 bf_int rfl B.int boot_int (qa_cons (q_add (q_add (q_mul (q_var 3) q_int) (q_mul (q_var 2) q_int)) q_int) qa_nil)) q_int))
  (qs_cons (q_set (i := 3) C.nd rfl (by first | exact Or.inl rfl | exact Or.inr rfl) (q_mod (q_blTy call_int1 bf_int rfl B.int boot_int (qa_cons (q_mul (q_var 3) q_int) qa_nil)) q_int))
  (qs_one (q_ret (q_mod (q_blTy call_int1 bf_int rfl B.int boot_int (qa_cons (q_var 3) qa_nil)) (q_blt (call_max2 C.calm) bf_max2 rfl B.max boot_max (qa_cons (q_var 1) (qa_cons q_int qa_nil)))))))) qs_nil)
  (qs_one (q_asg (q_var 3) (qg_sub (q_var 0) q_int)))))))) qs_nil)
  (qs_cons (q_set (i := 3) C.nd rfl (by first | exact Or.inl rfl | exact Or.inr rfl) (q_ix (q_var 0) q_int))
  (qs_cons (q_asg (q_div (q_var 3) (q_blt (call_max2 C.calm) bf_max2 rfl B.max boot_max (qa_cons (q_var 1) (qa_cons q_int qa_nil)))) (qg_sub (q_var 0) q_int))
  (qs_one (q_ret (q_mod (q_blTy call_int1 bf_int rfl B.int boot_int (qa_cons (q_var 3) qa_nil)) (q_blt (call_max2 C.calm) bf_max2 rfl B.max boot_max (qa_cons (q_var 1) (qa_cons q_int qa_nil)))))))))) p__law_draw
theorem w__law_gcd {f : Addr} {fd : FuncData} (F0 : Fun K "_law_gcd" "_law_gcd" s__law_gcd f fd) (hm : mg "_law_gcd" = some (.ref f)) (B : Blt mg)  : Cal P w K mg base "_law_gcd" 1 ["_law_first", "_law_second"] F__law_gcd :=
  cal_of (b := b__law_gcd) F0 hm (F0.binds fun _ _ _ _ _ _ us hl => match us, hl with | [_, _], _ => rfl) sc__law_gcd (by decide) (by unfold F__law_gcd; exact len2) (fun cdv A outer s H E C => by
    exact (qs_cons (q_set (i := 0) C.nd rfl (by first | exact Or.inl rfl | exact Or.inr rfl) (q_blt call_abs bf_abs rfl B.abs boot_abs (qa_cons (q_var 0) qa_nil)))
  (qs_cons (q_set (i := 1) C.nd rfl (by first | exact Or.inl rfl | exact Or.inr rfl) (q_blt call_abs bf_abs rfl B.abs boot_abs (qa_cons (q_var 1) qa_nil)))
  (qs_cons (q_while PassesOwn.never (qt_gt (q_var 1) q_int) (qs_cons (q_set (i := 2) C.nd rfl (by first | exact Or.inl rfl | exact Or.inr rfl) (q_mod (q_blTy call_int1 bf_int rfl B.int boot_int (qa_cons (q_var 0) qa_nil)) (q_var 1)))
  (qs_cons (q_set (i := 0) C.nd rfl (by first | exact Or.inl rfl | exact Or.inr rfl) (q_var 1))
  (qs_one (q_set (i := 1) C.nd rfl (by first | exact Or.inl rfl | exact Or.inr rfl) (q_var 2))))))
  (qs_one (q_ret (q_var 0))))))) p__law_gcd
theorem w__law_ratio {f : Addr} {fd : FuncData} (F0 : Fun K "_law_ratio" "_law_ratio" s__law_ratio f fd) (hm : mg "_law_ratio" = some (.ref f)) (B : Blt mg) (c__law_gcd : Cal P w K mg base "_law_gcd" 1 ["_law_first", "_law_second"] F__law_gcd) : Cal P w K mg base "_law_ratio" 2 ["_law_top", "_law_bottom"] F__law_ratio :=
  cal_of (b := b__law_ratio) F0 hm (F0.binds fun _ _ _ _ _ _ us hl => match us, hl with | [_, _], _ => rfl) sc__law_ratio (by decide) (by unfold F__law_ratio; exact len2) (fun cdv A outer s H E C => by
    exact (qs_cons (q_set (i := 2) C.nd rfl (by first | exact Or.inl rfl | exact Or.inr rfl) (q_call C c__law_gcd (by decide) rfl (qa_cons (q_var 0) (qa_cons (q_var 1) qa_nil))))
  (qs_cons (q_if (qt_lt (q_var 1) q_int) (qs_one (q_set (i := 2) C.nd rfl (by first | exact Or.inl rfl | exact Or.inr rfl) (q_neg (q_var 2)))) qs_nil)
  (qs_one (q_ret (q_tup (qa_cons (q_fdiv (q_var 0) (q_var 2)) (qa_cons (q_fdiv (q_var 1) (q_var 2)) qa_nil)))))))) p__law_ratio
theorem w__law_number {f : Addr} {fd : FuncData} (F0 : Fun K "_law_number" "_law_number" s__law_number f fd) (hm : mg "_law_number" = some (.ref f)) (B : Blt mg) (c__law_draw : Cal P w K mg base "_law_draw" 1 ["_law_tape_here", "_law_many"] F__law_draw) (c__law_ratio : Cal P w K mg base "_law_ratio" 2 ["_law_top", "_law_bottom"] F__law_ratio) : Cal P w K mg base "_law_number" 3 ["_law_tape_here"] F__law_number :=
  cal_of (b := b__law_number) F0 hm (F0.binds fun _ _ _ _ _ _ us hl => match us, hl with | [_], _ => rfl) sc__law_number (by decide) (by unfold F__law_number; exact len1) (fun cdv A outer s H E C => by
    exact (qs_cons (q_set (i := 1) C.nd rfl (by first | exact Or.inl rfl | exact Or.inr rfl) (q_call C c__law_draw (by decide) rfl (qa_cons (q_var 0) (qa_cons q_int qa_nil))))
  (qs_cons (q_join (q_set (i := 2) C.nd rfl (by first | exact Or.inl rfl | exact Or.inr rfl) (q_call C c__law_draw (by decide) rfl (qa_cons (q_var 0) (qa_cons (q_ix (q_lst (qa_cons q_int (qa_cons q_int (qa_cons q_int (qa_cons q_int (qa_cons q_int (qa_cons q_int (qa_cons (q_pow q_int q_int) (qa_cons q_int (qa_cons (q_pow q_int q_int) qa_nil)))))))))) (q_var 1)) qa_nil)))))
  (qs_cons (q_join (q_if (qt_eq C.room (q_var 1) q_int) (qs_one (q_set (i := 2) C.nd rfl (by first | exact Or.inl rfl | exact Or.inr rfl) (q_sub (q_sub (q_pow q_int q_int) q_int) (q_var 2)))) qs_nil))
  (qs_cons (q_join (q_if (qt_eq C.room (q_var 1) q_int) (qs_one (q_set (i := 2) C.nd rfl (by first | exact Or.inl rfl | exact Or.inr rfl) (q_add (q_mul (q_var 2) (q_pow q_int q_int)) (q_call C c__law_draw (by decide) rfl (qa_cons (q_var 0) (qa_cons (q_pow q_int q_int) qa_nil)))))) qs_nil))
  (qs_cons (q_set (i := 3) C.nd rfl (by first | exact Or.inl rfl | exact Or.inr rfl) (q_lst (qa_cons q_int (qa_cons q_int (qa_cons q_int (qa_cons q_int (qa_cons q_int (qa_cons q_int (qa_cons q_int (qa_cons q_int (qa_cons q_int (qa_cons q_int (qa_cons q_int (qa_cons q_int (qa_cons q_int (qa_cons q_int (qa_cons q_int (qa_cons q_int (qa_cons (q_pow q_int q_int) (qa_cons (q_pow q_int q_int) (qa_cons (q_sub (q_pow q_int q_int) q_int) (qa_cons q_int qa_nil))))))))))))))))))))))
  (qs_cons (q_join (q_set (i := 4) C.nd rfl (by first | exact Or.inl rfl | exact Or.inr rfl) (q_ix (q_var 3) (q_call C c__law_draw (by decide) rfl (qa_cons (q_var 0) (qa_cons q_int qa_nil))))))
  (qs_cons (q_join (q_if (qt_eq C.room (q_call C c__law_draw (by decide) rfl (qa_cons (q_var 0) (qa_cons q_int qa_nil))) q_int) (qs_one (q_set (i := 4) C.nd rfl (by first | exact Or.inl rfl | exact Or.inr rfl) (q_add q_int (q_call C c__law_draw (by decide) rfl (qa_cons (q_var 0) (qa_cons (q_ix (q_lst (qa_cons q_int (qa_cons (q_pow q_int q_int) qa_nil))) (q_call C c__law_draw (by decide) rfl (qa_cons (q_var 0) (qa_cons q_int qa_nil)))) qa_nil)))))) qs_nil))
  (qs_cons (q_join (q_if (qt_eq C.room (q_call C c__law_draw (by decide) rfl (qa_cons (q_var 0) (qa_cons q_int qa_nil))) q_int) (qs_one (q_set (i := 2) C.nd rfl (by first | exact Or.inl rfl | exact Or.inr rfl) (q_neg (q_var 2)))) qs_nil))
  (qs_one (q_ret (q_call C c__law_ratio (by decide) rfl (qa_cons (q_var 2) (qa_cons (q_var 4) qa_nil)))))))))))))) p__law_number
theorem w__law_small {f : Addr} {fd : FuncData} (F0 : Fun K "_law_small" "_law_small" s__law_small f fd) (hm : mg "_law_small" = some (.ref f)) (B : Blt mg) (c__law_draw : Cal P w K mg base "_law_draw" 1 ["_law_tape_here", "_law_many"] F__law_draw) (c__law_ratio : Cal P w K mg base "_law_ratio" 2 ["_law_top", "_law_bottom"] F__law_ratio) : Cal P w K mg base "_law_small" 3 ["_law_tape_here"] F__law_small :=
  cal_of (b := b__law_small) F0 hm (F0.binds fun _ _ _ _ _ _ us hl => match us, hl with | [_], _ => rfl) sc__law_small (by decide) (by unfold F__law_small; exact len1) (fun cdv A outer s H E C => by
    exact (qs_cons (q_set (i := 1) C.nd rfl (by first | exact Or.inl rfl | exact Or.inr rfl) (q_sub (q_call C c__law_draw (by decide) rfl (qa_cons (q_var 0) (qa_cons q_int qa_nil))) q_int))
  (qs_one (q_ret (q_call C c__law_ratio (by decide) rfl (qa_cons (q_var 1) (qa_cons (q_ix (q_lst (qa_cons q_int (qa_cons q_int (qa_cons q_int (qa_cons q_int (qa_cons q_int (qa_cons q_int (qa_cons q_int (qa_cons q_int qa_nil))))))))) (q_call C c__law_draw (by decide) rfl (qa_cons (q_var 0) (qa_cons q_int qa_nil)))) qa_nil))))))) p__law_small
theorem w__law_large {f : Addr} {fd : FuncData} (F0 : Fun K "_law_large" "_law_large" s__law_large f fd) (hm : mg "_law_large" = some (.ref f)) (B : Blt mg) (c__law_draw : Cal P w K mg base "_law_draw" 1 ["_law_tape_here", "_law_many"] F__law_draw) : Cal P w K mg base "_law_large" 2 ["_law_tape_here", "_law_blocks"] F__law_large :=
  cal_of (b := b__law_large) F0 hm (F0.binds fun _ _ _ _ _ _ us hl => match us, hl with | [_, _], _ => rfl) sc__law_large (by decide) (by unfold F__law_large; exact len2) (fun cdv A outer s H E C => by
    exact (qs_cons (q_set (i := 2) C.nd rfl (by first | exact Or.inl rfl | exact Or.inr rfl) q_int)
  (qs_cons (q_for PassesOwn.never rfl (qi_rng1 rfl B.range (qa_cons (q_call C c__law_draw (by decide) rfl (qa_cons (q_var 0) (qa_cons (q_add (q_var 1) q_int) qa_nil))) qa_nil)) (qg_name (i := 3) C.nd rfl (by first | exact Or.inl rfl | exact Or.inr rfl)) (qs_one (q_set (i := 2) C.nd rfl (by first | exact Or.inl rfl | exact Or.inr rfl) (q_add (q_mul (q_var 2) (q_pow q_int q_int)) (q_call C c__law_draw (by decide) rfl (qa_cons (q_var 0) (qa_cons (q_pow q_int q_int) qa_nil)))))))
  (qs_one (q_ret (q_var 2)))))) p__law_large
theorem w__law_fraction {f : Addr} {fd : FuncData} (F0 : Fun K "_law_fraction" "_law_fraction" s__law_fraction f fd) (hm : mg "_law_fraction" = some (.ref f)) (B : Blt mg) (c__law_draw : Cal P w K mg base "_law_draw" 1 ["_law_tape_here", "_law_many"] F__law_draw) (c__law_small : Cal P w K mg base "_law_small" 3 ["_law_tape_here"] F__law_small) (c__law_number : Cal P w K mg base "_law_number" 3 ["_law_tape_here"] F__law_number) (c__law_large : Cal P w K mg base "_law_large" 2 ["_law_tape_here", "_law_blocks"] F__law_large) (c__law_ratio : Cal P w K mg base "_law_ratio" 2 ["_law_top", "_law_bottom"] F__law_ratio) : Cal P w K mg base "_law_fraction" 4 ["_law_tape_here"] F__law_fraction :=
  cal_of (b := b__law_fraction) F0 hm (F0.binds fun _ _ _ _ _ _ us hl => match us, hl with | [_], _ => rfl) sc__law_fraction (by decide) (by unfold F__law_fraction; exact len1) (fun cdv A outer s H E C => by
    exact (qs_cons (q_set (i := 1) C.nd rfl (by first | exact Or.inl rfl | exact Or.inr rfl) (q_call C c__law_draw (by decide) rfl (qa_cons (q_var 0) (qa_cons q_int qa_nil))))
  (qs_cons (q_if (qt_eq C.room (q_var 1) q_int) (qs_one (q_ret (q_call C c__law_small (by decide) rfl (qa_cons (q_var 0) qa_nil)))) qs_nil)
  (qs_cons (q_if (qt_eq C.room (q_var 1) q_int) (qs_one (q_ret (q_call C c__law_number (by decide) rfl (qa_cons (q_var 0) qa_nil)))) qs_nil)
  (qs_cons (q_set (i := 2) C.nd rfl (by first | exact Or.inl rfl | exact Or.inr rfl) (q_call C c__law_large (by decide) rfl (qa_cons (q_var 0) (qa_cons q_int qa_nil))))
  (qs_cons (q_set (i := 3) C.nd rfl (by first | exact Or.inl rfl | exact Or.inr rfl) (q_add q_int (q_call C c__law_large (by decide) rfl (qa_cons (q_var 0) (qa_cons q_int qa_nil)))))
  (qs_cons (q_join (q_if (qt_eq C.room (q_var 1) q_int) (qs_cons (q_set (i := 2) C.nd rfl (by first | exact Or.inl rfl | exact Or.inr rfl) (q_sub (q_sub (q_pow q_int q_int) q_int) (q_call C c__law_draw (by decide) rfl (qa_cons (q_var 0) (qa_cons q_int qa_nil)))))
  (qs_one (q_set (i := 3) C.nd rfl (by first | exact Or.inl rfl | exact Or.inr rfl) (q_ix (q_lst (qa_cons (q_var 3) (qa_cons q_int (qa_cons (q_sub (q_sub (q_pow q_int q_int) q_int) (q_call C c__law_draw (by decide) rfl (qa_cons (q_var 0) (qa_cons q_int qa_nil)))) qa_nil)))) (q_call C c__law_draw (by decide) rfl (qa_cons (q_var 0) (qa_cons q_int qa_nil))))))) qs_nil))
  (qs_cons (q_join (q_if (qt_eq C.room (q_var 1) q_int) (qs_one (q_set (i := 3) C.nd rfl (by first | exact Or.inl rfl | exact Or.inr rfl) (q_ix (q_lst (qa_cons (q_mul (q_mul (q_pow q_int q_int) (q_pow q_int q_int)) (q_pow q_int q_int)) (qa_cons (q_pow q_int q_int) (qa_cons (q_pow q_int q_int) (qa_cons (q_pow q_int q_int) (qa_cons (q_pow q_int q_int) (qa_cons q_int (qa_cons q_int qa_nil)))))))) (q_call C c__law_draw (by decide) rfl (qa_cons (q_var 0) (qa_cons q_int qa_nil)))))) qs_nil))
  (qs_cons (q_join (q_if (qt_eq C.room (q_call C c__law_draw (by decide) rfl (qa_cons (q_var 0) (qa_cons q_int qa_nil))) q_int) (qs_one (q_set (i := 2) C.nd rfl (by first | exact Or.inl rfl | exact Or.inr rfl) (q_neg (q_var 2)))) qs_nil))
  (qs_one (q_ret (q_call C c__law_ratio (by decide) rfl (qa_cons (q_var 2) (qa_cons (q_var 3) qa_nil)))))))))))))) p__law_fraction
theorem w__law_fraction_text {f : Addr} {fd : FuncData} (F0 : Fun K "_law_fraction_text" "_law_fraction_text" s__law_fraction_text f fd) (hm : mg "_law_fraction_text" = some (.ref f)) (B : Blt mg)  : Cal P w K mg base "_law_fraction_text" 1 ["_law_a"] F__law_fraction_text :=
  cal_of (b := b__law_fraction_text) F0 hm (F0.binds fun _ _ _ _ _ _ us hl => match us, hl with | [_], _ => rfl) sc__law_fraction_text (by decide) (by unfold F__law_fraction_text; exact len1) (fun cdv A outer s H E C => by
    exact (qs_cons (q_set (i := 1) C.nd rfl (by first | exact Or.inl rfl | exact Or.inr rfl) (q_ix (q_var 0) q_int))
  (qs_cons (q_set (i := 2) C.nd rfl (by first | exact Or.inl rfl | exact Or.inr rfl) q_int)
  (qs_cons (q_set (i := 3) C.nd rfl (by first | exact Or.inl rfl | exact Or.inr rfl) q_int)
  (qs_cons (q_join (q_while PassesOwn.never (qt_eq C.room (q_mod (q_blTy call_int1 bf_int rfl B.int boot_int (qa_cons (q_var 1) qa_nil)) q_int) q_int) (qs_cons (q_set (i := 1) C.nd rfl (by first | exact Or.inl rfl | exact Or.inr rfl) (q_div (q_var 1) q_int))
  (qs_one (q_set (i := 2) C.nd rfl (by first | exact Or.inl rfl | exact Or.inr rfl) (q_add (q_var 2) q_int))))))
  (qs_cons (q_join (q_while PassesOwn.never (qt_eq C.room (q_mod (q_blTy call_int1 bf_int rfl B.int boot_int (qa_cons (q_var 1) qa_nil)) q_int) q_int) (qs_cons (q_set (i := 1) C.nd rfl (by first | exact Or.inl rfl | exact Or.inr rfl) (q_div (q_var 1) q_int))
  (qs_one (q_set (i := 3) C.nd rfl (by first | exact Or.inl rfl | exact Or.inr rfl) (q_add (q_var 3) q_int))))))
  (qs_cons (q_if (qt_ne C.room (q_var 1) q_int) (qs_one (q_ret (q_add (q_add (q_blTy (call_str_int.or SkE.call_str_str) bf_str rfl B.str boot_str (qa_cons (q_ix (q_var 0) q_int) qa_nil)) q_str) (q_blTy (call_str_int.or SkE.call_str_str) bf_str rfl B.str boot_str (qa_cons (q_ix (q_var 0) q_int) qa_nil))))) qs_nil)
  (qs_cons (q_set (i := 4) C.nd rfl (by first | exact Or.inl rfl | exact Or.inr rfl) (q_blt (call_max2 C.calm) bf_max2 rfl B.max boot_max (qa_cons (q_var 2) (qa_cons (q_var 3) qa_nil))))
  (qs_cons (q_set (i := 5) C.nd rfl (by first | exact Or.inl rfl | exact Or.inr rfl) q_int)
  (qs_cons (q_join (q_for PassesOwn.never rfl (qi_rng1 rfl B.range (qa_cons (q_var 4) qa_nil)) (qg_name (i := 6) C.nd rfl (by first | exact Or.inl rfl | exact Or.inr rfl)) (qs_one (q_set (i := 5) C.nd rfl (by first | exact Or.inl rfl | exact Or.inr rfl) (q_mul (q_var 5) q_int)))))
  (qs_cons (q_set (i := 7) C.nd rfl (by first | exact Or.inl rfl | exact Or.inr rfl) (q_blTy (call_str_int.or SkE.call_str_str) bf_str rfl B.str boot_str (qa_cons (q_mul (q_blt call_abs bf_abs rfl B.abs boot_abs (qa_cons (q_ix (q_var 0) q_int) qa_nil)) (q_div (q_var 5) (q_ix (q_var 0) q_int))) qa_nil)))
  (qs_cons (q_join (q_if (qt_gt (q_var 4) q_int) (qs_cons (q_set (i := 7) C.nd rfl (by first | exact Or.inl rfl | exact Or.inr rfl) (q_add (q_mul q_str (q_sub (q_add (q_var 4) q_int) (q_blt call_len bf_len rfl B.len PySem.boot_len (qa_cons (q_var 7) qa_nil)))) (q_var 7)))
  (qs_one (q_set (i := 7) C.nd rfl (by first | exact Or.inl rfl | exact Or.inr rfl) (q_add (q_add (q_sl (q_var 7) qo_none (qo_some (q_sub (q_blt call_len bf_len rfl B.len PySem.boot_len (qa_cons (q_var 7) qa_nil)) (q_var 4)))) q_str) (q_sl (q_var 7) (qo_some (q_sub (q_blt call_len bf_len rfl B.len PySem.boot_len (qa_cons (q_var 7) qa_nil)) (q_var 4))) qo_none))))) qs_nil))
  (qs_cons (q_if (qt_lt (q_ix (q_var 0) q_int) q_int) (qs_one (q_set (i := 7) C.nd rfl (by first | exact Or.inl rfl | exact Or.inr rfl) (q_add q_str (q_var 7)))) qs_nil)
  (qs_one (q_ret (q_var 7)))))))))))))))) p__law_fraction_text
theorem w__law_read {f : Addr} {fd : FuncData} (F0 : Fun K "_law_read" "_law_read" s__law_read f fd) (hm : mg "_law_read" = some (.ref f)) (B : Blt mg) (c__law_ratio : Cal P w K mg base "_law_ratio" 2 ["_law_top", "_law_bottom"] F__law_ratio) (c__law_fraction_text : Cal P w K mg base "_law_fraction_text" 1 ["_law_a"] F__law_fraction_text) : Cal P w K mg base "_law_read" 3 ["_law_text"] F__law_read :=
  cal_of (b := b__law_read) F0 hm (F0.binds fun _ _ _ _ _ _ us hl => match us, hl with | [_], _ => rfl) sc__law_read (by decide) (by unfold F__law_read; exact len1) (fun cdv A outer s H E C => by
    exact (qs_cons (q_set (i := 1) C.nd rfl (by first | exact Or.inl rfl | exact Or.inr rfl) (q_var 0))
  (qs_cons (q_join (q_if (qt_eq C.room (q_sl (q_var 1) qo_none (qo_some q_int)) q_str) (qs_one (q_set (i := 1) C.nd rfl (by first | exact Or.inl rfl | exact Or.inr rfl) (q_sl (q_var 1) (qo_some q_int) qo_none))) qs_nil))
  (qs_cons (q_set (i := 2) C.nd rfl (by first | exact Or.inl rfl | exact Or.inr rfl) q_int)
  (qs_cons (q_set (i := 3) C.nd rfl (by first | exact Or.inl rfl | exact Or.inr rfl) (q_split (q_var 1) (qa_cons q_str qa_nil)))
  (qs_cons (q_join (q_if (qt_w (qw_and (qt_eq C.room (q_blt call_len bf_len rfl B.len PySem.boot_len (qa_cons (q_var 3) qa_nil)) q_int) (qw_and1 (qt_tru (q_isdigit (q_ix (q_var 3) q_int)))))) (qs_cons (q_set (i := 2) C.nd rfl (by first | exact Or.inl rfl | exact Or.inr rfl) (q_blTy call_intA bf_intA rfl B.int boot_int (qa_cons (q_ix (q_var 3) q_int) qa_nil)))
  (qs_one (q_set (i := 3) C.nd rfl (by first | exact Or.inl rfl | exact Or.inr rfl) (q_lst (qa_cons (q_ix (q_var 3) q_int) qa_nil))))) (qs_cons (q_set (i := 3) C.nd rfl (by first | exact Or.inl rfl | exact Or.inr rfl) (q_split (q_var 1) (qa_cons q_str qa_nil)))
  (qs_one (q_join (q_if (qt_eq C.room (q_blt call_len bf_len rfl B.len PySem.boot_len (qa_cons (q_var 3) qa_nil)) q_int) (qs_one (q_for PassesOwn.never rfl (qi_rng1 rfl B.range (qa_cons (q_blt call_len bf_len rfl B.len PySem.boot_len (qa_cons (q_ix (q_var 3) q_int) qa_nil)) qa_nil)) (qg_name (i := 4) C.nd rfl (by first | exact Or.inl rfl | exact Or.inr rfl)) (qs_one (q_set (i := 2) C.nd rfl (by first | exact Or.inl rfl | exact Or.inr rfl) (q_mul (q_var 2) q_int))))) qs_nil))))))
  (qs_cons (q_join (q_if (qt_w (qw_or (qt_gt (q_blt call_len bf_len rfl B.len PySem.boot_len (qa_cons (q_var 3) qa_nil)) q_int) (qw_or (qt_eq C.room (q_var 2) q_int) (qw_or1 (qt_gt (q_blt call_len bf_len rfl B.len PySem.boot_len (qa_cons (q_comp C (own := [("_law_part", 5)]) (qi_seq (q_var 3)) (blkOk_by (N := ["_law_text", "_law_body", "_law_scale", "_law_parts", "_law_k", "_law_part", "_law_value"]) (sc := defScope s__law_read) (by decide +kernel)) (gv_name (i := 5) (by decide)) (fun _ _ _ _ _ => (pg_name (i := 5) C.nd rfl (by first | exact Or.inl rfl | exact Or.inr rfl))) (fun _ _ _ _ _ => (qts_one (qt_not (qt_tru (q_isdigit (q_var 5)))))) (fun _ _ _ _ _ => (q_var 5))) qa_nil)) q_int))))) (qs_one (q_ret q_non)) qs_nil))
  (qs_cons (q_set (i := 6) C.nd rfl (by first | exact Or.inl rfl | exact Or.inr rfl) (q_call C c__law_ratio (by decide) rfl (qa_cons (q_blTy call_intA bf_intA rfl B.int boot_int (qa_cons (q_sjoin q_str (qa_cons (q_var 3) qa_nil)) qa_nil)) (qa_cons (q_var 2) qa_nil))))
  (qs_cons (q_join (q_if (qt_eq C.room (q_sl (q_var 0) qo_none (qo_some q_int)) q_str) (qs_one (q_set (i := 6) C.nd rfl (by first | exact Or.inl rfl | exact Or.inr rfl) (q_tup (qa_cons (q_neg (q_ix (q_var 6) q_int)) (qa_cons (q_ix (q_var 6) q_int) qa_nil))))) qs_nil))
  (qs_cons (q_if (qt_eq C.room (q_call C c__law_fraction_text (by decide) rfl (qa_cons (q_var 6) qa_nil)) (q_var 0)) (qs_one (q_ret (q_var 6))) qs_nil)
  (qs_one (q_ret q_non)))))))))))) p__law_read
theorem w__law_spoilt {f : Addr} {fd : FuncData} (F0 : Fun K "_law_spoilt" "_law_spoilt" s__law_spoilt f fd) (hm : mg "_law_spoilt" = some (.ref f)) (B : Blt mg) (c__law_draw : Cal P w K mg base "_law_draw" 1 ["_law_tape_here", "_law_many"] F__law_draw) : Cal P w K mg base "_law_spoilt" 2 ["_law_tape_here", "_law_text"] F__law_spoilt :=
  cal_of (b := b__law_spoilt) F0 hm (F0.binds fun _ _ _ _ _ _ us hl => match us, hl with | [_, _], _ => rfl) sc__law_spoilt (by decide) (by unfold F__law_spoilt; exact len2) (fun cdv A outer s H E C => by
    exact (qs_cons (q_set (i := 2) C.nd rfl (by first | exact Or.inl rfl | exact Or.inr rfl) (q_call C c__law_draw (by decide) rfl (qa_cons (q_var 0) (qa_cons (q_add (q_blt call_len bf_len rfl B.len PySem.boot_len (qa_cons (q_var 1) qa_nil)) q_int) qa_nil))))
  (qs_cons (q_set (i := 3) C.nd rfl (by first | exact Or.inl rfl | exact Or.inr rfl) (q_call C c__law_draw (by decide) rfl (qa_cons (q_var 0) (qa_cons q_int qa_nil))))
  (qs_cons (q_set (i := 4) C.nd rfl (by first | exact Or.inl rfl | exact Or.inr rfl) (q_ix (q_lst (qa_cons q_str (qa_cons q_str (qa_cons q_str (qa_cons q_str (qa_cons q_str (qa_cons q_str (qa_cons q_str (qa_cons q_str (qa_cons q_str (qa_cons q_str (qa_cons q_str qa_nil)))))))))))) (q_call C c__law_draw (by decide) rfl (qa_cons (q_var 0) (qa_cons q_int qa_nil)))))
  (qs_cons (q_if (qt_eq C.room (q_var 3) q_int) (qs_one (q_ret (q_add (q_sl (q_var 1) qo_none (qo_some (q_var 2))) (q_sl (q_var 1) (qo_some (q_add (q_var 2) q_int)) qo_none)))) qs_nil)
  (qs_cons (q_if (qt_eq C.room (q_var 3) q_int) (qs_one (q_ret (q_add (q_add (q_sl (q_var 1) qo_none (qo_some (q_var 2))) (q_sl (q_var 1) (qo_some (q_var 2)) (qo_some (q_add (q_var 2) q_int)))) (q_sl (q_var 1) (qo_some (q_var 2)) qo_none)))) qs_nil)
  (qs_cons (q_if (qt_eq C.room (q_var 3) q_int) (qs_one (q_ret (q_add (q_add (q_sl (q_var 1) qo_none (qo_some (q_var 2))) (q_var 4)) (q_sl (q_var 1) (qo_some (q_add (q_var 2) q_int)) qo_none)))) qs_nil)
  (qs_cons (q_if (qt_eq C.room (q_var 3) q_int) (qs_one (q_ret (q_ix (q_lst (qa_cons (q_add (q_var 1) (q_var 4)) (qa_cons (q_add (q_var 4) (q_var 1)) qa_nil))) (q_call C c__law_draw (by decide) rfl (qa_cons (q_var 0) (qa_cons q_int qa_nil)))))) qs_nil)
  (qs_one (q_ret (q_add (q_add (q_sl (q_var 1) qo_none (qo_some (q_var 2))) (q_var 4)) (q_sl (q_var 1) (qo_some (q_var 2)) qo_none)))))))))))) p__law_spoilt
theorem w__law_style {f : Addr} {fd : FuncData} (F0 : Fun K "_law_style" "_law_style" s__law_style f fd) (hm : mg "_law_style" = some (.ref f)) (B : Blt mg) (c__law_draw : Cal P w K mg base "_law_draw" 1 ["_law_tape_here", "_law_many"] F__law_draw) : Cal P w K mg base "_law_style" 2 ["_law_tape_here"] F__law_style :=
  cal_of (b := b__law_style) F0 hm (F0.binds fun _ _ _ _ _ _ us hl => match us, hl with | [_], _ => rfl) sc__law_style (by decide) (by unfold F__law_style; exact len1) (fun cdv A outer s H E C => by
    exact (qs_cons (q_set (i := 1) C.nd rfl (by first | exact Or.inl rfl | exact Or.inr rfl) q_str)
  (qs_cons (q_set (i := 2) C.nd rfl (by first | exact Or.inl rfl | exact Or.inr rfl) (q_lst qa_nil))
  (qs_cons (q_for PassesOwn.never rfl (qi_rng1 rfl B.range (qa_cons q_int qa_nil)) (qg_name (i := 3) C.nd rfl (by first | exact Or.inl rfl | exact Or.inr rfl)) (qs_cons (q_set (i := 4) C.nd rfl (by first | exact Or.inl rfl | exact Or.inr rfl) (q_ix (q_lst (qa_cons q_str (qa_cons q_str (qa_cons q_str (qa_cons q_str (qa_cons q_str qa_nil)))))) (q_call C c__law_draw (by decide) rfl (qa_cons (q_var 0) (qa_cons q_int qa_nil)))))
  (qs_cons (q_join (q_for PassesOwn.never rfl (qi_rng1 rfl B.range (qa_cons (q_ix (q_lst (qa_cons q_int (qa_cons q_int (qa_cons q_int (qa_cons q_int (qa_cons q_int (qa_cons (q_sub q_int (q_blt call_len bf_len rfl B.len PySem.boot_len (qa_cons (q_var 4) qa_nil))) qa_nil))))))) (q_call C c__law_draw (by decide) rfl (qa_cons (q_var 0) (qa_cons q_int qa_nil)))) qa_nil)) (qg_name (i := 5) C.nd rfl (by first | exact Or.inl rfl | exact Or.inr rfl)) (qs_one (q_set (i := 4) C.nd rfl (by first | exact Or.inl rfl | exact Or.inr rfl) (q_add (q_var 4) (q_ix (q_var 1) (q_call C c__law_draw (by decide) rfl (qa_cons (q_var 0) (qa_cons q_int qa_nil)))))))))
  (qs_one (q_expr (q_append (q_var 2) (qa_cons (q_var 4) qa_nil)))))))
  (qs_one (q_ret (q_tup (qa_cons (q_ix (q_var 2) q_int) (qa_cons (q_ix (q_var 2) q_int) (qa_cons (q_eq C.room (q_call C c__law_draw (by decide) rfl (qa_cons (q_var 0) (qa_cons q_int qa_nil))) q_int) qa_nil)))))))))) p__law_style
theorem w__law_commas {f : Addr} {fd : FuncData} (F0 : Fun K "_law_commas" "_law_commas" s__law_commas f fd) (hm : mg "_law_commas" = some (.ref f)) (B : Blt mg)  : Cal P w K mg base "_law_commas" 1 ["_law_text"] F__law_commas :=
  cal_of (b := b__law_commas) F0 hm (F0.binds fun _ _ _ _ _ _ us hl => match us, hl with | [_], _ => rfl) sc__law_commas (by decide) (by unfold F__law_commas; exact len1) (fun cdv A outer s H E C => by
    exact (qs_cons (q_set (i := 1) C.nd rfl (by first | exact Or.inl rfl | exact Or.inr rfl) q_str)
  (qs_cons (q_join (q_if (qt_eq C.room (q_sl (q_var 0) qo_none (qo_some q_int)) q_str) (qs_cons (q_set (i := 1) C.nd rfl (by first | exact Or.inl rfl | exact Or.inr rfl) q_str)
  (qs_one (q_set (i := 0) C.nd rfl (by first | exact Or.inl rfl | exact Or.inr rfl) (q_sl (q_var 0) (qo_some q_int) qo_none)))) qs_nil))
  (qs_cons (q_set (i := 2) C.nd rfl (by first | exact Or.inl rfl | exact Or.inr rfl) (q_split (q_var 0) (qa_cons q_str qa_nil)))
  (qs_cons (q_set (i := 3) C.nd rfl (by first | exact Or.inl rfl | exact Or.inr rfl) (q_ix (q_var 2) q_int))
  (qs_cons (q_set (i := 4) C.nd rfl (by first | exact Or.inl rfl | exact Or.inr rfl) (q_lst qa_nil))
  (qs_cons (q_while PassesOwn.never (qt_gt (q_blt call_len bf_len rfl B.len PySem.boot_len (qa_cons (q_var 3) qa_nil)) q_int) (qs_cons (q_expr (q_insert (q_var 4) (qa_cons q_int (qa_cons (q_sl (q_var 3) (qo_some (q_sub (q_blt call_len bf_len rfl B.len PySem.boot_len (qa_cons (q_var 3) qa_nil)) q_int)) qo_none) qa_nil))))
  (qs_one (q_set (i := 3) C.nd rfl (by first | exact Or.inl rfl | exact Or.inr rfl) (q_sl (q_var 3) qo_none (qo_some (q_sub (q_blt call_len bf_len rfl B.len PySem.boot_len (qa_cons (q_var 3) qa_nil)) q_int)))))))
  (qs_cons (q_expr (q_insert (q_var 4) (qa_cons q_int (qa_cons (q_var 3) qa_nil))))
  (qs_cons (q_asg (q_sjoin q_str (qa_cons (q_var 4) qa_nil)) (qg_sub (q_var 2) q_int))
  (qs_one (q_ret (q_add (q_var 1) (q_sjoin q_str (qa_cons (q_var 2) qa_nil)))))))))))))) p__law_commas
theorem w__law_label {f : Addr} {fd : FuncData} (F0 : Fun K "_law_label" "_law_label" s__law_label f fd) (hm : mg "_law_label" = some (.ref f)) (B : Blt mg) (c__law_fraction_text : Cal P w K mg base "_law_fraction_text" 1 ["_law_a"] F__law_fraction_text) (c__law_commas : Cal P w K mg base "_law_commas" 1 ["_law_text"] F__law_commas) : Cal P w K mg base "_law_label" 2 ["_law_number_here", "_law_style_here"] F__law_label :=
  cal_of (b := b__law_label) F0 hm (F0.binds fun _ _ _ _ _ _ us hl => match us, hl with | [_, _], _ => rfl) sc__law_label (by decide) (by unfold F__law_label; exact len2) (fun cdv A outer s H E C => by
    exact (qs_cons (q_set (i := 2) C.nd rfl (by first | exact Or.inl rfl | exact Or.inr rfl) (q_call C c__law_fraction_text (by decide) rfl (qa_cons (q_var 0) qa_nil)))
  (qs_cons (q_join (q_if (qt_w (qw_and (qt_tru (q_ix (q_var 1) q_int)) (qw_and1 (qt_notIn C.room q_str (q_var 2))))) (qs_one (q_set (i := 2) C.nd rfl (by first | exact Or.inl rfl | exact Or.inr rfl) (q_call C c__law_commas (by decide) rfl (qa_cons (q_var 2) qa_nil)))) qs_nil))
  (qs_one (q_ret (q_add (q_add (q_ix (q_var 1) q_int) (q_var 2)) (q_ix (q_var 1) q_int))))))) p__law_label
theorem w__law_read_label {f : Addr} {fd : FuncData} (F0 : Fun K "_law_read_label" "_law_read_label" s__law_read_label f fd) (hm : mg "_law_read_label" = some (.ref f)) (B : Blt mg) (c__law_read : Cal P w K mg base "_law_read" 3 ["_law_text"] F__law_read) (c__law_label : Cal P w K mg base "_law_label" 2 ["_law_number_here", "_law_style_here"] F__law_label) : Cal P w K mg base "_law_read_label" 4 ["_law_text", "_law_style_here"] F__law_read_label :=
  cal_of (b := b__law_read_label) F0 hm (F0.binds fun _ _ _ _ _ _ us hl => match us, hl with | [_, _], _ => rfl) sc__law_read_label (by decide) (by unfold F__law_read_label; exact len2) (fun cdv A outer s H E C => by
    exact (qs_cons (q_set (i := 2) C.nd rfl (by first | exact Or.inl rfl | exact Or.inr rfl) (q_sub (q_sub (q_blt call_len bf_len rfl B.len PySem.boot_len (qa_cons (q_var 0) qa_nil)) (q_blt call_len bf_len rfl B.len PySem.boot_len (qa_cons (q_ix (q_var 1) q_int) qa_nil))) (q_blt call_len bf_len rfl B.len PySem.boot_len (qa_cons (q_ix (q_var 1) q_int) qa_nil))))
  (qs_cons (q_if (qt_w (qw_or (qt_lt (q_var 2) q_int) (qw_or (qt_ne C.room (q_sl (q_var 0) qo_none (qo_some (q_blt call_len bf_len rfl B.len PySem.boot_len (qa_cons (q_ix (q_var 1) q_int) qa_nil)))) (q_ix (q_var 1) q_int)) (qw_or1 (qt_ne C.room (q_sl (q_var 0) (qo_some (q_sub (q_blt call_len bf_len rfl B.len PySem.boot_len (qa_cons (q_var 0) qa_nil)) (q_blt call_len bf_len rfl B.len PySem.boot_len (qa_cons (q_ix (q_var 1) q_int) qa_nil)))) qo_none) (q_ix (q_var 1) q_int)))))) (qs_one (q_ret q_non)) qs_nil)
  (qs_consU (psu_sl (i := 3) C.nd rfl (by first | exact Or.inl rfl | exact Or.inr rfl) (q_var 0) rfl B.len PySem.boot_len (qa_cons (q_ix (q_var 1) q_int) qa_nil) (qo_some (q_add (q_blt call_len bf_len rfl B.len PySem.boot_len (qa_cons (q_ix (q_var 1) q_int) qa_nil)) (q_var 2))))
  (qsst_cons (qst_join (qst_if_repl (i := 3) (qt_tru (q_ix (q_var 1) q_int)) C.nd rfl (by first | exact Or.inl rfl | exact Or.inr rfl) (q_var 3)))
  (qsst_cons (qst_of (q_set (i := 4) C.nd rfl (by first | exact Or.inl rfl | exact Or.inr rfl) (q_call C c__law_read (by decide) rfl (qa_cons (q_var 3) qa_nil))))
  (qsst_cons (qst_of (q_if (qt_w (qw_and (qt_notN (q_var 4)) (qw_and1 (qt_eq C.room (q_call C c__law_label (by decide) rfl (qa_cons (q_var 4) (qa_cons (q_var 1) qa_nil))) (q_var 0))))) (qs_one (q_ret (q_var 4))) qs_nil))
  (qsst_one (qst_of (q_ret q_non)))))))))) p__law_read_label
theorem w_law {f : Addr} {fd : FuncData} (F0 : Fun K "law" "law" s_law f fd) (hm : mg "law" = some (.ref f)) (B : Blt mg) (c__law_tape : Cal P w K mg base "_law_tape" 1 ["_law_script"] F__law_tape) (c__law_fraction : Cal P w K mg base "_law_fraction" 4 ["_law_tape_here"] F__law_fraction) (c__law_style : Cal P w K mg base "_law_style" 2 ["_law_tape_here"] F__law_style) (c__law_label : Cal P w K mg base "_law_label" 2 ["_law_number_here", "_law_style_here"] F__law_label) (c_number_label : Cal P w K mg base "number_label" 3 ["fraction", "style"] F_number_label) (c_read_label : Cal P w K mg base "read_label" 4 ["text", "style"] F_read_label) (c__law_read_label : Cal P w K mg base "_law_read_label" 4 ["_law_text", "_law_style_here"] F__law_read_label) (c__law_draw : Cal P w K mg base "_law_draw" 1 ["_law_tape_here", "_law_many"] F__law_draw) (c__law_spoilt : Cal P w K mg base "_law_spoilt" 2 ["_law_tape_here", "_law_text"] F__law_spoilt) : Cal P w K mg base "law" 5 ["_law_script"] F_law :=
  cal_of (b := b_law) F0 hm (F0.binds fun _ _ _ _ _ _ us hl => match us, hl with | [_], _ => rfl) sc_law (by decide) (by unfold F_law; exact len1) (fun cdv A outer s H E C => by
    exact (qs_cons (q_set (i := 1) C.nd rfl (by first | exact Or.inl rfl | exact Or.inr rfl) (q_call C c__law_tape (by decide) rfl (qa_cons (q_var 0) qa_nil)))
  (qs_cons (q_set (i := 2) C.nd rfl (by first | exact Or.inl rfl | exact Or.inr rfl) (q_call C c__law_fraction (by decide) rfl (qa_cons (q_var 1) qa_nil)))
  (qs_cons (q_set (i := 3) C.nd rfl (by first | exact Or.inl rfl | exact Or.inr rfl) (q_call C c__law_style (by decide) rfl (qa_cons (q_var 1) qa_nil)))
  (qs_cons (q_set (i := 4) C.nd rfl (by first | exact Or.inl rfl | exact Or.inr rfl) (q_call C c__law_label (by decide) rfl (qa_cons (q_var 2) (qa_cons (q_var 3) qa_nil))))
  (qs_cons (q_if (qt_ne C.room (q_blt (call_repr C) bf_repr rfl B.repr boot_repr (qa_cons (q_call C c_number_label (by decide) rfl (qa_cons (q_var 2) (qa_cons (q_var 3) qa_nil))) qa_nil)) (q_blt (call_repr C) bf_repr rfl B.repr boot_repr (qa_cons (q_var 4) qa_nil))) (qs_one (q_ret q_bl)) qs_nil)
  (qs_cons (q_set (i := 4) C.nd rfl (by first | exact Or.inl rfl | exact Or.inr rfl) (q_sl (q_var 4) qo_none (qo_some q_int)))
  (qs_cons (q_if (qt_ne C.room (q_blt (call_repr C) bf_repr rfl B.repr boot_repr (qa_cons (q_call C c_read_label (by decide) rfl (qa_cons (q_var 4) (qa_cons (q_var 3) qa_nil))) qa_nil)) (q_blt (call_repr C) bf_repr rfl B.repr boot_repr (qa_cons (q_call C c__law_read_label (by decide) rfl (qa_cons (q_var 4) (qa_cons (q_var 3) qa_nil))) qa_nil))) (qs_one (q_ret q_bl)) qs_nil)
  (qs_cons (q_join (q_for PassesOwn.never rfl (qi_rng1 rfl B.range (qa_cons (q_ix (q_lst (qa_cons q_int (qa_cons q_int (qa_cons q_int (qa_cons q_int qa_nil))))) (q_call C c__law_draw (by decide) rfl (qa_cons (q_var 1) (qa_cons q_int qa_nil)))) qa_nil)) (qg_name (i := 5) C.nd rfl (by first | exact Or.inl rfl | exact Or.inr rfl)) (qs_one (q_set (i := 4) C.nd rfl (by first | exact Or.inl rfl | exact Or.inr rfl) (q_call C c__law_spoilt (by decide) rfl (qa_cons (q_var 1) (qa_cons (q_var 4) qa_nil)))))))
  (qs_cons (q_join (q_if (qt_eq C.room (q_call C c__law_draw (by decide) rfl (qa_cons (q_var 1) (qa_cons q_int qa_nil))) q_int) (qs_one (q_set (i := 3) C.nd rfl (by first | exact Or.inl rfl | exact Or.inr rfl) (q_tup (qa_cons (q_ix (q_var 3) q_int) (qa_cons (q_ix (q_var 3) q_int) (qa_cons (q_not (q_ix (q_var 3) q_int)) qa_nil)))))) qs_nil))
  (qs_cons (q_join (q_if (qt_eq C.room (q_call C c__law_draw (by decide) rfl (qa_cons (q_var 1) (qa_cons q_int qa_nil))) q_int) (qs_one (q_set (i := 4) C.nd rfl (by first | exact Or.inl rfl | exact Or.inr rfl) (q_add (q_ix (q_var 3) q_int) (q_ix (q_var 3) q_int)))) qs_nil))
  (qs_cons (q_set (i := 4) C.nd rfl (by first | exact Or.inl rfl | exact Or.inr rfl) (q_sl (q_var 4) qo_none (qo_some q_int)))
  (qs_one (q_ret (q_eq C.room (q_blt (call_repr C) bf_repr rfl B.repr boot_repr (qa_cons (q_call C c_read_label (by decide) rfl (qa_cons (q_var 4) (qa_cons (q_var 3) qa_nil))) qa_nil)) (q_blt (call_repr C) bf_repr rfl B.repr boot_repr (qa_cons (q_call C c__law_read_label (by decide) rfl (qa_cons (q_var 4) (qa_cons (q_var 3) qa_nil))) qa_nil))))))))))))))))) p_law
end
set_option maxHeartbeats 0 in
theorem all_mk {l : PySem.W.OpenLaw} {w : World} {K : PySem.W.Frag} {h : Heap} {mg : Str → Option Value} {fa : Addr} (X : K.In h) (G : h.Ns mainGlobals mg) (hfa : mg "law" = some (.ref fa)) {f0 : Addr} {oc0 kV0 dc0 pm0 cd0 ct0 : Value} {od0 an0 : Option Addr} {sl0 : Array (Option Value)} {f1 : Addr} {oc1 kV1 dc1 pm1 cd1 ct1 : Value} {od1 an1 : Option Addr} {sl1 : Array (Option Value)} {f2 : Addr} {oc2 kV2 dc2 pm2 cd2 ct2 : Value} {od2 an2 : Option Addr} {sl2 : Array (Option Value)} {f3 : Addr} {oc3 kV3 dc3 pm3 cd3 ct3 : Value} {od3 an3 : Option Addr} {sl3 : Array (Option Value)} {f4 : Addr} {oc4 kV4 dc4 pm4 cd4 ct4 : Value} {od4 an4 : Option Addr} {sl4 : Array (Option Value)} {f5 : Addr} {oc5 kV5 dc5 pm5 cd5 ct5 : Value} {od5 an5 : Option Addr} {sl5 : Array (Option Value)} {f6 : Addr} {oc6 kV6 dc6 pm6 cd6 ct6 : Value} {od6 an6 : Option Addr} {sl6 : Array (Option Value)} {f7 : Addr} {oc7 kV7 dc7 pm7 cd7 ct7 : Value} {od7 an7 : Option Addr} {sl7 : Array (Option Value)} {f8 : Addr} {oc8 kV8 dc8 pm8 cd8 ct8 : Value} {od8 an8 : Option Addr} {sl8 : Array (Option Value)} {f9 : Addr} {oc9 kV9 dc9 pm9 cd9 ct9 : Value} {od9 an9 : Option Addr} {sl9 : Array (Option Value)} {f10 : Addr} {oc10 kV10 dc10 pm10 cd10 ct10 : Value} {od10 an10 : Option Addr} {sl10 : Array (Option Value)} {f11 : Addr} {oc11 kV11 dc11 pm11 cd11 ct11 : Value} {od11 an11 : Option Addr} {sl11 : Array (Option Value)} {f12 : Addr} {oc12 kV12 dc12 pm12 cd12 ct12 : Value} {od12 an12 : Option Addr} {sl12 : Array (Option Value)} {f13 : Addr} {oc13 kV13 dc13 pm13 cd13 ct13 : Value} {od13 an13 : Option Addr} {sl13 : Array (Option Value)} {f14 : Addr} {oc14 kV14 dc14 pm14 cd14 ct14 : Value} {od14 an14 : Option Addr} {sl14 : Array (Option Value)} {f15 : Addr} {oc15 kV15 dc15 pm15 cd15 ct15 : Value} {od15 an15 : Option Addr} {sl15 : Array (Option Value)} {f16 : Addr} {oc16 kV16 dc16 pm16 cd16 ct16 : Value} {od16 an16 : Option Addr} {sl16 : Array (Option Value)} {f17 : Addr} {oc17 kV17 dc17 pm17 cd17 ct17 : Value} {od17 an17 : Option Addr} {sl17 : Array (Option Value)} {f18 : Addr} {oc18 kV18 dc18 pm18 cd18 ct18 : Value} {od18 an18 : Option Addr} {sl18 : Array (Option Value)} {f19 : Addr} {oc19 kV19 dc19 pm19 cd19 ct19 : Value} {od19 an19 : Option Addr} {sl19 : Array (Option Value)} {f20 : Addr} {oc20 kV20 dc20 pm20 cd20 ct20 : Value} {od20 an20 : Option Addr} {sl20 : Array (Option Value)} {f21 : Addr} {oc21 kV21 dc21 pm21 cd21 ct21 : Value} {od21 an21 : Option Addr} {sl21 : Array (Option Value)} {f22 : Addr} {oc22 kV22 dc22 pm22 cd22 ct22 : Value} {od22 an22 : Option Addr} {sl22 : Array (Option Value)} {f23 : Addr} {oc23 kV23 dc23 pm23 cd23 ct23 : Value} {od23 an23 : Option Addr} {sl23 : Array (Option Value)} {f24 : Addr} {oc24 kV24 dc24 pm24 cd24 ct24 : Value} {od24 an24 : Option Addr} {sl24 : Array (Option Value)} {t_DIGITS : Tok}
    (a0 : PySem.W.nsIn K mainGlobals "lowest" = some (some (.ref f0)))
    (l0 : K.lookup f0 = some ⟨oc0, od0, .func (PySem.W.fnOf "lowest" "lowest" (defArgs s_lowest) (defBody s_lowest) (defScope s_lowest) .none kV0 dc0 pm0 an0 cd0 ct0), sl0⟩)
    (c0 : PySem.W.codeIn K cd0 "lowest" = true)
    (k0 : PySem.W.keepIn K (.ref f0) = true)
    (a1 : PySem.W.nsIn K mainGlobals "power_of_ten" = some (some (.ref f1)))
    (l1 : K.lookup f1 = some ⟨oc1, od1, .func (PySem.W.fnOf "power_of_ten" "power_of_ten" (defArgs s_power_of_ten) (defBody s_power_of_ten) (defScope s_power_of_ten) .none kV1 dc1 pm1 an1 cd1 ct1), sl1⟩)
    (c1 : PySem.W.codeIn K cd1 "power_of_ten" = true)
    (k1 : PySem.W.keepIn K (.ref f1) = true)
    (a2 : PySem.W.nsIn K mainGlobals "decimal_places" = some (some (.ref f2)))
    (l2 : K.lookup f2 = some ⟨oc2, od2, .func (PySem.W.fnOf "decimal_places" "decimal_places" (defArgs s_decimal_places) (defBody s_decimal_places) (defScope s_decimal_places) .none kV2 dc2 pm2 an2 cd2 ct2), sl2⟩)
    (c2 : PySem.W.codeIn K cd2 "decimal_places" = true)
    (k2 : PySem.W.keepIn K (.ref f2) = true)
    (a3 : PySem.W.nsIn K mainGlobals "fraction_text" = some (some (.ref f3)))
    (l3 : K.lookup f3 = some ⟨oc3, od3, .func (PySem.W.fnOf "fraction_text" "fraction_text" (defArgs s_fraction_text) (defBody s_fraction_text) (defScope s_fraction_text) .none kV3 dc3 pm3 an3 cd3 ct3), sl3⟩)
    (c3 : PySem.W.codeIn K cd3 "fraction_text" = true)
    (k3 : PySem.W.keepIn K (.ref f3) = true)
    (a4 : PySem.W.nsIn K mainGlobals "has_digits" = some (some (.ref f4)))
    (l4 : K.lookup f4 = some ⟨oc4, od4, .func (PySem.W.fnOf "has_digits" "has_digits" (defArgs s_has_digits) (defBody s_has_digits) (defScope s_has_digits) .none kV4 dc4 pm4 an4 cd4 ct4), sl4⟩)
    (c4 : PySem.W.codeIn K cd4 "has_digits" = true)
    (k4 : PySem.W.keepIn K (.ref f4) = true)
    (a5 : PySem.W.nsIn K mainGlobals "read_fraction" = some (some (.ref f5)))
    (l5 : K.lookup f5 = some ⟨oc5, od5, .func (PySem.W.fnOf "read_fraction" "read_fraction" (defArgs s_read_fraction) (defBody s_read_fraction) (defScope s_read_fraction) .none kV5 dc5 pm5 an5 cd5 ct5), sl5⟩)
    (c5 : PySem.W.codeIn K cd5 "read_fraction" = true)
    (k5 : PySem.W.keepIn K (.ref f5) = true)
    (a6 : PySem.W.nsIn K mainGlobals "with_commas" = some (some (.ref f6)))
    (l6 : K.lookup f6 = some ⟨oc6, od6, .func (PySem.W.fnOf "with_commas" "with_commas" (defArgs s_with_commas) (defBody s_with_commas) (defScope s_with_commas) .none kV6 dc6 pm6 an6 cd6 ct6), sl6⟩)
    (c6 : PySem.W.codeIn K cd6 "with_commas" = true)
    (k6 : PySem.W.keepIn K (.ref f6) = true)
    (a7 : PySem.W.nsIn K mainGlobals "number_label" = some (some (.ref f7)))
    (l7 : K.lookup f7 = some ⟨oc7, od7, .func (PySem.W.fnOf "number_label" "number_label" (defArgs s_number_label) (defBody s_number_label) (defScope s_number_label) .none kV7 dc7 pm7 an7 cd7 ct7), sl7⟩)
    (c7 : PySem.W.codeIn K cd7 "number_label" = true)
    (k7 : PySem.W.keepIn K (.ref f7) = true)
    (a8 : PySem.W.nsIn K mainGlobals "read_label" = some (some (.ref f8)))
    (l8 : K.lookup f8 = some ⟨oc8, od8, .func (PySem.W.fnOf "read_label" "read_label" (defArgs s_read_label) (defBody s_read_label) (defScope s_read_label) .none kV8 dc8 pm8 an8 cd8 ct8), sl8⟩)
    (c8 : PySem.W.codeIn K cd8 "read_label" = true)
    (k8 : PySem.W.keepIn K (.ref f8) = true)
    (a9 : PySem.W.nsIn K mainGlobals "_law_tape" = some (some (.ref f9)))
    (l9 : K.lookup f9 = some ⟨oc9, od9, .func (PySem.W.fnOf "_law_tape" "_law_tape" (defArgs s__law_tape) (defBody s__law_tape) (defScope s__law_tape) .none kV9 dc9 pm9 an9 cd9 ct9), sl9⟩)
    (c9 : PySem.W.codeIn K cd9 "_law_tape" = true)
    (k9 : PySem.W.keepIn K (.ref f9) = true)
    (a10 : PySem.W.nsIn K mainGlobals "_law_draw" = some (some (.ref f10)))
    (l10 : K.lookup f10 = some ⟨oc10, od10, .func (PySem.W.fnOf "_law_draw" "_law_draw" (defArgs s__law_draw) (defBody s__law_draw) (defScope s__law_draw) .none kV10 dc10 pm10 an10 cd10 ct10), sl10⟩)
    (c10 : PySem.W.codeIn K cd10 "_law_draw" = true)
    (k10 : PySem.W.keepIn K (.ref f10) = true)
    (a11 : PySem.W.nsIn K mainGlobals "_law_gcd" = some (some (.ref f11)))
    (l11 : K.lookup f11 = some ⟨oc11, od11, .func (PySem.W.fnOf "_law_gcd" "_law_gcd" (defArgs s__law_gcd) (defBody s__law_gcd) (defScope s__law_gcd) .none kV11 dc11 pm11 an11 cd11 ct11), sl11⟩)
    (c11 : PySem.W.codeIn K cd11 "_law_gcd" = true)
    (k11 : PySem.W.keepIn K (.ref f11) = true)
    (a12 : PySem.W.nsIn K mainGlobals "_law_ratio" = some (some (.ref f12)))
    (l12 : K.lookup f12 = some ⟨oc12, od12, .func (PySem.W.fnOf "_law_ratio" "_law_ratio" (defArgs s__law_ratio) (defBody s__law_ratio) (defScope s__law_ratio) .none kV12 dc12 pm12 an12 cd12 ct12), sl12⟩)
    (c12 : PySem.W.codeIn K cd12 "_law_ratio" = true)
    (k12 : PySem.W.keepIn K (.ref f12) = true)
    (a13 : PySem.W.nsIn K mainGlobals "_law_number" = some (some (.ref f13)))
    (l13 : K.lookup f13 = some ⟨oc13, od13, .func (PySem.W.fnOf "_law_number" "_law_number" (defArgs s__law_number) (defBody s__law_number) (defScope s__law_number) .none kV13 dc13 pm13 an13 cd13 ct13), sl13⟩)
    (c13 : PySem.W.codeIn K cd13 "_law_number" = true)
    (k13 : PySem.W.keepIn K (.ref f13) = true)
    (a14 : PySem.W.nsIn K mainGlobals "_law_small" = some (some (.ref f14)))
    (l14 : K.lookup f14 = some ⟨oc14, od14, .func (PySem.W.fnOf "_law_small" "_law_small" (defArgs s__law_small) (defBody s__law_small) (defScope s__law_small) .none kV14 dc14 pm14 an14 cd14 ct14), sl14⟩)
    (c14 : PySem.W.codeIn K cd14 "_law_small" = true)
    (k14 : PySem.W.keepIn K (.ref f14) = true)
    (a15 : PySem.W.nsIn K mainGlobals "_law_large" = some (some (.ref f15)))
    (l15 : K.lookup f15 = some ⟨oc15, od15, .func (PySem.W.fnOf "_law_large" "_law_large" (defArgs s__law_large) (defBody s__law_large) (defScope s__law_large) .none kV15 dc15 pm15 an15 cd15 ct15), sl15⟩)
    (c15 : PySem.W.codeIn K cd15 "_law_large" = true)
    (k15 : PySem.W.keepIn K (.ref f15) = true)
    (a16 : PySem.W.nsIn K mainGlobals "_law_fraction" = some (some (.ref f16)))
    (l16 : K.lookup f16 = some ⟨oc16, od16, .func (PySem.W.fnOf "_law_fraction" "_law_fraction" (defArgs s__law_fraction) (defBody s__law_fraction) (defScope s__law_fraction) .none kV16 dc16 pm16 an16 cd16 ct16), sl16⟩)
    (c16 : PySem.W.codeIn K cd16 "_law_fraction" = true)
    (k16 : PySem.W.keepIn K (.ref f16) = true)
    (a17 : PySem.W.nsIn K mainGlobals "_law_fraction_text" = some (some (.ref f17)))
    (l17 : K.lookup f17 = some ⟨oc17, od17, .func (PySem.W.fnOf "_law_fraction_text" "_law_fraction_text" (defArgs s__law_fraction_text) (defBody s__law_fraction_text) (defScope s__law_fraction_text) .none kV17 dc17 pm17 an17 cd17 ct17), sl17⟩)
    (c17 : PySem.W.codeIn K cd17 "_law_fraction_text" = true)
    (k17 : PySem.W.keepIn K (.ref f17) = true)
    (a18 : PySem.W.nsIn K mainGlobals "_law_read" = some (some (.ref f18)))
    (l18 : K.lookup f18 = some ⟨oc18, od18, .func (PySem.W.fnOf "_law_read" "_law_read" (defArgs s__law_read) (defBody s__law_read) (defScope s__law_read) .none kV18 dc18 pm18 an18 cd18 ct18), sl18⟩)
    (c18 : PySem.W.codeIn K cd18 "_law_read" = true)
    (k18 : PySem.W.keepIn K (.ref f18) = true)
    (a19 : PySem.W.nsIn K mainGlobals "_law_spoilt" = some (some (.ref f19)))
    (l19 : K.lookup f19 = some ⟨oc19, od19, .func (PySem.W.fnOf "_law_spoilt" "_law_spoilt" (defArgs s__law_spoilt) (defBody s__law_spoilt) (defScope s__law_spoilt) .none kV19 dc19 pm19 an19 cd19 ct19), sl19⟩)
    (c19 : PySem.W.codeIn K cd19 "_law_spoilt" = true)
    (k19 : PySem.W.keepIn K (.ref f19) = true)
    (a20 : PySem.W.nsIn K mainGlobals "_law_style" = some (some (.ref f20)))
    (l20 : K.lookup f20 = some ⟨oc20, od20, .func (PySem.W.fnOf "_law_style" "_law_style" (defArgs s__law_style) (defBody s__law_style) (defScope s__law_style) .none kV20 dc20 pm20 an20 cd20 ct20), sl20⟩)
    (c20 : PySem.W.codeIn K cd20 "_law_style" = true)
    (k20 : PySem.W.keepIn K (.ref f20) = true)
    (a21 : PySem.W.nsIn K mainGlobals "_law_commas" = some (some (.ref f21)))
    (l21 : K.lookup f21 = some ⟨oc21, od21, .func (PySem.W.fnOf "_law_commas" "_law_commas" (defArgs s__law_commas) (defBody s__law_commas) (defScope s__law_commas) .none kV21 dc21 pm21 an21 cd21 ct21), sl21⟩)
    (c21 : PySem.W.codeIn K cd21 "_law_commas" = true)
    (k21 : PySem.W.keepIn K (.ref f21) = true)
    (a22 : PySem.W.nsIn K mainGlobals "_law_label" = some (some (.ref f22)))
    (l22 : K.lookup f22 = some ⟨oc22, od22, .func (PySem.W.fnOf "_law_label" "_law_label" (defArgs s__law_label) (defBody s__law_label) (defScope s__law_label) .none kV22 dc22 pm22 an22 cd22 ct22), sl22⟩)
    (c22 : PySem.W.codeIn K cd22 "_law_label" = true)
    (k22 : PySem.W.keepIn K (.ref f22) = true)
    (a23 : PySem.W.nsIn K mainGlobals "_law_read_label" = some (some (.ref f23)))
    (l23 : K.lookup f23 = some ⟨oc23, od23, .func (PySem.W.fnOf "_law_read_label" "_law_read_label" (defArgs s__law_read_label) (defBody s__law_read_label) (defScope s__law_read_label) .none kV23 dc23 pm23 an23 cd23 ct23), sl23⟩)
    (c23 : PySem.W.codeIn K cd23 "_law_read_label" = true)
    (k23 : PySem.W.keepIn K (.ref f23) = true)
    (a24 : PySem.W.nsIn K mainGlobals "law" = some (some (.ref f24)))
    (l24 : K.lookup f24 = some ⟨oc24, od24, .func (PySem.W.fnOf "law" "law" (defArgs s_law) (defBody s_law) (defScope s_law) .none kV24 dc24 pm24 an24 cd24 ct24), sl24⟩)
    (c24 : PySem.W.codeIn K cd24 "law" = true)
    (k24 : PySem.W.keepIn K (.ref f24) = true)
    (z_len : PySem.W.nsIn K mainGlobals "len" = some none)
    (z_int : PySem.W.nsIn K mainGlobals "int" = some none)
    (z_abs : PySem.W.nsIn K mainGlobals "abs" = some none)
    (z_min : PySem.W.nsIn K mainGlobals "min" = some none)
    (z_max : PySem.W.nsIn K mainGlobals "max" = some none)
    (z_sum : PySem.W.nsIn K mainGlobals "sum" = some none)
    (z_str : PySem.W.nsIn K mainGlobals "str" = some none)
    (z_repr : PySem.W.nsIn K mainGlobals "repr" = some none)
    (z_list : PySem.W.nsIn K mainGlobals "list" = some none)
    (z_tuple : PySem.W.nsIn K mainGlobals "tuple" = some none)
    (z_range : PySem.W.nsIn K mainGlobals "range" = some none)
    (z_bool : PySem.W.nsIn K mainGlobals "bool" = some none)
    (z_reversed : PySem.W.nsIn K mainGlobals "reversed" = some none)
    (z_enumerate : PySem.W.nsIn K mainGlobals "enumerate" = some none)
    (z_zip : PySem.W.nsIn K mainGlobals "zip" = some none)
    (z_sorted : PySem.W.nsIn K mainGlobals "sorted" = some none)
    (z_any : PySem.W.nsIn K mainGlobals "any" = some none)
    (z_all : PySem.W.nsIn K mainGlobals "all" = some none)
    (z_isinstance : PySem.W.nsIn K mainGlobals "isinstance" = some none)
    (z_set : PySem.W.nsIn K mainGlobals "set" = some none)
    (z_dict : PySem.W.nsIn K mainGlobals "dict" = some none)
    (g_gcd : PySem.W.nsIn K mainGlobals "gcd" = some (some (.builtin "math.gcd")))
    (g_DIGITS : PySem.W.nsIn K mainGlobals "DIGITS" = some (some (.str "0123456789" t_DIGITS))) :
    ∃ fd : FuncData, (∀ (s : Shared) (v : Value), BindsTo s fd ⟨[v], []⟩ [("_law_script", v)]) ∧ ∀ base : Heap, K.In base → base.Ns mainGlobals mg → FnG l.prog w K mg base 5 fa fd ["_law_script"] (lF ⟨K, l.prog, w⟩ F_law) := by
  have e := hfa.symm.trans (PySem.W.mg_of X G a24)
  cases e
  have B : Blt mg := ⟨PySem.W.mg_none_of X G z_len, PySem.W.mg_none_of X G z_int, PySem.W.mg_none_of X G z_abs, PySem.W.mg_none_of X G z_min, PySem.W.mg_none_of X G z_max, PySem.W.mg_none_of X G z_sum, PySem.W.mg_none_of X G z_str, PySem.W.mg_none_of X G z_repr, PySem.W.mg_none_of X G z_list, PySem.W.mg_none_of X G z_tuple, PySem.W.mg_none_of X G z_range, PySem.W.mg_none_of X G z_bool, PySem.W.mg_none_of X G z_reversed, PySem.W.mg_none_of X G z_enumerate, PySem.W.mg_none_of X G z_zip, PySem.W.mg_none_of X G z_sorted, PySem.W.mg_none_of X G z_any, PySem.W.mg_none_of X G z_all, PySem.W.mg_none_of X G z_isinstance, PySem.W.mg_none_of X G z_set, PySem.W.mg_none_of X G z_dict⟩
  refine ⟨PySem.W.fnOf "law" "law" (defArgs s_law) (defBody s_law) (defScope s_law) .none kV24 dc24 pm24 an24 cd24 ct24, fun s v => .of_eq rfl, fun base _ _ => ?_⟩
  have C_lowest : Cal l.prog w K mg base "lowest" 1 ["numerator", "denominator"] F_lowest := w_lowest (fun_mk (st := s_lowest) l0 c0 k0) (PySem.W.mg_of X G a0) B (PySem.W.mg_of X G g_gcd)
  have C_power_of_ten : Cal l.prog w K mg base "power_of_ten" 1 ["exponent"] F_power_of_ten := w_power_of_ten (fun_mk (st := s_power_of_ten) l1 c1 k1) (PySem.W.mg_of X G a1) B 
  have C_decimal_places : Cal l.prog w K mg base "decimal_places" 1 ["denominator"] F_decimal_places := w_decimal_places (fun_mk (st := s_decimal_places) l2 c2 k2) (PySem.W.mg_of X G a2) B 
  have C_fraction_text : Cal l.prog w K mg base "fraction_text" 2 ["a"] F_fraction_text := w_fraction_text (fun_mk (st := s_fraction_text) l3 c3 k3) (PySem.W.mg_of X G a3) B C_decimal_places C_power_of_ten
  have C_has_digits : Cal l.prog w K mg base "has_digits" 1 ["text"] F_has_digits := w_has_digits (fun_mk (st := s_has_digits) l4 c4 k4) (PySem.W.mg_of X G a4) B (PySem.W.mg_of X G g_DIGITS)
  have C_read_fraction : Cal l.prog w K mg base "read_fraction" 3 ["text"] F_read_fraction := w_read_fraction (fun_mk (st := s_read_fraction) l5 c5 k5) (PySem.W.mg_of X G a5) B C_has_digits C_power_of_ten C_lowest C_fraction_text
  have C_with_commas : Cal l.prog w K mg base "with_commas" 1 ["text"] F_with_commas := w_with_commas (fun_mk (st := s_with_commas) l6 c6 k6) (PySem.W.mg_of X G a6) B 
  have C_number_label : Cal l.prog w K mg base "number_label" 3 ["fraction", "style"] F_number_label := w_number_label (fun_mk (st := s_number_label) l7 c7 k7) (PySem.W.mg_of X G a7) B C_fraction_text C_with_commas
  have C_read_label : Cal l.prog w K mg base "read_label" 4 ["text", "style"] F_read_label := w_read_label (fun_mk (st := s_read_label) l8 c8 k8) (PySem.W.mg_of X G a8) B C_read_fraction C_number_label
  have C__law_tape : Cal l.prog w K mg base "_law_tape" 1 ["_law_script"] F__law_tape := tape_abs (w__law_tape (fun_mk (st := s__law_tape) l9 c9 k9) (PySem.W.mg_of X G a9) B )
  have C__law_draw : Cal l.prog w K mg base "_law_draw" 1 ["_law_tape_here", "_law_many"] F__law_draw := draw_abs (w__law_draw (fun_mk (st := s__law_draw) l10 c10 k10) (PySem.W.mg_of X G a10) B )
  have C__law_gcd : Cal l.prog w K mg base "_law_gcd" 1 ["_law_first", "_law_second"] F__law_gcd := w__law_gcd (fun_mk (st := s__law_gcd) l11 c11 k11) (PySem.W.mg_of X G a11) B 
  have C__law_ratio : Cal l.prog w K mg base "_law_ratio" 2 ["_law_top", "_law_bottom"] F__law_ratio := w__law_ratio (fun_mk (st := s__law_ratio) l12 c12 k12) (PySem.W.mg_of X G a12) B C__law_gcd
  have C__law_number : Cal l.prog w K mg base "_law_number" 3 ["_law_tape_here"] F__law_number := w__law_number (fun_mk (st := s__law_number) l13 c13 k13) (PySem.W.mg_of X G a13) B C__law_draw C__law_ratio
  have C__law_small : Cal l.prog w K mg base "_law_small" 3 ["_law_tape_here"] F__law_small := w__law_small (fun_mk (st := s__law_small) l14 c14 k14) (PySem.W.mg_of X G a14) B C__law_draw C__law_ratio
  have C__law_large : Cal l.prog w K mg base "_law_large" 2 ["_law_tape_here", "_law_blocks"] F__law_large := w__law_large (fun_mk (st := s__law_large) l15 c15 k15) (PySem.W.mg_of X G a15) B C__law_draw
  have C__law_fraction : Cal l.prog w K mg base "_law_fraction" 4 ["_law_tape_here"] F__law_fraction := w__law_fraction (fun_mk (st := s__law_fraction) l16 c16 k16) (PySem.W.mg_of X G a16) B C__law_draw C__law_small C__law_number C__law_large C__law_ratio
  have C__law_fraction_text : Cal l.prog w K mg base "_law_fraction_text" 1 ["_law_a"] F__law_fraction_text := w__law_fraction_text (fun_mk (st := s__law_fraction_text) l17 c17 k17) (PySem.W.mg_of X G a17) B 
  have C__law_read : Cal l.prog w K mg base "_law_read" 3 ["_law_text"] F__law_read := w__law_read (fun_mk (st := s__law_read) l18 c18 k18) (PySem.W.mg_of X G a18) B C__law_ratio C__law_fraction_text
  have C__law_spoilt : Cal l.prog w K mg base "_law_spoilt" 2 ["_law_tape_here", "_law_text"] F__law_spoilt := w__law_spoilt (fun_mk (st := s__law_spoilt) l19 c19 k19) (PySem.W.mg_of X G a19) B C__law_draw
  have C__law_style : Cal l.prog w K mg base "_law_style" 2 ["_law_tape_here"] F__law_style := w__law_style (fun_mk (st := s__law_style) l20 c20 k20) (PySem.W.mg_of X G a20) B C__law_draw
  have C__law_commas : Cal l.prog w K mg base "_law_commas" 1 ["_law_text"] F__law_commas := w__law_commas (fun_mk (st := s__law_commas) l21 c21 k21) (PySem.W.mg_of X G a21) B 
  have C__law_label : Cal l.prog w K mg base "_law_label" 2 ["_law_number_here", "_law_style_here"] F__law_label := w__law_label (fun_mk (st := s__law_label) l22 c22 k22) (PySem.W.mg_of X G a22) B C__law_fraction_text C__law_commas
  have C__law_read_label : Cal l.prog w K mg base "_law_read_label" 4 ["_law_text", "_law_style_here"] F__law_read_label := w__law_read_label (fun_mk (st := s__law_read_label) l23 c23 k23) (PySem.W.mg_of X G a23) B C__law_read C__law_label
  exact fnd_of (st := s_law) (b := b_law) l24 c24 sc_law (by decide) len1 (fun A outer s H E C => by
    have c__law_tape := C__law_tape
    have c__law_fraction := C__law_fraction
    have c__law_style := C__law_style
    have c__law_label := C__law_label
    have c_number_label := C_number_label
    have c_read_label := C_read_label
    have c__law_read_label := C__law_read_label
    have c__law_draw := C__law_draw
    have c__law_spoilt := C__law_spoilt
    exact (qs_cons (q_set (i := 1) C.nd rfl (by first | exact Or.inl rfl | exact Or.inr rfl) (q_call C c__law_tape (by decide) rfl (qa_cons (q_var 0) qa_nil)))
  (qs_cons (q_set (i := 2) C.nd rfl (by first | exact Or.inl rfl | exact Or.inr rfl) (q_call C c__law_fraction (by decide) rfl (qa_cons (q_var 1) qa_nil)))
  (qs_cons (q_set (i := 3) C.nd rfl (by first | exact Or.inl rfl | exact Or.inr rfl) (q_call C c__law_style (by decide) rfl (qa_cons (q_var 1) qa_nil)))
  (qs_cons (q_set (i := 4) C.nd rfl (by first | exact Or.inl rfl | exact Or.inr rfl) (q_call C c__law_label (by decide) rfl (qa_cons (q_var 2) (qa_cons (q_var 3) qa_nil))))
  (qs_cons (q_if (qt_ne C.room (q_blt (call_repr C) bf_repr rfl B.repr boot_repr (qa_cons (q_call C c_number_label (by decide) rfl (qa_cons (q_var 2) (qa_cons (q_var 3) qa_nil))) qa_nil)) (q_blt (call_repr C) bf_repr rfl B.repr boot_repr (qa_cons (q_var 4) qa_nil))) (qs_one (q_ret q_bl)) qs_nil)
  (qs_cons (q_set (i := 4) C.nd rfl (by first | exact Or.inl rfl | exact Or.inr rfl) (q_sl (q_var 4) qo_none (qo_some q_int)))
  (qs_cons (q_if (qt_ne C.room (q_blt (call_repr C) bf_repr rfl B.repr boot_repr (qa_cons (q_call C c_read_label (by decide) rfl (qa_cons (q_var 4) (qa_cons (q_var 3) qa_nil))) qa_nil)) (q_blt (call_repr C) bf_repr rfl B.repr boot_repr (qa_cons (q_call C c__law_read_label (by decide) rfl (qa_cons (q_var 4) (qa_cons (q_var 3) qa_nil))) qa_nil))) (qs_one (q_ret q_bl)) qs_nil)
  (qs_cons (q_join (q_for PassesOwn.never rfl (qi_rng1 rfl B.range (qa_cons (q_ix (q_lst (qa_cons q_int (qa_cons q_int (qa_cons q_int (qa_cons q_int qa_nil))))) (q_call C c__law_draw (by decide) rfl (qa_cons (q_var 1) (qa_cons q_int qa_nil)))) qa_nil)) (qg_name (i := 5) C.nd rfl (by first | exact Or.inl rfl | exact Or.inr rfl)) (qs_one (q_set (i := 4) C.nd rfl (by first | exact Or.inl rfl | exact Or.inr rfl) (q_call C c__law_spoilt (by decide) rfl (qa_cons (q_var 1) (qa_cons (q_var 4) qa_nil)))))))
  (qs_cons (q_join (q_if (qt_eq C.room (q_call C c__law_draw (by decide) rfl (qa_cons (q_var 1) (qa_cons q_int qa_nil))) q_int) (qs_one (q_set (i := 3) C.nd rfl (by first | exact Or.inl rfl | exact Or.inr rfl) (q_tup (qa_cons (q_ix (q_var 3) q_int) (qa_cons (q_ix (q_var 3) q_int) (qa_cons (q_not (q_ix (q_var 3) q_int)) qa_nil)))))) qs_nil))
  (qs_cons (q_join (q_if (qt_eq C.room (q_call C c__law_draw (by decide) rfl (qa_cons (q_var 1) (qa_cons q_int qa_nil))) q_int) (qs_one (q_set (i := 4) C.nd rfl (by first | exact Or.inl rfl | exact Or.inr rfl) (q_add (q_ix (q_var 3) q_int) (q_ix (q_var 3) q_int)))) qs_nil))
  (qs_cons (q_set (i := 4) C.nd rfl (by first | exact Or.inl rfl | exact Or.inr rfl) (q_sl (q_var 4) qo_none (qo_some q_int)))
  (qs_one (q_ret (q_eq C.room (q_blt (call_repr C) bf_repr rfl B.repr boot_repr (qa_cons (q_call C c_read_label (by decide) rfl (qa_cons (q_var 4) (qa_cons (q_var 3) qa_nil))) qa_nil)) (q_blt (call_repr C) bf_repr rfl B.repr boot_repr (qa_cons (q_call C c__law_read_label (by decide) rfl (qa_cons (q_var 4) (qa_cons (q_var 3) qa_nil))) qa_nil))))))))))))))))) p_law
end DL

open PySem PySem.W PyProof.Rows in
set_option maxRecDepth 100000 in
set_option maxHeartbeats 0 in
theorem PySem.Challenge.cw_chartspec_k21_number_labels_read_back_holds : PySem.Challenge.rw_chartspec_k21_number_labels_read_back.Holds := by
  w_on; o_law; k_head; (case hw => w_witness2)
  k_fill
  refine DL.walk_ofG (l := PySem.Challenge.rw_chartspec_k21_number_labels_read_back) (x := PySem.Str.ofString "_law_script") rfl rfl (DL.room_law 5 (by decide)) (fun w h Y => PySem.W.kIn_of Y) ?F
  case F =>
    intro w mg fa h KX G hmg
    refine' DL.all_mk KX G hmg ?a0 ?l0 ?c0 ?k0 ?a1 ?l1 ?c1 ?k1 ?a2 ?l2 ?c2 ?k2 ?a3 ?l3 ?c3 ?k3 ?a4 ?l4 ?c4 ?k4 ?a5 ?l5 ?c5 ?k5 ?a6 ?l6 ?c6 ?k6 ?a7 ?l7 ?c7 ?k7 ?a8 ?l8 ?c8 ?k8 ?a9 ?l9 ?c9 ?k9 ?a10 ?l10 ?c10 ?k10 ?a11 ?l11 ?c11 ?k11 ?a12 ?l12 ?c12 ?k12 ?a13 ?l13 ?c13 ?k13 ?a14 ?l14 ?c14 ?k14 ?a15 ?l15 ?c15 ?k15 ?a16 ?l16 ?c16 ?k16 ?a17 ?l17 ?c17 ?k17 ?a18 ?l18 ?c18 ?k18 ?a19 ?l19 ?c19 ?k19 ?a20 ?l20 ?c20 ?k20 ?a21 ?l21 ?c21 ?k21 ?a22 ?l22 ?c22 ?k22 ?a23 ?l23 ?c23 ?k23 ?a24 ?l24 ?c24 ?k24 ?z_len ?z_int ?z_abs ?z_min ?z_max ?z_sum ?z_str ?z_repr ?z_list ?z_tuple ?z_range ?z_bool ?z_reversed ?z_enumerate ?z_zip ?z_sorted ?z_any ?z_all ?z_isinstance ?z_set ?z_dict ?g_gcd ?g_DIGITS
    (case a0 => k_is)
    (case l0 => k_is)
    (case c0 => k_is)
    (case k0 => k_is)
    (case a1 => k_is)
    (case l1 => k_is)
    (case c1 => k_is)
    (case k1 => k_is)
    (case a2 => k_is)
    (case l2 => k_is)
    (case c2 => k_is)
    (case k2 => k_is)
    (case a3 => k_is)
    (case l3 => k_is)
    (case c3 => k_is)
    (case k3 => k_is)
    (case a4 => k_is)
    (case l4 => k_is)
    (case c4 => k_is)
    (case k4 => k_is)
    (case a5 => k_is)
    (case l5 => k_is)
    (case c5 => k_is)
    (case k5 => k_is)
    (case a6 => k_is)
    (case l6 => k_is)
    (case c6 => k_is)
    (case k6 => k_is)
    (case a7 => k_is)
    (case l7 => k_is)
    (case c7 => k_is)
    (case k7 => k_is)
    (case a8 => k_is)
    (case l8 => k_is)
    (case c8 => k_is)
    (case k8 => k_is)
    (case a9 => k_is)
    (case l9 => k_is)
    (case c9 => k_is)
    (case k9 => k_is)
    (case a10 => k_is)
    (case l10 => k_is)
    (case c10 => k_is)
    (case k10 => k_is)
    (case a11 => k_is)
    (case l11 => k_is)
    (case c11 => k_is)
    (case k11 => k_is)
    (case a12 => k_is)
    (case l12 => k_is)
    (case c12 => k_is)
    (case k12 => k_is)
    (case a13 => k_is)
    (case l13 => k_is)
    (case c13 => k_is)
    (case k13 => k_is)
    (case a14 => k_is)
    (case l14 => k_is)
    (case c14 => k_is)
    (case k14 => k_is)
    (case a15 => k_is)
    (case l15 => k_is)
    (case c15 => k_is)
    (case k15 => k_is)
    (case a16 => k_is)
    (case l16 => k_is)
    (case c16 => k_is)
    (case k16 => k_is)
    (case a17 => k_is)
    (case l17 => k_is)
    (case c17 => k_is)
    (case k17 => k_is)
    (case a18 => k_is)
    (case l18 => k_is)
    (case c18 => k_is)
    (case k18 => k_is)
    (case a19 => k_is)
    (case l19 => k_is)
    (case c19 => k_is)
    (case k19 => k_is)
    (case a20 => k_is)
    (case l20 => k_is)
    (case c20 => k_is)
    (case k20 => k_is)
    (case a21 => k_is)
    (case l21 => k_is)
    (case c21 => k_is)
    (case k21 => k_is)
    (case a22 => k_is)
    (case l22 => k_is)
    (case c22 => k_is)
    (case k22 => k_is)
    (case a23 => k_is)
    (case l23 => k_is)
    (case c23 => k_is)
    (case k23 => k_is)
    (case a24 => k_is)
    (case l24 => k_is)
    (case c24 => k_is)
    (case k24 => k_is)
    (case z_len => k_is)
    (case z_int => k_is)
    (case z_abs => k_is)
    (case z_min => k_is)
    (case z_max => k_is)
    (case z_sum => k_is)
    (case z_str => k_is)
    (case z_repr => k_is)
    (case z_list => k_is)
    (case z_tuple => k_is)
    (case z_range => k_is)
    (case z_bool => k_is)
    (case z_reversed => k_is)
    (case z_enumerate => k_is)
    (case z_zip => k_is)
    (case z_sorted => k_is)
    (case z_any => k_is)
    (case z_all => k_is)
    (case z_isinstance => k_is)
    (case z_set => k_is)
    (case z_dict => k_is)
    (case g_gcd => k_is)
    (case g_DIGITS => k_is)
#print axioms PySem.Challenge.cw_chartspec_k21_number_labels_read_back_holds
