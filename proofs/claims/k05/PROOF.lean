import PyProof.Rows.All
import Wide.All
import OpenK.AllK
import Wide.FinOn
import HandS.ForMost
import HandS.Exc
import HandS.TryOnly
import HandS.ExcOwn
import HandS.WordsExc
import HandS.TupAny
import HandS.Deep
import HandS.Wide
import HandS.TupLe
import HandS.SetKeys
import HandS.DictComp
import HandS.IsInst
import KE.SortData
import KE.DataCmp
import HandS.Text
import KE.GoesMore
import KE.GoesEnum
import PyProof.EnumMake
import HandS.Style
import HandS.Set
import HandS.TupSets
import PyProof.WalksMore
import HandS.TryMany
import HandS.ExcIs
import HandS.ForSpec
import PySem.Challenge.RW_rightspans_k05_sealed_and_freed
set_option Elab.async false
set_option linter.all false
set_option maxRecDepth 100000
set_option maxHeartbeats 4000000
set_option exponentiation.threshold 5000
/-! MINI, part A: values, store, outcomes, the built-in operations. -/
namespace Mini
open PySem L2

/-- a value: texts, ints, truths, None, tuples of these; ref h: the thing at the handle h of the store -/
inductive D where
  | non | bl (b : Bool) | int (i : Int) | str (x : Str) | tup (xs : List D) | ref (h : Nat)
  deriving Inhabited
/-- what stands at a handle -/
inductive MO where
  /-- a list; a list that is only read -/
  | lst (xs : List D) | rol (xs : List D)
  /-- a dict by ints and texts; by tuples of these -/
  | dK (kvs : List (Key × D)) | dT (kvs : List (List Key × D))
  /-- an instance of the class that the module knows as c -/
  | obj (c : Str) (fs : List (Str × D))
abbrev Store := List MO
inductive Out (α : Type) where
  | ok (a : α) (S : Store)
  /-- an exception of the class c with its fields -/
  | exc (c : Str) (fs : List (Str × D)) (S : Store)
  | bad
abbrev M (α : Type) := Store → Out α
def pur {α : Type} (a : α) : M α := fun S => .ok a S
def bnd {α β : Type} (x : M α) (f : α → M β) : M β := fun S =>
  match x S with
  | .ok a S1 => f a S1
  | .exc c fs S1 => .exc c fs S1
  | .bad => .bad
def lift {α : Type} (x : Option (α × Store)) : Out α := match x with
  | some (a, S) => .ok a S
  | none => .bad
abbrev Env := List (Option D)
abbrev ME := Env → M D
abbrev P1 := D → Store → Option (D × Store)
abbrev P2 := D → D → Store → Option (D × Store)

/-- the most items of a list, a tuple, signs of a text -/
def lim : Nat := 1000000
theorem lim_le : lim ≤ sizeLine := by rw [sizeLine_eq]; decide
theorem lim_lt : lim < sizeLine := by rw [sizeLine_eq]; decide

/-! ### as data -/
mutual
def dP (f : Nat → Option PyData) : D → Option PyData
  | .non => some .none
  | .bl b => some (.bool b)
  | .int i => some (.int i)
  | .str x => some (.str x)
  | .tup xs => (dPs f xs).map .tuple
  | .ref h => f h
def dPs (f : Nat → Option PyData) : List D → Option (List PyData)
  | [] => some []
  | d :: ds => (dP f d).bind fun p => (dPs f ds).map fun ps => p :: ps
end
def deref : Nat → Store → Nat → Option PyData
  | 0, _, _ => none
  | n + 1, S, h => match S[h]? with
    | some (.lst xs) => (dPs (deref n S) xs).map .list
    | some (.rol xs) => (dPs (deref n S) xs).map .list
    | _ => none
def toP (S : Store) (d : D) : Option PyData := dP (deref 8 S) d

/-- the items of a list or tuple -/
def itemsOf (S : Store) : D → Option (List D)
  | .tup xs => some xs
  | .ref h => match S[h]? with
    | some (.lst xs) => some xs
    | some (.rol xs) => some xs
    | _ => none
  | _ => none
def alloc (m : MO) (S : Store) : Option (D × Store) := some (.ref S.length, S ++ [m])
def newL (xs : List D) (S : Store) : Option (D × Store) := if xs.length ≤ lim then alloc (.lst xs) S else none
def tupO (xs : List D) (S : Store) : Option (D × Store) := if xs.length ≤ lim then some (.tup xs, S) else none
def strO (x : Str) (S : Store) : Option (D × Store) := if x.length ≤ lim then some (.str x, S) else none
def intsD : List D → Option (List Int)
  | [] => some []
  | .int i :: r => (intsD r).map (i :: ·)
  | _ :: _ => none
def strsD : List D → Option (List Str)
  | [] => some []
  | .str x :: r => (strsD r).map (x :: ·)
  | _ :: _ => none
def blsD : List D → Option (List Bool)
  | [] => some []
  | .bl x :: r => (blsD r).map (x :: ·)
  | _ :: _ => none
def keyOf : D → Option Key
  | .int i => some (.inl i)
  | .str x => some (.inr x)
  | _ => none
def keysOf : List D → Option (List Key)
  | [] => some []
  | d :: r => (keyOf d).bind fun k => (keysOf r).map (k :: ·)
def tkeyOf : D → Option (List Key)
  | .tup xs => keysOf xs
  | _ => none
def kD : Key → D
  | .inl i => .int i
  | .inr x => .str x
def tkD (ks : List Key) : D := .tup (ks.map kD)

/-! ### operators -/
def isBig (i : Int) : Bool := decide (i.natAbs < 2 ^ 64)
def pAdd : P2 := fun a b S => match a, b with
  | .int i, .int j => some (.int (i + j), S)
  | .str x, .str y => strO (x ++ y) S
  | .tup xs, .tup ys => tupO (xs ++ ys) S
  | .ref h, .ref k => match S[h]?, S[k]? with
    | some (.lst xs), some (.lst ys) => newL (xs ++ ys) S
    | _, _ => none
  | _, _ => none
def pSub : P2 := fun a b S => match a, b with
  | .int i, .int j => some (.int (i - j), S)
  | _, _ => none
def pMul : P2 := fun a b S => match a, b with
  | .int i, .int j => if i.natAbs < 2 ^ 4000 && j.natAbs < 2 ^ 4000 then some (.int (i * j), S) else none
  | _, _ => none
def pDiv : P2 := fun a b S => match a, b with
  | .int i, .int j => if 0 < j && j < 1073741824 then some (.int (i / j), S) else none
  | _, _ => none
def pMod : P2 := fun a b S => match a, b with
  | .int i, .int j => if 0 < j then some (.int (i % j), S) else none
  | _, _ => none
def pPow : P2 := fun a b S => match a, b with
  | .int i, .int j => if 0 ≤ j && j ≤ 1000 && i.natAbs < 2 ^ 64 then some (.int (i ^ j.toNat), S) else none
  | _, _ => none
def pNeg : P1 := fun a S => match a with
  | .int i => some (.int (-i), S)
  | _ => none
def eqD (S : Store) (a b : D) : Option Bool := match toP S a, toP S b with
  | some x, some y => if SeqAt.shaped x && SeqAt.shaped y then some (PyData.eqv x y) else none
  | _, _ => none
def pEq : P2 := fun a b S => (eqD S a b).map fun k => (.bl k, S)
def pNe : P2 := fun a b S => (eqD S a b).map fun k => (.bl (!k), S)
/-- a < b of ints, texts, data that are alike -/
def ltD (S : Store) (a b : D) : Option Bool := match a, b with
  | .int i, .int j => some (decide (i < j))
  | .str x, .str y => some (decide (x.cps.toList < y.cps.toList))
  | .tup xs, .tup ys => match toP S (.tup xs), toP S (.tup ys) with
    | some x, some y => if PySem.W.alike x y && SeqAt.shaped x && SeqAt.shaped y then some (PySem.W.dataLt x y) else none
    | _, _ => none
  | _, _ => none
def pLt : P2 := fun a b S => (ltD S a b).map fun k => (.bl k, S)
def pGt : P2 := fun a b S => (ltD S b a).map fun k => (.bl k, S)
def pLe : P2 := fun a b S => (ltD S b a).map fun k => (.bl (!k), S)
def pGe : P2 := fun a b S => (ltD S a b).map fun k => (.bl (!k), S)
/-- is None, is True -/
def isD : D → D → Option Bool
  | .non, .non => some true
  | .bl a, .bl b => some (decide (a = b))
  | .ref _, .non => some false
  | .bl _, .non => some false
  | .int _, .non => some false
  | .str _, .non => some false
  | .tup _, .non => some false
  | _, _ => none
def pIs : P2 := fun a b S => (isD a b).map fun k => (.bl k, S)
def pIsNot : P2 := fun a b S => (isD a b).map fun k => (.bl (!k), S)
def getM {κ : Type} [DecidableEq κ] (kvs : List (κ × D)) (k : κ) : Option D := (kvs.find? fun kv => decide (kv.1 = k)).map (·.2)
/-- what a dict has under a key -/
def dLook : MO → D → Option (Option D)
  | .dK kvs, d => match keyOf d with
    | some k => some (getM kvs k)
    | none => if kvs.isEmpty then (tkeyOf d).map fun _ => none else none
  | .dT kvs, d => match tkeyOf d with
    | some k => some (getM kvs k)
    | none => if kvs.isEmpty then (keyOf d).map fun _ => none else none
  | _, _ => none
def anyEq (S : Store) (d : D) (xs : List D) : Option Bool := match toP S d, dPs (deref 8 S) xs with
  | some y, some ys => if SeqAt.shaped y && SeqAt.shaped (.list ys) then some (ys.any fun z => PyData.eqv z y) else none
  | _, _ => none
def inD (S : Store) (a b : D) : Option Bool := match b with
  | .str y => match a with
    | .str x => match x.cps.toList with
      | [c] => some (decide (c ∈ y.cps.toList))
      | _ => some (!(Builtin.Str.occurrences y x 0 y.length 1).isEmpty)
    | _ => none
  | .tup ys => anyEq S a ys
  | .ref h => match S[h]? with
    | some (.lst ys) => anyEq S a ys
    | some (.rol ys) => anyEq S a ys
    | some (.dK kvs) => (dLook (.dK kvs) a).map (·.isSome)
    | some (.dT kvs) => (dLook (.dT kvs) a).map (·.isSome)
    | _ => none
  | _ => none
def pIn : P2 := fun a b S => (inD S a b).map fun k => (.bl k, S)
def pNotIn : P2 := fun a b S => (inD S a b).map fun k => (.bl (!k), S)
/-- truth -/
def truD (S : Store) : D → Option Bool
  | .non => some false
  | .bl b => some b
  | .int i => some (i != 0)
  | .str x => if x.length ≤ lim then some (!x.cps.toList.isEmpty) else none
  | .tup xs => some (!xs.isEmpty)
  | .ref h => match S[h]? with
    | some (.lst xs) => some (!xs.isEmpty)
    | some (.rol xs) => some (!xs.isEmpty)
    | some (.dK kvs) => some (!kvs.isEmpty)
    | _ => none
/-- a[i] -/
def pIdx : P2 := fun a i S => match a with
  | .str x => match i with
    | .int i => if x.length ≤ lim then (atI x.cps.toList i).map fun c => (.str ⟨#[c]⟩, S) else none
    | _ => none
  | .tup xs => match i with
    | .int i => (atI xs i).map fun d => (d, S)
    | _ => none
  | .ref h => match S[h]? with
    | some (.lst xs) => match i with
      | .int i => (atI xs i).map fun d => (d, S)
      | _ => none
    | some (.rol xs) => match i with
      | .int i => (atI xs i).map fun d => (d, S)
      | _ => none
    | some (.dK kvs) => match dLook (.dK kvs) i with
      | some (some d) => some (d, S)
      | _ => none
    | some (.dT kvs) => match dLook (.dT kvs) i with
      | some (some d) => some (d, S)
      | _ => none
    | _ => none
  | _ => none
def putM {κ : Type} [DecidableEq κ] (kvs : List (κ × D)) (k : κ) (v : D) : List (κ × D) :=
  if (kvs.any fun kv => decide (kv.1 = k)) = true then kvs.map (fun kv => if kv.1 = k then (kv.1, v) else kv) else kvs ++ [(k, v)]
def dropM {κ : Type} [DecidableEq κ] (kvs : List (κ × D)) (k : κ) : List (κ × D) := kvs.filter fun kv => decide (kv.1 ≠ k)
/-- a[i] = v -/
def pSet (o i v : D) (S : Store) : Option Store := match o with
  | .ref h => match S[h]? with
    | some (.lst xs) => match i with
      | .int k => (ixN xs.length k).map fun j => S.set h (.lst (xs.set j v))
      | _ => none
    | some (.dK kvs) => match keyOf i with
      | some k => if kvs.length < lim then some (S.set h (.dK (putM kvs k v))) else none
      | none => match tkeyOf i with
        | some k => if kvs.isEmpty then some (S.set h (.dT (putM [] k v))) else none
        | none => none
    | some (.dT kvs) => match tkeyOf i with
      | some k => if kvs.length < lim then some (S.set h (.dT (putM kvs k v))) else none
      | none => match keyOf i with
        | some k => if kvs.isEmpty then some (S.set h (.dK (putM [] k v))) else none
        | none => none
    | _ => none
  | _ => none
def cutD (xs : List D) (lo hi : Option Int) : List D := (xs.drop (HT.sIx xs.length 0 lo)).take (HT.sIx xs.length xs.length hi - HT.sIx xs.length 0 lo)
def pCut (a : D) (lo hi : Option Int) (S : Store) : Option (D × Store) := match a with
  | .str x => if x.length ≤ lim then some (.str (cutS x lo hi), S) else none
  | .tup xs => some (.tup (cutD xs lo hi), S)
  | .ref h => match S[h]? with
    | some (.lst xs) => alloc (.lst (cutD xs lo hi)) S
    | some (.rol xs) => alloc (.lst (cutD xs lo hi)) S
    | _ => none
  | _ => none
end Mini

/-! MINI, part B: how the store lies over the abstract heap. -/
namespace Mini
open PySem L2

/-- what is fixed: the written part, the module's names -/
structure Cf where
  K : PySem.W.Frag
  mg : Str → Option Value

mutual
inductive Rep (c : Cf) (H : Hp) (ι : List Addr) : D → V → Prop
  | non : Rep c H ι .non .non
  | bl (b : Bool) : Rep c H ι (.bl b) (.bl b)
  | int (i : Int) : Rep c H ι (.int i) (.int i)
  | str (x : Str) : Rep c H ι (.str x) (.str x)
  | tup {xs : List D} {vs : List V} {a : Addr} : H a = some (.tup vs) → Reps c H ι xs vs → Rep c H ι (.tup xs) (.ref a)
  | ref {h : Nat} {a : Addr} : ι[h]? = some a → Rep c H ι (.ref h) (.ref a)
inductive Reps (c : Cf) (H : Hp) (ι : List Addr) : List D → List V → Prop
  | nil : Reps c H ι [] []
  | cons {d : D} {ds : List D} {v : V} {vs : List V} : Rep c H ι d v → Reps c H ι ds vs → Reps c H ι (d :: ds) (v :: vs)
end
/-- a dict's pairs, a instance's fields -/
inductive RepKV (c : Cf) (H : Hp) (ι : List Addr) {κ : Type} : List (κ × D) → List (κ × V) → Prop
  | nil : RepKV c H ι [] []
  | cons {k : κ} {d : D} {r : List (κ × D)} {v : V} {s : List (κ × V)} : Rep c H ι d v → RepKV c H ι r s → RepKV c H ι ((k, d) :: r) ((k, v) :: s)
section
variable (c : Cf) (H : Hp) (ι : List Addr)
/-- a list that is only read: locked, or the module's own -/
def RoL (K : PySem.W.Frag) (H : Hp) (a : Addr) (xs : List V) : Prop :=
  (∃ o, H a = some (.frz o (.lst xs))) ∨
    ∃ (o : Obj) (its : Array Value) (n : Nat), K.lookup a = some o ∧ o.cls = .type "list" ∧ o.dict = none ∧ o.data = .seq its n ∧ its.size ≤ sizeLine ∧ Vals xs its.toList
def ObjRep (a : Addr) : MO → Prop
  | .lst xs => ∃ vs, H a = some (.lst vs) ∧ Reps c H ι xs vs
  | .rol xs => ∃ vs, RoL c.K H a vs ∧ Reps c H ι xs vs
  | .dK kvs => (∃ vs, H a = some (.dK vs) ∧ RepKV c H ι kvs vs) ∨ (kvs = [] ∧ H a = some (.dT []))
  | .dT kvs => (∃ vs, H a = some (.dT vs) ∧ RepKV c H ι kvs vs) ∨ (kvs = [] ∧ H a = some (.dK []))
  | .obj n fs => ∃ C dx vs, H a = some (.ins C dx vs) ∧ c.mg n = some (.ref C) ∧ RepKV c H ι fs vs
end
def MO.isRol : MO → Bool
  | .rol _ => true
  | _ => false
/-- the store S lies at the addresses ι -/
structure Sim (c : Cf) (ι : List Addr) (S : Store) (H : Hp) : Prop where
  len : ι.length = S.length
  inj : ∀ (h k : Nat) (a : Addr) (m n : MO), ι[h]? = some a → ι[k]? = some a → S[h]? = some m → S[k]? = some n → m.isRol = false → n.isRol = false → h = k
  obj : ∀ (h : Nat) (m : MO) (a : Addr), S[h]? = some m → ι[h]? = some a → ObjRep c H ι a m
/-- later: more handles, the tuples as they were -/
structure Stp (ι : List Addr) (H : Hp) (ι' : List Addr) (H' : Hp) : Prop where
  pre : ∀ (h : Nat) (a : Addr), ι[h]? = some a → ι'[h]? = some a
  tup : ∀ a xs, H a = some (.tup xs) → H' a = some (.tup xs)
  /-- an exception's own dict -/
  xd : ∀ a fs, H a = some (.xd fs) → H' a = some (.xd fs)
theorem Stp.refl {ι : List Addr} {H : Hp} : Stp ι H ι H := ⟨fun _ _ h => h, fun _ _ h => h, fun _ _ h => h⟩
theorem Stp.trans {ι ι1 ι2 : List Addr} {H H1 H2 : Hp} (a : Stp ι H ι1 H1) (b : Stp ι1 H1 ι2 H2) : Stp ι H ι2 H2 :=
  ⟨fun h x q => b.pre h x (a.pre h x q), fun x xs q => b.tup x xs (a.tup x xs q), fun x xs q => b.xd x xs (a.xd x xs q)⟩
section
variable {c : Cf} {H H' : Hp} {ι ι' : List Addr} {S S' : Store}
mutual
theorem Rep.step (p : Stp ι H ι' H') : ∀ {d : D} {v : V}, Rep c H ι d v → Rep c H' ι' d v
  | _, _, .non => .non
  | _, _, .bl b => .bl b
  | _, _, .int i => .int i
  | _, _, .str x => .str x
  | _, _, .tup a b => .tup (p.tup _ _ a) (Reps.step p b)
  | _, _, .ref h => .ref (p.pre _ _ h)
theorem Reps.step (p : Stp ι H ι' H') : ∀ {ds : List D} {vs : List V}, Reps c H ι ds vs → Reps c H' ι' ds vs
  | _, _, .nil => .nil
  | _, _, .cons a b => .cons (Rep.step p a) (Reps.step p b)
end
theorem RepKV.step (p : Stp ι H ι' H') {κ : Type} : ∀ {ds : List (κ × D)} {vs : List (κ × V)}, RepKV c H ι ds vs → RepKV c H' ι' ds vs
  | _, _, .nil => .nil
  | _, _, .cons a b => .cons (Rep.step p a) (RepKV.step p b)
theorem Reps.length : ∀ {ds : List D} {vs : List V}, Reps c H ι ds vs → vs.length = ds.length
  | _, _, .nil => rfl
  | _, _, .cons _ b => congrArg (· + 1) (Reps.length b)
theorem RepKV.length {κ : Type} : ∀ {ds : List (κ × D)} {vs : List (κ × V)}, RepKV c H ι ds vs → vs.length = ds.length
  | _, _, .nil => rfl
  | _, _, .cons _ b => congrArg (· + 1) (RepKV.length b)
theorem Reps.append : ∀ {ds es : List D} {vs us : List V}, Reps c H ι ds vs → Reps c H ι es us → Reps c H ι (ds ++ es) (vs ++ us)
  | _, _, _, _, .nil, r => r
  | _, _, _, _, .cons a b, r => .cons a (Reps.append b r)
theorem Reps.get : ∀ {ds : List D} {vs : List V} {i : Nat} {d : D}, Reps c H ι ds vs → ds[i]? = some d → ∃ v, vs[i]? = some v ∧ Rep c H ι d v
  | _, _, _, _, .nil, e => by simp at e
  | _, _, 0, _, .cons a _, e => by simp at e; subst e; exact ⟨_, rfl, a⟩
  | _, _, i + 1, _, .cons _ b, e => by
    obtain ⟨v, h1, h2⟩ := Reps.get (i := i) b (by simpa using e)
    exact ⟨v, by simpa using h1, h2⟩
theorem Reps.get' : ∀ {ds : List D} {vs : List V} {i : Nat} {v : V}, Reps c H ι ds vs → vs[i]? = some v → ∃ d, ds[i]? = some d ∧ Rep c H ι d v
  | _, _, _, _, .nil, e => by simp at e
  | _, _, 0, _, .cons a _, e => by simp at e; subst e; exact ⟨_, rfl, a⟩
  | _, _, i + 1, _, .cons _ b, e => by
    obtain ⟨v, h1, h2⟩ := Reps.get' (i := i) b (by simpa using e)
    exact ⟨v, by simpa using h1, h2⟩
theorem Reps.set {d : D} {v : V} (r : Rep c H ι d v) : ∀ {ds : List D} {vs : List V} (i : Nat), Reps c H ι ds vs → Reps c H ι (ds.set i d) (vs.set i v)
  | _, _, _, .nil => .nil
  | _, _, 0, .cons _ b => .cons r b
  | _, _, i + 1, .cons a b => .cons a (Reps.set r i b)
theorem Reps.drop : ∀ {ds : List D} {vs : List V} (i : Nat), Reps c H ι ds vs → Reps c H ι (ds.drop i) (vs.drop i)
  | _, _, 0, r => r
  | _, _, i + 1, .nil => .nil
  | _, _, i + 1, .cons _ b => Reps.drop i b
theorem Reps.take : ∀ {ds : List D} {vs : List V} (i : Nat), Reps c H ι ds vs → Reps c H ι (ds.take i) (vs.take i)
  | _, _, 0, _ => .nil
  | _, _, i + 1, .nil => .nil
  | _, _, i + 1, .cons a b => .cons a (Reps.take i b)
theorem Reps.dropLast {ds : List D} {vs : List V} (r : Reps c H ι ds vs) : Reps c H ι ds.dropLast vs.dropLast := by
  rw [List.dropLast_eq_take, List.dropLast_eq_take, r.length]; exact r.take _
theorem Reps.eraseIdx : ∀ {ds : List D} {vs : List V} (i : Nat), Reps c H ι ds vs → Reps c H ι (ds.eraseIdx i) (vs.eraseIdx i)
  | _, _, 0, .nil => .nil
  | _, _, _ + 1, .nil => .nil
  | _, _, 0, .cons _ b => b
  | _, _, i + 1, .cons a b => .cons a (Reps.eraseIdx i b)
theorem Reps.atI {ds : List D} {vs : List V} {i : Int} {d : D} (r : Reps c H ι ds vs) (h : atI ds i = some d) : ∃ v, L2.atI vs i = some v ∧ Rep c H ι d v := by
  unfold L2.atI at h ⊢
  rw [r.length]
  cases e : ixN ds.length i with
  | none => rw [e] at h; cases h
  | some j =>
    rw [e] at h
    exact r.get h
theorem Reps.cut {ds : List D} {vs : List V} (r : Reps c H ι ds vs) (lo hi : Option Int) : Reps c H ι (cutD ds lo hi) (cutV vs lo hi) := by
  unfold cutD cutV
  rw [r.length]
  exact (r.drop _).take _

/-- neither a tuple nor an exception's own dict -/
def NoTX (H : Hp) (a : Addr) : Prop := (∀ xs, H a ≠ some (.tup xs)) ∧ ∀ fs, H a ≠ some (.xd fs)
theorem Stp.set {a : Addr} {o : HO} (h : NoTX H a) : Stp ι H ι (upd H a o) := ⟨fun _ _ q => q, (fun b xs q => by
  rw [upd_ne (fun e => h.1 xs (by rw [← e]; exact q))]; exact q), (fun b xs q => by
  rw [upd_ne (fun e => h.2 xs (by rw [← e]; exact q))]; exact q)⟩
theorem noTup {a : Addr} {o : HO} (h : H a = some o) (h1 : ∀ xs, o ≠ .tup xs) (h2 : ∀ fs, o ≠ .xd fs := by intro _ z; cases z) : NoTX H a := ⟨(fun xs q => by
  rw [h] at q; exact h1 xs (Option.some.inj q)), (fun xs q => by rw [h] at q; exact h2 xs (Option.some.inj q))⟩
theorem noTup_none {a : Addr} (h : H a = none) : NoTX H a := ⟨(fun xs q => by
  rw [h] at q; cases q), (fun xs q => by rw [h] at q; cases q)⟩
/-- a new object at p -/
theorem Stp.new {p : Addr} {o : HO} (hp : H p = none) (l : List Addr) : Stp ι H (ι ++ l) (upd H p o) := ⟨fun h a q => by
    rw [List.getElem?_append_left (by exact (List.getElem?_eq_some_iff.mp q).1)]; exact q, (Stp.set (ι := ι) (noTup_none hp)).tup, (Stp.set (ι := ι) (noTup_none hp)).xd⟩

/-- later, the objects but the one at x as they were -/
structure Keep (x : Addr) (H H' : Hp) : Prop where
  obj : ∀ a o, a ≠ x → H a = some o → H' a = some o
  frz : ∀ a o u, H a = some (.frz o u) → H' a = some (.frz o u)
theorem ObjRep.step (p : Stp ι H ι' H') {x a : Addr} (k : Keep x H H') {m : MO} (hx : m.isRol = false → a ≠ x) (q : ObjRep c H ι a m) : ObjRep c H' ι' a m := by
  cases m with
  | lst xs => obtain ⟨vs, e, r⟩ := q; exact ⟨vs, k.obj _ _ (hx rfl) e, r.step p⟩
  | rol xs =>
    obtain ⟨vs, e, r⟩ := q
    refine ⟨vs, ?_, r.step p⟩
    rcases e with ⟨o, e⟩ | e
    · exact .inl ⟨o, k.frz _ _ _ e⟩
    · exact .inr e
  | dK kvs =>
    rcases q with ⟨vs, e, r⟩ | ⟨e1, e⟩
    · exact .inl ⟨vs, k.obj _ _ (hx rfl) e, r.step p⟩
    · exact .inr ⟨e1, k.obj _ _ (hx rfl) e⟩
  | dT kvs =>
    rcases q with ⟨vs, e, r⟩ | ⟨e1, e⟩
    · exact .inl ⟨vs, k.obj _ _ (hx rfl) e, r.step p⟩
    · exact .inr ⟨e1, k.obj _ _ (hx rfl) e⟩
  | obj n fs => obtain ⟨C, dx, vs, e, z, r⟩ := q; exact ⟨C, dx, vs, k.obj _ _ (hx rfl) e, z, r.step p⟩
theorem Keep.upd {a : Addr} {o : HO} (h : ∀ p u, H a ≠ some (.frz p u)) : Keep a H (upd H a o) :=
  ⟨fun b u hb e => by rw [upd_ne hb]; exact e, fun b p u e => by rw [upd_ne (fun z => h p u (by rw [← z]; exact e))]; exact e⟩
/-- an object that stands has an address that is not free -/
theorem ObjRep.some {a : Addr} {m : MO} (q : ObjRep c H ι a m) (hr : m.isRol = false) : ∃ o, H a = Option.some o ∧ (∀ p u, o ≠ .frz p u) ∧ (∀ xs, o ≠ .tup xs) ∧ ∀ fs, o ≠ .xd fs := by
  cases m with
  | lst xs => obtain ⟨vs, e, r⟩ := q; exact ⟨_, e, (fun _ _ z => by cases z), (fun _ z => by cases z), (fun _ z => by cases z)⟩
  | rol xs => cases hr
  | dK kvs =>
    rcases q with ⟨vs, e, r⟩ | ⟨e1, e⟩
    · exact ⟨_, e, (fun _ _ z => by cases z), (fun _ z => by cases z), (fun _ z => by cases z)⟩
    · exact ⟨_, e, (fun _ _ z => by cases z), (fun _ z => by cases z), (fun _ z => by cases z)⟩
  | dT kvs =>
    rcases q with ⟨vs, e, r⟩ | ⟨e1, e⟩
    · exact ⟨_, e, (fun _ _ z => by cases z), (fun _ z => by cases z), (fun _ z => by cases z)⟩
    · exact ⟨_, e, (fun _ _ z => by cases z), (fun _ z => by cases z), (fun _ z => by cases z)⟩
  | obj n fs => obtain ⟨C, dx, vs, e, z, r⟩ := q; exact ⟨_, e, (fun _ _ z => by cases z), (fun _ z => by cases z), (fun _ z => by cases z)⟩
theorem Sim.at (s : Sim c ι S H) {h : Nat} {m : MO} (e : S[h]? = some m) : ∃ a, ι[h]? = some a ∧ ObjRep c H ι a m := by
  have hl : h < ι.length := by rw [s.len]; exact (List.getElem?_eq_some_iff.mp e).1
  exact ⟨ι[h], List.getElem?_eq_getElem hl, s.obj h m _ e (List.getElem?_eq_getElem hl)⟩
/-- the object of the handle h is changed -/
theorem Sim.set (s : Sim c ι S H) {h : Nat} {m m' : MO} {a : Addr} {o : HO} (e : S[h]? = some m) (ha : ι[h]? = some a) (hr : m.isRol = false) (hr' : m'.isRol = false) (q : ObjRep c (upd H a o) ι a m') : Sim c ι (S.set h m') (upd H a o) ∧ Stp ι H ι (upd H a o) := by
  obtain ⟨u, hu, nf, nt, nx⟩ := (s.obj h m a e ha).some hr
  have st : Stp ι H ι (upd H a o) := Stp.set (noTup hu nt nx)
  have kp : Keep a H (upd H a o) := Keep.upd fun p w z => nf p w (Option.some.inj (hu.symm.trans z))
  refine ⟨⟨by rw [List.length_set]; exact s.len, fun i j b m1 m2 h1 h2 e1 e2 r1 r2 => ?_, fun i m1 b e1 h1 => ?_⟩, st⟩
  · have f : ∀ (i : Nat) (m1 : MO), (S.set h m')[i]? = some m1 → m1.isRol = false → ∃ m0 : MO, S[i]? = some m0 ∧ m0.isRol = false := fun i m1 e1 r1 => by
      by_cases hi : h = i
      · subst hi; exact ⟨m, e, hr⟩
      · rw [List.getElem?_set_ne hi] at e1; exact ⟨m1, e1, r1⟩
    obtain ⟨n1, g1, q1⟩ := f i m1 e1 r1
    obtain ⟨n2, g2, q2⟩ := f j m2 e2 r2
    exact s.inj i j b n1 n2 h1 h2 g1 g2 q1 q2
  · by_cases hi : h = i
    · subst hi
      rw [ha] at h1; cases h1
      rw [List.getElem?_set_self (List.getElem?_eq_some_iff.mp e).1] at e1; cases e1
      exact q
    · rw [List.getElem?_set_ne hi] at e1
      exact (s.obj i m1 b e1 h1).step st kp fun r z => hi (by subst z; exact s.inj h i b m m1 ha h1 e e1 hr r)
/-- a new object -/
theorem Sim.new (s : Sim c ι S H) {p : Addr} {o : HO} {m : MO} (hp : H p = none) (q : ObjRep c (upd H p o) (ι ++ [p]) p m) : Sim c (ι ++ [p]) (S ++ [m]) (upd H p o) ∧ Stp ι H (ι ++ [p]) (upd H p o) := by
  have st : Stp ι H (ι ++ [p]) (upd H p o) := Stp.new hp [p]
  have kp : Keep p H (upd H p o) := Keep.upd fun p w z => by rw [hp] at z; cases z
  have hl := s.len
  have old : ∀ i (m1 : MO), (S ++ [m])[i]? = some m1 → (i < S.length ∧ S[i]? = some m1) ∨ (i = S.length ∧ m1 = m) := fun i m1 e => by
    by_cases hi : i < S.length
    · rw [List.getElem?_append_left hi] at e; exact .inl ⟨hi, e⟩
    · rw [List.getElem?_append_right (by omega)] at e
      have h2 : i - S.length < 1 := by
        have := (List.getElem?_eq_some_iff.mp e).1
        simpa using this
      have h3 : i = S.length := by omega
      subst h3
      simp at e
      exact .inr ⟨rfl, e.symm⟩
  have oldA : ∀ i (b : Addr), (ι ++ [p])[i]? = some b → i < S.length → ι[i]? = some b := fun i b e hi => by
    rw [List.getElem?_append_left (by omega)] at e; exact e
  have newA : ∀ (b : Addr), (ι ++ [p])[S.length]? = some b → b = p := fun b e => by
    rw [← hl, List.getElem?_append_right (Nat.le_refl _)] at e
    simp at e
    exact e.symm
  have ne : ∀ i (m1 : MO) (b : Addr), S[i]? = some m1 → ι[i]? = some b → m1.isRol = false → b ≠ p := fun i m1 b e1 h1 r z => by
    obtain ⟨u, hu, _⟩ := (s.obj i m1 b e1 h1).some r
    rw [z, hp] at hu; cases hu
  refine ⟨⟨by simp [hl], fun i j b m1 m2 h1 h2 e1 e2 r1 r2 => ?_, fun i m1 b e1 h1 => ?_⟩, st⟩
  · rcases old i m1 e1 with ⟨i1, e1⟩ | ⟨i1, z1⟩ <;> rcases old j m2 e2 with ⟨j1, e2⟩ | ⟨j1, z2⟩
    · exact s.inj i j b m1 m2 (oldA i b h1 i1) (oldA j b h2 j1) e1 e2 r1 r2
    · rw [j1] at h2
      exact absurd (newA b h2) (ne i m1 b e1 (oldA i b h1 i1) r1)
    · rw [i1] at h1
      exact absurd (newA b h1) (ne j m2 b e2 (oldA j b h2 j1) r2)
    · omega
  · rcases old i m1 e1 with ⟨i1, e1⟩ | ⟨i1, rfl⟩
    · exact (s.obj i m1 b e1 (oldA i b h1 i1)).step st kp (ne i m1 b e1 (oldA i b h1 i1))
    · subst i1
      rw [newA b h1]; exact q
/-- a tuple (or what no handle tells of) is laid -/
theorem Sim.laid (s : Sim c ι S H) {p : Addr} {o : HO} (hp : H p = none) : Sim c ι S (upd H p o) ∧ Stp ι H ι (upd H p o) := by
  have st : Stp ι H ι (upd H p o) := Stp.set (noTup_none hp)
  have kp : Keep p H (upd H p o) := Keep.upd fun p w z => by rw [hp] at z; cases z
  refine ⟨⟨s.len, s.inj, fun i m1 b e1 h1 => ?_⟩, st⟩
  exact (s.obj i m1 b e1 h1).step st kp fun r z => by
    obtain ⟨u, hu, _⟩ := (s.obj i m1 b e1 h1).some r
    rw [z, hp] at hu; cases hu
/-- the address of the new handle -/
theorem Sim.newRef (s : Sim c ι S H) (p : Addr) : (ι ++ [p])[S.length]? = Option.some p := by
  rw [← s.len, List.getElem?_append_right (Nat.le_refl _)]; simp
end
end Mini

/-! MINI, part C: the readings; the operators. -/
namespace Mini
open PySem L2
abbrev cf (X : Cx) : Cf := ⟨X.K, X.mg⟩
/-- the slots -/
structure REnv (c : Cf) (H : Hp) (ι : List Addr) (ρ : Env) (σ : St) : Prop where
  len : ρ.length = σ.length
  get : ∀ (i : Nat) (d : D), ρ[i]? = some (some d) → ∃ v, σ[i]? = some (some v) ∧ Rep c H ι d v
theorem REnv.step {c : Cf} {H H' : Hp} {ι ι' : List Addr} {ρ : Env} {σ : St} (p : Stp ι H ι' H') (r : REnv c H ι ρ σ) : REnv c H' ι' ρ σ :=
  ⟨r.len, fun i d e => let ⟨v, h, q⟩ := r.get i d e; ⟨v, h, q.step p⟩⟩
/-- an exception -/
def RExc (c : Cf) (H : Hp) (ι : List Addr) (n : Str) (fs : List (Str × D)) (cls : Value) (dd : Option Addr) : Prop :=
  ∃ C, cls = .ref C ∧ c.mg n = some (.ref C) ∧ match dd with
    | none => fs = []
    | some x => ∃ vs, H x = some (.xd vs) ∧ RepKV c H ι fs vs ∧ fs ≠ []
def post {α β : Type} (R : Hp → List Addr → α → β → Prop) (c : Cf) (W : WX) (ι : List Addr) (H : Hp) (σ : St) (Q : β → Hp → Prop) (o : Out α) : Prop := match o with
  | .ok a S' => ∀ ι' H' b, Stp ι H ι' H' → Sim c ι' S' H' → R H' ι' a b → Q b H'
  | .exc n fs S' => ∀ ι' H' cls dd, Stp ι H ι' H' → Sim c ι' S' H' → RExc c H' ι' n fs cls dd → W cls dd σ H'
  | .bad => False
abbrev RD (c : Cf) : Hp → List Addr → D → V → Prop := fun H ι d v => Rep c H ι d v
abbrev RDs (c : Cf) : Hp → List Addr → List D → List V → Prop := fun H ι d v => Reps c H ι d v
abbrev RB : Hp → List Addr → Bool → Bool → Prop := fun _ _ a b => a = b
theorem post_trans {α β : Type} {R : Hp → List Addr → α → β → Prop} {c : Cf} {W : WX} {ι ι1 : List Addr} {H H1 : Hp} {σ : St} {Q : β → Hp → Prop} {o : Out α} (p : Stp ι H ι1 H1) (h : post R c W ι H σ Q o) : post R c W ι1 H1 σ Q o := by
  cases o with
  | ok a S' => exact fun ι' H' b q => h ι' H' b (p.trans q)
  | exc n fs S' => exact fun ι' H' b dd q => h ι' H' b dd (p.trans q)
  | bad => exact h
theorem post_bnd {α β γ δ : Type} {R : Hp → List Addr → α → β → Prop} {R' : Hp → List Addr → γ → δ → Prop} {c : Cf} {W : WX} {ι : List Addr} {H : Hp} {σ : St} {Q : δ → Hp → Prop} {Q1 : β → Hp → Prop} {x : M α} {k : α → M γ} {S : Store}
    (h : post R' c W ι H σ Q (bnd x k S)) (f : ∀ a S1 ι' H' b, x S = .ok a S1 → Stp ι H ι' H' → Sim c ι' S1 H' → R H' ι' a b → post R' c W ι' H' σ Q (k a S1) → Q1 b H') : post R c W ι H σ Q1 (x S) := by
  unfold bnd at h
  cases e : x S with
  | ok a S1 =>
    rw [e] at h
    exact fun ι' H' b p s r => f a S1 ι' H' b e p s r (post_trans p h)
  | exc n fs S1 =>
    rw [e] at h
    exact h
  | bad =>
    rw [e] at h
    exact h
/-- the reading of an expression that f evaluates -/
def tE (c : Cf) (W : WX) (f : ME) : TE := fun σ H Q => ∃ ι S ρ, Sim c ι S H ∧ REnv c H ι ρ σ ∧ post (RD c) c W ι H σ Q (f ρ S)
def tT (c : Cf) (W : WX) (f : Env → M Bool) : TT := fun σ H Q => ∃ ι S ρ, Sim c ι S H ∧ REnv c H ι ρ σ ∧ post RB c W ι H σ Q (f ρ S)
def tA (c : Cf) (W : WX) (f : Env → M (List D)) : TA := fun σ H Q => ∃ ι S ρ, Sim c ι S H ∧ REnv c H ι ρ σ ∧ post (RDs c) c W ι H σ Q (f ρ S)
theorem PE.imp {X : Cx} {e : Expr} {t t' : TE} (h : PE X e t) (f : ∀ σ H Q, t' σ H Q → t σ H Q) : PE X e t' := ⟨fun pins s σ H Q I q => h.run pins s σ H Q I (f σ H Q q)⟩
theorem PT.imp {X : Cx} {e : Expr} {t t' : TT} (h : PT X e t) (f : ∀ σ H Q, t' σ H Q → t σ H Q) : PT X e t' := ⟨fun pins s σ H Q I q => h.run pins s σ H Q I (f σ H Q q)⟩
theorem PA.imp {X : Cx} {e : List Expr} {t t' : TA} (h : PA X e t) (f : ∀ σ H Q, t' σ H Q → t σ H Q) : PA X e t' := ⟨fun pos pins s σ H Q I q => h.run pos pins s σ H Q I (f σ H Q q)⟩
theorem PS.imp {X : Cx} {e : Stmt} {t t' : TS} (h : PS X e t) (f : ∀ D σ H, t' D σ H → t D σ H) : PS X e t' := ⟨fun pins s σ H D I q => h.run pins s σ H D I (f D σ H q)⟩
theorem PSs.imp {X : Cx} {e : List Stmt} {t t' : TS} (h : PSs X e t) (f : ∀ D σ H, t' D σ H → t D σ H) : PSs X e t' := ⟨fun pins s σ H D I q => h.run pins s σ H D I (f D σ H q)⟩
theorem OpR.imp {X : Cx} {f : Value → Value → Sem Value} {r r' : R2} (h : OpR X f r) (i : ∀ x y H Q, r' x y H Q → r x y H Q) : OpR X f r' := fun pins s σ H x y v u Q I rx ry q => h pins s σ H x y v u Q I rx ry (i x y H Q q)

/-- what does not raise -/
def Fin (c : Cf) (ι : List Addr) (H : Hp) (Q : VK) (o : Option (D × Store)) : Prop := ∃ d S', o = some (d, S') ∧ ∀ ι' H' v, Stp ι H ι' H' → Sim c ι' S' H' → Rep c H' ι' d v → Q v H'
theorem fin_of {c : Cf} {W : WX} {ι : List Addr} {H : Hp} {σ : St} {Q : VK} {o : Option (D × Store)} (h : post (RD c) c W ι H σ Q (lift o)) : Fin c ι H Q o := by
  cases o with
  | none => exact False.elim h
  | some p => exact ⟨p.1, p.2, rfl, h⟩
/-- a binary operation by values -/
def rP (c : Cf) (g : P2) : R2 := fun x y H Q => ∃ ι S a b, Sim c ι S H ∧ Rep c H ι a x ∧ Rep c H ι b y ∧ Fin c ι H Q (g a b S)
def rU1 (c : Cf) (g : P1) : V → Hp → VK → Prop := fun x H Q => ∃ ι S a, Sim c ι S H ∧ Rep c H ι a x ∧ Fin c ι H Q (g a S)
def eOp (g : P2) (fa fb : ME) : ME := fun ρ => bnd (fa ρ) fun a => bnd (fb ρ) fun b => fun S => lift (g a b S)
theorem tE_op {c : Cf} {W : WX} {g : P2} {fa fb : ME} {σ : St} {H : Hp} {Q : VK} (h : tE c W (eOp g fa fb) σ H Q) : tOp (rP c g) (tE c W fa) (tE c W fb) σ H Q := by
  obtain ⟨ι, S, ρ, sm, en, p⟩ := h
  refine ⟨ι, S, ρ, sm, en, post_bnd p fun a S1 ι1 H1 x e1 st1 sm1 r1 p1 => ?_⟩
  refine ⟨ι1, S1, ρ, sm1, en.step st1, post_bnd p1 fun b S2 ι2 H2 y e2 st2 sm2 r2 p2 => ?_⟩
  exact ⟨ι2, S2, a, b, sm2, r1.step st2, r2, fin_of p2⟩
section
variable {X : Cx} {c : Cf} {H : Hp} {ι : List Addr} {S : Store}
theorem Fin.mk' {Q : VK} {d : D} {v : V} {o : Option (D × Store)} (s : Sim c ι S H) (h : Fin c ι H Q o) (e : o = some (d, S)) (r : Rep c H ι d v) : Q v H := by
  obtain ⟨d', S', e', k⟩ := h
  rw [e] at e'; cases e'
  exact k ι H v .refl s r
theorem strO_some {x : Str} {S : Store} {p : D × Store} (h : strO x S = some p) : x.length ≤ lim ∧ p = (.str x, S) := by
  unfold strO at h; split at h
  · exact ⟨by assumption, (Option.some.inj h).symm⟩
  · cases h
theorem tupO_some {x : List D} {S : Store} {p : D × Store} (h : tupO x S = some p) : x.length ≤ lim ∧ p = (.tup x, S) := by
  unfold tupO at h; split at h
  · exact ⟨by assumption, (Option.some.inj h).symm⟩
  · cases h
theorem newL_some {x : List D} {S : Store} {p : D × Store} (h : newL x S = some p) : x.length ≤ lim ∧ p = (.ref S.length, S ++ [.lst x]) := by
  unfold newL at h; split at h
  · exact ⟨by assumption, (Option.some.inj h).symm⟩
  · cases h
/-- a new list is handed out -/
theorem Fin.lst {Q : VK} {xs : List D} {vs : List V} (s : Sim c ι S H) (h : Fin c ι H Q (newL xs S)) (r : Reps c H ι xs vs) : vs.length ≤ sizeLine ∧ ∀ p, H p = none → Q (.ref p) (upd H p (.lst vs)) := by
  obtain ⟨d', S', e, k⟩ := h
  obtain ⟨hl, e2⟩ := newL_some e
  cases e2
  refine ⟨by rw [r.length]; exact Nat.le_trans hl lim_le, fun p hp => ?_⟩
  have st : Stp ι H (ι ++ [p]) (upd H p (.lst vs)) := Stp.new hp [p]
  obtain ⟨s2, _⟩ := s.new (m := .lst xs) (o := .lst vs) hp ⟨vs, upd_same, r.step st⟩
  exact k _ _ _ st s2 (.ref (s.newRef p))
/-- a new tuple -/
theorem Fin.tup {Q : VK} {xs : List D} {vs : List V} (s : Sim c ι S H) (h : Fin c ι H Q (some (.tup xs, S))) (r : Reps c H ι xs vs) : ∀ p, H p = none → Q (.ref p) (upd H p (.tup vs)) := by
  obtain ⟨d', S', e, k⟩ := h
  cases e
  intro p hp
  obtain ⟨s2, st⟩ := s.laid (o := .tup vs) hp
  exact k _ _ _ st s2 (.tup upd_same (r.step st))
theorem Sim.lst (s : Sim c ι S H) {h : Nat} {a : Addr} {xs : List D} (e : S[h]? = some (.lst xs)) (ha : ι[h]? = some a) : ∃ vs, H a = some (.lst vs) ∧ Reps c H ι xs vs := s.obj h _ a e ha
theorem RoL.sq {K : PySem.W.Frag} {a : Addr} {xs : List V} (h : RoL K H a xs) : SqL K H a xs := h.elim (fun ⟨o, e⟩ => .inl (.inr ⟨o, e⟩)) .inr

theorem op_pAdd : OpR X (binaryOp .Add) (rP (cf X) pAdd) := by
  refine OpR.imp (op_add.or (op_add_str.or (op_catA.or op_cat))) ?_
  rintro x y H Q ⟨ι, S, a, b, s, ra, rb, f⟩
  have f0 := f
  obtain ⟨d, S', e, k⟩ := f
  unfold pAdd at e
  split at e
  · cases ra; cases rb
    cases e
    exact .inl ⟨_, _, rfl, rfl, k ι H _ .refl s (.int _)⟩
  · cases ra; cases rb
    obtain ⟨hl, e2⟩ := strO_some e
    cases e2
    refine .inr (.inl ⟨_, _, rfl, rfl, ?_, k ι H _ .refl s (.str _)⟩)
    refine Nat.le_trans (Nat.le_of_eq ?_) (Nat.le_trans hl lim_le)
    show _ = (_ ++ _ : Array Nat).size
    rw [Array.size_append] <;> rfl
  · rename_i xs ys
    obtain ⟨hl, e2⟩ := tupO_some e
    cases ra with
    | @tup _ vs p hp ra =>
      cases rb with
      | @tup _ us q hq rb =>
        refine .inr (.inr (.inl ⟨p, q, vs, us, rfl, rfl, .of hp, .of hq, ?_, fun hv => ?_, fun hv hu => ?_, fun hv hu => ?_⟩))
        · rw [ra.length, rb.length, ← List.length_append]; exact Nat.le_trans hl lim_le
        · subst hv
          cases ra
          refine f0.mk' s (show pAdd (.tup []) (.tup ys) S = some (.tup ys, S) from ?_) (.tup hq rb)
          exact e.trans (by rw [e2]; rfl)
        · subst hu
          cases rb
          refine f0.mk' s (show pAdd (.tup xs) (.tup []) S = some (.tup xs, S) from ?_) (.tup hp ra)
          exact e.trans (by rw [e2, List.append_nil])
        · have f2 : Fin (cf X) ι H Q (some (.tup (xs ++ ys), S)) := ⟨_, _, rfl, by cases e2; exact k⟩
          exact f2.tup s (ra.append rb)
  · rename_i h1 h2
    split at e
    · rename_i xs ys e1 e2
      cases ra with
      | @ref _ p hp =>
        cases rb with
        | @ref _ q hq =>
          obtain ⟨vs, g1, r1⟩ := s.lst e1 hp
          obtain ⟨us, g2, r2⟩ := s.lst e2 hq
          have f2 : Fin (cf X) ι H Q (newL (xs ++ ys) S) := ⟨d, S', e, k⟩
          obtain ⟨z, q2⟩ := f2.lst s (r1.append r2)
          exact .inr (.inr (.inr ⟨p, q, vs, us, rfl, rfl, g1, g2, by rw [← List.length_append]; exact z, q2⟩))
    · cases e
  · cases e
end
end Mini

/-! MINI, part D: more operators. -/
namespace Mini
open PySem L2
section
variable {X : Cx} {c : Cf} {H : Hp} {ι : List Addr} {S : Store}
theorem op_pSub : OpR X (binaryOp .Sub) (rP (cf X) pSub) := by
  refine OpR.imp op_sub ?_
  rintro x y H Q ⟨ι, S, a, b, s, ra, rb, d, S', e, k⟩
  unfold pSub at e
  split at e
  · cases ra; cases rb; cases e
    exact ⟨_, _, rfl, rfl, k ι H _ .refl s (.int _)⟩
  · cases e
theorem op_pMul : OpR X (binaryOp .Mult) (rP (cf X) pMul) := by
  refine OpR.imp op_mulW ?_
  rintro x y H Q ⟨ι, S, a, b, s, ra, rb, d, S', e, k⟩
  unfold pMul at e
  split at e
  · cases ra; cases rb
    split at e
    · rename_i hb
      cases e
      rw [Bool.and_eq_true, decide_eq_true_eq, decide_eq_true_eq] at hb
      exact ⟨_, _, rfl, rfl, wide_mul hb.1 hb.2 (by decide) (by decide) (by decide), k ι H _ .refl s (.int _)⟩
    · cases e
  · cases e
theorem op_pDiv : OpR X (binaryOp .FloorDiv) (rP (cf X) pDiv) := by
  refine OpR.imp op_fdiv ?_
  rintro x y H Q ⟨ι, S, a, b, s, ra, rb, d, S', e, k⟩
  unfold pDiv at e
  split at e
  · cases ra; cases rb
    split at e
    · rename_i hb
      cases e
      rw [Bool.and_eq_true, decide_eq_true_eq, decide_eq_true_eq] at hb
      exact ⟨_, _, rfl, rfl, hb, k ι H _ .refl s (.int _)⟩
    · cases e
  · cases e
theorem op_pMod : OpR X (binaryOp .Mod) (rP (cf X) pMod) := by
  refine OpR.imp op_mod ?_
  rintro x y H Q ⟨ι, S, a, b, s, ra, rb, d, S', e, k⟩
  unfold pMod at e
  split at e
  · cases ra; cases rb
    split at e
    · rename_i hb
      cases e
      exact ⟨_, _, rfl, rfl, hb, k ι H _ .refl s (.int _)⟩
    · cases e
  · cases e
theorem op_pPow : OpR X (binaryOp .Pow) (rP (cf X) pPow) := by
  refine OpR.imp op_pow ?_
  rintro x y H Q ⟨ι, S, a, b, s, ra, rb, d, S', e, k⟩
  unfold pPow at e
  split at e
  · cases ra; cases rb
    split at e
    · rename_i hb
      cases e
      rw [Bool.and_eq_true, Bool.and_eq_true, decide_eq_true_eq, decide_eq_true_eq, decide_eq_true_eq] at hb
      exact ⟨_, _, rfl, rfl, ⟨hb.1.1, Int.le_trans hb.1.2 (by decide), hb.2⟩, k ι H _ .refl s (.int _)⟩
    · cases e
  · cases e
theorem un_pNeg : UnR X (unaryOp .USub) (rU1 (cf X) pNeg) := by
  intro pins s0 σ H x v Q I rx ⟨ι, S, a, s, ra, d, S', e, k⟩
  unfold pNeg at e
  split at e
  · cases ra; cases e
    exact un_neg pins s0 σ H _ v Q I rx ⟨_, rfl, k ι H _ .refl s (.int _)⟩
  · cases e

/-! ### as data -/
mutual
theorem dP_dp {f : Nat → Option PyData} (hf : ∀ h a p, ι[h]? = some a → f h = some p → Dp c.K H (.ref a) p) : ∀ {d : D} {v : V} {p : PyData}, Rep c H ι d v → dP f d = some p → Dp c.K H v p
  | _, _, p, .non, e => by rw [dP] at e; cases e; exact .non
  | _, _, p, .bl b, e => by rw [dP] at e; cases e; exact .bl b
  | _, _, p, .int i, e => by rw [dP] at e; cases e; exact .int i
  | _, _, p, .str x, e => by rw [dP] at e; cases e; exact .str x
  | _, _, p, .tup a b, e => by
    rw [dP] at e
    obtain ⟨ps, e1, e2⟩ := Option.map_eq_some_iff.mp e
    subst e2
    exact .tup (.of a) (dPs_dp hf b e1)
  | _, _, p, .ref h, e => by
    rw [dP] at e
    exact hf _ _ _ h e
theorem dPs_dp {f : Nat → Option PyData} (hf : ∀ h a p, ι[h]? = some a → f h = some p → Dp c.K H (.ref a) p) : ∀ {ds : List D} {vs : List V} {ps : List PyData}, Reps c H ι ds vs → dPs f ds = some ps → DpAll c.K H vs ps
  | _, _, ps, .nil, e => by rw [dPs] at e; cases e; exact .nil
  | _, _, ps, .cons a b, e => by
    rw [dPs] at e
    obtain ⟨p, e1, e⟩ := Option.bind_eq_some_iff.mp e
    obtain ⟨q, e2, e⟩ := Option.map_eq_some_iff.mp e
    subst e
    exact .cons (dP_dp hf a e1) (dPs_dp hf b e2)
end
theorem deref_dp (s : Sim c ι S H) : ∀ (n h : Nat) (a : Addr) (p : PyData), ι[h]? = some a → deref n S h = some p → Dp c.K H (.ref a) p
  | 0, _, _, _, _, e => by rw [deref] at e; cases e
  | n + 1, h, a, p, ha, e => by
    rw [deref] at e
    split at e
    · rename_i xs hx
      obtain ⟨ps, e1, e2⟩ := Option.map_eq_some_iff.mp e
      subst e2
      obtain ⟨vs, g, r⟩ := s.obj h _ a hx ha
      exact .lst (.inl (.inl g)) (dPs_dp (deref_dp s n) r e1)
    · rename_i xs hx
      obtain ⟨ps, e1, e2⟩ := Option.map_eq_some_iff.mp e
      subst e2
      obtain ⟨vs, g, r⟩ := s.obj h _ a hx ha
      exact .lst g.sq (dPs_dp (deref_dp s n) r e1)
    · cases e
theorem toP_dp (s : Sim c ι S H) {d : D} {v : V} {p : PyData} (r : Rep c H ι d v) (e : toP S d = some p) : Dp c.K H v p := dP_dp (deref_dp s 8) r e
theorem eqD_some {a b : D} {k : Bool} (e : eqD S a b = some k) : ∃ x y, toP S a = some x ∧ toP S b = some y ∧ SeqAt.shaped x = true ∧ SeqAt.shaped y = true ∧ k = PyData.eqv x y := by
  unfold eqD at e
  split at e
  · rename_i x y h1 h2
    split at e
    · rename_i hs
      rw [Bool.and_eq_true] at hs
      cases e
      exact ⟨x, y, h1, h2, hs.1, hs.2, rfl⟩
    · cases e
  · cases e
theorem op_pEq (hu : X.A.units + 64 < cLine) : OpR X (compareOp .Eq) (rP (cf X) pEq) := by
  refine OpR.imp (op_eqD hu) ?_
  rintro x y H Q ⟨ι, S, a, b, s, ra, rb, d, S', e, k⟩
  unfold pEq at e
  obtain ⟨b1, e1, e⟩ := Option.map_eq_some_iff.mp e
  cases e
  obtain ⟨p, q, h1, h2, s1, s2, rfl⟩ := eqD_some e1
  exact ⟨p, q, toP_dp s ra h1, toP_dp s rb h2, s1, s2, k ι H _ .refl s (.bl _)⟩
theorem op_pNe (hu : X.A.units + 64 < cLine) : OpR X (compareOp .NotEq) (rP (cf X) pNe) := by
  refine OpR.imp (op_neD hu) ?_
  rintro x y H Q ⟨ι, S, a, b, s, ra, rb, d, S', e, k⟩
  unfold pNe at e
  obtain ⟨b1, e1, e⟩ := Option.map_eq_some_iff.mp e
  cases e
  obtain ⟨p, q, h1, h2, s1, s2, rfl⟩ := eqD_some e1
  exact ⟨p, q, toP_dp s ra h1, toP_dp s rb h2, s1, s2, k ι H _ .refl s (.bl _)⟩

/-! ### order -/
def rOrd (K : PySem.W.Frag) (g : PyData → PyData → Bool) : R2 := fun x y H Q => ∃ d e, Dp K H x d ∧ Dp K H y e ∧ PySem.W.alike d e = true ∧ d ≠ .none ∧ SeqAt.shaped d = true ∧ SeqAt.shaped e = true ∧ Q (.bl (g d e)) H
theorem room_min {A : Around} {d e : PyData} (hu : A.units + 64 < cLine) (h : SeqAt.shaped d = true) : A.units + min d.depth e.depth < cLine := by
  have := SeqAt.depth_of_shaped h
  have h2 : min d.depth e.depth ≤ d.depth := Nat.min_le_left _ _
  omega
theorem op_ltA (hu : X.A.units + 64 < cLine) : OpR X (compareOp .Lt) (rOrd X.K fun d e => PySem.W.dataLt d e) := by
  rintro pins s σ H x y v u Q I rx ry ⟨d, e, hd, he, al, nn, s1, s2, q⟩
  obtain ⟨as, r1⟩ := Dp.reads I d x v hd rx
  obtain ⟨bs, r2⟩ := Dp.reads I e y u he ry
  exact PySem.W.lt_data r1 r2 al nn (room_min hu s1) ⟨.bl _, H, I, rfl, q⟩
theorem op_gtA (hu : X.A.units + 64 < cLine) : OpR X (compareOp .Gt) (rOrd X.K fun d e => PySem.W.dataLt e d) := by
  rintro pins s σ H x y v u Q I rx ry ⟨d, e, hd, he, al, nn, s1, s2, q⟩
  obtain ⟨as, r1⟩ := Dp.reads I d x v hd rx
  obtain ⟨bs, r2⟩ := Dp.reads I e y u he ry
  exact PySem.W.gt_data r1 r2 al nn (room_min hu s1) ⟨.bl _, H, I, rfl, q⟩
theorem op_leA (hu : X.A.units + 64 < cLine) : OpR X (compareOp .LtE) (rOrd X.K fun d e => !PySem.W.dataLt e d) := by
  rintro pins s σ H x y v u Q I rx ry ⟨d, e, hd, he, al, nn, s1, s2, q⟩
  obtain ⟨as, r1⟩ := Dp.reads I d x v hd rx
  obtain ⟨bs, r2⟩ := Dp.reads I e y u he ry
  exact PySem.W.le_data r1 r2 al nn (room_min hu s1) ⟨.bl _, H, I, rfl, q⟩
theorem op_geA (hu : X.A.units + 64 < cLine) : OpR X (compareOp .GtE) (rOrd X.K fun d e => !PySem.W.dataLt d e) := by
  rintro pins s σ H x y v u Q I rx ry ⟨d, e, hd, he, al, nn, s1, s2, q⟩
  obtain ⟨as, r1⟩ := Dp.reads I d x v hd rx
  obtain ⟨bs, r2⟩ := Dp.reads I e y u he ry
  exact PySem.W.ge_data r1 r2 al nn (room_min hu s1) ⟨.bl _, H, I, rfl, q⟩
/-- the data of an order that is told -/
theorem ltD_some (s : Sim c ι S H) {a b : D} {x y : V} {k : Bool} (ra : Rep c H ι a x) (rb : Rep c H ι b y) (e : ltD S a b = some k) :
    (∃ i j, x = .int i ∧ y = .int j ∧ k = decide (i < j)) ∨ (∃ i j, x = .str i ∧ y = .str j ∧ k = decide (i.cps.toList < j.cps.toList)) ∨
    ∃ p q, Dp c.K H x p ∧ Dp c.K H y q ∧ PySem.W.alike p q = true ∧ p ≠ .none ∧ q ≠ .none ∧ SeqAt.shaped p = true ∧ SeqAt.shaped q = true ∧ k = PySem.W.dataLt p q := by
  unfold ltD at e
  split at e
  · cases ra; cases rb; cases e
    exact .inl ⟨_, _, rfl, rfl, rfl⟩
  · cases ra; cases rb; cases e
    exact .inr (.inl ⟨_, _, rfl, rfl, rfl⟩)
  · rename_i xs ys
    split at e
    · rename_i p q h1 h2
      split at e
      · rename_i hs
        rw [Bool.and_eq_true, Bool.and_eq_true] at hs
        cases e
        have g1 : ∃ l, p = .tuple l := by
          unfold toP at h1; rw [dP] at h1
          obtain ⟨ps, _, e2⟩ := Option.map_eq_some_iff.mp h1
          exact ⟨ps, e2.symm⟩
        have g2 : ∃ l, q = .tuple l := by
          unfold toP at h2; rw [dP] at h2
          obtain ⟨ps, _, e2⟩ := Option.map_eq_some_iff.mp h2
          exact ⟨ps, e2.symm⟩
        refine .inr (.inr ⟨p, q, toP_dp s ra h1, toP_dp s rb h2, hs.1.1, ?_, ?_, hs.1.2, hs.2, rfl⟩)
        · obtain ⟨l, rfl⟩ := g1; exact fun z => by cases z
        · obtain ⟨l, rfl⟩ := g2; exact fun z => by cases z
      · cases e
    · cases e
  · cases e
theorem not_lt_dec (i j : Int) : (!decide (j < i)) = decide (i ≤ j) := by
  by_cases h : i ≤ j
  · rw [decide_eq_true h, decide_eq_false (by omega)]; rfl
  · rw [decide_eq_false h, decide_eq_true (by omega)]; rfl
theorem op_pLt (hu : X.A.units + 64 < cLine) : OpR X (compareOp .Lt) (rP (cf X) pLt) := by
  refine OpR.imp (op_lt.or (op_lt_str.or (op_ltA hu))) ?_
  rintro x y H Q ⟨ι, S, a, b, s, ra, rb, d, S', e, k⟩
  unfold pLt at e
  obtain ⟨b1, e1, e⟩ := Option.map_eq_some_iff.mp e
  cases e
  have q := k ι H _ .refl s (.bl _)
  rcases ltD_some s ra rb e1 with ⟨i, j, rfl, rfl, rfl⟩ | ⟨i, j, rfl, rfl, rfl⟩ | ⟨p, q', h1, h2, h3, h4, h5, h6, h7, rfl⟩
  · exact .inl ⟨i, j, rfl, rfl, q⟩
  · exact .inr (.inl ⟨i, j, rfl, rfl, q⟩)
  · exact .inr (.inr ⟨p, q', h1, h2, h3, h4, h6, h7, q⟩)
theorem op_pGe (hu : X.A.units + 64 < cLine) : OpR X (compareOp .GtE) (rP (cf X) pGe) := by
  refine OpR.imp (op_ge.or (op_ge_str.or (op_geA hu))) ?_
  rintro x y H Q ⟨ι, S, a, b, s, ra, rb, d, S', e, k⟩
  unfold pGe at e
  obtain ⟨b1, e1, e⟩ := Option.map_eq_some_iff.mp e
  cases e
  have q := k ι H _ .refl s (.bl _)
  rcases ltD_some s ra rb e1 with ⟨i, j, rfl, rfl, rfl⟩ | ⟨i, j, rfl, rfl, rfl⟩ | ⟨p, q', h1, h2, h3, h4, h5, h6, h7, rfl⟩
  · exact .inl ⟨i, j, rfl, rfl, by rw [not_lt_dec] at q; exact q⟩
  · exact .inr (.inl ⟨i, j, rfl, rfl, q⟩)
  · exact .inr (.inr ⟨p, q', h1, h2, h3, h4, h6, h7, q⟩)
theorem alike_swap {p q : PyData} (h : PySem.W.alike p q = true) : PySem.W.alike q p = true := by rw [PySem.W.alike_comm]; exact h
theorem op_pGt (hu : X.A.units + 64 < cLine) : OpR X (compareOp .Gt) (rP (cf X) pGt) := by
  refine OpR.imp (op_gt.or (op_gt_str.or (op_gtA hu))) ?_
  rintro x y H Q ⟨ι, S, a, b, s, ra, rb, d, S', e, k⟩
  unfold pGt at e
  obtain ⟨b1, e1, e⟩ := Option.map_eq_some_iff.mp e
  cases e
  have q := k ι H _ .refl s (.bl _)
  rcases ltD_some s rb ra e1 with ⟨i, j, rfl, rfl, rfl⟩ | ⟨i, j, rfl, rfl, rfl⟩ | ⟨p, q', h1, h2, h3, h4, h5, h6, h7, rfl⟩
  · exact .inl ⟨j, i, rfl, rfl, q⟩
  · exact .inr (.inl ⟨j, i, rfl, rfl, q⟩)
  · exact .inr (.inr ⟨q', p, h2, h1, alike_swap h3, h5, h7, h6, q⟩)
theorem op_pLe (hu : X.A.units + 64 < cLine) : OpR X (compareOp .LtE) (rP (cf X) pLe) := by
  refine OpR.imp (op_le.or (op_le_str.or (op_leA hu))) ?_
  rintro x y H Q ⟨ι, S, a, b, s, ra, rb, d, S', e, k⟩
  unfold pLe at e
  obtain ⟨b1, e1, e⟩ := Option.map_eq_some_iff.mp e
  cases e
  have q := k ι H _ .refl s (.bl _)
  rcases ltD_some s rb ra e1 with ⟨i, j, rfl, rfl, rfl⟩ | ⟨i, j, rfl, rfl, rfl⟩ | ⟨p, q', h1, h2, h3, h4, h5, h6, h7, rfl⟩
  · exact .inl ⟨j, i, rfl, rfl, by rw [not_lt_dec] at q; exact q⟩
  · exact .inr (.inl ⟨j, i, rfl, rfl, q⟩)
  · exact .inr (.inr ⟨q', p, h2, h1, alike_swap h3, h5, h7, h6, q⟩)
/-! ### is -/
theorem op_pIs : OpR X (compareOp .Is) (rP (cf X) pIs) := by
  refine OpR.imp (op_isN.or op_is_bl) ?_
  rintro x y H Q ⟨ι, S, a, b, s, ra, rb, d, S', e, k⟩
  unfold pIs at e
  obtain ⟨b1, e1, e⟩ := Option.map_eq_some_iff.mp e
  cases e
  have q := k ι H _ .refl s (.bl _)
  unfold isD at e1
  split at e1 <;> cases e1 <;> cases ra <;> cases rb
  · exact .inl ⟨rfl, q⟩
  · exact .inr ⟨_, _, rfl, rfl, q⟩
  all_goals exact .inl ⟨rfl, by first | exact q | (rw [decide_eq_false (by intro z; cases z)]; exact q)⟩
theorem op_pIsNot : OpR X (compareOp .IsNot) (rP (cf X) pIsNot) := by
  refine OpR.imp (op_notN.or op_isnot_bl) ?_
  rintro x y H Q ⟨ι, S, a, b, s, ra, rb, d, S', e, k⟩
  unfold pIsNot at e
  obtain ⟨b1, e1, e⟩ := Option.map_eq_some_iff.mp e
  cases e
  have q := k ι H _ .refl s (.bl _)
  unfold isD at e1
  split at e1 <;> cases e1 <;> cases ra <;> cases rb
  · exact .inl ⟨rfl, q⟩
  · exact .inr ⟨_, _, rfl, rfl, q⟩
  all_goals exact .inl ⟨rfl, by first | exact q | (rw [decide_eq_false (by intro z; cases z)]; exact q)⟩
end
end Mini

/-! MINI, part E: dicts by values, in, truth, subscripts, slices, stores. -/
namespace Mini
open PySem L2
/-! ### an empty dict is of either kind -/
def Tag (H : Hp) (a : Addr) (H2 : Hp) : Prop := H2 = H ∨ (H a = some (.dK []) ∧ H2 = upd H a (.dT [])) ∨ (H a = some (.dT []) ∧ H2 = upd H a (.dK []))
section
variable {X : Cx} {pins : List (Addr × Obj)} {σ : St} {H H2 : Hp} {s : Shared} {a : Addr}
theorem kt_ok {P : Program} {w : World} {H H' : Hp} {h : Heap} (x : ObjOk P w H h a (.dK [])) : ObjOk P w H' h a (.dT []) := by
  obtain ⟨z, y, vs, r, o, es, ep, h1, h2, h3, h4, h5, h6⟩ := x
  cases r
  have e : es.toList = [] := by
    generalize es.toList = l at h5
    cases h5; rfl
  exact ⟨z, y, [], .nil, o, es, ep, h1, h2, h3, e, List.nodup_nil⟩
theorem tk_ok {P : Program} {w : World} {H H' : Hp} {h : Heap} (x : ObjOk P w H h a (.dT [])) : ObjOk P w H' h a (.dK []) := by
  obtain ⟨z, y, xs, r, o, es, ep, h1, h2, h3, h4, h5⟩ := x
  cases r
  have e : es.toList = [] := h4
  refine ⟨z, y, [], .nil, o, es, ep, h1, h2, h3, (fun x hx => ?_), ?_, List.nodup_nil⟩
  · have : x ∈ es.toList := by simpa using hx
    rw [e] at this; cases this
  · rw [e]; exact .nil
theorem Inv.tag (I : L2.Inv X pins σ H s) (t : Tag H a H2) : L2.Inv X pins σ H2 s := by
  rcases t with rfl | ⟨e, rfl⟩ | ⟨e, rfl⟩
  · exact I
  · have ok := kt_ok (H' := upd H a (.dT [])) (show ObjOk X.prog X.w H s.heap a (.dK []) from I.hok a _ e)
    obtain ⟨_, _, _, _, o, _, _, g, _⟩ := id ok
    exact I.write (x := a) (e := a) (t' := s.toks) (h' := s.heap) (by rw [e]; exact True.intro) (.inl rfl) (fun b v _ q => q) ⟨o, g⟩ ok
  · have ok := tk_ok (H' := upd H a (.dK [])) (show ObjOk X.prog X.w H s.heap a (.dT []) from I.hok a _ e)
    obtain ⟨_, _, _, _, o, _, _, g, _⟩ := id ok
    exact I.write (x := a) (e := a) (t' := s.toks) (h' := s.heap) (by rw [e]; exact True.intro) (.inl rfl) (fun b v _ q => q) ⟨o, g⟩ ok
end
section
variable {c : Cf} {H : Hp} {ι : List Addr} {S : Store}
theorem set_self {h : Nat} {m : MO} (e : S[h]? = some m) : S.set h m = S := by
  apply List.ext_getElem?
  intro i
  by_cases hi : h = i
  · subst hi; rw [List.getElem?_set_self (List.getElem?_eq_some_iff.mp e).1, e]
  · rw [List.getElem?_set_ne hi]
/-! ### keys -/
theorem keyOf_rep {d : D} {v : V} {k : Key} (r : Rep c H ι d v) (e : keyOf d = some k) : v = kV k := by
  cases r <;> simp only [keyOf] at e <;> cases e <;> rfl
theorem keysOf_reps : ∀ {ds : List D} {vs : List V} {ks : List Key}, Reps c H ι ds vs → keysOf ds = some ks → vs = ks.map kV
  | _, _, _, .nil, e => by rw [keysOf] at e; cases e; rfl
  | _, _, _, .cons a b, e => by
    rw [keysOf] at e
    obtain ⟨k, e1, e⟩ := Option.bind_eq_some_iff.mp e
    obtain ⟨ks, e2, e⟩ := Option.map_eq_some_iff.mp e
    subst e
    rw [keyOf_rep a e1, keysOf_reps b e2]; rfl
theorem tkeyOf_rep {d : D} {v : V} {k : List Key} (r : Rep c H ι d v) (e : tkeyOf d = some k) : ∃ b, v = .ref b ∧ H b = some (.tup (k.map kV)) := by
  cases r <;> simp only [tkeyOf] at e <;> try cases e
  rename_i vs b hb rs
  exact ⟨_, rfl, by rw [hb, keysOf_reps rs e]⟩
theorem RepKV.val {κ : Type} [DecidableEq κ] (k : κ) : ∀ {ds : List (κ × D)} {vs : List (κ × V)}, RepKV c H ι ds vs → (∀ d, getM ds k = some d → ∃ v, valV vs k = some v ∧ Rep c H ι d v) ∧ (getM ds k = none → valV vs k = none)
  | _, _, .nil => ⟨(fun d e => nomatch (show (none : Option D) = some d from e)), fun _ => rfl⟩
  | (j, d0) :: ds, (_, v0) :: vs, .cons a b => by
    by_cases h : j = k
    · have e1 : getM ((j, d0) :: ds) k = some d0 := by simp [getM, List.find?_cons, h]
      have e2 : valV ((j, v0) :: vs) k = some v0 := by simp [valV, List.find?_cons, h]
      rw [e1, e2]
      exact ⟨(fun d e => by cases e; exact ⟨v0, rfl, a⟩), (fun e => by cases e)⟩
    · have e1 : getM ((j, d0) :: ds) k = getM ds k := by simp [getM, List.find?_cons, h]
      have e2 : valV ((j, v0) :: vs) k = valV vs k := by simp [valV, List.find?_cons, h]
      rw [e1, e2]
      exact RepKV.val k b
theorem RepKV.any {κ : Type} [DecidableEq κ] (k : κ) : ∀ {ds : List (κ × D)} {vs : List (κ × V)}, RepKV c H ι ds vs → (vs.any fun kv => decide (kv.1 = k)) = (ds.any fun kv => decide (kv.1 = k))
  | _, _, .nil => rfl
  | _, _, .cons a b => by rw [List.any_cons, List.any_cons, RepKV.any k b]
theorem RepKV.repl {κ : Type} [DecidableEq κ] (k : κ) {d : D} {v : V} (r : Rep c H ι d v) : ∀ {ds : List (κ × D)} {vs : List (κ × V)}, RepKV c H ι ds vs → RepKV c H ι (ds.map fun kv => if kv.1 = k then (kv.1, d) else kv) (vs.map fun kv => if kv.1 = k then (kv.1, v) else kv)
  | _, _, .nil => .nil
  | (j, d0) :: ds, (_, v0) :: vs, .cons a b => by
    rw [List.map_cons, List.map_cons]
    by_cases h : j = k
    · simp only [h, if_true]; exact .cons r (RepKV.repl k r b)
    · simp only [h, if_false]; exact .cons a (RepKV.repl k r b)
theorem RepKV.snoc {κ : Type} (k : κ) {d : D} {v : V} (r : Rep c H ι d v) : ∀ {ds : List (κ × D)} {vs : List (κ × V)}, RepKV c H ι ds vs → RepKV c H ι (ds ++ [(k, d)]) (vs ++ [(k, v)])
  | _, _, .nil => .cons r .nil
  | _, _, .cons a b => .cons a (RepKV.snoc k r b)
theorem RepKV.put {κ : Type} [DecidableEq κ] (k : κ) {d : D} {v : V} {ds : List (κ × D)} {vs : List (κ × V)} (r : Rep c H ι d v) (q : RepKV c H ι ds vs) : RepKV c H ι (putM ds k d) (putK vs k v) := by
  unfold putM putK
  rw [q.any k]
  split
  · exact q.repl k r
  · exact q.snoc k r
theorem RepKV.drop {κ : Type} [DecidableEq κ] (k : κ) : ∀ {ds : List (κ × D)} {vs : List (κ × V)}, RepKV c H ι ds vs → RepKV c H ι (dropM ds k) (dropK vs k)
  | _, _, .nil => .nil
  | (j, d0) :: ds, (_, v0) :: vs, .cons a b => by
    unfold dropM dropK
    rw [List.filter_cons, List.filter_cons]
    by_cases h : j = k
    · simp only [h, ne_eq, not_true_eq_false, decide_false]; exact RepKV.drop k b
    · simp only [h, ne_eq, not_false_eq_true, decide_true]; exact .cons a (RepKV.drop k b)
/-- a store's dict tells what the heap's dict tells, tagged -/
structure DRead (c : Cf) (ι : List Addr) (S : Store) (H : Hp) (a : Addr) (y : V) (r : Option D) where
  H2 : Hp
  tag : Tag H a H2
  sim : Sim c ι S H2
  stp : Stp ι H ι H2
  get : ∃ o, DGet H2 a y o ∧ (∀ d, r = some d → ∃ v, o = some v ∧ Rep c H2 ι d v) ∧ (r = none → o = none)
theorem dRead_plain {a : Addr} {y : V} {r : Option D} (s : Sim c ι S H) (g : ∃ o, DGet H a y o ∧ (∀ d, r = some d → ∃ v, o = some v ∧ Rep c H ι d v) ∧ (r = none → o = none)) : Nonempty (DRead c ι S H a y r) :=
  ⟨⟨H, .inl rfl, s, .refl, g⟩⟩
theorem dLook_ok (s : Sim c ι S H) {h : Nat} {a : Addr} {m : MO} {d : D} {y : V} {r : Option D} (e : S[h]? = some m) (ha : ι[h]? = some a) (rd : Rep c H ι d y) (l : dLook m d = some r) : Nonempty (DRead c ι S H a y r) := by
  have ob := s.obj h m a e ha
  -- retagged: the empty dict is looked at by the other kind of key
  have re : ∀ {o : HO} {m' : MO}, m.isRol = false → m = m' → ObjRep c (upd H a o) ι a m' → Sim c ι S (upd H a o) ∧ Stp ι H ι (upd H a o) := fun {o m'} hr em q => by
    subst em
    have := s.set (m' := m) (o := o) e ha hr hr q
    rw [set_self e] at this
    exact this
  cases m with
  | lst xs => cases l
  | rol xs => cases l
  | obj n fs => cases l
  | dK kvs =>
    cases hk : keyOf d with
    | some k =>
      simp only [dLook, hk] at l; cases l
      have ey := keyOf_rep rd hk
      rcases ob with ⟨vs, g, q⟩ | ⟨rfl, g⟩
      · obtain ⟨q1, q2⟩ := q.val k
        exact dRead_plain s ⟨valV vs k, .inl ⟨vs, k, .inl g, ey, rfl⟩, q1, q2⟩
      · obtain ⟨s2, st⟩ := re (o := .dK []) rfl rfl (.inl ⟨[], upd_same, .nil⟩)
        exact ⟨⟨_, .inr (.inr ⟨g, rfl⟩), s2, st, none, .inl ⟨[], k, .inl upd_same, ey, rfl⟩, (fun d e => nomatch (show (none : Option D) = some d from e)), fun _ => rfl⟩⟩
    | none =>
      simp only [dLook, hk] at l
      split at l
      · rename_i he
        have hn : kvs = [] := List.isEmpty_iff.mp he
        subst hn
        obtain ⟨k, hk2, e2⟩ := Option.map_eq_some_iff.mp l
        subst e2
        obtain ⟨b, ey, hb⟩ := tkeyOf_rep rd hk2
        rcases ob with ⟨vs, g, q⟩ | ⟨_, g⟩
        · cases q
          obtain ⟨s2, st⟩ := re (o := .dT []) rfl rfl (.inr ⟨rfl, upd_same⟩)
          exact ⟨⟨_, .inr (.inl ⟨g, rfl⟩), s2, st, none, .inr ⟨[], k, b, .inl upd_same, ey, st.tup _ _ hb, rfl⟩, (fun d e => nomatch (show (none : Option D) = some d from e)), fun _ => rfl⟩⟩
        · exact dRead_plain s ⟨none, .inr ⟨[], k, b, .inl g, ey, hb, rfl⟩, (fun d e => nomatch (show (none : Option D) = some d from e)), fun _ => rfl⟩
      · cases l
  | dT kvs =>
    cases hk : tkeyOf d with
    | some k =>
      simp only [dLook, hk] at l; cases l
      obtain ⟨b, ey, hb⟩ := tkeyOf_rep rd hk
      rcases ob with ⟨vs, g, q⟩ | ⟨rfl, g⟩
      · obtain ⟨q1, q2⟩ := q.val k
        exact dRead_plain s ⟨valV vs k, .inr ⟨vs, k, b, .inl g, ey, hb, rfl⟩, q1, q2⟩
      · obtain ⟨s2, st⟩ := re (o := .dT []) rfl rfl (.inl ⟨[], upd_same, .nil⟩)
        exact ⟨⟨_, .inr (.inl ⟨g, rfl⟩), s2, st, none, .inr ⟨[], k, b, .inl upd_same, ey, st.tup _ _ hb, rfl⟩, (fun d e => nomatch (show (none : Option D) = some d from e)), fun _ => rfl⟩⟩
    | none =>
      simp only [dLook, hk] at l
      split at l
      · rename_i he
        have hn : kvs = [] := List.isEmpty_iff.mp he
        subst hn
        obtain ⟨k, hk2, e2⟩ := Option.map_eq_some_iff.mp l
        subst e2
        have ey := keyOf_rep rd hk2
        rcases ob with ⟨vs, g, q⟩ | ⟨_, g⟩
        · cases q
          obtain ⟨s2, st⟩ := re (o := .dK []) rfl rfl (.inr ⟨rfl, upd_same⟩)
          exact ⟨⟨_, .inr (.inr ⟨g, rfl⟩), s2, st, none, .inl ⟨[], k, .inl upd_same, ey, rfl⟩, (fun d e => nomatch (show (none : Option D) = some d from e)), fun _ => rfl⟩⟩
        · exact dRead_plain s ⟨none, .inl ⟨[], k, .inl g, ey, rfl⟩, (fun d e => nomatch (show (none : Option D) = some d from e)), fun _ => rfl⟩
      · cases l
end
theorem room_inS {A : Around} {d e : PyData} (h : SeqAt.shaped d = true) (hu : A.units + 65 < cLine) : A.units + 1 + min e.depth d.depth < cLine := by
  have := SeqAt.depth_of_shaped h
  have h2 : min e.depth d.depth ≤ d.depth := Nat.min_le_right _ _
  omega
theorem room_inAll {A : Around} {d : PyData} {es : List PyData} (h : SeqAt.shaped d = true) (hu : A.units + 65 < cLine) : A.units + 1 + min (PyData.depthAll es) d.depth < cLine := by
  have := SeqAt.depth_of_shaped h
  have h2 : min (PyData.depthAll es) d.depth ≤ d.depth := Nat.min_le_right _ _
  omega
/-! ### in -/
section
variable {X : Cx}
def rDInT (neg : Bool) : R2 := fun x y H Q => ∃ a o H2, y = .ref a ∧ Tag H a H2 ∧ DGet H2 a x o ∧ Q (.bl (if neg then !o.isSome else o.isSome)) H2
theorem op_dIn (hu : X.A.units + 1 < cLine) : OpR X (compareOp .In) (rDInT false) := by
  rintro pins s σ H x y v u Q I rx ry ⟨a, o, H2, rfl, t, g, q⟩
  cases ry
  exact d_in hu (Inv.tag I t) g rx fun s' I' => ⟨.bl _, H2, I', rfl, q⟩
theorem op_dNotIn (hu : X.A.units + 1 < cLine) : OpR X (compareOp .NotIn) (rDInT true) := by
  rintro pins s σ H x y v u Q I rx ry ⟨a, o, H2, rfl, t, g, q⟩
  cases ry
  exact d_notIn hu (Inv.tag I t) g rx fun s' I' => ⟨.bl _, H2, I', rfl, q⟩
def rInTD (K : PySem.W.Frag) (neg : Bool) : R2 := fun x y H Q => ∃ d ds, Dp K H x d ∧ Dp K H y (.tuple ds) ∧ SeqAt.shaped d = true ∧ SeqAt.shaped (.list ds) = true ∧ Q (.bl (if neg then !(ds.any fun z => PyData.eqv z d) else ds.any fun z => PyData.eqv z d)) H
theorem op_inTD (hu : X.A.units + 65 < cLine) : OpR X (compareOp .In) (rInTD X.K false) := by
  rintro pins s σ H x y v u Q I rx ry ⟨d, ds, hd, he, sd, se, q⟩
  obtain ⟨as, r1⟩ := Dp.reads I d x v hd rx
  obtain ⟨bs, r2⟩ := Dp.reads I (.tuple ds) y u he ry
  exact SeqAt.in_tuple_reads r2 r1 (SeqAt.canLay_of_shaped se) (SeqAt.canLay_of_shaped sd) (room_inAll sd hu) ⟨.bl _, H, I, rfl, q⟩
theorem op_notInTD (hu : X.A.units + 65 < cLine) : OpR X (compareOp .NotIn) (rInTD X.K true) := by
  rintro pins s σ H x y v u Q I rx ry ⟨d, ds, hd, he, sd, se, q⟩
  obtain ⟨as, r1⟩ := Dp.reads I d x v hd rx
  obtain ⟨bs, r2⟩ := Dp.reads I (.tuple ds) y u he ry
  exact SeqAt.notIn_tuple_reads r2 r1 (SeqAt.canLay_of_shaped se) (SeqAt.canLay_of_shaped sd) (room_inAll sd hu) ⟨.bl _, H, I, rfl, q⟩
/-- what inD tells, of the heap -/
inductive InR (c : Cf) (ι : List Addr) (S : Store) (H : Hp) (x y : V) (k : Bool) : Prop
  | sign (i : Nat) (z : Str) : x = .str ⟨#[i]⟩ → y = .str z → k = decide (i ∈ z.cps.toList) → InR c ι S H x y k
  | text (i z : Str) : x = .str i → y = .str z → k = (!(Builtin.Str.occurrences z i 0 z.length 1).isEmpty) → InR c ι S H x y k
  | lst (d : PyData) (ds : List PyData) : Dp c.K H x d → Dp c.K H y (.list ds) → SeqAt.shaped d = true → SeqAt.shaped (.list ds) = true → k = (ds.any fun z => PyData.eqv z d) → InR c ι S H x y k
  | tup (d : PyData) (ds : List PyData) : Dp c.K H x d → Dp c.K H y (.tuple ds) → SeqAt.shaped d = true → SeqAt.shaped (.list ds) = true → k = (ds.any fun z => PyData.eqv z d) → InR c ι S H x y k
  | dic (a : Addr) (r : Option D) : y = .ref a → Nonempty (DRead c ι S H a x r) → k = r.isSome → InR c ι S H x y k
theorem inD_ok {c : Cf} {H : Hp} {ι : List Addr} {S : Store} (s : Sim c ι S H) {a b : D} {x y : V} {k : Bool} (ra : Rep c H ι a x) (rb : Rep c H ι b y) (e : inD S a b = some k) : InR c ι S H x y k := by
  have anyq : ∀ {ys : List D} {k}, anyEq S a ys = some k → ∃ p qs, toP S a = some p ∧ dPs (deref 8 S) ys = some qs ∧ SeqAt.shaped p = true ∧ SeqAt.shaped (.list qs) = true ∧ k = (qs.any fun z => PyData.eqv z p) := fun {ys k} e => by
    unfold anyEq at e
    split at e
    · rename_i p qs h1 h2
      split at e
      · rename_i hs
        rw [Bool.and_eq_true] at hs
        cases e
        exact ⟨p, qs, h1, h2, hs.1, hs.2, rfl⟩
      · cases e
    · cases e
  unfold inD at e
  cases rb with
  | str z =>
    simp only at e
    cases ra with
    | str i =>
      simp only at e
      split at e
      · rename_i ci hc
        cases e
        refine .sign ci z ?_ rfl rfl
        have : i.cps = #[ci] := by rw [← Array.toList_inj, hc]
        cases i
        simp only at this
        rw [this]
      · cases e
        exact .text i z rfl rfl rfl
    | _ => cases e
  | @tup ys vs p hp rs =>
    simp only at e
    obtain ⟨q, qs, h1, h2, s1, s2, e2⟩ := anyq e
    exact .tup q qs (toP_dp s ra h1) (.tup (.of hp) (dPs_dp (deref_dp s 8) rs h2)) s1 s2 e2
  | @ref h p hp =>
    simp only at e
    split at e
    · rename_i ys hy
      obtain ⟨q, qs, h1, h2, s1, s2, e2⟩ := anyq e
      obtain ⟨vs, g, rs⟩ := s.obj h _ p hy hp
      exact .lst q qs (toP_dp s ra h1) (.lst (.of g) (dPs_dp (deref_dp s 8) rs h2)) s1 s2 e2
    · rename_i ys hy
      obtain ⟨q, qs, h1, h2, s1, s2, e2⟩ := anyq e
      obtain ⟨vs, g, rs⟩ := s.obj h _ p hy hp
      exact .lst q qs (toP_dp s ra h1) (.lst g.sq (dPs_dp (deref_dp s 8) rs h2)) s1 s2 e2
    · rename_i kvs hy
      obtain ⟨r, l, e2⟩ := Option.map_eq_some_iff.mp e
      exact .dic p r rfl (dLook_ok s hy hp ra l) e2.symm
    · rename_i kvs hy
      obtain ⟨r, l, e2⟩ := Option.map_eq_some_iff.mp e
      exact .dic p r rfl (dLook_ok s hy hp ra l) e2.symm
    · cases e
  | _ => cases e
theorem dread_isSome {c : Cf} {H : Hp} {ι : List Addr} {S : Store} {a : Addr} {x : V} {r : Option D} (g : DRead c ι S H a x r) : ∃ o, DGet g.H2 a x o ∧ o.isSome = r.isSome := by
  obtain ⟨o, h, q1, q2⟩ := g.get
  refine ⟨o, h, ?_⟩
  cases r with
  | none => rw [q2 rfl]; rfl
  | some d => obtain ⟨v, e, _⟩ := q1 d rfl; rw [e]; rfl
theorem op_pIn (hu : X.A.units + 65 < cLine) : OpR X (compareOp .In) (rP (cf X) pIn) := by
  refine OpR.imp (op_in_sign.or (op_in_str.or ((op_inD hu).or ((op_inTD hu).or (op_dIn (by omega)))))) ?_
  rintro x y H Q ⟨ι, S, a, b, s, ra, rb, d, S', e, k⟩
  unfold pIn at e
  obtain ⟨b1, e1, e⟩ := Option.map_eq_some_iff.mp e
  cases e
  have q := k ι H _ .refl s (.bl _)
  cases inD_ok s ra rb e1 with
  | sign i z hx hy hk => subst hk; exact .inl ⟨i, z, hx, hy, q⟩
  | text i z hx hy hk => subst hk; exact .inr (.inl ⟨i, z, hx, hy, q⟩)
  | lst p ps h1 h2 h3 h4 hk => subst hk; exact .inr (.inr (.inl ⟨p, ps, h1, h2, h3, h4, q⟩))
  | tup p ps h1 h2 h3 h4 hk => subst hk; exact .inr (.inr (.inr (.inl ⟨p, ps, h1, h2, h3, h4, q⟩)))
  | dic p r hy g hk =>
    obtain ⟨g⟩ := g
    obtain ⟨o, h1, h2⟩ := dread_isSome g
    refine .inr (.inr (.inr (.inr ⟨p, o, g.H2, hy, g.tag, h1, ?_⟩)))
    show Q (.bl o.isSome) g.H2
    rw [h2, ← hk]
    exact k ι g.H2 _ g.stp g.sim (.bl _)
theorem op_pNotIn (hu : X.A.units + 65 < cLine) : OpR X (compareOp .NotIn) (rP (cf X) pNotIn) := by
  refine OpR.imp (op_notIn_sign.or (op_notin_str.or ((op_notInD hu).or ((op_notInTD hu).or (op_dNotIn (by omega)))))) ?_
  rintro x y H Q ⟨ι, S, a, b, s, ra, rb, d, S', e, k⟩
  unfold pNotIn at e
  obtain ⟨b1, e1, e⟩ := Option.map_eq_some_iff.mp e
  cases e
  have q := k ι H _ .refl s (.bl _)
  cases inD_ok s ra rb e1 with
  | sign i z hx hy hk => subst hk; exact .inl ⟨i, z, hx, hy, q⟩
  | text i z hx hy hk => subst hk; exact .inr (.inl ⟨i, z, hx, hy, q⟩)
  | lst p ps h1 h2 h3 h4 hk => subst hk; exact .inr (.inr (.inl ⟨p, ps, h1, h2, h3, h4, q⟩))
  | tup p ps h1 h2 h3 h4 hk => subst hk; exact .inr (.inr (.inr (.inl ⟨p, ps, h1, h2, h3, h4, q⟩)))
  | dic p r hy g hk =>
    obtain ⟨g⟩ := g
    obtain ⟨o, h1, h2⟩ := dread_isSome g
    refine .inr (.inr (.inr (.inr ⟨p, o, g.H2, hy, g.tag, h1, ?_⟩)))
    show Q (.bl (!o.isSome)) g.H2
    rw [h2, ← hk]
    exact k ι g.H2 _ g.stp g.sim (.bl _)
/-! ### truth -/
theorem truD_ok {c : Cf} {H : Hp} {ι : List Addr} {S : Store} (s : Sim c ι S H) {a : D} {x : V} {k : Bool} (ra : Rep c H ι a x) (e : truD S a = some k) : TruV c.K x H k ∨ ∃ p, x = .ref p ∧ H p = some (.dT []) ∧ k = false ∧ Sim c ι S (upd H p (.dK [])) ∧ Stp ι H ι (upd H p (.dK [])) := by
  have em : ∀ {xs : List D} {vs : List V}, Reps c H ι xs vs → (!xs.isEmpty) = !vs.isEmpty := fun r => by cases r <;> rfl
  cases ra with
  | non => cases e; exact .inl rfl
  | bl b => cases e; exact .inl rfl
  | int i => cases e; exact .inl rfl
  | str z =>
    unfold truD at e
    simp only at e
    split at e
    · rename_i hz
      cases e
      refine .inl ⟨Nat.le_trans hz lim_le, ?_⟩
      show (!z.cps.toList.isEmpty) = ((z.cps.size : Int) != 0)
      rw [← Array.length_toList]
      cases z.cps.toList with
      | nil => rfl
      | cons p q =>
        show true = _
        exact (bne_iff_ne.mpr (by show ((q.length + 1 : Nat) : Int) ≠ 0; omega)).symm
    · cases e
  | @tup xs vs p hp rs =>
    unfold truD at e
    cases e
    exact .inl (.inr (.inl ⟨vs, .of hp, em rs⟩))
  | @ref h p hp =>
    unfold truD at e
    simp only at e
    split at e
    · rename_i xs hx
      cases e
      obtain ⟨vs, g, rs⟩ := s.obj h _ p hx hp
      exact .inl (.inl ⟨vs, .of g, em rs⟩)
    · rename_i xs hx
      cases e
      obtain ⟨vs, g, rs⟩ := s.obj h _ p hx hp
      exact .inl (.inl ⟨vs, g.sq, em rs⟩)
    · rename_i kvs hx
      cases e
      rcases s.obj h _ p hx hp with ⟨vs, g, rs⟩ | ⟨rfl, g⟩
      · exact .inl (.inr (.inr ⟨vs, g, by cases rs <;> rfl⟩))
      · have q := s.set (m' := .dK []) (o := .dK []) hx hp rfl rfl (.inl ⟨[], upd_same, .nil⟩)
        rw [set_self hx] at q
        exact .inr ⟨p, rfl, g, rfl, q.1, q.2⟩
    · cases e
def rTru (c : Cf) : V → Hp → (Bool → Hp → Prop) → Prop := fun x H Q => ∃ ι S a k, Sim c ι S H ∧ Rep c H ι a x ∧ truD S a = some k ∧ ∀ ι' H', Stp ι H ι' H' → Sim c ι' S H' → Q k H'
theorem tru_D : TruR X (rTru (cf X)) := by
  rintro pins s σ H x v Q I rx ⟨ι, S, a, k, sm, ra, e, q⟩
  rcases truD_ok sm ra e with h | ⟨p, rfl, g, rfl, sm2, st⟩
  · exact tru_ok pins s σ H x v Q I rx ⟨k, h, q ι H .refl sm⟩
  · exact tru_ok pins s σ _ _ v Q (Inv.tag I (.inr (.inr ⟨g, rfl⟩))) rx ⟨false, .inr (.inr ⟨[], upd_same, rfl⟩), q ι _ st sm2⟩
end
end Mini

/-! MINI, part F: subscripts, slices, stores by values. -/
namespace Mini
open PySem L2
section
variable {X : Cx}
/-- d[y] of a dict, tagged -/
def rDIx : R2 := fun x y H Q => ∃ a v H2, x = .ref a ∧ Tag H a H2 ∧ DGet H2 a y (some v) ∧ Q v H2
theorem ix_dict (hu : X.A.units + 1 < cLine) : IxR X rDIx := by
  rintro value slice pins s σ H x y v u Q I rx ry ⟨a, z, H2, rfl, t, g, q⟩ hs
  cases rx
  have I2 := Inv.tag I t
  exact PyProof.Rows.tail_any (dict_typeIs I2 g) PySem.F.slot_dict_getitem.lookup (d_getItem hu I2 g ry fun w' s3 I3 rw' => ⟨z, H2, I3, rw', q⟩) hs
theorem IxR.imp {r r' : R2} (h : IxR X r) (i : ∀ x y H Q, r' x y H Q → r x y H Q) : IxR X r' := fun value slice pins s σ H x y v u Q I rx ry q hs => h value slice pins s σ H x y v u Q I rx ry (i x y H Q q) hs
theorem ix_pIdx (hu : X.A.units + 1 < cLine) : IxR X (rP (cf X) pIdx) := by
  refine IxR.imp (ix_seq.or (ix_dict hu)) ?_
  rintro x y H Q ⟨ι, S, a, b, s, ra, rb, d, S', e, k⟩
  unfold pIdx at e
  cases ra with
  | str z =>
    cases rb with
    | int i =>
      simp only at e
      split at e
      · rename_i hz
        obtain ⟨ci, h1, h2⟩ := Option.map_eq_some_iff.mp e
        cases h2
        exact .inl (.inr (.inr ⟨z, i, ci, rfl, rfl, Nat.le_trans hz lim_le, h1, k ι H _ .refl s (.str _)⟩))
      · cases e
    | _ => cases e
  | @tup xs vs p hp rs =>
    cases rb with
    | int i =>
      simp only at e
      obtain ⟨d1, h1, h2⟩ := Option.map_eq_some_iff.mp e
      cases h2
      obtain ⟨v, g1, g2⟩ := rs.atI h1
      exact .inl (.inr (.inl ⟨p, vs, i, v, rfl, rfl, .of hp, g1, k ι H _ .refl s g2⟩))
    | _ => cases e
  | @ref h p hp =>
    simp only at e
    split at e
    · rename_i xs hx
      obtain ⟨vs, g, rs⟩ := s.obj h _ p hx hp
      cases rb with
      | int i =>
        simp only at e
        obtain ⟨d1, h1, h2⟩ := Option.map_eq_some_iff.mp e
        cases h2
        obtain ⟨v, g1, g2⟩ := rs.atI h1
        exact .inl (.inl ⟨p, vs, i, v, rfl, rfl, .of g, g1, k ι H _ .refl s g2⟩)
      | _ => cases e
    · rename_i xs hx
      obtain ⟨vs, g, rs⟩ := s.obj h _ p hx hp
      cases rb with
      | int i =>
        simp only at e
        obtain ⟨d1, h1, h2⟩ := Option.map_eq_some_iff.mp e
        cases h2
        obtain ⟨v, g1, g2⟩ := rs.atI h1
        exact .inl (.inl ⟨p, vs, i, v, rfl, rfl, g.sq, g1, k ι H _ .refl s g2⟩)
      | _ => cases e
    · rename_i kvs hx
      split at e
      · rename_i d1 h1
        cases e
        obtain ⟨g⟩ := dLook_ok s hx hp rb h1
        obtain ⟨o, g1, g2, _⟩ := g.get
        obtain ⟨v, h3, h4⟩ := g2 _ rfl
        subst h3
        exact .inr ⟨p, v, g.H2, rfl, g.tag, g1, k ι g.H2 v g.stp g.sim h4⟩
      · cases e
    · rename_i kvs hx
      split at e
      · rename_i d1 h1
        cases e
        obtain ⟨g⟩ := dLook_ok s hx hp rb h1
        obtain ⟨o, g1, g2, _⟩ := g.get
        obtain ⟨v, h3, h4⟩ := g2 _ rfl
        subst h3
        exact .inr ⟨p, v, g.H2, rfl, g.tag, g1, k ι g.H2 v g.stp g.sim h4⟩
      · cases e
    · cases e
  | _ => cases e
/-! ### slices -/
def rCut (c : Cf) : V → Option Int → Option Int → Hp → VK → Prop := fun x lo hi H Q => ∃ ι S a, Sim c ι S H ∧ Rep c H ι a x ∧ Fin c ι H Q (pCut a lo hi S)
theorem SlR.imp {r r' : V → Option Int → Option Int → Hp → VK → Prop} (h : SlR X r) (i : ∀ x lo hi H Q, r' x lo hi H Q → r x lo hi H Q) : SlR X r' := fun pins s σ H x v vl vu lo hi sl Q I rx hs pl pu q => h pins s σ H x v vl vu lo hi sl Q I rx hs pl pu (i x lo hi H Q q)
theorem cutD_len (xs : List D) (lo hi : Option Int) : (cutD xs lo hi).length ≤ xs.length := by
  unfold cutD
  rw [List.length_take, List.length_drop]; omega
theorem alloc_fin {c : Cf} {H : Hp} {ι : List Addr} {S : Store} {Q : VK} {xs : List D} {vs : List V} (s : Sim c ι S H) (h : Fin c ι H Q (alloc (.lst xs) S)) (r : Reps c H ι xs vs) : ∀ p, H p = none → Q (.ref p) (upd H p (.lst vs)) := by
  obtain ⟨d', S', e, k⟩ := h
  cases e
  intro p hp
  have st : Stp ι H (ι ++ [p]) (upd H p (.lst vs)) := Stp.new hp [p]
  obtain ⟨s2, _⟩ := s.new (m := .lst xs) (o := .lst vs) hp ⟨vs, upd_same, r.step st⟩
  exact k _ _ _ st s2 (.ref (s.newRef p))
theorem sl_pCut : SlR X (rCut (cf X)) := by
  refine SlR.imp (sl_list.or (sl_tupA.or sl_str)) ?_
  rintro x lo hi H Q ⟨ι, S, a, s, ra, f⟩
  have f0 := f
  obtain ⟨d, S', e, k⟩ := f
  unfold pCut at e
  cases ra with
  | str z =>
    simp only at e
    split at e
    · rename_i hz
      cases e
      exact .inr (.inr ⟨z, rfl, Nat.le_trans hz lim_le, k ι H _ .refl s (.str _)⟩)
    · cases e
  | @tup xs vs p hp rs =>
    cases e
    refine .inr (.inl ⟨p, vs, rfl, .of hp, fun hw => ?_, fun _ => ?_⟩)
    · refine k ι H _ .refl s (.tup hp ?_)
      have : cutD xs lo hi = xs := by
        rw [rs.length] at hw
        unfold cutD
        rw [hw.1, hw.2]; simp
      rw [this]; exact rs
    · have f2 : Fin (cf X) ι H Q (some (.tup (cutD xs lo hi), S)) := ⟨_, _, rfl, k⟩
      exact f2.tup s (rs.cut lo hi)
  | @ref h p hp =>
    simp only at e
    split at e
    · rename_i xs hx
      obtain ⟨vs, g, rs⟩ := s.obj h _ p hx hp
      have f2 : Fin (cf X) ι H Q (alloc (.lst (cutD xs lo hi)) S) := ⟨d, S', e, k⟩
      exact .inl ⟨p, vs, rfl, .of g, alloc_fin s f2 (rs.cut lo hi)⟩
    · rename_i xs hx
      obtain ⟨vs, g, rs⟩ := s.obj h _ p hx hp
      have f2 : Fin (cf X) ι H Q (alloc (.lst (cutD xs lo hi)) S) := ⟨d, S', e, k⟩
      exact .inl ⟨p, vs, rfl, g.sq, alloc_fin s f2 (rs.cut lo hi)⟩
    · cases e
  | _ => cases e
/-! ### stores -/
def rDSet : TSet := fun o i v H Q => ∃ a H2 H3, o = .ref a ∧ Tag H a H2 ∧ DPut H2 a i v H3 ∧ Q H3
theorem set_dict (hu : X.A.units + 1 < cLine) : PSet X rDSet := by
  rintro pins s σ H o i v ov iv u Q I ro ri rv ⟨a, H2, H3, rfl, t, g, q⟩
  cases ro
  exact d_setItem hu (Inv.tag I t) g ri rv fun s4 I4 => ⟨H3, I4, q⟩
theorem PSet.or {r r' : TSet} (h : PSet X r) (h' : PSet X r') : PSet X (fun o i v H Q => r o i v H Q ∨ r' o i v H Q) := by
  intro pins s σ H o i v ov iv u Q I ro ri rv q
  rcases q with q | q
  · exact h pins s σ H o i v ov iv u Q I ro ri rv q
  · exact h' pins s σ H o i v ov iv u Q I ro ri rv q
theorem PSet.imp {r r' : TSet} (h : PSet X r) (f : ∀ o i v H Q, r' o i v H Q → r o i v H Q) : PSet X r' := fun pins s σ H o i v ov iv u Q I ro ri rv q => h pins s σ H o i v ov iv u Q I ro ri rv (f o i v H Q q)
def rSet (c : Cf) : TSet := fun o i v H Q => ∃ ι S a b d S', Sim c ι S H ∧ Rep c H ι a o ∧ Rep c H ι b i ∧ Rep c H ι d v ∧ pSet a b d S = some S' ∧ ∀ ι' H', Stp ι H ι' H' → Sim c ι' S' H' → Q H'
theorem set_pSet (hu : X.A.units + 1 < cLine) : PSet X (rSet (cf X)) := by
  refine PSet.imp (PSet.or set_list (set_dict hu)) ?_
  rintro o i v H Q ⟨ι, S, a, b, d, S', s, ra, rb, rd, e, k⟩
  unfold pSet at e
  cases ra with
  | @ref h p hp =>
    simp only at e
    split at e
    · rename_i xs hx
      obtain ⟨vs, g, rs⟩ := s.obj h _ p hx hp
      cases rb with
      | int i =>
        simp only at e
        obtain ⟨j, h1, h2⟩ := Option.map_eq_some_iff.mp e
        subst h2
        have st : ∀ o', Stp ι H ι (upd H p o') := fun o' => Stp.set (noTup g fun _ z => by cases z)
        obtain ⟨s2, st2⟩ := s.set (m' := .lst (xs.set j d)) (o := .lst (vs.set j v)) hx hp rfl rfl ⟨_, upd_same, (rs.set rd j).step (st _)⟩
        exact .inl ⟨p, vs, i, j, rfl, rfl, g, by rw [rs.length]; exact h1, k ι _ st2 s2⟩
      | _ => cases e
    · rename_i kvs hx
      have ob := s.obj h _ p hx hp
      cases hk : keyOf b with
      | some kk =>
        simp only [hk] at e
        split at e
        · rename_i hl
          cases e
          have ey := keyOf_rep rb hk
          -- the dict as one by keys
          obtain ⟨vs, H2, t, g, rs, s2, st⟩ : ∃ vs H2, Tag H p H2 ∧ H2 p = some (.dK vs) ∧ RepKV (cf X) H2 ι kvs vs ∧ Sim (cf X) ι S H2 ∧ Stp ι H ι H2 := by
            rcases ob with ⟨vs, g, rs⟩ | ⟨rfl, g⟩
            · exact ⟨vs, H, .inl rfl, g, rs, s, .refl⟩
            · have q := s.set (m' := .dK []) (o := .dK []) hx hp rfl rfl (.inl ⟨[], upd_same, .nil⟩)
              rw [set_self hx] at q
              exact ⟨[], _, .inr (.inr ⟨g, rfl⟩), upd_same, .nil, q.1, q.2⟩
          have st' : ∀ o', Stp ι H2 ι (upd H2 p o') := fun o' => Stp.set (noTup g fun _ z => by cases z)
          obtain ⟨s3, st3⟩ := s2.set (m' := .dK (putM kvs kk d)) (o := .dK (putK vs kk v)) hx hp rfl rfl (.inl ⟨_, upd_same, ((rs.put kk (rd.step st))).step (st' _)⟩)
          exact .inr ⟨p, H2, _, rfl, t, .inl ⟨vs, kk, g, ey, by rw [rs.length]; exact Nat.lt_trans hl lim_lt, rfl⟩, k ι _ (st.trans st3) s3⟩
        · cases e
      | none =>
        cases hk2 : tkeyOf b with
        | none => simp only [hk, hk2] at e; cases e
        | some kk =>
          simp only [hk, hk2] at e
          split at e
          · rename_i he
            cases e
            have hn : kvs = [] := List.isEmpty_iff.mp he
            subst hn
            obtain ⟨b', ey, hb⟩ := tkeyOf_rep rb hk2
            obtain ⟨H2, t, g, s2, st⟩ : ∃ H2, Tag H p H2 ∧ H2 p = some (.dT []) ∧ Sim (cf X) ι S H2 ∧ Stp ι H ι H2 := by
              rcases ob with ⟨vs, g, rs⟩ | ⟨_, g⟩
              · cases rs
                have q := s.set (m' := .dK []) (o := .dT []) hx hp rfl rfl (.inr ⟨rfl, upd_same⟩)
                rw [set_self hx] at q
                exact ⟨_, .inr (.inl ⟨g, rfl⟩), upd_same, q.1, q.2⟩
              · exact ⟨H, .inl rfl, g, s, .refl⟩
            have st' : ∀ o', Stp ι H2 ι (upd H2 p o') := fun o' => Stp.set (noTup g fun _ z => by cases z)
            obtain ⟨s3, st3⟩ := s2.set (m' := .dT (putM [] kk d)) (o := .dT (putK [] kk v)) hx hp rfl rfl (.inl ⟨_, upd_same, ((RepKV.nil.put kk (rd.step st))).step (st' _)⟩)
            exact .inr ⟨p, H2, _, rfl, t, .inr ⟨[], kk, b', g, ey, st.tup _ _ hb, by rw [sizeLine_eq]; decide, rfl⟩, k ι _ (st.trans st3) s3⟩
          · cases e
    · rename_i kvs hx
      have ob := s.obj h _ p hx hp
      cases hk : tkeyOf b with
      | some kk =>
        simp only [hk] at e
        split at e
        · rename_i hl
          cases e
          obtain ⟨b', ey, hb⟩ := tkeyOf_rep rb hk
          obtain ⟨vs, H2, t, g, rs, s2, st⟩ : ∃ vs H2, Tag H p H2 ∧ H2 p = some (.dT vs) ∧ RepKV (cf X) H2 ι kvs vs ∧ Sim (cf X) ι S H2 ∧ Stp ι H ι H2 := by
            rcases ob with ⟨vs, g, rs⟩ | ⟨rfl, g⟩
            · exact ⟨vs, H, .inl rfl, g, rs, s, .refl⟩
            · have q := s.set (m' := .dT []) (o := .dT []) hx hp rfl rfl (.inl ⟨[], upd_same, .nil⟩)
              rw [set_self hx] at q
              exact ⟨[], _, .inr (.inl ⟨g, rfl⟩), upd_same, .nil, q.1, q.2⟩
          have st' : ∀ o', Stp ι H2 ι (upd H2 p o') := fun o' => Stp.set (noTup g fun _ z => by cases z)
          obtain ⟨s3, st3⟩ := s2.set (m' := .dT (putM kvs kk d)) (o := .dT (putK vs kk v)) hx hp rfl rfl (.inl ⟨_, upd_same, ((rs.put kk (rd.step st))).step (st' _)⟩)
          exact .inr ⟨p, H2, _, rfl, t, .inr ⟨vs, kk, b', g, ey, st.tup _ _ hb, by rw [rs.length]; exact Nat.lt_trans hl lim_lt, rfl⟩, k ι _ (st.trans st3) s3⟩
        · cases e
      | none =>
        cases hk2 : keyOf b with
        | none => simp only [hk, hk2] at e; cases e
        | some kk =>
          simp only [hk, hk2] at e
          split at e
          · rename_i he
            cases e
            have hn : kvs = [] := List.isEmpty_iff.mp he
            subst hn
            have ey := keyOf_rep rb hk2
            obtain ⟨H2, t, g, s2, st⟩ : ∃ H2, Tag H p H2 ∧ H2 p = some (.dK []) ∧ Sim (cf X) ι S H2 ∧ Stp ι H ι H2 := by
              rcases ob with ⟨vs, g, rs⟩ | ⟨_, g⟩
              · cases rs
                have q := s.set (m' := .dT []) (o := .dK []) hx hp rfl rfl (.inr ⟨rfl, upd_same⟩)
                rw [set_self hx] at q
                exact ⟨_, .inr (.inr ⟨g, rfl⟩), upd_same, q.1, q.2⟩
              · exact ⟨H, .inl rfl, g, s, .refl⟩
            have st' : ∀ o', Stp ι H2 ι (upd H2 p o') := fun o' => Stp.set (noTup g fun _ z => by cases z)
            obtain ⟨s3, st3⟩ := s2.set (m' := .dK (putM [] kk d)) (o := .dK (putK [] kk v)) hx hp rfl rfl (.inl ⟨_, upd_same, ((RepKV.nil.put kk (rd.step st))).step (st' _)⟩)
            exact .inr ⟨p, H2, _, rfl, t, .inl ⟨[], kk, g, ey, by rw [sizeLine_eq]; decide, rfl⟩, k ι _ (st.trans st3) s3⟩
          · cases e
    · cases e
  | _ => cases e
end
end Mini

/-! MINI, part G: expressions. -/
namespace Mini
open PySem L2
def badE : ME := fun _ _ => .bad
def eVar (i : Nat) : ME := fun ρ S => match ρ[i]? with
  | some (some d) => .ok d S
  | _ => .bad
def eC (d : D) : ME := fun _ S => .ok d S
def aNil : Env → M (List D) := fun _ S => .ok [] S
def aCons (f : ME) (r : Env → M (List D)) : Env → M (List D) := fun ρ => bnd (f ρ) fun a => bnd (r ρ) fun as => pur (a :: as)
def eTup (f : Env → M (List D)) : ME := fun ρ => bnd (f ρ) fun xs => fun S => lift (tupO xs S)
def eLst (f : Env → M (List D)) : ME := fun ρ => bnd (f ρ) fun xs => fun S => lift (newL xs S)
def eUn (g : P1) (f : ME) : ME := fun ρ => bnd (f ρ) fun a => fun S => lift (g a S)
/-- by values: what all arguments give -/
abbrev PN := List D → Store → Option (D × Store)
def eB (g : PN) (f : Env → M (List D)) : ME := fun ρ => bnd (f ρ) fun xs => fun S => lift (g xs S)
def eBl (f : ME) (k : Bool → M D) : ME := fun ρ => bnd (f ρ) fun a => match a with
  | .bl b => k b
  | _ => fun _ => .bad
def eAnd (fa fb : ME) : ME := fun ρ => bnd (fa ρ) fun a => match a with
  | .bl b => if b = true then fb ρ else pur (.bl false)
  | _ => fun _ => .bad
def eOr (fa fb : ME) : ME := fun ρ => bnd (fa ρ) fun a => match a with
  | .bl b => if b = true then pur (.bl true) else fb ρ
  | _ => fun _ => .bad
def eNot (fa : ME) : ME := fun ρ => bnd (fa ρ) fun a => match a with
  | .bl b => pur (.bl (!b))
  | _ => fun _ => .bad
def eIf (t : Env → M Bool) (fa fb : ME) : ME := fun ρ => bnd (t ρ) fun b => if b = true then fa ρ else fb ρ
def eChain (g g' : P2) (fa fb fc : ME) : ME := fun ρ => bnd (fa ρ) fun a => bnd (fb ρ) fun b => bnd (fun S => lift (g a b S)) fun z => match z with
  | .bl k => if k = true then bnd (fc ρ) fun c => fun S => lift (g' b c S) else pur (.bl false)
  | _ => fun _ => .bad
def tBl (f : ME) : Env → M Bool := fun ρ => bnd (f ρ) fun a => match a with
  | .bl b => pur b
  | _ => fun _ => .bad
def tTru (f : ME) : Env → M Bool := fun ρ => bnd (f ρ) fun a => fun S => match truD S a with
  | some k => .ok k S
  | none => .bad
def tAnd' (a b : Env → M Bool) : Env → M Bool := fun ρ => bnd (a ρ) fun k => if k = true then b ρ else pur false
def tOr' (a b : Env → M Bool) : Env → M Bool := fun ρ => bnd (a ρ) fun k => if k = true then pur true else b ρ
def tNot' (a : Env → M Bool) : Env → M Bool := fun ρ => bnd (a ρ) fun k => pur (!k)
def badT : Env → M Bool := fun _ _ => .bad
def eCut (f : ME) (lo hi : Env → M (Option Int)) : ME := fun ρ => bnd (f ρ) fun a => bnd (lo ρ) fun l => bnd (hi ρ) fun h => fun S => lift (pCut a l h S)
def oNone : Env → M (Option Int) := fun _ S => .ok none S
def oSome (f : ME) : Env → M (Option Int) := fun ρ => bnd (f ρ) fun a => match a with
  | .int i => pur (some i)
  | _ => fun _ => .bad
def eCall (g : List D → M D) (f : Env → M (List D)) : ME := fun ρ => bnd (f ρ) g

section
variable {X : Cx} {W : WX} {fa fb fc : ME} {a b e : Expr} {es : List Expr} {fs : Env → M (List D)} {pos : Pos}
theorem bad_no {α β : Type} {R : Hp → List Addr → α → β → Prop} {c : Cf} {ι : List Addr} {H : Hp} {σ : St} {Q : β → Hp → Prop} {o : Out α} (h : post R c W ι H σ Q o) (e : o = .bad) : False := by subst e; exact h
theorem pe_bad : PE X e (tE (cf X) W badE) := ⟨fun _ _ _ _ _ _ ⟨_, _, _, _, _, h⟩ => h.elim⟩
theorem pt_bad : PT X e (tT (cf X) W badT) := ⟨fun _ _ _ _ _ _ ⟨_, _, _, _, _, h⟩ => h.elim⟩
theorem se_var {i : Nat} {x : Str} (hN : X.N[i]? = some x) (hv : Vis X.env.scope x) (hd : (x == ("__debug__" : Str)) = false) (hcd : (x == ("__classdict__" : Str)) = false) : PE X (.Name x pos) (tE (cf X) W (eVar i)) := by
  refine PE.imp (pe_var hN hv hd hcd) ?_
  rintro σ H Q ⟨ι, S, ρ, s, en, p⟩
  unfold eVar at p
  split at p
  · rename_i d hd
    obtain ⟨v, h1, h2⟩ := en.get i d hd
    exact ⟨v, h1, p ι H v .refl s h2⟩
  · exact p.elim
theorem se_C {d : D} {v : V} (h : PE X e (tC v)) (r : ∀ c H ι, Rep c H ι d v) : PE X e (tE (cf X) W (eC d)) := by
  refine PE.imp h ?_
  rintro σ H Q ⟨ι, S, ρ, s, en, p⟩
  exact p ι H v .refl s (r _ _ _)
theorem se_op {op : Operator} {g : P2} (ho : OpR X (binaryOp op) (rP (cf X) g)) (ha : PE X a (tE (cf X) W fa)) (hb : PE X b (tE (cf X) W fb)) : PE X (.BinOp a op b pos) (tE (cf X) W (eOp g fa fb)) :=
  PE.imp (pe_op ho ha hb) fun _ _ _ h => tE_op h
theorem se_cmp {op : CmpOp} {g : P2} (ho : OpR X (compareOp op) (rP (cf X) g)) (ha : PE X a (tE (cf X) W fa)) (hb : PE X b (tE (cf X) W fb)) (hm : behindInMarks op b = false) : PE X (.Compare a [op] [b] pos) (tE (cf X) W (eOp g fa fb)) :=
  PE.imp (pe_cmpR ho ha hb hm) fun _ _ _ h => tE_op h
theorem st_cmp {op : CmpOp} {g : P2} (ho : OpR X (compareOp op) (rP (cf X) g)) (ha : PE X a (tE (cf X) W fa)) (hb : PE X b (tE (cf X) W fb)) (hm : behindInMarks op b = false) : PT X (.Compare a [op] [b] pos) (tT (cf X) W (tBl (eOp g fa fb))) := by
  refine PT.imp (pt_cmpR ho ha hb hm) ?_
  rintro σ H Q ⟨ι, S, ρ, s, en, p⟩
  refine tE_op ⟨ι, S, ρ, s, en, post_bnd p fun a S1 ι1 H1 x e1 st1 sm1 r1 p1 => ?_⟩
  cases r1 with
  | bl k => exact ⟨k, rfl, p1 ι1 H1 k .refl sm1 rfl⟩
  | _ => exact p1.elim
theorem se_ix {g : P2} (ho : IxR X (rP (cf X) g)) (ha : PE X a (tE (cf X) W fa)) (hb : PE X b (tE (cf X) W fb)) (hs : PlainIx b) : PE X (.Subscript a b pos) (tE (cf X) W (eOp g fa fb)) :=
  PE.imp (pe_ix ho ha hb hs) fun _ _ _ h => tE_op h
theorem se_un {op : UnaryOp} {g : P1} (ho : UnR X (unaryOp op) (rU1 (cf X) g)) (ha : PE X a (tE (cf X) W fa)) : PE X (.UnaryOp op a pos) (tE (cf X) W (eUn g fa)) := by
  refine PE.imp (pe_un ho ha) ?_
  rintro σ H Q ⟨ι, S, ρ, s, en, p⟩
  exact ⟨ι, S, ρ, s, en, post_bnd p fun a S1 ι1 H1 x e1 st1 sm1 r1 p1 => ⟨ι1, S1, a, sm1, r1, fin_of p1⟩⟩
theorem sa_nil : PA X [] (tA (cf X) W aNil) := by
  refine PA.imp pa_nil ?_
  rintro σ H Q ⟨ι, S, ρ, s, en, p⟩
  exact p ι H [] .refl s .nil
theorem sa_cons (he : PE X e (tE (cf X) W fa)) (hr : PA X es (tA (cf X) W fs)) (hs : starEach (e :: es) X.env = (false, eval e X.env) :: starEach es X.env) : PA X (e :: es) (tA (cf X) W (aCons fa fs)) := by
  refine PA.imp (pa_cons he hr hs) ?_
  rintro σ H Q ⟨ι, S, ρ, s, en, p⟩
  refine ⟨ι, S, ρ, s, en, post_bnd p fun a S1 ι1 H1 x e1 st1 sm1 r1 p1 => ?_⟩
  refine ⟨ι1, S1, ρ, sm1, en.step st1, post_bnd p1 fun as S2 ι2 H2 xs e2 st2 sm2 r2 p2 => ?_⟩
  exact p2 ι2 H2 (x :: xs) .refl sm2 (.cons (r1.step st2) r2)
theorem se_tup {x1 : Nat} (h : PA X es (tA (cf X) W fs)) : PE X (.Tuple es x1 pos) (tE (cf X) W (eTup fs)) := by
  refine PE.imp (pe_tup h) ?_
  rintro σ H Q ⟨ι, S, ρ, s, en, p⟩
  refine ⟨ι, S, ρ, s, en, post_bnd p fun xs S1 ι1 H1 vs e1 st1 sm1 r1 p1 => ?_⟩
  have f := fin_of p1
  obtain ⟨d, S', e, k⟩ := f
  obtain ⟨hl, e2⟩ := tupO_some e
  cases e2
  have f2 : Fin (cf X) ι1 H1 Q (some (.tup xs, S1)) := ⟨_, _, rfl, k⟩
  exact ⟨by rw [r1.length]; exact Nat.le_trans hl lim_le, f2.tup sm1 r1⟩
theorem se_lst (h : PA X es (tA (cf X) W fs)) : PE X (.List es pos) (tE (cf X) W (eLst fs)) := by
  refine PE.imp (pe_lst h) ?_
  rintro σ H Q ⟨ι, S, ρ, s, en, p⟩
  exact ⟨ι, S, ρ, s, en, post_bnd p fun xs S1 ι1 H1 vs e1 st1 sm1 r1 p1 => (fin_of p1).lst sm1 r1⟩
/-! ### and, or, not, if -/
theorem se_and {rest : List Expr} (ha : PE X a (tE (cf X) W fa)) (hb : PE X (.BoolOp .And (b :: rest) pos) (tE (cf X) W fb)) : PE X (.BoolOp .And (a :: b :: rest) pos) (tE (cf X) W (eAnd fa fb)) := by
  refine PE.imp (pe_and ha hb) ?_
  rintro σ H Q ⟨ι, S, ρ, s, en, p⟩
  refine ⟨ι, S, ρ, s, en, post_bnd p fun a S1 ι1 H1 x e1 st1 sm1 r1 p1 => ?_⟩
  cases r1 with
  | bl k =>
    refine ⟨k, rfl, ?_⟩
    cases k with
    | true => exact ⟨ι1, S1, ρ, sm1, en.step st1, p1⟩
    | false => exact p1 ι1 H1 _ .refl sm1 (.bl _)
  | _ => exact p1.elim
theorem se_or {rest : List Expr} (ha : PE X a (tE (cf X) W fa)) (hb : PE X (.BoolOp .Or (b :: rest) pos) (tE (cf X) W fb)) : PE X (.BoolOp .Or (a :: b :: rest) pos) (tE (cf X) W (eOr fa fb)) := by
  refine PE.imp (pe_or ha hb) ?_
  rintro σ H Q ⟨ι, S, ρ, s, en, p⟩
  refine ⟨ι, S, ρ, s, en, post_bnd p fun a S1 ι1 H1 x e1 st1 sm1 r1 p1 => ?_⟩
  cases r1 with
  | bl k =>
    refine ⟨k, rfl, ?_⟩
    cases k with
    | false => exact ⟨ι1, S1, ρ, sm1, en.step st1, p1⟩
    | true => exact p1 ι1 H1 _ .refl sm1 (.bl _)
  | _ => exact p1.elim
theorem se_not (ha : PE X a (tE (cf X) W fa)) : PE X (.UnaryOp .Not a pos) (tE (cf X) W (eNot fa)) := by
  refine PE.imp (pe_not ha) ?_
  rintro σ H Q ⟨ι, S, ρ, s, en, p⟩
  refine ⟨ι, S, ρ, s, en, post_bnd p fun a S1 ι1 H1 x e1 st1 sm1 r1 p1 => ?_⟩
  cases r1 with
  | bl k => exact ⟨k, rfl, p1 ι1 H1 _ .refl sm1 (.bl _)⟩
  | _ => exact p1.elim
theorem se_if {c : Expr} {t : Env → M Bool} (hc : PT X c (tT (cf X) W t)) (ha : PE X a (tE (cf X) W fa)) (hb : PE X b (tE (cf X) W fb)) : PE X (.IfExp c a b pos) (tE (cf X) W (eIf t fa fb)) := by
  refine PE.imp (pe_ifExp hc ha hb) ?_
  rintro σ H Q ⟨ι, S, ρ, s, en, p⟩
  refine ⟨ι, S, ρ, s, en, post_bnd p fun k S1 ι1 H1 x e1 st1 sm1 r1 p1 => ?_⟩
  cases r1
  cases k with
  | true => exact ⟨ι1, S1, ρ, sm1, en.step st1, p1⟩
  | false => exact ⟨ι1, S1, ρ, sm1, en.step st1, p1⟩
theorem tE_chain {g g' : P2} {σ : St} {H : Hp} {Q : VK} (h : tE (cf X) W (eChain g g' fa fb fc) σ H Q) : tChain (rP (cf X) g) (rP (cf X) g') (tE (cf X) W fa) (tE (cf X) W fb) (tE (cf X) W fc) σ H Q := by
  obtain ⟨ι, S, ρ, s, en, p⟩ := h
  refine ⟨ι, S, ρ, s, en, post_bnd p fun a S1 ι1 H1 x e1 st1 sm1 r1 p1 => ?_⟩
  refine ⟨ι1, S1, ρ, sm1, en.step st1, post_bnd p1 fun b S2 ι2 H2 y e2 st2 sm2 r2 p2 => ?_⟩
  refine ⟨ι2, S2, a, b, sm2, r1.step st2, r2, fin_of (post_bnd (R := RD (cf X)) p2 fun z S3 ι3 H3 w e3 st3 sm3 r3 p3 => ?_)⟩
  cases r3 with
  | bl k =>
    refine ⟨k, rfl, ?_⟩
    cases k with
    | true =>
      refine ⟨ι3, S3, ρ, sm3, (en.step st1).step (st2.trans st3), post_bnd p3 fun c S4 ι4 H4 u e4 st4 sm4 r4 p4 => ?_⟩
      exact ⟨ι4, S4, b, c, sm4, r2.step (st3.trans st4), r4, fin_of p4⟩
    | false => exact p3 ι3 H3 _ .refl sm3 (.bl _)
  | _ => exact p3.elim
theorem se_chain {op op' : CmpOp} {g g' : P2} {c : Expr} (ho : OpR X (compareOp op) (rP (cf X) g)) (ho' : OpR X (compareOp op') (rP (cf X) g')) (ha : PE X a (tE (cf X) W fa)) (hb : PE X b (tE (cf X) W fb)) (hc : PE X c (tE (cf X) W fc))
    (hm : lastMarks [op, op'] [b, c] = false) : PE X (.Compare a [op, op'] [b, c] pos) (tE (cf X) W (eChain g g' fa fb fc)) := PE.imp (pe_chain ho ho' ha hb hc hm) fun _ _ _ h => tE_chain h
theorem st_chain {op op' : CmpOp} {g g' : P2} {c : Expr} (ho : OpR X (compareOp op) (rP (cf X) g)) (ho' : OpR X (compareOp op') (rP (cf X) g')) (ha : PE X a (tE (cf X) W fa)) (hb : PE X b (tE (cf X) W fb)) (hc : PE X c (tE (cf X) W fc))
    (hm : lastMarks [op, op'] [b, c] = false) : PT X (.Compare a [op, op'] [b, c] pos) (tT (cf X) W (tBl (eChain g g' fa fb fc))) := by
  refine PT.imp (pt_chain ho ho' ha hb hc hm) ?_
  rintro σ H Q ⟨ι, S, ρ, s, en, p⟩
  refine tE_chain ⟨ι, S, ρ, s, en, post_bnd p fun a S1 ι1 H1 x e1 st1 sm1 r1 p1 => ?_⟩
  cases r1 with
  | bl k => exact ⟨k, rfl, p1 ι1 H1 k .refl sm1 rfl⟩
  | _ => exact p1.elim
/-! ### tests -/
theorem st_tru (ha : PE X a (tE (cf X) W fa)) (he : ∀ whole, isTrue a X.env whole = (do let v ← whole; standAt a.pos; holding [v] (truthy v))) : PT X a (tT (cf X) W (tTru fa)) := by
  refine ⟨fun pins s σ H Q I h => ?_⟩
  obtain ⟨ι, S, ρ, sm, en, p⟩ := h
  refine PyProof.Rows.isTrue_plain (thn (ha.run pins s σ H _ I ⟨ι, S, ρ, sm, en, post_bnd (Q1 := fun x H1 => rTru (cf X) x H1 Q) p fun a S1 ι1 H1 x e1 st1 sm1 r1 p1 => ?_⟩) fun v s1 ⟨x, H1, I1, r1, q1⟩ => tru_D pins s1 σ H1 x v Q I1 r1 q1) (he _)
  have p2 : post RB (cf X) W ι1 H1 σ Q (match truD S1 a with | some k => .ok k S1 | none => .bad) := p1
  split at p2
  · rename_i k hk
    exact ⟨ι1, S1, a, k, sm1, r1, hk, fun ι' H' st' sm' => p2 ι' H' k st' sm' rfl⟩
  · exact p2.elim
theorem sw_and {t u : Env → M Bool} {rest : List Expr} (ha : PT X a (tT (cf X) W t)) (hb : PW X (.BoolOp .And (b :: rest) pos) (tT (cf X) W u)) : PW X (.BoolOp .And (a :: b :: rest) pos) (tT (cf X) W (tAnd' t u)) := by
  have h := pw_and ha hb
  refine ⟨fun wh pins s σ H Q I q => h.run wh pins s σ H Q I ?_⟩
  obtain ⟨ι, S, ρ, s, en, p⟩ := q
  refine ⟨ι, S, ρ, s, en, post_bnd p fun k S1 ι1 H1 x e1 st1 sm1 r1 p1 => ?_⟩
  cases r1
  cases k with
  | true => exact ⟨ι1, S1, ρ, sm1, en.step st1, p1⟩
  | false => exact p1 ι1 H1 _ .refl sm1 rfl
theorem sw_or {t u : Env → M Bool} {rest : List Expr} (ha : PT X a (tT (cf X) W t)) (hb : PW X (.BoolOp .Or (b :: rest) pos) (tT (cf X) W u)) : PW X (.BoolOp .Or (a :: b :: rest) pos) (tT (cf X) W (tOr' t u)) := by
  have h := pw_or ha hb
  refine ⟨fun wh pins s σ H Q I q => h.run wh pins s σ H Q I ?_⟩
  obtain ⟨ι, S, ρ, s, en, p⟩ := q
  refine ⟨ι, S, ρ, s, en, post_bnd p fun k S1 ι1 H1 x e1 st1 sm1 r1 p1 => ?_⟩
  cases r1
  cases k with
  | false => exact ⟨ι1, S1, ρ, sm1, en.step st1, p1⟩
  | true => exact p1 ι1 H1 _ .refl sm1 rfl
theorem st_not {t : Env → M Bool} (ha : PT X a (tT (cf X) W t)) : PT X (.UnaryOp .Not a pos) (tT (cf X) W (tNot' t)) := by
  refine PT.imp (pt_not ha) ?_
  rintro σ H Q ⟨ι, S, ρ, s, en, p⟩
  refine ⟨ι, S, ρ, s, en, post_bnd p fun k S1 ι1 H1 x e1 st1 sm1 r1 p1 => ?_⟩
  cases r1
  exact p1 ι1 H1 _ .refl sm1 rfl
/-! ### slices -/
def tO (c : Cf) (W : WX) (f : Env → M (Option Int)) : TO := fun σ H Q => ∃ ι S ρ, Sim c ι S H ∧ REnv c H ι ρ σ ∧ post (fun _ _ (a b : Option Int) => a = b) c W ι H σ Q (f ρ S)
theorem PO.imp {X : Cx} {e : Option Expr} {t t' : TO} (h : PO X e t) (f : ∀ σ H Q, t' σ H Q → t σ H Q) : PO X e t' := ⟨fun pins s σ H Q I q => h.run pins s σ H Q I (f σ H Q q)⟩
theorem so_none : PO X none (tO (cf X) W oNone) := by
  refine PO.imp po_none ?_
  rintro σ H Q ⟨ι, S, ρ, s, en, p⟩
  exact p ι H none .refl s rfl
theorem so_some (he : PE X e (tE (cf X) W fa)) : PO X (some e) (tO (cf X) W (oSome fa)) := by
  refine PO.imp (po_some he) ?_
  rintro σ H Q ⟨ι, S, ρ, s, en, p⟩
  refine ⟨ι, S, ρ, s, en, post_bnd p fun a S1 ι1 H1 x e1 st1 sm1 r1 p1 => ?_⟩
  cases r1 with
  | int i => exact ⟨i, rfl, p1 ι1 H1 _ .refl sm1 rfl⟩
  | _ => exact p1.elim
theorem se_cut {lo hi : Option Expr} {fl fh : Env → M (Option Int)} {p2 : Pos} (he : PE X e (tE (cf X) W fa)) (hl : PO X lo (tO (cf X) W fl)) (hh : PO X hi (tO (cf X) W fh)) : PE X (.Subscript e (.Slice lo hi none p2) pos) (tE (cf X) W (eCut fa fl fh)) := by
  refine PE.imp (pe_slice sl_pCut he hl hh) ?_
  rintro σ H Q ⟨ι, S, ρ, s, en, p⟩
  refine ⟨ι, S, ρ, s, en, post_bnd p fun a S1 ι1 H1 x e1 st1 sm1 r1 p1 => ?_⟩
  refine ⟨ι1, S1, ρ, sm1, en.step st1, post_bnd p1 fun l S2 ι2 H2 l' e2 st2 sm2 r2 p2 => ?_⟩
  refine ⟨ι2, S2, ρ, sm2, en.step (st1.trans st2), post_bnd p2 fun h S3 ι3 H3 h' e3 st3 sm3 r3 p3 => ?_⟩
  cases r2; cases r3
  exact ⟨ι3, S3, a, sm3, r1.step (st2.trans st3), fin_of p3⟩
/-! ### calls -/
/-- what a def promises: the value that g computes -/
def spM (c : Cf) (n : Nat) (g : List D → M D) : Sp := fun vs H Q E => vs.length = n ∧ ∃ ι S ds, Sim c ι S H ∧ Reps c H ι ds vs ∧ match g ds S with
  | .ok d S' => ∀ ι' H' v, Stp ι H ι' H' → Sim c ι' S' H' → Rep c H' ι' d v → Q v H'
  | .exc m fs S' => ∀ ι' H' cls dd, Stp ι H ι' H' → Sim c ι' S' H' → RExc c H' ι' m fs cls dd → E cls dd H'
  | .bad => False
theorem tE_call {g : List D → M D} {n : Nat} {σ : St} {H : Hp} {Q : VK} (h : tE (cf X) W (eCall g fs) σ H Q) (hn : ∀ ds S, ds.length ≠ n → g ds S = .bad) : tCallS (spM (cf X) n g) (WE W) (tA (cf X) W fs) σ H Q := by
  obtain ⟨ι, S, ρ, s, en, p⟩ := h
  refine ⟨ι, S, ρ, s, en, post_bnd p fun ds S1 ι1 H1 vs e1 st1 sm1 r1 p1 => ?_⟩
  refine ⟨?_, ι1, S1, ds, sm1, r1, ?_⟩
  · rw [r1.length]
    by_cases hl : ds.length = n
    · exact hl
    · rw [hn ds S1 hl] at p1; exact p1.elim
  · cases e2 : g ds S1 with
    | ok d S2 => rw [e2] at p1; exact p1
    | exc m fs S2 => rw [e2] at p1; exact p1
    | bad => rw [e2] at p1; exact p1
/-- a built-in by values -/
def rN (c : Cf) (g : PN) : List V → Hp → VK → Prop := fun vs H Q => ∃ ι S ds, Sim c ι S H ∧ Reps c H ι ds vs ∧ Fin c ι H Q (g ds S)
theorem tE_B {g : PN} {σ : St} {H : Hp} {Q : VK} (h : tE (cf X) W (eB g fs) σ H Q) : tCB (rN (cf X) g) (tA (cf X) W fs) σ H Q := by
  obtain ⟨ι, S, ρ, s, en, p⟩ := h
  exact ⟨ι, S, ρ, s, en, post_bnd p fun ds S1 ι1 H1 vs e1 st1 sm1 r1 p1 => ⟨ι1, S1, ds, sm1, r1, fin_of p1⟩⟩
end
end Mini

/-! MINI, part H: built-ins by values. -/
namespace Mini
open PySem L2
def lenD (S : Store) : D → Option Int
  | .str x => if x.length ≤ lim then some x.length else none
  | .tup xs => some xs.length
  | .ref h => match S[h]? with
    | some (.lst xs) => some xs.length
    | some (.rol xs) => some xs.length
    | _ => none
  | _ => none
def nLen : PN := fun xs S => match xs with
  | [d] => (lenD S d).map fun n => (.int n, S)
  | _ => none
def nInt : PN := fun xs S => match xs with
  | [.int i] => some (.int i, S)
  | [.bl b] => some (.int (if b then 1 else 0), S)
  | _ => none
def nAbs : PN := fun xs S => match xs with
  | [.int i] => some (.int (if i < 0 then -i else i), S)
  | _ => none
def nMax : PN := fun xs S => match xs with
  | [.int i, .int j] => some (.int (if j > i then j else i), S)
  | _ => none
def nMin : PN := fun xs S => match xs with
  | [.int i, .int j] => some (.int (if j < i then j else i), S)
  | _ => none
def nTuple : PN := fun xs S => match xs with
  | [.tup ys] => some (.tup ys, S)
  | [.ref h] => match S[h]? with
    | some (.lst ys) => some (.tup ys, S)
    | some (.rol ys) => some (.tup ys, S)
    | _ => none
  | _ => none
def nList : PN := fun xs S => match xs with
  | [d] => match itemsOf S d with
    | some ys => alloc (.lst ys) S
    | none => none
  | _ => none
def seqOf (S : Store) : D → Option (List D)
  | .ref h => match S[h]? with
    | some (.lst xs) => some xs
    | some (.rol xs) => some xs
    | _ => none
  | _ => none
def nAll : PN := fun xs S => match xs with
  | [d] => ((seqOf S d).bind blsD).map fun bs => (.bl (bs.all id), S)
  | _ => none
def nAny : PN := fun xs S => match xs with
  | [d] => ((seqOf S d).bind blsD).map fun bs => (.bl (bs.any id), S)
  | _ => none
def nSum : PN := fun xs S => match xs with
  | [d] => ((seqOf S d).bind intsD).map fun ns => (.int ns.sum, S)
  | _ => none
section
variable {X : Cx} {c : Cf} {H : Hp} {ι : List Addr} {S : Store}
theorem CallR.imp {f : Value} {r r' : List V → Hp → VK → Prop} (h : CallR X f r) (i : ∀ vs H Q, r' vs H Q → r vs H Q) : CallR X f r' := fun pins s σ H vs us Q I rv q => h pins s σ H vs us Q I rv (i vs H Q q)
theorem CallR.orD {f : Value} {r r' : List V → Hp → VK → Prop} (h : CallR X f r) (h' : CallR X f r') : CallR X f (fun vs H Q => r vs H Q ∨ r' vs H Q) := by
  intro pins s σ H vs us Q I rv q
  rcases q with q | q
  · exact h pins s σ H vs us Q I rv q
  · exact h' pins s σ H vs us Q I rv q
theorem reps1 {d : D} {vs : List V} (r : Reps c H ι [d] vs) : ∃ v, vs = [v] ∧ Rep c H ι d v := by
  cases r with | cons a b => cases b; exact ⟨_, rfl, a⟩
theorem reps2 {d e : D} {vs : List V} (r : Reps c H ι [d, e] vs) : ∃ v u, vs = [v, u] ∧ Rep c H ι d v ∧ Rep c H ι e u := by
  cases r with | cons a b => obtain ⟨u, rfl, q⟩ := reps1 b; exact ⟨_, u, rfl, a, q⟩
theorem seqOf_ok (s : Sim c ι S H) {d : D} {v : V} {xs : List D} (r : Rep c H ι d v) (e : seqOf S d = some xs) : ∃ p vs, v = .ref p ∧ SqL c.K H p vs ∧ Reps c H ι xs vs := by
  unfold seqOf at e
  cases r with
  | @ref h p hp =>
    simp only at e
    split at e
    · rename_i ys hy
      cases e
      obtain ⟨vs, g, rs⟩ := s.obj h _ p hy hp
      exact ⟨p, vs, rfl, .of g, rs⟩
    · rename_i ys hy
      cases e
      obtain ⟨vs, g, rs⟩ := s.obj h _ p hy hp
      exact ⟨p, vs, rfl, g.sq, rs⟩
    · cases e
  | _ => cases e
theorem itemsOf_ok (s : Sim c ι S H) {d : D} {v : V} {xs : List D} (r : Rep c H ι d v) (e : itemsOf S d = some xs) : ∃ p vs, v = .ref p ∧ (SqL c.K H p vs ∨ SqT c.K H p vs) ∧ Reps c H ι xs vs := by
  unfold itemsOf at e
  cases r with
  | @tup ys vs p hp rs => cases e; exact ⟨p, vs, rfl, .inr (.of hp), rs⟩
  | @ref h p hp =>
    simp only at e
    split at e
    · rename_i ys hy
      cases e
      obtain ⟨vs, g, rs⟩ := s.obj h _ p hy hp
      exact ⟨p, vs, rfl, .inl (.of g), rs⟩
    · rename_i ys hy
      cases e
      obtain ⟨vs, g, rs⟩ := s.obj h _ p hy hp
      exact ⟨p, vs, rfl, .inl g.sq, rs⟩
    · cases e
  | _ => cases e
theorem blsD_ok : ∀ {ds : List D} {vs : List V} {bs : List Bool}, Reps c H ι ds vs → blsD ds = some bs → vs = bs.map V.bl
  | _, _, _, .nil, e => by rw [blsD] at e; cases e; rfl
  | _, _, _, .cons a b, e => by
    cases a with
    | bl x =>
      rw [blsD] at e
      obtain ⟨q, e1, e2⟩ := Option.map_eq_some_iff.mp e
      subst e2
      rw [blsD_ok b e1]; rfl
    | _ => simp [blsD] at e
theorem intsD_ok : ∀ {ds : List D} {vs : List V} {bs : List Int}, Reps c H ι ds vs → intsD ds = some bs → vs = bs.map V.int
  | _, _, _, .nil, e => by rw [intsD] at e; cases e; rfl
  | _, _, _, .cons a b, e => by
    cases a with
    | int x =>
      rw [intsD] at e
      obtain ⟨q, e1, e2⟩ := Option.map_eq_some_iff.mp e
      subst e2
      rw [intsD_ok b e1]; rfl
    | _ => simp [intsD] at e
theorem strsD_ok : ∀ {ds : List D} {vs : List V} {bs : List Str}, Reps c H ι ds vs → strsD ds = some bs → vs = bs.map V.str
  | _, _, _, .nil, e => by rw [strsD] at e; cases e; rfl
  | _, _, _, .cons a b, e => by
    cases a with
    | str x =>
      rw [strsD] at e
      obtain ⟨q, e1, e2⟩ := Option.map_eq_some_iff.mp e
      subst e2
      rw [strsD_ok b e1]; rfl
    | _ => simp [strsD] at e
theorem c_len : CallR X (.builtin "len") (rN (cf X) nLen) := by
  refine CallR.imp (CallR.orD call_len_str (call_len_seq)) ?_
  rintro vs H Q ⟨ι, S, ds, s, r, d, S', e, k⟩
  unfold nLen at e
  split at e
  · obtain ⟨n, e1, e2⟩ := Option.map_eq_some_iff.mp e
    cases e2
    obtain ⟨v, rfl, r1⟩ := reps1 r
    have q := k ι H _ .refl s (.int n)
    unfold lenD at e1
    cases r1 with
    | str x =>
      simp only at e1
      split at e1
      · rename_i hx
        cases e1
        exact .inl ⟨x, rfl, Nat.le_trans hx lim_le, q⟩
      · cases e1
    | @tup ys us p hp rs =>
      cases e1
      exact .inr ⟨p, us, rfl, .inr (.of hp), by rw [rs.length]; exact q⟩
    | @ref h p hp =>
      simp only at e1
      split at e1
      · rename_i ys hy
        cases e1
        obtain ⟨us, g, rs⟩ := s.obj h _ p hy hp
        exact .inr ⟨p, us, rfl, .inl (.of g), by rw [rs.length]; exact q⟩
      · rename_i ys hy
        cases e1
        obtain ⟨us, g, rs⟩ := s.obj h _ p hy hp
        exact .inr ⟨p, us, rfl, .inl g.sq, by rw [rs.length]; exact q⟩
      · cases e1
    | _ => cases e1
  · cases e
theorem c_int : CallR X (.type "int") (rN (cf X) nInt) := by
  refine CallR.imp call_int1 ?_
  rintro vs H Q ⟨ι, S, ds, s, r, d, S', e, k⟩
  unfold nInt at e
  split at e
  · cases e
    obtain ⟨v, rfl, r1⟩ := reps1 r
    cases r1
    exact .inl ⟨_, rfl, k ι H _ .refl s (.int _)⟩
  · cases e
    obtain ⟨v, rfl, r1⟩ := reps1 r
    cases r1
    exact .inr ⟨_, rfl, k ι H _ .refl s (.int _)⟩
  · cases e
theorem c_abs : CallR X (.builtin "abs") (rN (cf X) nAbs) := by
  refine CallR.imp call_abs ?_
  rintro vs H Q ⟨ι, S, ds, s, r, d, S', e, k⟩
  unfold nAbs at e
  split at e
  · cases e
    obtain ⟨v, rfl, r1⟩ := reps1 r
    cases r1
    exact ⟨_, rfl, k ι H _ .refl s (.int _)⟩
  · cases e
theorem c_max (hc : X.calm = true) : CallR X (.builtin "max") (rN (cf X) nMax) := by
  refine CallR.imp (call_max2 hc) ?_
  rintro vs H Q ⟨ι, S, ds, s, r, d, S', e, k⟩
  unfold nMax at e
  split at e
  · cases e
    obtain ⟨v, u, rfl, r1, r2⟩ := reps2 r
    cases r1; cases r2
    exact ⟨_, _, rfl, k ι H _ .refl s (.int _)⟩
  · cases e
theorem c_min (hc : X.calm = true) : CallR X (.builtin "min") (rN (cf X) nMin) := by
  refine CallR.imp (call_min2 hc) ?_
  rintro vs H Q ⟨ι, S, ds, s, r, d, S', e, k⟩
  unfold nMin at e
  split at e
  · cases e
    obtain ⟨v, u, rfl, r1, r2⟩ := reps2 r
    cases r1; cases r2
    exact ⟨_, _, rfl, k ι H _ .refl s (.int _)⟩
  · cases e
theorem c_tuple : CallR X (.type "tuple") (rN (cf X) nTuple) := by
  refine CallR.imp call_tuple_of ?_
  rintro vs H Q ⟨ι, S, ds, s, r, d, S', e, k⟩
  unfold nTuple at e
  split at e
  · cases e
    obtain ⟨v, rfl, r1⟩ := reps1 r
    cases r1 with
    | @tup ys us p hp rs => exact ⟨p, us, rfl, .inr ⟨.of hp, k ι H _ .refl s (.tup hp rs)⟩⟩
  · obtain ⟨v, rfl, r1⟩ := reps1 r
    cases r1 with
    | @ref h p hp =>
      split at e
      · rename_i ys hy
        cases e
        obtain ⟨us, g, rs⟩ := s.obj _ _ p hy hp
        have f2 : Fin (cf X) ι H Q (some (.tup ys, S)) := ⟨_, _, rfl, k⟩
        exact ⟨p, us, rfl, .inl ⟨.of g, f2.tup s rs⟩⟩
      · rename_i ys hy
        cases e
        obtain ⟨us, g, rs⟩ := s.obj _ _ p hy hp
        have f2 : Fin (cf X) ι H Q (some (.tup ys, S)) := ⟨_, _, rfl, k⟩
        exact ⟨p, us, rfl, .inl ⟨g.sq, f2.tup s rs⟩⟩
      · cases e
  · cases e
theorem c_list : CallR X (.type "list") (rN (cf X) nList) := by
  refine CallR.imp call_list_of ?_
  rintro vs H Q ⟨ι, S, ds, s, r, d, S', e, k⟩
  unfold nList at e
  split at e
  · split at e
    · rename_i ys hy
      obtain ⟨v, rfl, r1⟩ := reps1 r
      obtain ⟨p, us, rfl, hq, rs⟩ := itemsOf_ok s r1 hy
      have f2 : Fin (cf X) ι H Q (alloc (.lst ys) S) := ⟨d, S', e, k⟩
      exact ⟨p, us, rfl, hq, alloc_fin s f2 rs⟩
    · cases e
  · cases e
theorem c_all (hc : X.calm = true) : CallR X (.builtin "all") (rN (cf X) nAll) := by
  refine CallR.imp (cr_all hc) ?_
  rintro vs H Q ⟨ι, S, ds, s, r, d, S', e, k⟩
  unfold nAll at e
  split at e
  · obtain ⟨bs, e1, e2⟩ := Option.map_eq_some_iff.mp e
    obtain ⟨ys, e3, e4⟩ := Option.bind_eq_some_iff.mp e1
    cases e2
    obtain ⟨v, rfl, r1⟩ := reps1 r
    obtain ⟨p, us, rfl, hq, rs⟩ := seqOf_ok s r1 e3
    rw [blsD_ok rs e4] at hq
    exact ⟨p, bs, rfl, hq, k ι H _ .refl s (.bl _)⟩
  · cases e
theorem c_any (hc : X.calm = true) : CallR X (.builtin "any") (rN (cf X) nAny) := by
  refine CallR.imp (cr_any hc) ?_
  rintro vs H Q ⟨ι, S, ds, s, r, d, S', e, k⟩
  unfold nAny at e
  split at e
  · obtain ⟨bs, e1, e2⟩ := Option.map_eq_some_iff.mp e
    obtain ⟨ys, e3, e4⟩ := Option.bind_eq_some_iff.mp e1
    cases e2
    obtain ⟨v, rfl, r1⟩ := reps1 r
    obtain ⟨p, us, rfl, hq, rs⟩ := seqOf_ok s r1 e3
    rw [blsD_ok rs e4] at hq
    exact ⟨p, bs, rfl, hq, k ι H _ .refl s (.bl _)⟩
  · cases e
theorem c_sum (hc : X.calm = true) : CallR X (.builtin "sum") (rN (cf X) nSum) := by
  refine CallR.imp (cr_sum hc) ?_
  rintro vs H Q ⟨ι, S, ds, s, r, d, S', e, k⟩
  unfold nSum at e
  split at e
  · obtain ⟨bs, e1, e2⟩ := Option.map_eq_some_iff.mp e
    obtain ⟨ys, e3, e4⟩ := Option.bind_eq_some_iff.mp e1
    cases e2
    obtain ⟨v, rfl, r1⟩ := reps1 r
    obtain ⟨p, us, rfl, hq, rs⟩ := seqOf_ok s r1 e3
    rw [intsD_ok rs e4] at hq
    exact ⟨p, bs, rfl, hq, k ι H _ .refl s (.int _)⟩
  · cases e
end
/-! ### isinstance -/
def tyD (S : Store) : D → Option String
  | .non => some "NoneType"
  | .bl _ => some "bool"
  | .int _ => some "int"
  | .str _ => some "str"
  | .tup _ => some "tuple"
  | .ref h => match S[h]? with
    | some (.lst _) => some "list"
    | some (.dK _) => some "dict"
    | some (.dT _) => some "dict"
    | _ => none
def isiT (t u : String) : Bool := t == u || (t == "bool" && u == "int")
def pIsi (u : String) : P1 := fun d S => (tyD S d).map fun t => (.bl (isiT t u), S)
/-- the built-in classes that are asked for -/
def askT : List String := ["str", "int", "bool", "tuple", "list", "dict"]
theorem tyD_ok {c : Cf} {H : Hp} {ι : List Addr} {S : Store} (s : Sim c ι S H) {d : D} {v : V} {t : String} (r : Rep c H ι d v) (e : tyD S d = some t) : TyX c.K H v (.type t) ∧ t ∈ ["NoneType", "bool", "int", "str", "tuple", "list", "dict"] := by
  unfold tyD at e
  cases r with
  | non => cases e; exact ⟨.base .non, by decide⟩
  | bl b => cases e; exact ⟨.base (.bl b), by decide⟩
  | int b => cases e; exact ⟨.base (.int b), by decide⟩
  | str b => cases e; exact ⟨.base (.str b), by decide⟩
  | @tup xs vs p hp rs => cases e; exact ⟨.base (.tup hp), by decide⟩
  | @ref h p hp =>
    simp only at e
    split at e
    · rename_i ys hy
      cases e
      obtain ⟨us, g, rs⟩ := s.obj h _ p hy hp
      exact ⟨.base (.lst g), by decide⟩
    · rename_i ys hy
      cases e
      rcases s.obj h _ p hy hp with ⟨us, g, rs⟩ | ⟨_, g⟩
      · exact ⟨.base (.dK g), by decide⟩
      · exact ⟨.base (.dT g), by decide⟩
    · rename_i ys hy
      cases e
      rcases s.obj h _ p hy hp with ⟨us, g, rs⟩ | ⟨_, g⟩
      · exact ⟨.base (.dT g), by decide⟩
      · exact ⟨.base (.dK g), by decide⟩
    · cases e
theorem kit_all (K : PySem.W.Frag) : ∀ t ∈ ["NoneType", "bool", "int", "str", "tuple", "list", "dict"], ∀ u ∈ askT, PySem.W.kitOne K (.type t) (.type u) = some (isiT t u) := by
  intro t ht u hu
  simp only [askT, List.mem_cons, List.not_mem_nil, or_false] at ht hu
  rcases ht with rfl | rfl | rfl | rfl | rfl | rfl | rfl <;> rcases hu with rfl | rfl | rfl | rfl | rfl | rfl <;> first | rfl | exact kit_ty (by decide +kernel)
def eIsi (u : String) (f : ME) : ME := eUn (pIsi u) f
end Mini

/-! MINI, part I: calls, methods. -/
namespace Mini
open PySem L2
/-- a method: by the type of what stands ahead of the point, then by values -/
abbrev PM := D → List D → Store → Option (D × Store)
def eMt (T : String) (g : PM) (fo : ME) (fs : Env → M (List D)) : ME := fun ρ => bnd (fo ρ) fun o => fun S => if tyD S o = some T then bnd (fs ρ) (fun xs => fun S => lift (g o xs S)) S else .bad
def qAppend : PM := fun o xs S => match o, xs with
  | .ref h, [d] => match S[h]? with
    | some (.lst ys) => if ys.length < lim then some (.non, S.set h (.lst (ys ++ [d]))) else none
    | _ => none
  | _, _ => none
def qExtend : PM := fun o xs S => match o, xs with
  | .ref h, [.ref k] => match S[h]?, S[k]? with
    | some (.lst ys), some (.lst zs) => if ys.length + zs.length ≤ lim then some (.non, S.set h (.lst (ys ++ zs))) else none
    | _, _ => none
  | _, _ => none
def qPop : PM := fun o xs S => match o, xs with
  | .ref h, [] => match S[h]? with
    | some (.lst ys) => match ys[ys.length - 1]? with
      | some d => some (d, S.set h (.lst ys.dropLast))
      | none => none
    | _ => none
  | _, _ => none
def qJoin : PM := fun o xs S => match o, xs with
  | .str a, [d] => match itemsOf S d with
    | some ys => match strsD ys with
      | some zs => if (zs.map (·.length)).sum + zs.length * a.length ≤ lim then some (.str (Txt.join a zs), S) else none
      | none => none
    | none => none
  | _, _ => none
def eCallK (n1 n2 : Nat) (g : List D → M D) (f fk : Env → M (List D)) : ME := fun ρ => bnd (f ρ) fun xs => bnd (fk ρ) fun ys => if xs.length = n1 ∧ ys.length = n2 then g (xs ++ ys) else fun _ => .bad
def rM (c : Cf) (g : PM) : V → List V → Hp → VK → Prop := fun x xs H Q => ∃ ι S d ds, Sim c ι S H ∧ Rep c H ι d x ∧ Reps c H ι ds xs ∧ Fin c ι H Q (g d ds S)
section
variable {X : Cx} {W : WX} {fa fb fc : ME} {a b e o : Expr} {es : List Expr} {fs : Env → M (List D)} {pos p apos : Pos} {x : Str}
theorem se_callB {id : String} {g : PN} (hc : CallR X (.builtin id) (rN (cf X) g)) (hg : Gl X x) (hm : X.mg x = none) (hv : bootBuiltins x = some (.builtin id)) (ha : PA X (e :: es) (tA (cf X) W fs)) (hn : x ≠ "__name__" := by decide) (hdb : (x == ("__debug__" : Str)) = false := by decide)
    (he : starEach (e :: es) X.env = (false, eval e X.env) :: starEach es X.env := by rfl) (hpl : (backTo pos (starEach es X.env)).any (·.1) = false := by rfl) : PE X (.Call (.Name x p) (e :: es) [] pos) (tE (cf X) W (eB g fs)) :=
  PE.imp (pe_callB hc hg hm hv ha hn hdb he hpl) fun _ _ _ h => tE_B h
theorem se_callTy {T : String} {g : PN} (hc : CallR X (.type T) (rN (cf X) g)) (hg : Gl X x) (hm : X.mg x = none) (hv : bootBuiltins x = some (.type T)) (ha : PA X (e :: es) (tA (cf X) W fs)) (hn : x ≠ "__name__" := by decide) (hdb : (x == ("__debug__" : Str)) = false := by decide)
    (he : starEach (e :: es) X.env = (false, eval e X.env) :: starEach es X.env := by rfl) (hpl : (backTo pos (starEach es X.env)).any (·.1) = false := by rfl) : PE X (.Call (.Name x p) (e :: es) [] pos) (tE (cf X) W (eB g fs)) :=
  PE.imp (pe_callTy hc hg hm hv ha hn hdb he hpl) fun _ _ _ h => tE_B h
theorem se_isi {u : String} {y : Str} {p2 : Pos} (hu : u ∈ askT) (hg : Gl X x) (hm : X.mg x = none) (hv : bootBuiltins x = some (.builtin "isinstance")) (ha : PE X a (tE (cf X) W fa)) (hg2 : Gl X y) (hm2 : X.mg y = none) (hv2 : bootBuiltins y = some (.type u))
    (hn : x ≠ "__name__" := by decide) (hdb : (x == ("__debug__" : Str)) = false := by decide) (hn2 : y ≠ "__name__" := by decide) (hdb2 : (y == ("__debug__" : Str)) = false := by decide)
    (he : starEach [a, .Name y p2] X.env = (false, eval a X.env) :: starEach [.Name y p2] X.env := by rfl) (he2 : starEach [.Name y p2] X.env = (false, eval (.Name y p2) X.env) :: starEach [] X.env := by rfl) (hpl : (backTo pos (starEach [.Name y p2] X.env)).any (·.1) = false := by rfl) :
    PE X (.Call (.Name x p) [a, .Name y p2] [] pos) (tE (cf X) W (eIsi u fa)) := by
  refine PE.imp (pe_callB call_isi hg hm hv (pa_cons ha (pa_cons (pe_bltn (v := .ty u) hg2 hm2 hv2 rfl hn2 hdb2) pa_nil he2) he) hn hdb he hpl) ?_
  rintro σ H Q ⟨ι, S, ρ, s, en, q⟩
  refine ⟨ι, S, ρ, s, en, post_bnd q fun d S1 ι1 H1 v e1 st1 sm1 r1 p1 => ?_⟩
  obtain ⟨d2, S2, e2, k⟩ := fin_of p1
  unfold pIsi at e2
  obtain ⟨t, e3, e4⟩ := Option.map_eq_some_iff.mp e2
  cases e4
  obtain ⟨ty, hm⟩ := tyD_ok sm1 r1 e3
  exact ⟨_, _, _, _, _, rfl, .ty u, ty, kit_all _ t hm u hu, k ι1 H1 _ .refl sm1 (.bl _)⟩
section
variable {CX : CXT} {k n : Nat} {f : Addr} {fd : FuncData} {ps ks : List Str} {g : List D → M D}
theorem se_call (F : FnOk X.prog X.w X.K X.mg X.base (L2.CX X.prog X.w) k f fd ps (spM (cf X) n g)) (hn : ∀ ds S, ds.length ≠ n → g ds S = .bad) (tk : Takes X W) (hr : Room k X.A) (hg : Gl X x) (hm : X.mg x = some (.ref f)) (hk : PySem.W.keepIn X.K (.ref f) = true) (hb : Binds X.K fd ps [])
    (ha : PA X (e :: es) (tA (cf X) W fs)) (hdb : (x == ("__debug__" : Str)) = false := by decide) (he : starEach (e :: es) X.env = (false, eval e X.env) :: starEach es X.env := by rfl) (hpl : (backTo pos (starEach es X.env)).any (·.1) = false := by rfl) :
    PE X (.Call (.Name x p) (e :: es) [] pos) (tE (cf X) W (eCall g fs)) :=
  PE.imp (pe_callS F hr hg hm hk hb (passAt tk) ha hdb he hpl) fun _ _ _ h => tE_call h hn
/-- a call with keywords, the exception told by the slots -/
theorem se_callK {n1 n2 : Nat} {kws : List Keyword} {fk : Env → M (List D)} {gq : List Value → List Value → List Value} (F : FnOk X.prog X.w X.K X.mg X.base (L2.CX X.prog X.w) k f fd ps (spM (cf X) n g)) (hn : ∀ ds S, ds.length ≠ n → g ds S = .bad) (tk : Takes X W) (hr : Room k X.A) (hg : Gl X x) (hm : X.mg x = some (.ref f)) (hk : PySem.W.keepIn X.K (.ref f) = true)
    (hb : KBinds X.K fd ps ks gq (fun vs zs => if vs.length = n1 ∧ zs.length = n2 then vs ++ zs else []))
    (ha : PA X (e :: es) (tA (cf X) W fs)) (hkw : PK X kws (tA (cf X) W fk)) (hall : (backToKw pos (keywordEach kws X.env)).all (·.1.isSome) = true := by rfl) (hks : (backToKw pos (keywordEach kws X.env)).filterMap (·.1) = ks := by rfl)
    (hdb : (x == ("__debug__" : Str)) = false := by decide) (he : starEach (e :: es) X.env = (false, eval e X.env) :: starEach es X.env := by rfl)
    (hpl : ((backTo pos (starEach (e :: es) X.env)).any (·.1) || (backToKw pos (keywordEach kws X.env)).any (·.1.isNone)) = false := by rfl) :
    PE X (.Call (.Name x p) (e :: es) kws pos) (tE (cf X) W (eCallK n1 n2 g fs fk)) := by
  refine ⟨fun pins s σ H Q I h => ?_⟩
  obtain ⟨ι, S, ρ, sm, en, q⟩ := h
  refine wpAny_Call_Name_kw (ld_glob I hg hm ?_ hdb)
  refine PySem.W.callWith_KW (h₀ := X.base) I.ok.mod.kin hk hall (thn (ha.run pos pins s σ H _ I ⟨ι, S, ρ, sm, en, post_bnd (Q1 := fun vs H1 => tA (cf X) W fk σ H1 fun zs H2 => spM (cf X) n g (if vs.length = n1 ∧ zs.length = n2 then vs ++ zs else []) H2 Q (WE W σ)) q fun ds S1 ι1 H1 vs e1 st1 sm1 r1 p1 => ?_⟩) fun us s1 ⟨vs, H1, I1, r, q⟩ => ?_) hpl he
  · refine ⟨ι1, S1, ρ, sm1, en.step st1, post_bnd p1 fun es S2 ι2 H2 zs e2 st2 sm2 r2 p2 => ?_⟩
    have r12 := (r1.step st2).append r2
    by_cases hl12 : ds.length = n1 ∧ es.length = n2
    case neg => rw [if_neg hl12] at p2; exact p2.elim
    rw [if_pos hl12] at p2
    rw [if_pos (show vs.length = n1 ∧ zs.length = n2 by rw [r1.length, r2.length]; exact hl12)]
    refine ⟨?_, ι2, S2, _, sm2, r12, ?_⟩
    · rw [r12.length]
      by_cases hl : (ds ++ es).length = n
      · exact hl
      · rw [hn _ S2 hl] at p2; exact p2.elim
    · cases e3 : g (ds ++ es) S2 with
      | ok d S3 => rw [e3] at p2; exact p2
      | exc m fs S3 => rw [e3] at p2; exact p2
      | bad => rw [e3] at p2; exact p2
  · refine thn (hkw.run pos pins s1 σ H1 _ I1 q) fun ws s2 ⟨zs, H2, I2, rz, q2⟩ => ⟨I2.kIn, ?_⟩
    rw [hks]
    have rr := hb.rel r rz
    have hl : (gq us ws).length = ps.length := by rw [← rr.length]; exact F.len _ _ _ _ q2
    refine wpAny_call (codeAny_mono (F.run X.A X.stack s2 H2 ⟨us, ks.zip ws⟩ (gq us ws) _ Q _ hr I2.env0 (hb.to s2 us ws I2.kIn hl) rr q2) fun r s' hq => ?_)
    match r, hq with
    | .error e, hq => exact passAt tk σ pins H2 s2 e s' I2 hq
    | .ok (.ret u), hq => exact I2.after hq
    | .ok .next, hq => exact hq.elim
    | .ok .brk, hq => exact hq.elim
    | .ok .cont, hq => exact hq.elim
end
theorem sk_nil : PK X [] (tA (cf X) W aNil) := ⟨fun pos pins s σ H Q I h => by
  obtain ⟨ι, S, ρ, sm, en, q⟩ := h
  exact (pk_nil (X := X)).run pos pins s σ H Q I (q ι H [] .refl sm .nil)⟩
theorem sk_cons {nm : Option Str} {kpos : Pos} {kws : List Keyword} (he : PE X e (tE (cf X) W fa)) (hr : PK X kws (tA (cf X) W fs)) : PK X (⟨nm, e, kpos⟩ :: kws) (tA (cf X) W (aCons fa fs)) := ⟨fun pos pins s σ H Q I h => by
  obtain ⟨ι, S, ρ, sm, en, q⟩ := h
  refine (pk_cons he hr).run pos pins s σ H Q I ⟨ι, S, ρ, sm, en, post_bnd q fun a S1 ι1 H1 v e1 st1 sm1 r1 p1 => ?_⟩
  refine ⟨ι1, S1, ρ, sm1, en.step st1, post_bnd p1 fun as S2 ι2 H2 xs e2 st2 sm2 r2 p2 => ?_⟩
  exact p2 ι2 H2 (v :: xs) .refl sm2 (.cons (r1.step st2) r2)⟩
/-! ### methods -/
theorem tyV_of {c : Cf} {H : Hp} {ι : List Addr} {S : Store} (s : Sim c ι S H) {d : D} {v : V} {T : String} (r : Rep c H ι d v) (e : tyD S d = some T) (hT : T = "list" ∨ T = "dict" ∨ T = "str") : tyV c.K T v H := by
  unfold tyD at e
  cases r with
  | non => cases e; rcases hT with h | h | h <;> exact absurd h (by decide)
  | bl b => cases e; rcases hT with h | h | h <;> exact absurd h (by decide)
  | int b => cases e; rcases hT with h | h | h <;> exact absurd h (by decide)
  | str b => cases e; rfl
  | @tup xs vs p hp rs => cases e; rcases hT with h | h | h <;> exact absurd h (by decide)
  | @ref h p hp =>
    simp only at e
    split at e
    · rename_i ys hy
      cases e
      obtain ⟨us, g, rs⟩ := s.obj h _ p hy hp
      exact .inl ⟨rfl, us, .of g⟩
    · rename_i ys hy
      cases e
      rcases s.obj h _ p hy hp with ⟨us, g, rs⟩ | ⟨_, g⟩
      · exact .inr (.inr (.inl ⟨rfl, .inl ⟨us, g⟩⟩))
      · exact .inr (.inr (.inl ⟨rfl, .inr ⟨_, g⟩⟩))
    · rename_i ys hy
      cases e
      rcases s.obj h _ p hy hp with ⟨us, g, rs⟩ | ⟨_, g⟩
      · exact .inr (.inr (.inl ⟨rfl, .inr ⟨us, g⟩⟩))
      · exact .inr (.inr (.inl ⟨rfl, .inl ⟨_, g⟩⟩))
    · cases e
theorem tE_bm {T : String} {g : PM} {fo : ME} {σ : St} {H : Hp} {Q : VK} (hT : T = "list" ∨ T = "dict" ∨ T = "str") (h : tE (cf X) W (eMt T g fo fs) σ H Q) : tBM X.K T (rM (cf X) g) (tE (cf X) W fo) (tA (cf X) W fs) σ H Q := by
  obtain ⟨ι, S, ρ, s, en, q⟩ := h
  refine ⟨ι, S, ρ, s, en, post_bnd q fun d S1 ι1 H1 v e1 st1 sm1 r1 p1 => ?_⟩
  by_cases ht : tyD S1 d = some T
  · simp only [if_pos ht] at p1
    refine ⟨tyV_of sm1 r1 ht hT, ι1, S1, ρ, sm1, en.step st1, post_bnd p1 fun ds S2 ι2 H2 vs e2 st2 sm2 r2 p2 => ?_⟩
    exact ⟨ι2, S2, d, ds, sm2, r1.step st2, r2, fin_of p2⟩
  · simp only [if_neg ht] at p1
    exact p1.elim
theorem tE_bm0 {T : String} {g : PM} {fo : ME} {σ : St} {H : Hp} {Q : VK} (hT : T = "list" ∨ T = "dict" ∨ T = "str") (h : tE (cf X) W (eMt T g fo aNil) σ H Q) : tBM0 X.K T (rM (cf X) g) (tE (cf X) W fo) σ H Q := by
  obtain ⟨ι, S, ρ, s, en, q⟩ := h
  refine ⟨ι, S, ρ, s, en, post_bnd q fun d S1 ι1 H1 v e1 st1 sm1 r1 p1 => ?_⟩
  by_cases ht : tyD S1 d = some T
  · simp only [if_pos ht] at p1
    exact ⟨tyV_of sm1 r1 ht hT, ι1, S1, d, [], sm1, r1, .nil, fin_of p1⟩
  · simp only [if_neg ht] at p1
    exact p1.elim
theorem MtR.imp {id : String} {r r' : V → List V → Hp → VK → Prop} (h : MtR X id r) (i : ∀ x xs H Q, r' x xs H Q → r x xs H Q) : MtR X id r' := fun pins s σ H x xs v us Q I rx rs q => h pins s σ H x xs v us Q I rx rs (i x xs H Q q)
theorem m_append : MtR X "list.append" (rM (cf X) qAppend) := by
  refine MtR.imp (show MtR X "list.append" rAppend from mt_append) ?_
  rintro x xs H Q ⟨ι, S, d, ds, s, r, rs, d', S', e, k⟩
  unfold qAppend at e
  split at e
  · split at e
    · rename_i h dd _ ys hy
      split at e
      · rename_i hl
        cases e
        cases r with
        | @ref _ p hp =>
          obtain ⟨v, rfl, r1⟩ := reps1 rs
          obtain ⟨vs, g, rv⟩ := s.lst hy hp
          have st : ∀ o', Stp ι H ι (upd H p o') := fun o' => Stp.set (noTup g fun _ z => by cases z)
          obtain ⟨s2, st2⟩ := s.set (m' := .lst (ys ++ [dd])) (o := .lst (vs ++ [v])) hy hp rfl rfl ⟨_, upd_same, (rv.append (.cons r1 .nil)).step (st _)⟩
          exact ⟨p, vs, v, rfl, rfl, g, by rw [rv.length]; exact Nat.lt_trans hl lim_lt, k ι _ _ st2 s2 .non⟩
      · cases e
    · cases e
  · cases e
theorem m_extend : MtR X "list.extend" (rM (cf X) qExtend) := by
  refine MtR.imp (show MtR X "list.extend" rExtend from mt_extend) ?_
  rintro x xs H Q ⟨ι, S, d, ds, s, r, rs, d', S', e, k⟩
  unfold qExtend at e
  split at e
  · split at e
    · rename_i ys zs hy hz
      split at e
      · rename_i hl
        cases e
        cases r with
        | @ref _ p hp =>
          obtain ⟨v, rfl, r1⟩ := reps1 rs
          cases r1 with
          | @ref _ q hq =>
            obtain ⟨vs, g, rv⟩ := s.lst hy hp
            obtain ⟨us, g2, ru⟩ := s.lst hz hq
            have st : ∀ o', Stp ι H ι (upd H p o') := fun o' => Stp.set (noTup g fun _ z => by cases z)
            obtain ⟨s2, st2⟩ := s.set (m' := .lst (ys ++ zs)) (o := .lst (vs ++ us)) hy hp rfl rfl ⟨_, upd_same, (rv.append ru).step (st _)⟩
            exact ⟨p, q, vs, us, rfl, rfl, g, g2, by rw [rv.length, ru.length]; exact Nat.le_trans hl lim_le, k ι _ _ st2 s2 .non⟩
      · cases e
    · cases e
  · cases e
theorem m_pop : MtR X "list.pop" (rM (cf X) qPop) := by
  refine MtR.imp (show MtR X "list.pop" rPop from mt_pop) ?_
  rintro x xs H Q ⟨ι, S, d, ds, s, r, rs, d', S', e, k⟩
  unfold qPop at e
  split at e
  · split at e
    · rename_i h ys hy
      split at e
      · rename_i dd hl
        cases e
        cases r with
        | @ref _ p hp =>
          cases rs
          obtain ⟨vs, g, rv⟩ := s.lst hy hp
          have st : ∀ o', Stp ι H ι (upd H p o') := fun o' => Stp.set (noTup g fun _ z => by cases z)
          obtain ⟨s2, st2⟩ := s.set (m' := .lst ys.dropLast) (o := .lst vs.dropLast) hy hp rfl rfl ⟨_, upd_same, rv.dropLast.step (st _)⟩
          obtain ⟨v, h1, h2⟩ := rv.get hl
          exact ⟨p, vs, v, rfl, rfl, g, by rw [rv.length]; exact h1, k ι _ _ st2 s2 (h2.step st2)⟩
      · cases e
    · cases e
  · cases e
theorem m_join : MtR X "str.join" (rM (cf X) qJoin) := by
  refine MtR.imp mt_join ?_
  rintro x xs H Q ⟨ι, S, d, ds, s, r, rs, d', S', e, k⟩
  unfold qJoin at e
  split at e
  · split at e
    · rename_i ys hy
      split at e
      · rename_i zs hz
        split at e
        · rename_i hl
          cases e
          cases r
          obtain ⟨v, rfl, r1⟩ := reps1 rs
          obtain ⟨p, vs, rfl, hq, rv⟩ := itemsOf_ok s r1 hy
          rw [strsD_ok rv hz] at hq
          exact ⟨_, p, zs, rfl, rfl, hq, Nat.le_trans hl (by decide), k ι _ _ .refl s (.str _)⟩
        · cases e
      · cases e
    · cases e
  · cases e
variable {to : ME} {name : Str} {cpos : Pos} {T id : String} {g : PM}
theorem se_bm0 (hT : T = "list" ∨ T = "dict" ∨ T = "str") (pa : PlainAttrs T) (slot : Slot T name id) (hty : typeOf (.builtin id) = pure (.type "method_descriptor")) (hm : MtR X id (rM (cf X) g)) (ho : PE X o (tE (cf X) W to))
    (hbase : attributeBase o name X.env (eval o X.env) = eval o X.env := by rfl) (hline : (apos.endLine == cpos.line) = true := by rfl) : PE X (.Call (.Attribute o name apos) [] [] cpos) (tE (cf X) W (eMt T g to aNil)) :=
  PE.imp (pe_bm0 pa slot hty hm ho hbase hline) fun _ _ _ h => tE_bm0 hT h
theorem se_bm (hT : T = "list" ∨ T = "dict" ∨ T = "str") (pa : PlainAttrs T) (slot : Slot T name id) (hty : typeOf (.builtin id) = pure (.type "method_descriptor")) (hm : MtR X id (rM (cf X) g)) (ho : PE X o (tE (cf X) W to)) (ha : PA X (e :: es) (tA (cf X) W fs))
    (hbase : attributeBase o name X.env (eval o X.env) = eval o X.env := by rfl)
    (hfew : ((backTo cpos (starEach (e :: es) X.env)).all (fun x => !x.1) && (backToKw cpos (keywordEach [] X.env)).all (fun x => x.1.isSome)
      && decide ((e :: es).length + ([] : List Keyword).length + (if ([] : List Keyword).isEmpty then 0 else 1) < 30)) = true := by rfl)
    (hline : (apos.endLine == cpos.line) = true := by rfl) (hs : starEach (e :: es) X.env = (false, eval e X.env) :: starEach es X.env := by rfl) (hplain : (backTo cpos (starEach es X.env)).any (·.1) = false := by rfl) :
    PE X (.Call (.Attribute o name apos) (e :: es) [] cpos) (tE (cf X) W (eMt T g to fs)) :=
  PE.imp (pe_bm pa slot hty hm ho ha hbase hfew hline hs hplain) fun _ _ _ h => tE_bm hT h
end
end Mini

/-! MINI, part J: targets, iterators. -/
namespace Mini
open PySem L2
/-! ### targets -/
inductive Tg where
  | nm (i : Nat) | tp (ts : List Tg)
mutual
def setT : Tg → D → Env → Option Env
  | .nm i, d, ρ => some (ρ.set i (some d))
  | .tp ts, .tup xs, ρ => setTs ts xs ρ
  | .tp _, _, _ => none
def setTs : List Tg → List D → Env → Option Env
  | [], [], ρ => some ρ
  | t :: ts, d :: ds, ρ => (setT t d ρ).bind fun ρ' => setTs ts ds ρ'
  | _, _, _ => none
end
mutual
def Tg.slots : Tg → List Nat
  | .nm i => [i]
  | .tp ts => slotsL ts
def slotsL : List Tg → List Nat
  | [] => []
  | t :: ts => t.slots ++ slotsL ts
end
/-- but for the slots js as before -/
structure Off (js : List Nat) (σ σ' : St) : Prop where
  len : σ'.length = σ.length
  get : ∀ j, j ∉ js → σ'[j]? = σ[j]?
theorem Off.refl {js : List Nat} {σ : St} : Off js σ σ := ⟨rfl, fun _ _ => rfl⟩
def mG (c : Cf) (t : Tg) : TG := fun v σ H Q => ∃ ι S ρ d ρ', Sim c ι S H ∧ REnv c H ι ρ σ ∧ Rep c H ι d v ∧ setT t d ρ = some ρ' ∧ ∀ σ', REnv c H ι ρ' σ' → Off t.slots σ σ' → Q σ' H
def mGs (c : Cf) (ts : List Tg) : TGs := fun vs σ H Q => ∃ ι S ρ ds ρ', Sim c ι S H ∧ REnv c H ι ρ σ ∧ Reps c H ι ds vs ∧ setTs ts ds ρ = some ρ' ∧ ∀ σ', REnv c H ι ρ' σ' → Off (slotsL ts) σ σ' → Q σ' H
theorem REnv.set {c : Cf} {H : Hp} {ι : List Addr} {ρ : Env} {σ : St} (en : REnv c H ι ρ σ) {d : D} {v : V} (r : Rep c H ι d v) (i : Nat) : REnv c H ι (ρ.set i (some d)) (σ.set i (some v)) := by
  refine ⟨by rw [List.length_set, List.length_set]; exact en.len, fun j e h => ?_⟩
  by_cases hj : i = j
  · subst hj
    have hl : i < ρ.length := by
      have := (List.getElem?_eq_some_iff.mp h).1
      rwa [List.length_set] at this
    rw [List.getElem?_set_self hl] at h
    cases h
    exact ⟨v, by rw [List.getElem?_set_self (by rw [← en.len]; exact hl)], r⟩
  · rw [List.getElem?_set_ne hj] at h ⊢
    exact en.get j e h
section
variable {X : Cx} {pos : Pos}
theorem PG.imp {e : Expr} {t t' : TG} (h : PG X e t) (f : ∀ v σ H Q, t' v σ H Q → t v σ H Q) : PG X e t' := ⟨fun pins s σ H v u Q I r q => h.run pins s σ H v u Q I r (f v σ H Q q)⟩
theorem PGs.imp {e : List Expr} {t t' : TGs} (h : PGs X e t) (f : ∀ v σ H Q, t' v σ H Q → t v σ H Q) : PGs X e t' := ⟨fun pins s σ H v u Q I r q => h.run pins s σ H v u Q I r (f v σ H Q q)⟩
theorem sg_nm {i : Nat} {x : Str} (hN : X.N.Nodup) (hi : X.N[i]? = some x) (hx : Loc X.env.scope x) (hf : X.fn x = true ∨ X.env.scope.names.lookup x = some .local := by first | exact .inl rfl | exact .inr rfl | assumption) : PG X (.Name x pos) (mG (cf X) (.nm i)) := by
  refine PG.imp (pg_name hN hi hx hf) ?_
  rintro v σ H Q ⟨ι, S, ρ, d, ρ', s, en, r, e, k⟩
  simp only [setT] at e
  cases e
  refine k _ (en.set r i) ⟨List.length_set .., fun j hj => ?_⟩
  rw [List.getElem?_set_ne (fun z => hj (by simp [Tg.slots, z]))]
theorem sgs_nil : PGs X [] (mGs (cf X) []) := by
  refine PGs.imp pgs_nil ?_
  rintro v σ H Q ⟨ι, S, ρ, ds, ρ', s, en, r, e, k⟩
  cases r with
  | nil => simp only [setTs] at e; cases e; exact ⟨rfl, k σ en .refl⟩
  | cons a b => simp [setTs] at e
theorem sgs_cons {e : Expr} {es : List Expr} {t : Tg} {ts : List Tg} (h1 : PG X e (mG (cf X) t)) (h2 : PGs X es (mGs (cf X) ts))
    (hs : (assignEach (e :: es) X.env).map (·.2) = assign e X.env :: (assignEach es X.env).map (·.2) := by rfl) : PGs X (e :: es) (mGs (cf X) (t :: ts)) := by
  refine PGs.imp (pgs_cons h1 h2 hs) ?_
  rintro v σ H Q ⟨ι, S, ρ, ds, ρ', s, en, r, e, k⟩
  cases r with
  | nil => simp [setTs] at e
  | @cons d ds v vs a b =>
    simp only [setTs] at e
    obtain ⟨ρ1, e1, e2⟩ := Option.bind_eq_some_iff.mp e
    refine ⟨v, vs, rfl, ι, S, ρ, d, ρ1, s, en, a, e1, fun σ1 en1 of1 => ?_⟩
    refine ⟨ι, S, ρ1, ds, ρ', s, en1, b, e2, fun σ2 en2 of2 => k σ2 en2 ⟨of2.len.trans of1.len, fun j hj => ?_⟩⟩
    simp only [slotsL, List.mem_append, not_or] at hj
    rw [of2.get j hj.2, of1.get j hj.1]
theorem setTs_len : ∀ {ts : List Tg} {xs : List D} {ρ ρ' : Env}, setTs ts xs ρ = some ρ' → xs.length = ts.length
  | [], [], _, _, _ => rfl
  | _ :: ts, _ :: xs, _, _, e => by
    simp only [setTs] at e
    obtain ⟨ρ1, e1, e2⟩ := Option.bind_eq_some_iff.mp e
    exact congrArg (· + 1) (setTs_len e2)
  | [], _ :: _, _, _, e => by simp [setTs] at e
  | _ :: _, [], _, _, e => by simp [setTs] at e
theorem sg_tp {es : List Expr} {k : Nat} {ts : List Tg} {n : Nat} (hc : X.calm = true) (h : PGs X es (mGs (cf X) ts))
    (hn : (assignEach es X.env).length = n := by rfl) (hl : ts.length = n := by rfl) (hst : (assignEach es X.env).findIdx? (·.1) = none := by rfl) : PG X (.Tuple es k pos) (mG (cf X) (.tp ts)) := by
  refine PG.imp (pg_tup hc h hn hst) ?_
  rintro v σ H Q ⟨ι, S, ρ, d, ρ', s, en, r, e, k⟩
  cases r with
  | @tup xs vs p hp rs =>
    simp only [setT] at e
    exact ⟨p, vs, rfl, .of hp, by rw [rs.length, setTs_len e, hl], ι, S, ρ, xs, ρ', s, en, rs, e, k⟩
  | _ => simp [setT] at e
end
/-! ### iterators -/
inductive MIt where
  | seq (h : Nat) | tup (xs : List D) | rng (lo : Int) (n : Nat) | sgn (x : Str)
  /-- each with its number -/
  | enuL (h : Nat) | enuT (xs : List D)
inductive Nxt where
  | stop | go (d : D) | bad
def Nxt.of : Option D → Nxt
  | some d => .go d
  | none => .stop
def nextI : MIt → Nat → Store → Nxt
  | .seq h, i, S => match S[h]? with
    | some (.lst xs) => .of xs[i]?
    | some (.rol xs) => .of xs[i]?
    | _ => .bad
  | .tup xs, i, _ => .of xs[i]?
  | .rng lo n, i, _ => if i < n then .go (.int (lo + i)) else .stop
  | .sgn x, i, _ => match x.cps.toList[i]? with
    | some c => .go (.str ⟨#[c]⟩)
    | none => .stop
  | .enuL h, i, S => match S[h]? with
    | some (.lst xs) => .of (xs[i]?.map fun d => .tup [.int i, d])
    | some (.rol xs) => .of (xs[i]?.map fun d => .tup [.int i, d])
    | _ => .bad
  | .enuT xs, i, _ => .of (xs[i]?.map fun d => .tup [.int i, d])
/-- J walks what it tells, at every later heap -/
def ItOk (c : Cf) (H : Hp) (ι : List Addr) (it : MIt) (J : It) : Prop := ∀ i ι' S' H', Stp ι H ι' H' → Sim c ι' S' H' →
  (nextI it i S' = .stop → J.stop i H') ∧ ∀ d, nextI it i S' = .go d → J.go i H' ∧ ∀ x H2, J.yld i H' x H2 → Stp ι' H' ι' H2 ∧ Sim c ι' S' H2 ∧ Rep c H2 ι' d x
theorem ItOk.step {c : Cf} {H H' : Hp} {ι ι' : List Addr} {it : MIt} {J : It} (p : Stp ι H ι' H') (k : ItOk c H ι it J) : ItOk c H' ι' it J := fun i ι2 S2 H2 q => k i ι2 S2 H2 (p.trans q)
theorem of_stop {o : Option D} (h : Nxt.of o = .stop) : o = none := by cases o <;> first | rfl | cases h
theorem of_go {o : Option D} {d : D} (h : Nxt.of o = .go d) : o = some d := by
  cases o with
  | none => cases h
  | some x => cases h; rfl
section
variable {c : Cf} {H : Hp} {ι : List Addr} {S : Store}
theorem Reps.none {ds : List D} {vs : List V} {i : Nat} (r : Reps c H ι ds vs) (h : ds[i]? = Option.none) : vs.length ≤ i := by
  rw [r.length]; exact List.getElem?_eq_none_iff.mp h
theorem it_seq {h : Nat} {a : Addr} (ha : ι[h]? = some a) : ItOk c H ι (.seq h) (Itl c.K a) := by
  intro i ι' S' H' p s
  have ha' := p.pre _ _ ha
  have key : ∀ {xs : List D}, (∃ vs, SqL c.K H' a vs ∧ Reps c H' ι' xs vs) → (Nxt.of xs[i]? = .stop → (Itl c.K a).stop i H') ∧ ∀ d, Nxt.of xs[i]? = .go d → (Itl c.K a).go i H' ∧ ∀ x H2, (Itl c.K a).yld i H' x H2 → Stp ι' H' ι' H2 ∧ Sim c ι' S' H2 ∧ Rep c H2 ι' d x := by
    rintro xs ⟨vs, hq, r⟩
    refine ⟨fun e => ⟨vs, hq, r.none (of_stop e)⟩, fun d e => ?_⟩
    obtain ⟨v, hv, rv⟩ := r.get (of_go e)
    refine ⟨⟨vs, v, hq, hv⟩, ?_⟩
    rintro x H2 ⟨rfl, y⟩
    have := (y vs hq).symm.trans hv
    cases this
    exact ⟨.refl, s, rv⟩
  simp only [nextI]
  split
  · rename_i xs hx
    obtain ⟨vs, g, r⟩ := s.obj h _ a hx ha'
    exact key ⟨vs, .of g, r⟩
  · rename_i xs hx
    obtain ⟨vs, g, r⟩ := s.obj h _ a hx ha'
    exact key ⟨vs, g.sq, r⟩
  · exact ⟨fun e => (nomatch e), fun d e => (nomatch e)⟩
theorem it_tup {xs : List D} {vs : List V} {a : Addr} (ha : H a = some (.tup vs)) (rs : Reps c H ι xs vs) : ItOk c H ι (.tup xs) (Itt c.K a) := by
  intro i ι' S' H' p s
  have hq : SqT c.K H' a vs := .of (p.tup _ _ ha)
  have r := rs.step p
  refine ⟨fun e => ⟨vs, hq, r.none (of_stop e)⟩, fun d e => ?_⟩
  obtain ⟨v, hv, rv⟩ := r.get (of_go e)
  refine ⟨⟨vs, v, hq, hv⟩, ?_⟩
  rintro x H2 ⟨rfl, y⟩
  have := (y vs hq).symm.trans hv
  cases this
  exact ⟨.refl, s, rv⟩
theorem it_rng {lo : Int} {n : Nat} : ItOk c H ι (.rng lo n) (Itr lo n) := by
  intro i ι' S' H' p s
  by_cases hi : i < n
  · simp only [nextI, if_pos hi]
    refine ⟨fun e => (nomatch e), fun d e => ⟨hi, ?_⟩⟩
    rintro x H2 ⟨rfl, rfl⟩
    cases e
    exact ⟨.refl, s, .int _⟩
  · simp only [nextI, if_neg hi]
    exact ⟨fun e => (show n ≤ i by omega), fun d e => (nomatch e)⟩
theorem it_sgn {x : Str} : ItOk c H ι (.sgn x) (Its x) := by
  intro i ι' S' H' p s
  simp only [nextI]
  split
  · rename_i ci hc
    refine ⟨fun e => (nomatch e), fun d e => ?_⟩
    cases e
    have hc2 : x.cps[i]? = some ci := by rw [← Array.getElem?_toList]; exact hc
    refine ⟨?_, ?_⟩
    · show i < x.cps.size
      exact (Array.getElem?_eq_some_iff.mp hc2).1
    · rintro v H2 ⟨rfl, c', h1, rfl⟩
      rw [hc2] at h1; cases h1
      exact ⟨.refl, s, .str _⟩
  · rename_i hc
    refine ⟨fun _ => ?_, fun d e => (nomatch e)⟩
    show x.cps.size ≤ i
    rw [← Array.length_toList]
    exact List.getElem?_eq_none_iff.mp hc
theorem pair_out {i : Nat} {d : D} {v : V} {T : Addr} (s : Sim c ι S H) (hT : H T = Option.none) (r : Rep c H ι d v) : Stp ι H ι (upd H T (.tup [.int (i : Nat), v])) ∧ Sim c ι S (upd H T (.tup [.int (i : Nat), v])) ∧ Rep c (upd H T (.tup [.int (i : Nat), v])) ι (.tup [.int i, d]) (.ref T) := by
  obtain ⟨s2, st⟩ := s.laid (o := .tup [.int (i : Nat), v]) hT
  exact ⟨st, s2, .tup upd_same (.cons (.int _) (.cons (r.step st) .nil))⟩
theorem it_enuL {h : Nat} {a : Addr} (ha : ι[h]? = some a) : ItOk c H ι (.enuL h) (Ite c.K a) := by
  intro i ι' S' H' p s
  have ha' := p.pre _ _ ha
  have key : ∀ {xs : List D}, (∃ vs, SqL c.K H' a vs ∧ Reps c H' ι' xs vs) → (Nxt.of (xs[i]?.map fun d => D.tup [.int i, d]) = .stop → (Ite c.K a).stop i H') ∧ ∀ d, Nxt.of (xs[i]?.map fun d => D.tup [.int i, d]) = .go d → (Ite c.K a).go i H' ∧ ∀ x H2, (Ite c.K a).yld i H' x H2 → Stp ι' H' ι' H2 ∧ Sim c ι' S' H2 ∧ Rep c H2 ι' d x := by
    rintro xs ⟨vs, hq, r⟩
    refine ⟨fun e => ⟨vs, hq, r.none (Option.map_eq_none_iff.mp (of_stop e))⟩, fun d e => ?_⟩
    obtain ⟨d0, e0, e1⟩ := Option.map_eq_some_iff.mp (of_go e)
    subst e1
    obtain ⟨v, hv, rv⟩ := r.get e0
    refine ⟨⟨vs, v, hq, hv⟩, ?_⟩
    rintro x H2 ⟨T, z, rfl, hT, rfl, y⟩
    have := (y vs hq).symm.trans hv
    cases this
    exact pair_out s hT rv
  simp only [nextI]
  split
  · rename_i xs hx
    obtain ⟨vs, g, r⟩ := s.obj h _ a hx ha'
    exact key ⟨vs, .of g, r⟩
  · rename_i xs hx
    obtain ⟨vs, g, r⟩ := s.obj h _ a hx ha'
    exact key ⟨vs, g.sq, r⟩
  · exact ⟨fun e => (nomatch e), fun d e => (nomatch e)⟩
/-- as Ite, of a tuple -/
def IteT (K : PySem.W.Frag) (a : Addr) : It :=
  ⟨fun i H => ∃ (ys : List V) (y : V), SqT K H a ys ∧ ys[i]? = some y, fun i H v H' => ∃ T y, v = .ref T ∧ H T = Option.none ∧ H' = upd H T (.tup [.int (i : Nat), y]) ∧ ∀ ys, SqT K H a ys → ys[i]? = some y, fun i H => ∃ ys : List V, SqT K H a ys ∧ ys.length ≤ i⟩
theorem it_enuT {xs : List D} {vs : List V} {a : Addr} (ha : H a = some (.tup vs)) (rs : Reps c H ι xs vs) : ItOk c H ι (.enuT xs) (IteT c.K a) := by
  intro i ι' S' H' p s
  have hq : SqT c.K H' a vs := .of (p.tup _ _ ha)
  have r := rs.step p
  refine ⟨fun e => ⟨vs, hq, r.none (Option.map_eq_none_iff.mp (of_stop e))⟩, fun d e => ?_⟩
  obtain ⟨d0, e0, e1⟩ := Option.map_eq_some_iff.mp (of_go e)
  subst e1
  obtain ⟨v, hv, rv⟩ := r.get e0
  refine ⟨⟨vs, v, hq, hv⟩, ?_⟩
  rintro x H2 ⟨T, z, rfl, hT, rfl, y⟩
  have := (y vs hq).symm.trans hv
  cases this
  exact pair_out s hT rv
end
end Mini

/-! MINI, part K: what is walked; comprehensions. -/
namespace Mini
open PySem L2
abbrev RI (c : Cf) : Hp → List Addr → MIt → It → Prop := fun H ι it J => ItOk c H ι it J
def tI (c : Cf) (W : WX) (f : Env → M MIt) : TI := fun σ H R => ∃ ι S ρ, Sim c ι S H ∧ REnv c H ι ρ σ ∧ post (RI c) c W ι H σ R (f ρ S)
def itOf (S : Store) : D → Option MIt
  | .ref h => match S[h]? with
    | some (.lst _) => some (.seq h)
    | some (.rol _) => some (.seq h)
    | _ => none
  | .tup xs => some (.tup xs)
  | .str x => some (.sgn x)
  | _ => none
def liftI {α : Type} (S : Store) : Option α → Out α
  | some a => .ok a S
  | none => .bad
def iAny (f : ME) : Env → M MIt := fun ρ => bnd (f ρ) fun d => fun S => liftI S (itOf S d)
def fits62 (j : Int) : Bool := decide (-(2 ^ 62) ≤ j) && decide (j < 2 ^ 62)
def rng1 : List D → Option MIt
  | [.int j] => if fits62 j then some (.rng 0 j.toNat) else none
  | _ => none
def rng2 : List D → Option MIt
  | [.int i, .int j] => if fits62 i && fits62 j then some (.rng i (j - i).toNat) else none
  | _ => none
def iArgs (g : List D → Option MIt) (f : Env → M (List D)) : Env → M MIt := fun ρ => bnd (f ρ) fun ds => fun S => liftI S (g ds)
def enuOf (S : Store) : D → Option MIt
  | .ref h => match S[h]? with
    | some (.lst _) => some (.enuL h)
    | some (.rol _) => some (.enuL h)
    | _ => none
  | .tup xs => some (.enuT xs)
  | _ => none
def iEnu (f : ME) : Env → M MIt := fun ρ => bnd (f ρ) fun d => fun S => liftI S (enuOf S d)
theorem fits62_iff {j : Int} (h : fits62 j = true) : -(2 ^ 62) ≤ j ∧ j < 2 ^ 62 := by
  unfold fits62 at h
  rw [Bool.and_eq_true, decide_eq_true_eq, decide_eq_true_eq] at h
  exact h
/-- iter by values -/
def ItV (X : Cx) (tg : Expr) (r : V → Hp → (It → Hp → Prop) → Prop) : Prop :=
  ∀ (pins : List (Addr × Obj)) (s : Shared) (σ : St) (H : Hp) (x : V) (v : Value) (R : It → Hp → Prop), Inv X pins σ H s → RelV x v → r x H R → wpAny (model X.prog X.w) X.A (pyIter v) (PIE X pins σ tg R) X.xe s
section
variable {X : Cx} {tg : Expr}
theorem fp_new {pins : List (Addr × Obj)} {σ : St} {H : Hp} {s : Shared} (I : Inv X pins σ H s) : ∀ b ∈ [s.heap.objs.size], FpOk X pins H b := by
  intro b m
  rw [List.mem_singleton] at m
  rw [m]
  exact Inv.fpOk I (Nat.le_refl s.heap.objs.size) (I.hok.fresh (Nat.le_refl s.heap.objs.size))
theorem iv_list : ItV X tg (fun x H R => ∃ p vs, x = .ref p ∧ SqL X.K H p vs ∧ R (Itl X.K p) H) := by
  rintro pins s σ H x v R I rx ⟨p, vs, rfl, hq, k⟩
  cases rx
  obtain ⟨us, _, pl, _⟩ := I.list hq
  refine wpAny_pyIter_list pl.isList ⟨_, [s.heap.objs.size], _, _, H, rfl, ?_, turn_list p _, ?_, fp_new I, k⟩
  · exact Inv.kept I (t' := s.toks) fun b ob z => Heap.get?_push_of_some _ z
  · exact ⟨_, Heap.get?_push_size _ rfl, rfl, rfl⟩
theorem iv_tup : ItV X tg (fun x H R => ∃ p vs, x = .ref p ∧ SqT X.K H p vs ∧ R (Itt X.K p) H) := by
  rintro pins s σ H x v R I rx ⟨p, vs, rfl, hq, k⟩
  cases rx
  obtain ⟨us, _, pl, _⟩ := I.tuple hq
  refine wpAny_pyIter_tuple (show Heap.IsTuple s.heap p us.toArray from pl) ⟨_, [s.heap.objs.size], _, _, H, rfl, ?_, turn_tuple p _, ?_, fp_new I, k⟩
  · exact Inv.kept I (t' := s.toks) fun b ob z => Heap.get?_push_of_some _ z
  · exact ⟨_, Heap.get?_push_size _ rfl, rfl, rfl⟩
theorem iv_str : ItV X tg (fun x H R => ∃ z, x = .str z ∧ R (Its z) H) := by
  rintro pins s σ H x v R I rx ⟨z, rfl, k⟩
  obtain ⟨t, rfl⟩ := rx
  by_cases hz : z.cps.all (· < 128) = true
  · refine wpAny_pyIter_ascii hz (pi_one I _ (turn_str _ z t _ (.inl rfl)) ?_ k)
    exact ⟨_, Heap.get?_push_size _ rfl, rfl, rfl⟩
  · refine wpAny_pyIter_wide (Bool.eq_false_iff.mpr hz) (pi_one I _ (turn_str _ z t _ (.inr rfl)) ?_ k)
    exact ⟨_, Heap.get?_push_size _ rfl, rfl, rfl⟩
variable {W : WX} {fe : ME} {e : Expr} {es : List Expr} {fs : Env → M (List D)} {pos p : Pos}
/-- for .. in e: by what e is -/
theorem si_any (he : PE X e (tE (cf X) W fe)) : PI X tg e (tI (cf X) W (iAny fe)) := by
  refine ⟨fun pins s σ H R I ⟨ι, S, ρ, sm, en, q⟩ => ?_⟩
  refine thn (he.run pins s σ H (fun x H1 => (∃ p vs, x = .ref p ∧ SqL X.K H1 p vs ∧ R (Itl X.K p) H1) ∨ (∃ p vs, x = .ref p ∧ SqT X.K H1 p vs ∧ R (Itt X.K p) H1) ∨ ∃ z, x = .str z ∧ R (Its z) H1) I ⟨ι, S, ρ, sm, en, post_bnd q fun d S1 ι1 H1 x e1 st1 sm1 r1 p1 => ?_⟩) fun v s1 ⟨x, H1, I1, r1, q1⟩ => ?_
  · cases r1 with
    | str z => exact .inr (.inr ⟨z, rfl, p1 ι1 H1 _ .refl sm1 it_sgn⟩)
    | @tup xs vs a ha rs => exact .inr (.inl ⟨a, vs, rfl, .of ha, p1 ι1 H1 _ .refl sm1 (it_tup ha rs)⟩)
    | @ref h a ha =>
      simp only [itOf] at p1
      split at p1
      · rename_i zs xs hx
        obtain ⟨vs, g, _⟩ := sm1.obj h _ a hx ha
        exact .inl ⟨a, vs, rfl, .of g, p1 ι1 H1 _ .refl sm1 (it_seq ha)⟩
      · rename_i zs xs hx
        obtain ⟨vs, g, _⟩ := sm1.obj h _ a hx ha
        exact .inl ⟨a, vs, rfl, g.sq, p1 ι1 H1 _ .refl sm1 (it_seq ha)⟩
      · exact p1.elim
    | _ => exact p1.elim
  · rcases q1 with q1 | q1 | q1
    · exact iv_list pins s1 σ H1 x v R I1 r1 q1
    · exact iv_tup pins s1 σ H1 x v R I1 r1 q1
    · exact iv_str pins s1 σ H1 x v R I1 r1 q1
theorem si_range1 (hg : Gl X "range") (hm : X.mg "range" = none) (ha : PA X [e] (tA (cf X) W fs)) (hs : starEach [e] X.env = [(false, eval e X.env)] := by rfl) : PI X tg (.Call (.Name "range" p) [e] [] pos) (tI (cf X) W (iArgs rng1 fs)) := by
  refine ⟨fun pins s σ H R I ⟨ι, S, ρ, sm, en, q⟩ => (pi_range1 hg hm ha hs).run pins s σ H R I ⟨ι, S, ρ, sm, en, post_bnd q fun ds S1 ι1 H1 vs e1 st1 sm1 r1 p1 => ?_⟩⟩
  unfold rng1 at p1
  split at p1
  · rename_i j
    obtain ⟨v, rfl, r⟩ := reps1 r1
    cases r
    split at p1
    · rename_i hj
      exact ⟨j, rfl, (fits62_iff hj).1, (fits62_iff hj).2, p1 ι1 H1 _ .refl sm1 it_rng⟩
    · exact p1.elim
  · exact p1.elim
theorem si_range2 {b : Expr} (hg : Gl X "range") (hm : X.mg "range" = none) (ha : PA X [e, b] (tA (cf X) W fs)) (hs : starEach [e, b] X.env = [(false, eval e X.env), (false, eval b X.env)] := by rfl) (hs2 : starEach [b] X.env = [(false, eval b X.env)] := by rfl) :
    PI X tg (.Call (.Name "range" p) [e, b] [] pos) (tI (cf X) W (iArgs rng2 fs)) := by
  refine ⟨fun pins s σ H R I ⟨ι, S, ρ, sm, en, q⟩ => (pi_range2 hg hm ha hs hs2).run pins s σ H R I ⟨ι, S, ρ, sm, en, post_bnd q fun ds S1 ι1 H1 vs e1 st1 sm1 r1 p1 => ?_⟩⟩
  unfold rng2 at p1
  split at p1
  · rename_i i j
    obtain ⟨v, u, rfl, r, r'⟩ := reps2 r1
    cases r; cases r'
    split at p1
    · rename_i hj
      rw [Bool.and_eq_true] at hj
      exact ⟨i, j, rfl, ⟨(fits62_iff hj.1).1, (fits62_iff hj.1).2, (fits62_iff hj.2).1, (fits62_iff hj.2).2⟩, p1 ι1 H1 _ .refl sm1 it_rng⟩
    · exact p1.elim
  · exact p1.elim
end
/-! ### enumerate over a tuple -/
theorem turn_enuT {P : Program} {w : World} {K : PySem.W.Frag} {elts : List Expr} {kk : Nat} {tpos : Pos} (t en it : Addr) :
    Turn P w K (.Tuple elts kk tpos) (IteT K t) [en, it] en (fun i h => (∃ o, IsEnum h en it ((i : Nat) : Int) o) ∧ h.IsTupleIter it t i ∧ en ≠ it) where
  mem := List.mem_cons_self
  obj := by
    rintro i h ⟨⟨o, h1⟩, ⟨ob, h2, _, h3⟩, _⟩ b m
    rcases List.mem_cons.mp m with rfl | m
    · exact ⟨_, h1, fun v z => nomatch z⟩
    · rw [List.mem_singleton] at m
      subst m
      exact ⟨ob, h2, fun v z => by rw [h3] at z; cases z⟩
  keep := by
    rintro i h h' ⟨⟨o, h1⟩, h2, h3⟩ k
    exact ⟨⟨o, k en List.mem_cons_self _ h1⟩, h2.at fun ob z => k it (by simp) ob z, h3⟩
  item := by
    intro X hP hw hK hc i pins s σ H E I hf st hg
    subst hP hw hK
    obtain ⟨⟨o, h1⟩, h2, h3⟩ := st
    obtain ⟨ys, y, hq, hy⟩ := hg
    obtain ⟨us, rv, tp, _⟩ := I.tuple hq
    obtain ⟨u, hu, ru⟩ := rv.get hy
    have lt1 : en < s.heap.objs.size := Heap.lt_size h1
    have lt2 : it < s.heap.objs.size := by obtain ⟨ob, q, _⟩ := id h2; exact Heap.lt_size q
    -- the tuple is not one of the two records
    have net : t ≠ en := fun z => by
      obtain ⟨ob, e1, c1, _⟩ := id tp
      rw [z] at e1
      have := h1.symm.trans e1
      cases this
      have c1 : Value.type "enumerate" = Value.type "tuple" := c1
      exact absurd c1 (by decide)
    have neti : t ≠ it := fun z => by
      obtain ⟨ob, e1, c1, _⟩ := id tp
      obtain ⟨ob2, e2, c2, _⟩ := id h2
      rw [z, e2] at e1
      cases e1
      rw [c2] at c1
      exact absurd c1 (by decide)
    have il : i < us.toArray.size := by
      have := (List.getElem?_eq_some_iff.mp hu).1
      simpa using this
    refine wpAny_pyNext_enum_itemC (c := (i : Int)) (Draws.tuple (prog := X.prog) (w := X.w) (A := X.A.in1) (I.ok.hd hc) it t neti us.toArray) h1 ⟨h2, tp⟩ il h3 (fun m => by simp only [List.mem_cons, List.not_mem_nil, or_false] at m; exact m.elim h3 (Ne.symm net)) fun x h' tk hx oE st1 hT hz hk => ?_
    have ex : x = u := by
      have q : us.toArray[i]? = some x := hx
      rw [List.getElem?_toArray, hu] at q
      exact (Option.some.inj q).symm
    subst ex
    refine ⟨_, rfl, wpAny_letOwnedTupleGo_enum (s := { s with heap := h', toks := tk + 1 }) oE fun h'' nE same => ?_⟩
    have pos2 : s.heap.objs.size ≠ en := Nat.ne_of_gt lt1
    have laid : h''.get? s.heap.objs.size = some { cls := .type "tuple", data := .seq #[.int i tk, x] } := (same.2 _ pos2).trans hT
    have new : ObjOk X.prog X.w (upd H s.heap.objs.size (.tup [.int (i : Nat), y])) h'' s.heap.objs.size (.tup [.int (i : Nat), y]) :=
      ⟨(by decide : 2 ≤ sizeLine), [.int i tk, x], .cons ⟨_, rfl⟩ (.cons ru .nil), ⟨_, laid, rfl, 0, rfl⟩⟩
    have J : Inv X pins σ (upd H s.heap.objs.size (.tup [.int (i : Nat), y])) { s with heap := h'', toks := tk + 1 } := by
      refine I.turnedNew (ch := [en, it]) (fun b ob nb q => ?_) hf (Nat.le_refl _) new
      simp only [List.mem_cons, List.not_mem_nil, or_false, not_or] at nb
      exact (same.2 b nb.1).trans (hk b ob nb.1 nb.2 q)
    refine ⟨.ref s.heap.objs.size, _, J, rfl, ⟨_, y, rfl, I.hok.fresh (Nat.le_refl _), rfl, fun zs hz2 => ?_⟩, ⟨⟨x, ?_⟩, st1.1.at fun ob q => (same.2 it (Ne.symm h3)).trans q, h3⟩, fun b m => ?_⟩
    · rw [I.tuple_inj hz2 hq]; exact hy
    · have e1 : ((i : Nat) : Int) + 1 = ((i + 1 : Nat) : Int) := by omega
      rw [← e1]; exact nE
    · have lb : b < s.heap.objs.size := by
        rcases List.mem_cons.mp m with rfl | m
        · exact lt1
        · rw [List.mem_singleton] at m; rw [m]; exact lt2
      rw [upd_ne (Nat.ne_of_lt lb)]
      exact (hf b m).1
  done := by
    intro X hP hw hK hc i pins s σ H E I hf st hg
    subst hP hw hK
    obtain ⟨⟨o, h1⟩, h2, h3⟩ := st
    obtain ⟨ys, hq, hl⟩ := hg
    obtain ⟨us, rv, tp, _⟩ := I.tuple hq
    obtain ⟨f0, f1, f2, f3, f4, f5⟩ := hf it (by simp)
    have neti : t ≠ it := fun z => by
      obtain ⟨ob, e1, c1, _⟩ := id tp
      obtain ⟨ob2, e2, c2, _⟩ := id h2
      rw [z, e2] at e1
      cases e1
      rw [c2] at c1
      exact absurd c1 (by decide)
    have D : Draws X.prog X.w X.A.in1 it [it, t] i (fun _ _ => True) (fun j h => j = i ∧ h.IsTupleIter it t j ∧ h.IsTuple t us.toArray) :=
      { live := fun j h st => let ⟨ob, q, _⟩ := st.2.1; ⟨ob, q⟩
        frame := fun j h h' st k => ⟨st.1, st.2.1.at fun ob q => k it (by simp) ob q, st.2.2.at fun ob q => k t (by simp) ob q⟩
        item := fun j s Q E lt st _ => absurd st.1 (Nat.ne_of_lt lt)
        done := fun s Q E st k => wpAny_nextOf_tuple_end (I.ok.hd hc) st.2.1 st.2.2 (by rw [List.getElem?_toArray]; exact List.getElem?_eq_none_iff.mpr (by rw [← rv.length]; exact hl)) k }
    exact wpAny_pyNext_enum_endD D h1 ⟨rfl, h2, tp⟩ fun h' eb => ⟨rfl, I.turned (t' := s.toks) (fun b ob nb q => eb b ob nb q) f0 f1 f3 f4 f5⟩
  self := fun A i s Q E ⟨⟨o, h1⟩, _⟩ k => wpAny_pyIter_enum h1 k
end Mini
namespace PySem
theorem meets_enuT (t : Addr) (items : Array Value) (n : Nat) (dct : Option Addr) (sl : Array (Option Value)) :
    Meets (Builtin.«enumerate.__new__» ⟨[.type "enumerate", .ref t], []⟩) (fun _ R s => s.heap.get? t = some { cls := .type "tuple", dict := dct, data := .seq items n, slots := sl } ∧
      R (.ok (.ret (.ref (s.heap.objs.size + 1)))) { s with heap := (s.heap.push { cls := .type "tuple_iterator", data := .fields #[.ref t, .int 0 0] }).push { cls := .type "enumerate", data := .fields #[.none, .bool false, .ref s.heap.objs.size, rawInt 0, .none, .none] } }) := by
  refine Meets.of_wp fun prog w A R s h => ?_
  obtain ⟨hp, g, d, tk, os⟩ := s
  obtain ⟨ht, h⟩ := h
  dsimp only at h
  have sz : (hp.push { cls := .type "tuple_iterator", data := .fields #[.ref t, .int 0 0] }).objs.size = hp.objs.size + 1 := Heap.size_push ..
  rw [← sz] at h
  have hsub := sub_enumerate
  have hT : Heap.IsTuple (Shared.heap ⟨hp, g, d, tk, os⟩) t items := ⟨_, ht, rfl, n, rfl⟩
  wp_walk using AutoSeq1.wpAny_loadPart' ht
  refine wpAny_stack_any (fun z => wpAny_pure ?_)
  split
  · rename_i c _ _ _ _ _
    cases (c == Value.type "enumerate") <;> (wp_walk using AutoSeq1.wpAny_loadPart' ht, wpAny_pyIter_tuple hT) <;> exact ⟨_, rfl, h⟩
  · wp_walk using AutoSeq1.wpAny_loadPart' ht, wpAny_pyIter_tuple hT
    exact ⟨_, rfl, h⟩
section
variable {prog : Program} {w : World} {A : Around} {E : Value → Shared → Prop} {s : Shared}
theorem call_enuT {t : Addr} {items : Array Value} {Q : Value → Shared → Prop} (hT : s.heap.IsTuple t items)
    (h : ∀ h', IsEnum h' (s.heap.objs.size + 1) s.heap.objs.size 0 .none → h'.IsTupleIter s.heap.objs.size t 0 → (∀ b ob, s.heap.get? b = some ob → h'.get? b = some ob) → Q (.ref (s.heap.objs.size + 1)) { s with heap := h' }) :
    wpAny (model prog w) A (call (.type "enumerate") [.ref t]) Q E s := by
  obtain ⟨⟨cl, dct, dt, sl⟩, ht, hc, n, hd⟩ := hT
  obtain rfl : cl = .type "tuple" := hc
  obtain rfl : dt = .seq items n := hd
  refine callType_new
    F.called_enumerate (by decide)
    (F.typeCall_enumerate_1 _)
    (F.newCall_enumerate_1 _)
    (fun z => F.args_object_init_2 z _)
    F.entry_enumerate_new
    (meets_enuT t items n dct sl) ⟨ht, ?_⟩
  have sz : (s.heap.push { cls := .type "tuple_iterator", data := .fields #[.ref t, .int 0 0] }).objs.size = s.heap.objs.size + 1 := Heap.size_push ..
  have top : IsEnum ((s.heap.push { cls := .type "tuple_iterator", data := .fields #[.ref t, .int 0 0] }).push { cls := .type "enumerate", data := .fields #[.none, .bool false, .ref s.heap.objs.size, rawInt 0, .none, .none] }) (s.heap.objs.size + 1) s.heap.objs.size 0 .none := by
    show Heap.get? _ _ = _
    rw [← sz]
    exact Heap.get?_push_size _ rfl
  refine ⟨⟨_, top, rfl⟩, h _ top ?_ ?_⟩
  · exact ⟨_, Heap.get?_push_of_some _ (Heap.get?_push_size _ rfl), rfl, rfl⟩
  · exact fun b ob z => Heap.get?_push_of_some _ (Heap.get?_push_of_some _ z)
end
end PySem
namespace Mini
open PySem L2
section
variable {X : Cx} {W : WX} {fe : ME} {e : Expr} {pos p tpos : Pos} {elts : List Expr} {kk : Nat}
theorem si_enu (hg : Gl X "enumerate") (hm : X.mg "enumerate" = none) (he : PE X e (tE (cf X) W fe)) (hs : starEach [e] X.env = [(false, eval e X.env)] := by rfl) :
    PI X (.Tuple elts kk tpos) (.Call (.Name "enumerate" p) [e] [] pos) (tI (cf X) W (iEnu fe)) := by
  have ha : PA X [e] (tCons (tE (cf X) W fe) tNil) := pa_cons he pa_nil hs
  refine ⟨fun pins s σ H R I ⟨ι, S, ρ, sm, en, q⟩ => ?_⟩
  refine PyProof.Rows.Call_ (ld_blt I hg hm PyProof.Rows.boot_enumerate (PyProof.Rows.callWith_type1 (thn (ha.run pos pins s σ H (fun vs H1 => (∃ a us, vs = [.ref a] ∧ SqL X.K H1 a us ∧ R (Ite X.K a) H1) ∨ ∃ a us, vs = [.ref a] ∧ SqT X.K H1 a us ∧ R (IteT X.K a) H1) I
    ⟨ι, S, ρ, sm, en, post_bnd q fun d S1 ι1 H1 x e1 st1 sm1 r1 p1 => ?_⟩) fun us s1 ⟨vs, H1, I1, r1, q1⟩ => ?_) hs rfl))
  · cases r1 with
    | @tup xs vs a ha rs => exact .inr ⟨a, vs, rfl, .of ha, p1 ι1 H1 _ .refl sm1 (it_enuT ha rs)⟩
    | @ref h a ha =>
      simp only [enuOf] at p1
      split at p1
      · rename_i zs xs hx
        obtain ⟨vs, g, _⟩ := sm1.obj h _ a hx ha
        exact .inl ⟨a, vs, rfl, .of g, p1 ι1 H1 _ .refl sm1 (it_enuL ha)⟩
      · rename_i zs xs hx
        obtain ⟨vs, g, _⟩ := sm1.obj h _ a hx ha
        exact .inl ⟨a, vs, rfl, g.sq, p1 ι1 H1 _ .refl sm1 (it_enuL ha)⟩
      · exact p1.elim
    | _ => exact p1.elim
  · rcases q1 with ⟨a, ys, rfl, hq, k⟩ | ⟨a, ys, rfl, hq, k⟩
    · obtain ⟨u, rfl, ru⟩ := r1.one
      cases ru
      obtain ⟨zs, _, pl, _⟩ := I1.list hq
      refine call_enumerate_list pl.isList fun h' nE nI _ kp => wpAny_pyIter_enum nE ?_
      have J := Inv.kept I1 (h' := h') (t' := s1.toks) kp
      refine ⟨_, [s1.heap.objs.size + 1, s1.heap.objs.size], _, _, H1, rfl, J, turn_enum a _ s1.heap.objs.size, ⟨⟨_, nE⟩, nI, Nat.succ_ne_self _⟩, fun b m => ?_, k⟩
      have hb : s1.heap.objs.size ≤ b := by
        simp only [List.mem_cons, List.not_mem_nil, or_false] at m
        rcases m with rfl | rfl
        · exact Nat.le_succ _
        · exact Nat.le_refl _
      exact Inv.fpOk I1 hb (I1.hok.fresh hb)
    · obtain ⟨u, rfl, ru⟩ := r1.one
      cases ru
      obtain ⟨zs, _, pl, _⟩ := I1.tuple hq
      refine call_enuT (show Heap.IsTuple s1.heap a zs.toArray from pl) fun h' nE nI kp => wpAny_pyIter_enum nE ?_
      have J := Inv.kept I1 (h' := h') (t' := s1.toks) kp
      refine ⟨_, [s1.heap.objs.size + 1, s1.heap.objs.size], _, _, H1, rfl, J, turn_enuT a _ s1.heap.objs.size, ⟨⟨_, nE⟩, nI, Nat.succ_ne_self _⟩, fun b m => ?_, k⟩
      have hb : s1.heap.objs.size ≤ b := by
        simp only [List.mem_cons, List.not_mem_nil, or_false] at m
        rcases m with rfl | rfl
        · exact Nat.le_succ _
        · exact Nat.le_refl _
      exact Inv.fpOk I1 hb (I1.hok.fresh hb)
end
end Mini

/-! MINI, part L: comprehensions. -/
namespace Mini
open PySem L2
def wipeM (ρ : Env) : List Nat → Env
  | [] => ρ
  | v :: vs => (wipeM ρ vs).set v none
/-- what raises there is not followed -/
def nox {α : Type} (x : M α) : M α := fun S => match x S with
  | .ok a S1 => .ok a S1
  | _ => .bad
@[irreducible] def turns : Nat := 1000002
def lcM (g : Tg) (tt : Env → M Bool) (fe : ME) (it : MIt) (h : Nat) (ρ : Env) : Nat → Nat → M D
  | 0, _ => fun _ => .bad
  | n + 1, i => fun S => match nextI it i S with
    | .stop => .ok (.ref h) S
    | .bad => .bad
    | .go d => match setT g d ρ with
      | none => .bad
      | some ρ1 => bnd (nox (tt ρ1)) (fun b => if b = true then bnd (nox (fe ρ1)) (fun y => fun S => match S[h]? with
          | some (.lst acc) => if acc.length < lim then lcM g tt fe it h ρ n (i + 1) (S.set h (.lst (acc ++ [y]))) else .bad
          | _ => .bad) else lcM g tt fe it h ρ n (i + 1)) S
def eLc (wi : Env → M MIt) (g : Tg) (tt : Env → M Bool) (fe : ME) (vs : List Nat) : ME := fun ρ => bnd (wi ρ) fun it => fun S => lcM g tt fe it S.length (wipeM ρ vs) turns 0 (S ++ [.lst []])
def dcM (g : Tg) (tt : Env → M Bool) (fk fv : ME) (it : MIt) (h : Nat) (ρ : Env) : Nat → Nat → M D
  | 0, _ => fun _ => .bad
  | n + 1, i => fun S => match nextI it i S with
    | .stop => .ok (.ref h) S
    | .bad => .bad
    | .go d => match setT g d ρ with
      | none => .bad
      | some ρ1 => bnd (nox (tt ρ1)) (fun b => if b = true then bnd (nox (fk ρ1)) (fun y => bnd (nox (fv ρ1)) fun z => fun S => match S[h]?, keyOf y with
          | some (.dK kvs), some k => if kvs.length < lim then dcM g tt fk fv it h ρ n (i + 1) (S.set h (.dK (putM kvs k z))) else .bad
          | _, _ => .bad) else dcM g tt fk fv it h ρ n (i + 1)) S
def eDc (wi : Env → M MIt) (g : Tg) (tt : Env → M Bool) (fk fv : ME) (vs : List Nat) : ME := fun ρ => bnd (wi ρ) fun it => fun S => dcM g tt fk fv it S.length (wipeM ρ vs) turns 0 (S ++ [.dK []])
def ttYes : Env → M Bool := fun _ => pur true
theorem post_nox {α β γ δ : Type} {R : Hp → List Addr → α → β → Prop} {R' : Hp → List Addr → γ → δ → Prop} {c : Cf} {W W' : WX} {ι : List Addr} {H : Hp} {σ σ' : St} {Q : δ → Hp → Prop} {Q1 : β → Hp → Prop} {x : M α} {k : α → M γ} {S : Store}
    (h : post R' c W ι H σ Q (bnd (nox x) k S)) (f : ∀ a S1 ι' H' b, x S = .ok a S1 → Stp ι H ι' H' → Sim c ι' S1 H' → R H' ι' a b → post R' c W ι' H' σ Q (k a S1) → Q1 b H') : post R c W' ι H σ' Q1 (x S) := by
  unfold bnd nox at h
  cases e : x S with
  | ok a S1 =>
    rw [e] at h
    exact fun ι' H' b p s r => f a S1 ι' H' b e p s r (post_trans p h)
  | exc n fs S1 => rw [e] at h; exact h.elim
  | bad => rw [e] at h; exact h.elim
theorem wipe_get : ∀ (σ : St) (vs : List Nat) (j : Nat), (wipe σ vs)[j]? = if j ∈ vs ∧ j < σ.length then some none else σ[j]?
  | σ, [], j => by simp [wipe]
  | σ, v :: vs, j => by
    unfold wipe
    by_cases hv : v = j
    · subst hv
      by_cases hl : v < σ.length
      · rw [List.getElem?_set_self (by rw [wipe_length]; exact hl), if_pos ⟨List.mem_cons_self, hl⟩]
      · rw [List.getElem?_eq_none (by rw [List.length_set, wipe_length]; omega), if_neg (fun z => hl z.2), List.getElem?_eq_none (by omega)]
    · rw [List.getElem?_set_ne hv, wipe_get σ vs j]
      have : (j ∈ v :: vs) ↔ j ∈ vs := by simp [Ne.symm hv]
      simp only [this]
theorem wipe_off {σ σ2 : St} {js vs : List Nat} (o : Off js (wipe σ vs) σ2) (hj : ∀ j ∈ js, j ∈ vs) : wipe σ2 vs = wipe σ vs := by
  apply List.ext_getElem?
  intro j
  have hl : σ2.length = σ.length := o.len.trans (wipe_length σ vs)
  rw [wipe_get σ2, hl]
  by_cases hm : j ∈ vs
  · by_cases hlt : j < σ.length
    · rw [if_pos ⟨hm, hlt⟩, wipe_get, if_pos ⟨hm, hlt⟩]
    · rw [if_neg (fun z => hlt z.2), List.getElem?_eq_none (by omega), List.getElem?_eq_none (by rw [wipe_length]; omega)]
  · rw [if_neg (fun z => hm z.1)]
    exact o.get j fun z => hm (hj j z)
section
variable {c : Cf} {H : Hp} {ι : List Addr} {S : Store} {ρ : Env} {σ : St}
theorem REnv.wipe (en : REnv c H ι ρ σ) : ∀ vs : List Nat, REnv c H ι (wipeM ρ vs) (L2.wipe σ vs)
  | [] => en
  | v :: vs => by
    have ih := REnv.wipe en vs
    refine ⟨by unfold wipeM L2.wipe; rw [List.length_set, List.length_set]; exact ih.len, fun j d h => ?_⟩
    unfold wipeM at h
    unfold L2.wipe
    by_cases hj : v = j
    · subst hj
      by_cases hl : v < (wipeM ρ vs).length
      · rw [List.getElem?_set_self hl] at h; cases h
      · rw [List.getElem?_eq_none (by rw [List.length_set]; omega)] at h; cases h
    · rw [List.getElem?_set_ne hj] at h ⊢
      exact ih.get j d h
/-- one turn's target, then the rest with the slots as the loop sees them -/
theorem turn_tg {g : Tg} {ρ1 : Env} {d : D} {x : V} {vs : List Nat} {P : St → Hp → Prop} (s : Sim c ι S H) (en : REnv c H ι ρ (L2.wipe σ vs)) (r : Rep c H ι d x) (e : setT g d ρ = some ρ1) (hs : ∀ j ∈ g.slots, j ∈ vs)
    (k : ∀ σ2, REnv c H ι ρ1 σ2 → P σ2 H) : mG c g x (L2.wipe σ vs) H fun σ2 H2 => L2.wipe σ2 vs = L2.wipe σ vs ∧ P σ2 H2 :=
  ⟨ι, S, ρ, d, ρ1, s, en, r, e, fun σ2 en2 of2 => ⟨wipe_off of2 hs, k σ2 en2⟩⟩
abbrev W0 : WX := fun _ _ _ _ => False
theorem tE_lc {W : WX} {wi : Env → M MIt} {g : Tg} {tt : Env → M Bool} {fe : ME} {vs : List Nat} {Q : VK} (hs : ∀ j ∈ g.slots, j ∈ vs) (h : tE c W (eLc wi g tt fe vs) σ H Q) : tLc (tI c W wi) (mG c g) (tT c W0 tt) (tE c W0 fe) vs σ H Q := by
  obtain ⟨ι, S, ρ, s, en, q⟩ := h
  refine ⟨ι, S, ρ, s, en, post_bnd q fun it S1 ι1 H1 J e1 st1 s1 r1 p1 => fun Dp hD => ?_⟩
  -- the new list is a handle
  obtain ⟨s2, st2⟩ := s1.new (m := .lst []) (o := .lst []) hD ⟨[], upd_same, .nil⟩
  have hh : (ι1 ++ [Dp])[S1.length]? = some Dp := s1.newRef Dp
  have en2 := ((en.step st1).step st2).wipe vs
  refine ⟨fun i m H => ∃ ι S, Sim c ι S H ∧ ι[S1.length]? = some Dp ∧ REnv c H ι (wipeM ρ vs) (L2.wipe σ vs) ∧ ItOk c H ι it J ∧ post (RD c) c W ι H σ Q (lcM g tt fe it S1.length (wipeM ρ vs) m i S), ⟨turns, _, _, s2, hh, en2, ItOk.step st2 r1, post_trans st2 p1⟩, ?_⟩
  rintro i m H3 ⟨ι3, S3, s3, hD3, en3, it3, q3⟩
  cases m with
  | zero => exact q3.elim
  | succ m =>
    unfold lcM at q3
    obtain ⟨kS, kG⟩ := it3 i ι3 S3 H3 .refl s3
    cases en' : nextI it i S3 with
    | stop =>
      rw [en'] at q3
      exact .inl ⟨kS en', q3 ι3 H3 _ .refl s3 (.ref hD3)⟩
    | bad => rw [en'] at q3; exact q3.elim
    | go d =>
      rw [en'] at q3
      dsimp only at q3
      obtain ⟨go, yl⟩ := kG d en'
      refine .inr ⟨go, fun H => ∃ ι S, Sim c ι S H ∧ ι[S1.length]? = some Dp ∧ REnv c H ι (wipeM ρ vs) (L2.wipe σ vs) ∧ ItOk c H ι it J ∧ post (RD c) c W ι H σ Q (lcM g tt fe it S1.length (wipeM ρ vs) m (i + 1) S), fun H' z => ⟨m, Nat.lt_succ_self m, z⟩, fun x H4 y => ?_⟩
      obtain ⟨st4, s4, r4⟩ := yl x H4 y
      split at q3
      · exact q3.elim
      · rename_i ρ1 eρ
        have q4 := post_trans st4 q3
        refine turn_tg s4 (en3.step st4) r4 eρ hs fun σ2 enb => ?_
        refine ⟨ι3, S3, ρ1, s4, enb, post_nox q4 fun b S5 ι5 H5 b' e5 st5 s5 r5 p5 => ?_⟩
        cases r5
        have stt := st4.trans st5
        have hD5 := stt.pre _ _ hD3
        cases b with
        | false =>
          simp only [Bool.false_eq_true, if_false] at p5 ⊢
          exact ⟨ι5, S5, s5, hD5, en3.step stt, it3.step stt, p5⟩
        | true =>
          simp only [if_true] at p5 ⊢
          refine ⟨ι5, S5, ρ1, s5, enb.step st5, post_nox p5 fun yv S6 ι6 H6 v e6 st6 s6 r6 p6 => ?_⟩
          split at p6
          · rename_i acc hacc
            split at p6
            · rename_i hl
              have hD6 := st6.pre _ _ hD5
              obtain ⟨us, g6, ru⟩ := s6.lst hacc hD6
              have st : Stp ι6 H6 ι6 (upd H6 Dp (.lst (us ++ [v]))) := Stp.set (noTup g6 fun _ z => by cases z)
              obtain ⟨s7, st7⟩ := s6.set (m' := .lst (acc ++ [yv])) (o := .lst (us ++ [v])) hacc hD6 rfl rfl ⟨_, upd_same, (ru.append (.cons r6 .nil)).step st⟩
              have all := (stt.trans st6).trans st7
              exact ⟨us, g6, by rw [ru.length]; exact Nat.lt_trans hl lim_lt, ι6, _, s7, hD6, en3.step all, it3.step all, post_trans st7 p6⟩
            · exact p6.elim
          · exact p6.elim
/-- .. the dict at some place of the other kind, if empty -/
def tTag (t : TE) : TE := fun σ H Q => t σ H fun z H5 => ∃ a H6, Tag H5 a H6 ∧ Q z H6
theorem PE.tag {X : Cx} {e : Expr} {t : TE} (h : PE X e t) : PE X e (tTag t) := ⟨fun pins s σ H Q I q => thn (h.run pins s σ H _ I q) fun v s1 ⟨x, H1, I1, r1, a, H6, tg, q6⟩ => ⟨x, H6, Inv.tag I1 tg, r1, q6⟩⟩
theorem tE_dc {W : WX} {wi : Env → M MIt} {g : Tg} {tt : Env → M Bool} {fk fv : ME} {vs : List Nat} {Q : VK} (hs : ∀ j ∈ g.slots, j ∈ vs) (h : tE c W (eDc wi g tt fk fv vs) σ H Q) : tDc (tI c W wi) (mG c g) (tT c W0 tt) (tE c W0 fk) (tTag (tE c W0 fv)) vs σ H Q := by
  obtain ⟨ι, S, ρ, s, en, q⟩ := h
  refine ⟨ι, S, ρ, s, en, post_bnd q fun it S1 ι1 H1 J e1 st1 s1 r1 p1 => fun Dp hD => ?_⟩
  obtain ⟨s2, st2⟩ := s1.new (m := .dK []) (o := .dK []) hD (.inl ⟨[], upd_same, .nil⟩)
  have hh : (ι1 ++ [Dp])[S1.length]? = some Dp := s1.newRef Dp
  have en2 := ((en.step st1).step st2).wipe vs
  refine ⟨fun i m H => ∃ ι S, Sim c ι S H ∧ ι[S1.length]? = some Dp ∧ REnv c H ι (wipeM ρ vs) (L2.wipe σ vs) ∧ ItOk c H ι it J ∧ post (RD c) c W ι H σ Q (dcM g tt fk fv it S1.length (wipeM ρ vs) m i S), ⟨turns, _, _, s2, hh, en2, ItOk.step st2 r1, post_trans st2 p1⟩, ?_⟩
  rintro i m H3 ⟨ι3, S3, s3, hD3, en3, it3, q3⟩
  cases m with
  | zero => exact q3.elim
  | succ m =>
    unfold dcM at q3
    obtain ⟨kS, kG⟩ := it3 i ι3 S3 H3 .refl s3
    cases en' : nextI it i S3 with
    | stop =>
      rw [en'] at q3
      exact .inl ⟨kS en', q3 ι3 H3 _ .refl s3 (.ref hD3)⟩
    | bad => rw [en'] at q3; exact q3.elim
    | go d =>
      rw [en'] at q3
      dsimp only at q3
      obtain ⟨go, yl⟩ := kG d en'
      refine .inr ⟨go, fun H => ∃ ι S, Sim c ι S H ∧ ι[S1.length]? = some Dp ∧ REnv c H ι (wipeM ρ vs) (L2.wipe σ vs) ∧ ItOk c H ι it J ∧ post (RD c) c W ι H σ Q (dcM g tt fk fv it S1.length (wipeM ρ vs) m (i + 1) S), fun H' z => ⟨m, Nat.lt_succ_self m, z⟩, fun x H4 y => ?_⟩
      obtain ⟨st4, s4, r4⟩ := yl x H4 y
      split at q3
      · exact q3.elim
      · rename_i ρ1 eρ
        have q4 := post_trans st4 q3
        refine turn_tg s4 (en3.step st4) r4 eρ hs fun σ2 enb => ?_
        refine ⟨ι3, S3, ρ1, s4, enb, post_nox q4 fun b S5 ι5 H5 b' e5 st5 s5 r5 p5 => ?_⟩
        cases r5
        have stt := st4.trans st5
        have hD5 := stt.pre _ _ hD3
        cases b with
        | false =>
          simp only [Bool.false_eq_true, if_false] at p5 ⊢
          exact ⟨ι5, S5, s5, hD5, en3.step stt, it3.step stt, p5⟩
        | true =>
          simp only [if_true] at p5 ⊢
          refine ⟨ι5, S5, ρ1, s5, enb.step st5, post_nox p5 fun kd S6 ι6 H6 kv e6 st6 s6 r6 p6 => ?_⟩
          refine ⟨ι6, S6, ρ1, s6, (enb.step st5).step st6, post_nox p6 fun zd S7 ι7 H7 zv e7 st7 s7 r7 p7 => ?_⟩
          split at p7
          · rename_i kvs k hkv hk
            split at p7
            · rename_i hl
              have hD7 := st7.pre _ _ (st6.pre _ _ hD5)
              have ek := keyOf_rep r6 hk
              obtain ⟨us, H8, tg, g8, r8, s8, st8⟩ : ∃ us H8, Tag H7 Dp H8 ∧ H8 Dp = some (.dK us) ∧ RepKV c H8 ι7 kvs us ∧ Sim c ι7 S7 H8 ∧ Stp ι7 H7 ι7 H8 := by
                rcases s7.obj _ _ Dp hkv hD7 with ⟨us, g, rs⟩ | ⟨rfl, g⟩
                · exact ⟨us, H7, .inl rfl, g, rs, s7, .refl⟩
                · have z := s7.set (m' := .dK []) (o := .dK []) hkv hD7 rfl rfl (.inl ⟨[], upd_same, .nil⟩)
                  rw [set_self hkv] at z
                  exact ⟨[], _, .inr (.inr ⟨g, rfl⟩), upd_same, .nil, z.1, z.2⟩
              have st : Stp ι7 H8 ι7 (upd H8 Dp (.dK (putK us k zv))) := Stp.set (noTup g8 fun _ z => by cases z)
              obtain ⟨s9, st9⟩ := s8.set (m' := .dK (putM kvs k zd)) (o := .dK (putK us k zv)) hkv hD7 rfl rfl (.inl ⟨_, upd_same, ((r8.put k (r7.step st8))).step st⟩)
              have all := (((stt.trans st6).trans st7).trans st8).trans st9
              exact ⟨Dp, H8, tg, us, k, ek, g8, by rw [r8.length]; exact Nat.lt_trans hl lim_lt, ι7, _, s9, hD7, en3.step all, it3.step all, post_trans (st8.trans st9) p7⟩
            · exact p7.elim
          · exact p7.elim
end
section
variable {X : Cx} {W : WX} {wi : Env → M MIt} {g : Tg} {tt : Env → M Bool} {fe fk fv : ME} {elt kx vx tg iter : Expr} {ifs : List Expr} {scope : Scope} {own : List (Str × Nat)} {pos : Pos}
theorem PTs.imp {X : Cx} {e : List Expr} {t t' : TT} (h : PTs X e t) (f : ∀ σ H Q, t' σ H Q → t σ H Q) : PTs X e t' := ⟨fun pins s σ H Q I q => h.run pins s σ H Q I (f σ H Q q)⟩
theorem sts_nil : PTs X [] (tT (cf X) W ttYes) := PTs.imp pts_nil fun σ H Q ⟨ι, S, ρ, s, en, q⟩ => q ι H true .refl s rfl
theorem sts_one {t : Env → M Bool} {e : Expr} (h : PT X e (tT (cf X) W t)) : PTs X [e] (tT (cf X) W t) := pts_one h
/-- the context of a block of X -/
abbrev Blk (X : Cx) (scope : Scope) (P : Cx → Prop) : Prop := ∀ (s : Shared) (H : Hp) (C : Addr) (cl : List (Str × Addr)) (fp : List Addr), P (X.blk s H scope (compEnvC scope cl C X.env) fp)
theorem se_lc (hc : X.calm = true) (hN : X.N.Nodup) (hi : PI X tg iter (tI (cf X) W wi)) (ok : BlkOk X.N X.env.scope scope own) (hsl : ∀ j ∈ g.slots, j ∈ own.map (·.2))
    (hg : Blk X scope fun Y => PG Y tg (mG (cf X) g)) (ht : Blk X scope fun Y => PTs Y ifs (tT (cf X) W0 tt)) (he : Blk X scope fun Y => PE Y elt (tE (cf X) W0 fe)) (hs : ∀ x, foldedSetIterable iter X.env x = pure x := by intro _; rfl) :
    PE X (.ListComp elt [⟨tg, iter, ifs, 0⟩] scope pos) (tE (cf X) W (eLc wi g tt fe (own.map (·.2)))) := PE.imp (pe_lc hc hN hi ok hg ht he hs) fun _ _ _ h => tE_lc hsl h
theorem se_dc (hc : X.calm = true) (hN : X.N.Nodup) (hi : PI X tg iter (tI (cf X) W wi)) (ok : BlkOk X.N X.env.scope scope own) (hsl : ∀ j ∈ g.slots, j ∈ own.map (·.2))
    (hg : Blk X scope fun Y => PG Y tg (mG (cf X) g)) (ht : Blk X scope fun Y => PTs Y ifs (tT (cf X) W0 tt)) (hk : Blk X scope fun Y => PE Y kx (tE (cf X) W0 fk)) (he : Blk X scope fun Y => PE Y vx (tE (cf X) W0 fv)) (hs : ∀ x, foldedSetIterable iter X.env x = pure x := by intro _; rfl) :
    PE X (.DictComp kx vx [⟨tg, iter, ifs, 0⟩] scope pos) (tE (cf X) W (eDc wi g tt fk fv (own.map (·.2)))) := PE.imp (pe_dc hc hN hi ok hg ht hk (fun s H C cl fp => PE.tag (he s H C cl fp)) hs) fun _ _ _ h => tE_dc hsl h
end
end Mini

/-! MINI, part M: statements. -/
namespace Mini
open PySem L2
inductive SO where
  | nx (ρ : Env) (S : Store) | ret (d : D) (S : Store) | brk (ρ : Env) (S : Store) | ct (ρ : Env) (S : Store)
  | exc (c : Str) (fs : List (Str × D)) (ρ : Env) (S : Store) | bad
abbrev MS := Env → Store → SO
/-- an expression ahead of the rest -/
def ev {α : Type} (x : M α) (ρ : Env) (k : α → Store → SO) : Store → SO := fun S => match x S with
  | .ok a S1 => k a S1
  | .exc n fs S1 => .exc n fs ρ S1
  | .bad => .bad
def sNil : MS := fun ρ S => .nx ρ S
def sSeq (f g : MS) : MS := fun ρ S => match f ρ S with
  | .nx ρ1 S1 => g ρ1 S1
  | o => o
def sBrk : MS := fun ρ S => .brk ρ S
def sCt : MS := fun ρ S => .ct ρ S
def sExpr (f : ME) : MS := fun ρ => ev (f ρ) ρ fun _ S => .nx ρ S
def sRet (f : ME) : MS := fun ρ => ev (f ρ) ρ fun d S => .ret d S
def sRetN : MS := fun _ S => .ret .non S
def sIf (t : Env → M Bool) (f g : MS) : MS := fun ρ => ev (t ρ) ρ fun b S => if b = true then f ρ S else g ρ S
def sSet (t : Tg) (f : ME) : MS := fun ρ => ev (f ρ) ρ fun d S => match setT t d ρ with
  | some ρ1 => .nx ρ1 S
  | none => .bad
def sPar (i j : Nat) (f : Env → M (List D)) : MS := fun ρ => ev (f ρ) ρ fun ds S => match ds with
  | [a, b] => .nx ((ρ.set i (some a)).set j (some b)) S
  | _ => .bad
/-- o[i] = e: e is found first -/
def sPut (fe fo fi : ME) : MS := fun ρ => ev (fe ρ) ρ fun d => ev (fo ρ) ρ fun o => ev (fi ρ) ρ fun i S => match pSet o i d S with
  | some S1 => .nx ρ S1
  | none => .bad
/-- x += e, ints -/
def augK (i : Nat) (g : Int → Int → Int) (ρ : Env) (a b : D) (S : Store) : SO := match a, b with
  | .int p, .int q => .nx (ρ.set i (some (.int (g p q)))) S
  | _, _ => .bad
def sAug (i : Nat) (g : Int → Int → Int) (fe : ME) : MS := fun ρ => ev (eVar i ρ) ρ fun a => ev (fe ρ) ρ fun b S => augK i g ρ a b S
def forM (g : Tg) (b : MS) (it : MIt) : Nat → Nat → MS
  | 0, _ => fun _ _ => .bad
  | n + 1, i => fun ρ S => match nextI it i S with
    | .stop => .nx ρ S
    | .bad => .bad
    | .go d => match setT g d ρ with
      | none => .bad
      | some ρ1 => match b ρ1 S with
        | .nx ρ2 S2 => forM g b it n (i + 1) ρ2 S2
        | .ct ρ2 S2 => forM g b it n (i + 1) ρ2 S2
        | .brk ρ2 S2 => .nx ρ2 S2
        | .ret d S2 => .ret d S2
        | .exc c fs ρ2 S2 => .exc c fs ρ2 S2
        | .bad => .bad
def sFor (wi : Env → M MIt) (g : Tg) (b : MS) : MS := fun ρ => ev (wi ρ) ρ fun it S => forM g b it turns 0 ρ S
def whM (t : Env → M Bool) (b : MS) : Nat → MS
  | 0 => fun _ _ => .bad
  | n + 1 => fun ρ => ev (t ρ) ρ fun k S => if k = true then (match b ρ S with
        | .nx ρ2 S2 => whM t b n ρ2 S2
        | .ct ρ2 S2 => whM t b n ρ2 S2
        | .brk ρ2 S2 => .nx ρ2 S2
        | .ret d S2 => .ret d S2
        | .exc c fs ρ2 S2 => .exc c fs ρ2 S2
        | .bad => .bad) else .nx ρ S
def sWh (t : Env → M Bool) (b : MS) : MS := whM t b turns
/-- raise c(..) without fields of its own -/
def sRaise0 (c : Str) : MS := fun ρ S => .exc c [] ρ S
def postS (c : Cf) (W : WX) (ι : List Addr) (H : Hp) (E : Ends) : SO → Prop
  | .nx ρ S => ∀ ι' H' σ', Stp ι H ι' H' → Sim c ι' S H' → REnv c H' ι' ρ σ' → E.nx σ' H'
  | .ret d S => ∀ ι' H' v, Stp ι H ι' H' → Sim c ι' S H' → Rep c H' ι' d v → E.rt v H'
  | .brk ρ S => ∀ ι' H' σ', Stp ι H ι' H' → Sim c ι' S H' → REnv c H' ι' ρ σ' → E.bk σ' H'
  | .ct ρ S => ∀ ι' H' σ', Stp ι H ι' H' → Sim c ι' S H' → REnv c H' ι' ρ σ' → E.ct σ' H'
  | .exc n fs ρ S => ∀ ι' H' σ' cls dd, Stp ι H ι' H' → Sim c ι' S H' → REnv c H' ι' ρ σ' → RExc c H' ι' n fs cls dd → W cls dd σ' H'
  | .bad => False
def tS (c : Cf) (W : WX) (f : MS) : TS := fun E σ H => ∃ ι S ρ, Sim c ι S H ∧ REnv c H ι ρ σ ∧ postS c W ι H E (f ρ S)
section
variable {c : Cf} {W : WX} {ι ι1 : List Addr} {H H1 : Hp} {E : Ends} {σ : St}
theorem postS_trans {o : SO} (p : Stp ι H ι1 H1) (h : postS c W ι H E o) : postS c W ι1 H1 E o := by
  cases o with
  | nx ρ S => exact fun ι' H' b q => h ι' H' b (p.trans q)
  | ret ρ S => exact fun ι' H' b q => h ι' H' b (p.trans q)
  | brk ρ S => exact fun ι' H' b q => h ι' H' b (p.trans q)
  | ct ρ S => exact fun ι' H' b q => h ι' H' b (p.trans q)
  | exc n fs ρ S => exact fun ι' H' b cls dd q => h ι' H' b cls dd (p.trans q)
  | bad => exact h
theorem post_ev {α β : Type} {R : Hp → List Addr → α → β → Prop} {Q1 : β → Hp → Prop} {x : M α} {ρ : Env} {k : α → Store → SO} {S : Store} (en : REnv c H ι ρ σ)
    (h : postS c W ι H E (ev x ρ k S)) (f : ∀ a S1 ι' H' b, x S = .ok a S1 → Stp ι H ι' H' → Sim c ι' S1 H' → R H' ι' a b → postS c W ι' H' E (k a S1) → Q1 b H') : post R c W ι H σ Q1 (x S) := by
  unfold ev at h
  cases e : x S with
  | ok a S1 =>
    rw [e] at h
    exact fun ι' H' b p s r => f a S1 ι' H' b e p s r (postS_trans p h)
  | exc n fs S1 =>
    rw [e] at h
    exact fun ι' H' cls dd p s r => h ι' H' σ cls dd p s (en.step p) r
  | bad =>
    rw [e] at h
    exact h
end
section
variable {X : Cx} {W : WX} {f g : MS} {fe fo fi : ME} {t : Env → M Bool} {e o i a b : Expr} {st : Stmt} {sts p q : List Stmt} {pos : Pos}
theorem ss_nil : PSs X [] (tS (cf X) W sNil) := PSs.imp pss_nil fun E σ H ⟨ι, S, ρ, s, en, k⟩ => k ι H σ .refl s en
theorem tS_seq {E : Ends} {σ : St} {H : Hp} (h : tS (cf X) W (sSeq f g) E σ H) : tSeq (tS (cf X) W f) (tS (cf X) W g) E σ H := by
  obtain ⟨ι, S, ρ, s, en, k⟩ := h
  refine ⟨ι, S, ρ, s, en, ?_⟩
  unfold sSeq at k
  cases e : f ρ S with
  | nx ρ1 S1 =>
    rw [e] at k
    exact fun ι' H' σ' p s' en' => ⟨ι', S1, ρ1, s', en', postS_trans p k⟩
  | _ => rw [e] at k; exact k
theorem ss_cons (h1 : PS X st (tS (cf X) W f)) (h2 : PSs X sts (tS (cf X) W g)) : PSs X (st :: sts) (tS (cf X) W (sSeq f g)) := PSs.imp (pss_cons h1 h2) fun _ _ _ h => tS_seq h
theorem ss_one (h1 : PS X st (tS (cf X) W f)) : PSs X [st] (tS (cf X) W f) := pss_one h1
theorem ss_brk : PS X (.Break pos) (tS (cf X) W sBrk) := PS.imp ps_break fun E σ H ⟨ι, S, ρ, s, en, k⟩ => k ι H σ .refl s en
theorem ss_ct : PS X (.Continue pos) (tS (cf X) W sCt) := PS.imp ps_continue fun E σ H ⟨ι, S, ρ, s, en, k⟩ => k ι H σ .refl s en
theorem ss_pass : PS X (.Pass pos) (tS (cf X) W sNil) := PS.imp ps_pass fun E σ H ⟨ι, S, ρ, s, en, k⟩ => k ι H σ .refl s en
theorem ss_expr (he : PE X e (tE (cf X) W fe)) (hs : swapsWith e none pos.line X.env = pure false := by rfl) : PS X (.Expr e pos) (tS (cf X) W (sExpr fe)) :=
  PS.imp (ps_expr he hs) fun E σ H ⟨ι, S, ρ, s, en, k⟩ => ⟨ι, S, ρ, s, en, post_ev en k fun d S1 ι1 H1 v e1 st1 s1 r1 k1 => k1 ι1 H1 σ .refl s1 (en.step st1)⟩
theorem ss_ret (he : PE X e (tE (cf X) W fe)) : PS X (.Return (some e) pos) (tS (cf X) W (sRet fe)) :=
  PS.imp (ps_ret he) fun E σ H ⟨ι, S, ρ, s, en, k⟩ => ⟨ι, S, ρ, s, en, post_ev en k fun d S1 ι1 H1 v e1 st1 s1 r1 k1 => k1 ι1 H1 v .refl s1 r1⟩
theorem ss_retN : PS X (.Return none pos) (tS (cf X) W sRetN) := PS.imp ps_retN fun E σ H ⟨ι, S, ρ, s, en, k⟩ => k ι H .non .refl s .non
theorem ss_if (hc : PT X e (tT (cf X) W t)) (ha : PSs X p (tS (cf X) W f)) (hb : PSs X q (tS (cf X) W g)) : PS X (.If e p q pos) (tS (cf X) W (sIf t f g)) := by
  refine PS.imp (ps_if hc ha hb) ?_
  rintro E σ H ⟨ι, S, ρ, s, en, k⟩
  refine ⟨ι, S, ρ, s, en, post_ev en k fun d S1 ι1 H1 v e1 st1 s1 r1 k1 => ?_⟩
  cases r1
  cases d with
  | true => exact ⟨ι1, S1, ρ, s1, en.step st1, k1⟩
  | false => exact ⟨ι1, S1, ρ, s1, en.step st1, k1⟩
theorem tS_set {tg : Tg} {E : Ends} {σ : St} {H : Hp} (h : tS (cf X) W (sSet tg fe) E σ H) : tAsg (tE (cf X) W fe) (mG (cf X) tg) E σ H := by
  obtain ⟨ι, S, ρ, s, en, k⟩ := h
  refine ⟨ι, S, ρ, s, en, post_ev en k fun d S1 ι1 H1 v e1 st1 s1 r1 k1 => ?_⟩
  split at k1
  · rename_i ρ1 e2
    exact ⟨ι1, S1, ρ, d, ρ1, s1, en.step st1, r1, e2, fun σ2 en2 _ => k1 ι1 H1 σ2 .refl s1 en2⟩
  · exact k1.elim
theorem ss_asg {tx : Expr} {tg : Tg} (he : PE X e (tE (cf X) W fe)) (hg : PG X tx (mG (cf X) tg)) (hs : swapsWithSole [tx] e pos.line X.env = pure false := by rfl) (hw : swappedStores [tx] e X.env = pure none := by rfl)
    (h1 : (assignEach [tx] X.env).map (·.2) = [assign tx X.env] := by rfl) : PS X (.Assign [tx] e pos) (tS (cf X) W (sSet tg fe)) := PS.imp (ps_asg he hg hs hw h1) fun _ _ _ h => tS_set h
theorem tAsg_nm {j : Nat} {te : TE} {E : Ends} {σ : St} {H : Hp} (h : tAsg te (mG (cf X) (.nm j)) E σ H) (mono : ∀ {Q Q' : VK}, (∀ v H, Q v H → Q' v H) → te σ H Q → te σ H Q') : tAsg te (gName j) E σ H := by
  refine mono (fun v H1 q => ?_) h
  obtain ⟨ι, S, ρ, d, ρ1, s, en, r, e, k⟩ := q
  simp only [setT] at e
  cases e
  refine k _ (en.set r j) ⟨List.length_set .., fun x hx => ?_⟩
  rw [List.getElem?_set_ne (fun z => hx (by simp [Tg.slots, z]))]
theorem ss_set {j : Nat} {x : Str} {pos' : Pos} (hN : X.N.Nodup) (hi : X.N[j]? = some x) (hx : Loc X.env.scope x) (he : PE X e (tE (cf X) W fe)) (hs : swapsWith e (some (.Name x pos')) pos.line X.env = pure false := by rfl) (hf : X.fn x = true ∨ X.env.scope.names.lookup x = some .local := by first | exact .inl rfl | exact .inr rfl | assumption) :
    PS X (.Assign [.Name x pos'] e pos) (tS (cf X) W (sSet (.nm j) fe)) := by
  refine PS.imp (ps_set hN hi hx he hs hf) fun E σ H h => ?_
  obtain ⟨ι, S, ρ, s, en, k⟩ := h
  refine ⟨ι, S, ρ, s, en, post_ev en k fun d S1 ι1 H1 v e1 st1 s1 r1 k1 => ?_⟩
  exact k1 ι1 H1 _ .refl s1 ((en.step st1).set r1 j)
/-- x = [.. for ..] on one line -/
theorem ss_setLc {j : Nat} {y : Str} {py : Pos} {wi : Env → M MIt} {g : Tg} {tt : Env → M Bool} {fe : ME} {elt tg iter : Expr} {ifs : List Expr} {scope : Scope} {own : List (Str × Nat)} {lpos : Pos}
    (hc : X.calm = true) (hN : X.N.Nodup) (hy : X.N[j]? = some y) (hyl : X.env.scope.names.lookup y = some .local) (hsw : swapsWith (.ListComp elt [⟨tg, iter, ifs, 0⟩] scope lpos) (some (.Name y py)) pos.line X.env = pure true)
    (hi : PI X tg iter (tI (cf X) W wi)) (ok : BlkOk X.N X.env.scope scope own) (hsl : ∀ j ∈ g.slots, j ∈ own.map (·.2))
    (hg : Blk X scope fun Y => PG Y tg (mG (cf X) g)) (ht : Blk X scope fun Y => PTs Y ifs (tT (cf X) W0 tt)) (he : Blk X scope fun Y => PE Y elt (tE (cf X) W0 fe)) (hs : ∀ x, foldedSetIterable iter X.env x = pure x := by intro _; rfl) :
    PS X (.Assign [.Name y py] (.ListComp elt [⟨tg, iter, ifs, 0⟩] scope lpos) pos) (tS (cf X) W (sSet (.nm j) (eLc wi g tt fe (own.map (·.2))))) := by
  refine PS.imp (ps_setLc hc hN hy hyl hsw hi ok hg ht he hs) fun E σ H h => ?_
  obtain ⟨ι, S, ρ, s, en, k⟩ := h
  refine tE_lc (c := cf X) (W := W) hsl ⟨ι, S, ρ, s, en, post_ev en k fun d S1 ι1 H1 v e1 st1 s1 r1 k1 => ?_⟩
  exact k1 ι1 H1 _ .refl s1 ((en.step st1).set r1 j)
theorem ss_par {i j : Nat} {x y : Str} {fs : Env → M (List D)} {px py pt : Pos} {kt k2 : Nat} {pt2 : Pos} (hc : X.calm = true) (hN : X.N.Nodup) (hi : X.N[i]? = some x) (hj : X.N[j]? = some y) (hij : i ≠ j)
    (hx : X.env.scope.names.lookup x = some .local) (hy : X.env.scope.names.lookup y = some .local) (ha : PA X [a, b] (tA (cf X) W fs))
    (hw : swappedStores [.Tuple [.Name x px, .Name y py] kt pt] (.Tuple [a, b] k2 pt2) X.env = pure (some [x, y]))
    (hs : swapsWithSole [.Tuple [.Name x px, .Name y py] kt pt] (.Tuple [a, b] k2 pt2) pos.line X.env = pure false := by rfl) :
    PS X (.Assign [.Tuple [.Name x px, .Name y py] kt pt] (.Tuple [a, b] k2 pt2) pos) (tS (cf X) W (sPar i j fs)) := by
  refine PS.imp (ps_par hc hN hi hj hij hx hy ha hw hs) ?_
  rintro E σ H ⟨ι, S, ρ, s, en, k⟩
  refine ⟨ι, S, ρ, s, en, post_ev en k fun ds S1 ι1 H1 vs e1 st1 s1 r1 k1 => ?_⟩
  split at k1
  · obtain ⟨v, u, rfl, r, r'⟩ := reps2 r1
    exact ⟨v, u, rfl, k1 ι1 H1 _ .refl s1 (((en.step st1).set r i).set r' j)⟩
  · exact k1.elim
theorem ss_put {tpos : Pos} (hu : X.A.units + 1 < cLine) (he : PE X e (tE (cf X) W fe)) (ho : PE X o (tE (cf X) W fo)) (hi : PE X i (tE (cf X) W fi))
    (ha : ∀ v, assign (.Subscript o i tpos) X.env v = (do
      let ov ← holding [v] (eval o X.env)
      let iv ← holding [v, ov] (eval i X.env)
      standAt tpos
      holding [v, ov, iv] (setItem ov iv v)
      release [v, ov, iv] []) := by intro _; rfl)
    (hs : swapsWithSole [.Subscript o i tpos] e pos.line X.env = pure false := by rfl) (hw : swappedStores [.Subscript o i tpos] e X.env = pure none := by rfl)
    (h1 : (assignEach [.Subscript o i tpos] X.env).map (·.2) = [assign (.Subscript o i tpos) X.env] := by rfl) : PS X (.Assign [.Subscript o i tpos] e pos) (tS (cf X) W (sPut fe fo fi)) := by
  refine PS.imp (ps_asg he (pg_sub ho hi (set_pSet hu) ha) hs hw h1) ?_
  rintro E σ H ⟨ι, S, ρ, s, en, k⟩
  refine ⟨ι, S, ρ, s, en, post_ev en k fun d S1 ι1 H1 v e1 st1 s1 r1 k1 => ?_⟩
  refine ⟨ι1, S1, ρ, s1, en.step st1, post_ev (en.step st1) k1 fun o S2 ι2 H2 ov e2 st2 s2 r2 k2 => ?_⟩
  have en2 := (en.step st1).step st2
  refine ⟨ι2, S2, ρ, s2, en2, post_ev en2 k2 fun i S3 ι3 H3 iv e3 st3 s3 r3 k3 => ?_⟩
  split at k3
  · rename_i S4 e4
    exact ⟨ι3, S3, o, i, d, S4, s3, r2.step st3, r3, r1.step (st2.trans st3), e4, fun ι' H' p' s' => k3 ι' H' σ p' s' ((en2.step st3).step p')⟩
  · exact k3.elim
theorem ss_aug {i : Nat} {x : Str} {op : Operator} {g : Int → Int → Int} {pos' : Pos} (hN : X.N.Nodup) (hi : X.N[i]? = some x) (hx : Loc X.env.scope x) (he : PE X e (tE (cf X) W fe)) (ho : PIp X op (ipI g)) (hf : X.fn x = true ∨ X.env.scope.names.lookup x = some .local := by first | exact .inl rfl | exact .inr rfl | assumption) :
    PS X (.AugAssign (.Name x pos') op e pos) (tS (cf X) W (sAug i g fe)) := by
  refine PS.imp (ps_aug hN hi hx he ho hf) ?_
  rintro E σ H ⟨ι, S, ρ, s, en, k⟩
  unfold sAug ev eVar at k
  cases hr : ρ[i]? with
  | none => rw [hr] at k; exact k.elim
  | some od =>
    cases od with
    | none => rw [hr] at k; exact k.elim
    | some d =>
      rw [hr] at k
      dsimp only at k
      obtain ⟨v, h1, h2⟩ := en.get i d hr
      refine ⟨v, h1, ι, S, ρ, s, en, post_ev (x := fe ρ) (k := augK i g ρ d) en k fun d2 S1 ι1 H1 v2 e1 st1 s1 r1 k1 => ?_⟩
      unfold augK at k1
      split at k1
      · cases h2; cases r1
        exact ⟨_, _, rfl, rfl, k1 ι1 H1 _ .refl s1 ((en.step st1).set (.int _) i)⟩
      · exact k1.elim
theorem ss_for {tg iter : Expr} {g : Tg} {wi : Env → M MIt} (hp : PassesOwn (model X.prog X.w) X.A X.env X.xe) (hc : X.calm = true) (hi : PI X tg iter (tI (cf X) W wi)) (hg : PG X tg (mG (cf X) g)) (hb : PSs X sts (tS (cf X) W f))
    (hs : ∀ x, foldedSetIterable iter X.env x = pure x := by intro _; rfl) : PS X (.For tg iter sts [] pos) (tS (cf X) W (sFor wi g f)) := by
  refine PS.imp (ps_for hp hc hi hg hb hs) ?_
  rintro E σ H ⟨ι, S, ρ, s, en, k⟩
  refine ⟨ι, S, ρ, s, en, post_ev en k fun it S1 ι1 H1 J e1 st1 s1 r1 k1 => ?_⟩
  refine ⟨fun i m σ H => ∃ ι S ρ, Sim (cf X) ι S H ∧ REnv (cf X) H ι ρ σ ∧ ItOk (cf X) H ι it J ∧ postS (cf X) W ι H E (forM g f it m i ρ S), ⟨turns, ι1, S1, ρ, s1, en.step st1, r1, k1⟩, ?_⟩
  rintro i m σ3 H3 ⟨ι3, S3, ρ3, s3, en3, it3, k3⟩
  cases m with
  | zero => exact k3.elim
  | succ m =>
    unfold forM at k3
    obtain ⟨kS, kG⟩ := it3 i ι3 S3 H3 .refl s3
    cases en' : nextI it i S3 with
    | stop =>
      rw [en'] at k3
      exact .inl ⟨kS en', k3 ι3 H3 σ3 .refl s3 en3⟩
    | bad => rw [en'] at k3; exact k3.elim
    | go d =>
      rw [en'] at k3
      dsimp only at k3
      obtain ⟨go, yl⟩ := kG d en'
      refine .inr ⟨go, fun σ H => ∃ ι S ρ, Sim (cf X) ι S H ∧ REnv (cf X) H ι ρ σ ∧ ItOk (cf X) H ι it J ∧ postS (cf X) W ι H E (forM g f it m (i + 1) ρ S), fun σ' H' z => ⟨m, Nat.lt_succ_self m, z⟩, fun x H4 y => ?_⟩
      obtain ⟨st4, s4, r4⟩ := yl x H4 y
      split at k3
      · exact k3.elim
      · rename_i ρ1 eρ
        refine ⟨ι3, S3, ρ3, d, ρ1, s4, en3.step st4, r4, eρ, fun σ5 en5 _ => ?_⟩
        refine ⟨ι3, S3, ρ1, s4, en5, ?_⟩
        have k4 := postS_trans st4 k3
        clear k3
        cases eb : f ρ1 S3 with
        | nx ρ2 S2 => rw [eb] at k4; exact fun ι' H' σ' p' s' en' => ⟨ι', S2, ρ2, s', en', it3.step (st4.trans p'), postS_trans p' k4⟩
        | ct ρ2 S2 => rw [eb] at k4; exact fun ι' H' σ' p' s' en' => ⟨ι', S2, ρ2, s', en', it3.step (st4.trans p'), postS_trans p' k4⟩
        | brk ρ2 S2 => rw [eb] at k4; exact k4
        | ret d S2 => rw [eb] at k4; exact k4
        | exc n fs ρ2 S2 => rw [eb] at k4; exact k4
        | bad => rw [eb] at k4; exact k4
theorem ss_wh (hp : PassesOwn (model X.prog X.w) X.A X.env X.xe) (hc : PT X e (tT (cf X) W t)) (hb : PSs X sts (tS (cf X) W f)) : PS X (.While e sts [] pos) (tS (cf X) W (sWh t f)) := by
  refine PS.imp (ps_while hp hc hb) ?_
  rintro E σ H ⟨ι, S, ρ, s, en, k⟩
  refine ⟨fun m σ H => ∃ ι S ρ, Sim (cf X) ι S H ∧ REnv (cf X) H ι ρ σ ∧ postS (cf X) W ι H E (whM t f m ρ S), ⟨turns, ι, S, ρ, s, en, k⟩, ?_⟩
  rintro m σ3 H3 ⟨ι3, S3, ρ3, s3, en3, k3⟩
  cases m with
  | zero => exact k3.elim
  | succ m =>
    unfold whM at k3
    refine ⟨ι3, S3, ρ3, s3, en3, post_ev en3 k3 fun b S4 ι4 H4 b' e4 st4 s4 r4 k4 => ?_⟩
    cases r4
    cases b with
    | false => exact k4 ι4 H4 σ3 .refl s4 (en3.step st4)
    | true =>
      simp only [if_true] at k4 ⊢
      refine ⟨fun σ H => ∃ ι S ρ, Sim (cf X) ι S H ∧ REnv (cf X) H ι ρ σ ∧ postS (cf X) W ι H E (whM t f m ρ S), fun σ' H' z => ⟨m, Nat.lt_succ_self m, z⟩, ι4, S4, ρ3, s4, en3.step st4, ?_⟩
      cases eb : f ρ3 S4 with
      | nx ρ2 S2 => rw [eb] at k4; exact fun ι' H' σ' p' s' en' => ⟨ι', S2, ρ2, s', en', postS_trans p' k4⟩
      | ct ρ2 S2 => rw [eb] at k4; exact fun ι' H' σ' p' s' en' => ⟨ι', S2, ρ2, s', en', postS_trans p' k4⟩
      | brk ρ2 S2 => rw [eb] at k4; exact k4
      | ret d S2 => rw [eb] at k4; exact k4
      | exc n fs ρ2 S2 => rw [eb] at k4; exact k4
      | bad => rw [eb] at k4; exact k4
theorem ss_raise0 {n : Str} {C : Addr} (hc : X.calm = true) (tk : Takes X W) (hm : X.mg n = some (.ref C)) (he : PMk X e (fun _ H Q => Q (.ref C) none H)) : PS X (.Raise (some e) none pos) (tS (cf X) W (sRaise0 n)) :=
  PS.imp (ps_raise hc tk he) fun E σ H ⟨ι, S, ρ, s, en, k⟩ => k ι H σ _ none .refl s en ⟨C, rfl, hm, rfl⟩
end
end Mini

/-! MINI, part N: defs. -/
namespace Mini
open PySem L2
/-- N slots, n parameters -/
@[irreducible] def runF (N n : Nat) (b : MS) : List D → M D := fun ds S => if ds.length = n then (match b (ds.map some ++ List.replicate (N - n) none) S with
    | .nx _ S1 => .ok .non S1
    | .ret d S1 => .ok d S1
    | .exc c fs _ S1 => .exc c fs S1
    | _ => .bad) else .bad
theorem runF_bad {N n : Nat} {b : MS} {ds : List D} {S : Store} (h : ds.length ≠ n) : runF N n b ds S = .bad := by
  unfold runF
  rw [if_neg h]
def badF : List D → M D := fun _ _ => .bad
section
variable {P : Program} {w : World} {K : PySem.W.Frag} {mg : Str → Option Value} {base : Heap}
theorem fn_bad {f : Addr} {fd : FuncData} {ps : List Str} {n k : Nat} (hn : ps.length = n) : FnOk P w K mg base (L2.CX P w) k f fd ps (spM ⟨K, mg⟩ n badF) :=
  ⟨fun vs H Q E h => h.1.trans hn.symm, fun A outer s H args us vs Q E _ _ _ _ ⟨_, ι, S, ds, _, _, q⟩ => q.elim⟩
theorem reps_slots {c : Cf} {H : Hp} {ι : List Addr} {m : Nat} : ∀ {ds : List D} {vs : List V}, Reps c H ι ds vs → ∀ (i : Nat) (d : D), (ds.map some ++ List.replicate m none)[i]? = some (some d) → ∃ v, (vs.map some ++ List.replicate m none)[i]? = some (some v) ∧ Rep c H ι d v
  | _, _, .nil, i, d, e => by
    simp only [List.map_nil, List.nil_append] at e
    have := (List.getElem?_eq_some_iff.mp e)
    obtain ⟨h1, h2⟩ := this
    rw [List.getElem_replicate] at h2
    cases h2
  | _, _, .cons a b, 0, d, e => by
    simp at e; subst e
    exact ⟨_, rfl, a⟩
  | _, _, .cons a b, i + 1, d, e => by
    simp only [List.map_cons, List.cons_append, List.getElem?_cons_succ] at e ⊢
    exact reps_slots b i d e
theorem fn_ok {x qual : Str} {st : Stmt} {f : Addr} {fd : FuncData} {N ps : List Str} {k m n : Nat} {b : MS} (F : Fun K x qual st f fd) (S : FnScope N ps (defScope st)) (hN : N.length = m) (hn : ps.length = n)
    (hb : ∀ (cdv : Value) (A : Around) (outer : List PySem.Env) (s : Shared) (H : Hp) (E : XK), Room k (A.deeper (PyProof.Rows.envOfC qual (defScope st) s.heap.objs.size f cdv)) →
      PSs (cxOf (L2.CX P w) P w K mg base N qual (defScope st) f cdv A outer s H E) (defBody st) (tS ⟨K, mg⟩ (fun cls d _ H => E cls d H) b)) :
    FnOk P w K mg base (L2.CX P w) (k + 1) f fd ps (spM ⟨K, mg⟩ n (runF m n b)) := by
  refine F.okX S (fun vs H Q E h => h.1.trans hn.symm) fun cdv A outer s H vs Q E hr sp => ⟨_, hb cdv A outer s H E hr, ?_⟩
  obtain ⟨hl, ι, S0, ds, sm, rs, q⟩ := sp
  refine ⟨ι, S0, ds.map some ++ List.replicate (m - n) none, sm, ⟨?_, ?_⟩, ?_⟩
  · unfold L2.start
    have := rs.length
    simp only [List.length_append, List.length_map, List.length_replicate]
    omega
  · unfold L2.start
    rw [hN, hl]
    exact reps_slots rs
  · have hd : ds.length = n := by rw [← rs.length]; exact hl
    unfold runF at q
    rw [if_pos hd] at q
    cases e : b (ds.map some ++ List.replicate (m - n) none) S0 with
    | nx ρ S1 => rw [e] at q; exact fun ι' H' σ' p s' en => q ι' H' .non p s' .non
    | ret d S1 => rw [e] at q; exact fun ι' H' v p s' r => q ι' H' v p s' r
    | exc c fs ρ S1 => rw [e] at q; exact fun ι' H' σ' cls dd p s' en r => q ι' H' cls dd p s' r
    | brk ρ S1 => rw [e] at q; exact q.elim
    | ct ρ S1 => rw [e] at q; exact q.elim
    | bad => rw [e] at q; exact q.elim
/-- the def named x (parameters ps) computes g, with room for k calls in one another -/
structure Does (P : Program) (w : World) (K : PySem.W.Frag) (mg : Str → Option Value) (base : Heap) (x : Str) (ps : List Str) (k n : Nat) (g : List D → M D) : Prop where
  ex : ∃ (f : Addr) (fd : FuncData) (st : Stmt), mg x = some (.ref f) ∧ Fun K x x st f fd ∧ Binds K fd ps [] ∧ FnOk P w K mg base (L2.CX P w) k f fd ps (spM ⟨K, mg⟩ n g)
  bad : ∀ ds S, ds.length ≠ n → g ds S = .bad
/-- what the top has written of the def x -/
structure Def (K : PySem.W.Frag) (mg : Str → Option Value) (x : Str) (st : Stmt) (ps : List Str) : Prop where
  ex : ∃ (f : Addr) (fd : FuncData), Fun K x x st f fd ∧ mg x = some (.ref f) ∧ Binds K fd ps []
theorem Does.mono {x : Str} {ps : List Str} {j k n : Nat} {g : List D → M D} (h : Does P w K mg base x ps j n g) (hk : j ≤ k) : Does P w K mg base x ps k n g :=
  ⟨let ⟨f, fd, st, h1, h2, h3, h4⟩ := h.ex; ⟨f, fd, st, h1, h2, h3, h4.mono hk⟩, h.bad⟩
theorem Def.does {x : Str} {st : Stmt} {N ps : List Str} {k m n : Nat} {b : MS} (d : Def K mg x st ps) (S : FnScope N ps (defScope st)) (hN : N.length = m) (hn : ps.length = n)
    (hb : ∀ (f : Addr) (cdv : Value) (A : Around) (outer : List PySem.Env) (s : Shared) (H : Hp) (E : XK), Room k (A.deeper (PyProof.Rows.envOfC x (defScope st) s.heap.objs.size f cdv)) →
      PSs (cxOf (L2.CX P w) P w K mg base N x (defScope st) f cdv A outer s H E) (defBody st) (tS ⟨K, mg⟩ (fun cls d _ H => E cls d H) b)) : Does P w K mg base x ps (k + 1) n (runF m n b) :=
  ⟨let ⟨f, fd, F, h1, h2⟩ := d.ex; ⟨f, fd, st, h1, F, h2, fn_ok F S hN hn (hb f)⟩, fun _ _ h => runF_bad h⟩
theorem Def.bad {x : Str} {st : Stmt} {ps : List Str} {k n : Nat} (d : Def K mg x st ps) (hn : ps.length = n) : Does P w K mg base x ps k n badF :=
  ⟨let ⟨f, fd, F, h1, h2⟩ := d.ex; ⟨f, fd, st, h1, F, h2, fn_bad hn⟩, fun _ _ _ => rfl⟩
theorem def_mk {h : Heap} {x : Str} {st : Stmt} {ps : List Str} {f : Addr} {oc : Value} {od an : Option Addr} {osl : Array (Option Value)} {kV doc pm cdv ct : Value} (X : K.In h) (G : h.Ns mainGlobals mg) (a : PySem.W.nsIn K mainGlobals x = some (some (.ref f)))
    (l : K.lookup f = some ⟨oc, od, .func (PySem.W.fnOf x x (defArgs st) (defBody st) (defScope st) .none kV doc pm an cdv ct), osl⟩) (c : PySem.W.codeIn K cdv x = true) (kp : PySem.W.keepIn K (.ref f) = true)
    (hb : ∀ (kV doc pm : Value) (an : Option Addr) (cdv ct : Value) (us : List Value), us.length = ps.length → bindArgs (PySem.W.fnOf x x (defArgs st) (defBody st) (defScope st) .none kV doc pm an cdv ct) ⟨us, []⟩ = pure (ps.zip us)) : Def K mg x st ps :=
  ⟨f, _, fun_mk l c kp, PySem.W.mg_of X G a, (fun_mk (st := st) l c kp).binds hb⟩
end
section
variable {X : Cx} {W : WX} {e : Expr} {es : List Expr} {fs : Env → M (List D)} {pos p : Pos} {x : Str}
theorem se_do {ps : List Str} {k n : Nat} {g : List D → M D} (d : Does X.prog X.w X.K X.mg X.base x ps k n g) (tk : Takes X W) (hr : Room k X.A) (hg : Gl X x)
    (ha : PA X (e :: es) (tA (cf X) W fs)) (hdb : (x == ("__debug__" : Str)) = false := by decide) (he : starEach (e :: es) X.env = (false, eval e X.env) :: starEach es X.env := by rfl) (hpl : (backTo pos (starEach es X.env)).any (·.1) = false := by rfl) :
    PE X (.Call (.Name x p) (e :: es) [] pos) (tE (cf X) W (eCall g fs)) := by
  obtain ⟨f, fd, st, h1, h2, h3, h4⟩ := d.ex
  exact se_call h4 d.bad tk hr hg h1 h2.kp h3 ha hdb he hpl
/-- positional arguments, then keywords in the parameters' order -/
theorem kbinds {K : PySem.W.Frag} {fd : FuncData} {ps ks : List Str} {n1 n2 : Nat} (hp : ps.length ≠ 0) (h : ∀ (us ws : List Value), us.length = n1 → ws.length = n2 → bindArgs fd ⟨us, ks.zip ws⟩ = pure (ps.zip (us ++ ws))) :
    KBinds K fd ps ks (fun us ws => if us.length = n1 ∧ ws.length = n2 then us ++ ws else []) (fun vs zs => if vs.length = n1 ∧ zs.length = n2 then vs ++ zs else []) where
  to := fun s us ws _ hl => by
    by_cases c : us.length = n1 ∧ ws.length = n2
    · simp only [if_pos c] at hl ⊢
      exact .of_eq (h us ws c.1 c.2)
    · simp only [if_neg c] at hl
      exact absurd hl.symm hp
  rel := fun {vs us zs ws} r q => by
    simp only [r.length, q.length]
    split
    · exact r.append q
    · exact .nil
theorem se_doK {st : Stmt} {ps ks : List Str} {k n n1 n2 : Nat} {g : List D → M D} {kws : List Keyword} {fk : Env → M (List D)} (d : Does X.prog X.w X.K X.mg X.base x ps k n g) (D : Def X.K X.mg x st ps) (hp : ps.length ≠ 0)
    (hkb : ∀ (kV doc pm : Value) (an : Option Addr) (cdv ct : Value) (us ws : List Value), us.length = n1 → ws.length = n2 → bindArgs (PySem.W.fnOf x x (defArgs st) (defBody st) (defScope st) .none kV doc pm an cdv ct) ⟨us, ks.zip ws⟩ = pure (ps.zip (us ++ ws)))
    (tk : Takes X W) (hr : Room k X.A) (hg : Gl X x)
    (ha : PA X (e :: es) (tA (cf X) W fs)) (hkw : PK X kws (tA (cf X) W fk)) (hall : (backToKw pos (keywordEach kws X.env)).all (·.1.isSome) = true := by rfl) (hks : (backToKw pos (keywordEach kws X.env)).filterMap (·.1) = ks := by rfl)
    (hdb : (x == ("__debug__" : Str)) = false := by decide) (he : starEach (e :: es) X.env = (false, eval e X.env) :: starEach es X.env := by rfl)
    (hpl : ((backTo pos (starEach (e :: es) X.env)).any (·.1) || (backToKw pos (keywordEach kws X.env)).any (·.1.isNone)) = false := by rfl) :
    PE X (.Call (.Name x p) (e :: es) kws pos) (tE (cf X) W (eCallK n1 n2 g fs fk)) := by
  obtain ⟨f, fd, st', h1, h2, h3, h4⟩ := d.ex
  obtain ⟨f2, fd2, F2, m2, _⟩ := D.ex
  rw [h1] at m2
  cases m2
  obtain ⟨oc, od, kV, doc, pm, an, cdv, ct, osl, rfl, lk, hcd⟩ := F2.ex
  obtain ⟨oc', od', kV', doc', pm', an', cdv', ct', osl', e', lk', hcd'⟩ := h2.ex
  rw [lk] at lk'
  have efd : fd = PySem.W.fnOf x x (defArgs st) (defBody st) (defScope st) .none kV doc pm an cdv ct := by
    injection lk' with z
    injection z with _ _ z _
    injection z with z
    exact z.symm
  have kb : KBinds X.K fd ps ks _ _ := kbinds (K := X.K) hp (fun us ws => by rw [efd]; exact hkb kV doc pm an cdv ct us ws)
  exact se_callK h4 d.bad tk hr hg h1 h2.kp kb ha hkw hall hks hdb he hpl
theorem se_int {i : Int} {j : Nat} : PE X (.Constant (.int i) j pos) (tE (cf X) W (eC (.int i))) := se_C pe_int fun _ _ _ => .int _
theorem se_bl {b : Bool} {j : Nat} : PE X (.Constant (.bool b) j pos) (tE (cf X) W (eC (.bl b))) := se_C pe_bl fun _ _ _ => .bl _
theorem se_non {j : Nat} : PE X (.Constant .none j pos) (tE (cf X) W (eC .non)) := se_C pe_non fun _ _ _ => .non
theorem se_str {z : Str} {j : Nat} : PE X (.Constant (.str z) j pos) (tE (cf X) W (eC (.str z))) := se_C pe_str fun _ _ _ => .str _
theorem se_glS {z : Str} {t : Tok} (hg : Gl X x) (hm : X.mg x = some (.str z t)) (hd : (x == ("__debug__" : Str)) = false := by decide) : PE X (.Name x pos) (tE (cf X) W (eC (.str z))) := se_C (pe_glob hg hm (v := .str z) ⟨_, rfl⟩ hd) fun _ _ _ => .str _
theorem se_glI {z : Int} {t : Tok} (hg : Gl X x) (hm : X.mg x = some (.int z t)) (hd : (x == ("__debug__" : Str)) = false := by decide) : PE X (.Name x pos) (tE (cf X) W (eC (.int z))) := se_C (pe_glob hg hm (v := .int z) ⟨_, rfl⟩ hd) fun _ _ _ => .int _
/-- a name's slot -/
theorem sv (i : Nat) {x : Str} {pos : Pos} (hN : X.N[i]? = some x := by rfl) (hv : Vis X.env.scope x := by first | exact Or.inl rfl | exact Or.inr (Or.inl rfl) | exact Or.inr (Or.inr rfl)) (hd : (x == ("__debug__" : Str)) = false := by decide)
    (hcd : (x == ("__classdict__" : Str)) = false := by decide) : PE X (.Name x pos) (tE (cf X) W (eVar i)) := se_var hN hv hd hcd
/-- code that is not come to -/
def sNever : MS := fun _ _ => .bad
theorem ss_never {st : Stmt} : PS X st (tS (cf X) W sNever) := ⟨fun _ _ _ _ _ _ ⟨_, _, _, _, _, h⟩ => h.elim⟩
end
end Mini

/-! MINI, part O: more statements. -/
namespace Mini
open PySem L2 PyProof.Rows
theorem h64 {k : Nat} {A : Around} (r : Room k A) : A.units + 64 < cLine := r.units
theorem h65 {k : Nat} {A : Around} (r : Room k A) : A.units + 65 < cLine := by have := r.un; omega
theorem h1 {k : Nat} {A : Around} (r : Room k A) : A.units + 1 < cLine := by have := r.un; omega
def sPar3 (i j l : Nat) (f : Env → M (List D)) : MS := fun ρ => ev (f ρ) ρ fun ds S => match ds with
  | [a, b, c] => .nx (((ρ.set i (some a)).set j (some b)).set l (some c)) S
  | _ => .bad
section
variable {X : Cx} {W : WX} {e : Expr} {pos : Pos}
theorem reps3 {c : Cf} {H : Hp} {ι : List Addr} {d e f : D} {vs : List V} (r : Reps c H ι [d, e, f] vs) : ∃ v u z, vs = [v, u, z] ∧ Rep c H ι d v ∧ Rep c H ι e u ∧ Rep c H ι f z := by
  cases r with | cons a b => obtain ⟨u, z, rfl, q, q'⟩ := reps2 b; exact ⟨_, u, z, rfl, a, q, q'⟩
/-- x = {.. for ..} on one line -/
theorem ps_setDc1 {j : Nat} {y : Str} {py : Pos} {wi : TI} {g : TG} {tt : TT} {tk tv : TE} {kx vx tg iter : Expr} {ifs : List Expr} {scope : Scope} {own : List (Str × Nat)} {lpos : Pos}
    (hc : X.calm = true) (hN : X.N.Nodup) (hy : X.N[j]? = some y) (hyl : X.env.scope.names.lookup y = some .local) (hsw : swapsWith (.DictComp kx vx [⟨tg, iter, ifs, 0⟩] scope lpos) (some (.Name y py)) pos.line X.env = pure true)
    (hi : PI X tg iter wi) (ok : BlkOk X.N X.env.scope scope own)
    (hg : Blk X scope fun Y => PG Y tg g) (ht : Blk X scope fun Y => PTs Y ifs tt) (hk : Blk X scope fun Y => PE Y kx tk) (he : Blk X scope fun Y => PE Y vx tv) (hs : ∀ x, foldedSetIterable iter X.env x = pure x := by intro _; rfl) :
    PS X (.Assign [.Name y py] (.DictComp kx vx [⟨tg, iter, ifs, 0⟩] scope lpos) pos) (tAsg (tDc wi g tt tk tv (own.map (·.2))) (gName j)) := by
  constructor
  intro pins s σ H E I q
  rw [exec_Assign_Name_used _ _ _ _ hsw]
  have q : tDc wi g tt tk tv (own.map (·.2)) σ H (fun v H1 => gName j v σ H1 E.nx) := q
  refine wpAny_bind (wpAny_standAt (wpAny_bind ?_))
  refine wpAny_bind (m := comprehension (.DictComp kx vx [⟨tg, iter, ifs, 0⟩] scope lpos) scope X.env (firstIterPos [⟨tg, iter, ifs, 0⟩] lpos) newDict false (eval iter X.env) (some (assign (.Name y py) X.env)))
    (thn (dc_core (Qf := fun _ z => SP X pins E .next z) hc hN I hi ok hg ht hk he hs q ?core) fun _ z hz => wpAny_pure (wpAny_pure hz))
  case core =>
    intro L C z m H1 J hQ hns fp
    show wpAny (model X.prog X.w) X.A (assign (.Name y py) X.env (.ref L)) _ _ z
    apply wpAny_assign_Name
    refine store_ok2 (v := .ref L) J hN hy (.inl hyl) rfl ?_ (.inr hyl)
    rintro z2 J2 ⟨a, same, ha⟩
    have ne : C ≠ a := by
      rcases ha with rfl | ha
      · exact fp.2.1
      · exact Ne.symm (fp.2.2.2.2.1 y a ha)
    refine ⟨m, hns.sameBut same ne, fun h3 same3 => ⟨_, H1, ?_, hQ⟩⟩
    exact J2.turned (t' := z2.toks) (fun b o nb hb => (same3.2 b nb).trans hb) fp.1 fp.2.1 fp.2.2.2.1 fp.2.2.2.2.1 fp.2.2.2.2.2
theorem ss_setDc {j : Nat} {y : Str} {py : Pos} {wi : Env → M MIt} {g : Tg} {tt : Env → M Bool} {fk fv : ME} {kx vx tg iter : Expr} {ifs : List Expr} {scope : Scope} {own : List (Str × Nat)} {lpos : Pos}
    (hc : X.calm = true) (hN : X.N.Nodup) (hy : X.N[j]? = some y) (hyl : X.env.scope.names.lookup y = some .local) (hsw : swapsWith (.DictComp kx vx [⟨tg, iter, ifs, 0⟩] scope lpos) (some (.Name y py)) pos.line X.env = pure true)
    (hi : PI X tg iter (tI (cf X) W wi)) (ok : BlkOk X.N X.env.scope scope own) (hsl : ∀ j ∈ g.slots, j ∈ own.map (·.2))
    (hg : Blk X scope fun Y => PG Y tg (mG (cf X) g)) (ht : Blk X scope fun Y => PTs Y ifs (tT (cf X) W0 tt)) (hk : Blk X scope fun Y => PE Y kx (tE (cf X) W0 fk)) (he : Blk X scope fun Y => PE Y vx (tE (cf X) W0 fv)) (hs : ∀ x, foldedSetIterable iter X.env x = pure x := by intro _; rfl) :
    PS X (.Assign [.Name y py] (.DictComp kx vx [⟨tg, iter, ifs, 0⟩] scope lpos) pos) (tS (cf X) W (sSet (.nm j) (eDc wi g tt fk fv (own.map (·.2))))) := by
  refine PS.imp (ps_setDc1 hc hN hy hyl hsw hi ok hg ht hk (fun s H C cl fp => PE.tag (he s H C cl fp)) hs) fun E σ H h => ?_
  obtain ⟨ι, S, ρ, s, en, k⟩ := h
  refine tE_dc (c := cf X) (W := W) hsl ⟨ι, S, ρ, s, en, post_ev en k fun d S1 ι1 H1 v e1 st1 s1 r1 k1 => ?_⟩
  exact k1 ι1 H1 _ .refl s1 ((en.step st1).set r1 j)
theorem ss_par3 {i j l : Nat} {x y z : Str} {a b c : Expr} {fs : Env → M (List D)} {px py pz pt : Pos} {kt k2 : Nat} {pt2 : Pos} (hc : X.calm = true) (hN : X.N.Nodup) (hi : X.N[i]? = some x) (hj : X.N[j]? = some y) (hl : X.N[l]? = some z) (hij : i ≠ j) (hil : i ≠ l) (hjl : j ≠ l)
    (hx : X.env.scope.names.lookup x = some .local) (hy : X.env.scope.names.lookup y = some .local) (hz : X.env.scope.names.lookup z = some .local) (ha : PA X [a, b, c] (tA (cf X) W fs))
    (hw : swappedStores [.Tuple [.Name x px, .Name y py, .Name z pz] kt pt] (.Tuple [a, b, c] k2 pt2) X.env = pure (some [x, y, z]))
    (hs : swapsWithSole [.Tuple [.Name x px, .Name y py, .Name z pz] kt pt] (.Tuple [a, b, c] k2 pt2) pos.line X.env = pure false := by rfl) :
    PS X (.Assign [.Tuple [.Name x px, .Name y py, .Name z pz] kt pt] (.Tuple [a, b, c] k2 pt2) pos) (tS (cf X) W (sPar3 i j l fs)) := by
  refine PS.imp (ps_par3 hc hN hi hj hl hij hil hjl hx hy hz ha hw hs) ?_
  rintro E σ H ⟨ι, S, ρ, s, en, k⟩
  refine ⟨ι, S, ρ, s, en, post_ev en k fun ds S1 ι1 H1 vs e1 st1 s1 r1 k1 => ?_⟩
  split at k1
  · obtain ⟨v, u, z, rfl, r, r', r''⟩ := reps3 r1
    exact ⟨v, u, z, rfl, k1 ι1 H1 _ .refl s1 ((((en.step st1).set r i).set r' j).set r'' l)⟩
  · exact k1.elim
end
end Mini
namespace Mini
open PySem
/-- the built-in names stand for themselves -/
structure Blt (mg : Str → Option Value) : Prop where
  len : mg "len" = none
  range : mg "range" = none
  isinstance : mg "isinstance" = none
  str : mg "str" = none
  int : mg "int" = none
  bool : mg "bool" = none
  tuple : mg "tuple" = none
  list : mg "list" = none
  dict : mg "dict" = none
  set : mg "set" = none
  all : mg "all" = none
  any : mg "any" = none
  sum : mg "sum" = none
  abs : mg "abs" = none
  max : mg "max" = none
  min : mg "min" = none
  sorted : mg "sorted" = none
  enumerate : mg "enumerate" = none
  zip : mg "zip" = none
  reversed : mg "reversed" = none
end Mini

/-! MINI, part P: sorted. -/
namespace Mini
open PySem L2 PyProof.Rows PySem.W
/-- what a value reads as -/
def encD (S : Store) (d : D) : PyData := (toP S d).getD .none
theorem encD_of {S : Store} {d : D} {p : PyData} (e : toP S d = some p) : encD S d = p := by unfold encD; rw [e]; rfl
def tupNe : PyData → Bool
  | .tuple (_ :: _) => true
  | _ => false
def notTN : PyData → Bool
  | .none => false
  | .tuple _ => false
  | _ => true
/-- can be sorted by what they read as -/
def sortOk (S : Store) (ys : List D) : Bool :=
  ys.all (fun d => (toP S d).isSome && decide ((encD S d).depth ≤ 32)) && (ys.all fun d => ys.all fun e => alike (encD S d) (encD S e)) && ((ys.all fun d => tupNe (encD S d)) || ys.all fun d => notTN (encD S d)) && decide (ys.length ≤ lim)
def sortD (S : Store) (ys : List D) : List D := ys.mergeSort (dataLe false (encD S))
def nSorted : PN := fun xs S => match xs with
  | [d] => match itemsOf S d with
    | some ys => if sortOk S ys then newL (sortD S ys) S else none
    | none => none
  | _ => none
theorem sortOk_iff {S : Store} {ys : List D} (h : sortOk S ys = true) : (∀ d ∈ ys, (∃ p, toP S d = some p) ∧ (encD S d).depth ≤ 32) ∧ AllAlike (ys.map (encD S)) ∧ Sortable (ys.map (encD S)) ∧ ys.length ≤ lim := by
  unfold sortOk at h
  simp only [Bool.and_eq_true, decide_eq_true_eq, List.all_eq_true, Bool.or_eq_true] at h
  obtain ⟨⟨⟨h1, h2⟩, h3⟩, h4⟩ := h
  refine ⟨fun d hd => ⟨Option.isSome_iff_exists.mp (h1 d hd).1, (h1 d hd).2⟩, ?_, ?_, h4⟩
  · intro a ha b hb
    obtain ⟨d, hd, rfl⟩ := List.mem_map.mp ha
    obtain ⟨e, he, rfl⟩ := List.mem_map.mp hb
    exact h2 d hd e he
  · rcases h3 with h3 | h3
    · refine .inl fun a ha => ?_
      obtain ⟨d, hd, rfl⟩ := List.mem_map.mp ha
      have := h3 d hd
      cases hz : encD S d with
      | tuple xs =>
        cases xs with
        | nil => rw [hz] at this; cases this
        | cons x r => exact ⟨x, r, rfl⟩
      | _ => rw [hz] at this; cases this
    · refine .inr fun a ha => ?_
      obtain ⟨d, hd, rfl⟩ := List.mem_map.mp ha
      have := h3 d hd
      refine ⟨(fun z => by rw [z] at this; cases this), (fun xs z => by rw [z] at this; cases this)⟩
section
variable {X : Cx} {pins : List (Addr × Obj)} {σ : L2.St} {H : Hp} {s : Shared} {ι : List Addr} {S : Store}
theorem reps_each {c : Cf} : ∀ {ys : List D} {vs : List V} {us : List Value}, Reps c H ι ys vs → Vals vs us → EachIs (fun u d => ∃ v, RelV v u ∧ Rep c H ι d v) us ys
  | _, _, _, .nil, .nil => .nil
  | _, _, _, .cons a b, .cons r t => .cons ⟨_, r, a⟩ (reps_each b t)
theorem each_reps {c : Cf} : ∀ {ys : List D} {us : List Value}, EachIs (fun u d => ∃ v, RelV v u ∧ Rep c H ι d v) us ys → ∃ vs, Reps c H ι ys vs ∧ Vals vs us
  | _, _, .nil => ⟨[], .nil, .nil⟩
  | _, _, .cons ⟨v, r, a⟩ t => let ⟨vs, b, q⟩ := each_reps t; ⟨v :: vs, .cons a b, .cons r q⟩
theorem each_reads (I : L2.Inv X pins σ H s) (sm : Sim (cf X) ι S H) : ∀ {ys : List D} {us : List Value}, (∀ d ∈ ys, ∃ p, toP S d = some p) → EachIs (fun u d => ∃ v, RelV v u ∧ Rep (cf X) H ι d v) us ys → EachIs (fun u d => ∃ as, Reads s.heap u (encD S d) as) us ys
  | _, _, _, .nil => .nil
  | _, _, hp, .cons ⟨v, r, a⟩ t => by
    refine .cons ?_ (each_reads I sm (fun d hd => hp d (List.mem_cons_of_mem _ hd)) t)
    obtain ⟨p, e⟩ := hp _ List.mem_cons_self
    rw [encD_of e]
    exact Dp.reads I p v _ (toP_dp sm a e) r
/-- sorted(u), what u's items are told by hcol -/
theorem sorted_core {u : Value} {zs : List D} {Q : VK} {Ok : List D → Prop} (sm : Sim (cf X) ι S H) (hu : X.A.units + 64 < cLine)
    (hcol : ∀ (Q' : List Value → Shared → Prop) (E' : Value → Shared → Prop), (∀ s' us ys, L2.Inv X pins σ H s' → Ok ys → EachIs (fun u d => ∃ v, RelV v u ∧ Rep (cf X) H ι d v) us ys → Q' us s') → wpAny (model X.prog X.w) X.A.in1 (collect u) Q' E' s)
    (hz : ∀ ys, Ok ys → sortOk S ys = true ∧ sortD S ys = zs)
    (q : ∀ vs p, Reps (cf X) H ι zs vs → H p = none → Q (.ref p) (upd H p (.lst vs))) : wpAny (model X.prog X.w) X.A (call (.builtin "sorted") [u]) (EP X pins σ Q) X.xe s := by
  refine call_function_entry_kw kind_sorted plain_sorted entry_sorted (args_sorted1 _) ?_
  unfold Builtin.«sorted»
  refine wpAny_bind (m := checkCount "sorted" 1 1 _) (wpAny_pure (wpAny_bind (hcol _ _ fun s1 us ys I1 ok each => ?_)))
  obtain ⟨sok, sz⟩ := hz ys ok
  obtain ⟨h1, h2, h3, h4⟩ := sortOk_iff sok
  have len : us.length ≤ sizeLine := by rw [each.length]; exact Nat.le_trans h4 lim_le
  refine wpAny_bind (wpAny_newList ?_ len)
  -- the new list, sorted in place
  have at1 : (s1.heap.push (seqObj "list" us.toArray 0)).get? s1.heap.objs.size = some (seqObj "list" us.toArray 0) := Heap.get?_push_size _ rfl
  have kp : ∀ b o, s1.heap.get? b = some o → (sortingHeap (s1.heap.push (seqObj "list" us.toArray 0)) s1.heap.objs.size us).get? b = some o := fun b o e =>
    sortingHeap_old (Nat.ne_of_lt (Heap.lt_size e)) (Heap.get?_push_of_some _ e)
  have er := (each_reads I1 sm (fun d hd => (h1 d hd).1) each).mono fun _ _ ⟨as, r⟩ => (⟨as, Reads.keeps kp r⟩ : ∃ as, Reads (sortingHeap (s1.heap.push (seqObj "list" us.toArray 0)) s1.heap.objs.size us) _ _ as)
  have sa : SortsAt X.prog X.w X.A.in1.in1 { s1 with heap := sortingHeap (s1.heap.push (seqObj "list" us.toArray 0)) s1.heap.objs.size us } (dataKind (sortingHeap (s1.heap.push (seqObj "list" us.toArray 0)) s1.heap.objs.size us) (ys.map (encD S))) us :=
    SortsAt.data (s := { s1 with heap := sortingHeap (s1.heap.push (seqObj "list" us.toArray 0)) s1.heap.objs.size us }) (each_map (R := fun v d => ∃ as, Reads _ v d as) (encD S) er) h2 h3 fun d hd => by
      obtain ⟨b, hb, rfl⟩ := List.mem_map.mp hd
      have := (h1 b hb).2
      show X.A.units + 1 + 1 + _ < cLine
      omega
  have out := sortVals_data (R := fun u d => ∃ v, RelV v u ∧ Rep (cf X) H ι d v) false each er h2
  refine wpAny_bind (wpAny_holding (wpAny_call_entry_kw slot_list_sort ⟨_, at1, rfl⟩ entry_list_sort (wpAny_mono (list_sort_vals (P := fun f s' => f = .done (.ret .none) ∧ EP X pins σ Q (.ref s1.heap.objs.size) s') (s := { s1 with heap := s1.heap.push (seqObj "list" us.toArray 0) }) at1 sa len ⟨rfl, ?_⟩) (fun f s' hf => ?_) fun _ _ e => e) (args_list_sort _)))
  · obtain ⟨vs, rv, va⟩ := each_reps out
    have fresh := I1.hok.fresh (Nat.le_refl s1.heap.objs.size)
    have e1 : ys.mergeSort (dataLe false (encD S)) = zs := sz
    rw [e1] at rv
    have ho2 := sortedHeap_at (out := (sortVals (dataKind (sortingHeap (s1.heap.push (seqObj "list" us.toArray 0)) s1.heap.objs.size us) (ys.map (encD S))) false us us).toArray) at1
    have lenO : vs.length ≤ sizeLine := by
      rw [va.length, sortVals_length false rfl]
      exact len
    refine ⟨.ref s1.heap.objs.size, upd H s1.heap.objs.size (.lst vs), ?_, rfl, q vs _ rv fresh⟩
    refine I1.laid (t' := s1.toks) (fun b o e => ?_) (Nat.le_refl _) ?_
    · have lt := Heap.lt_size e
      show (sortedHeap (s1.heap.push (seqObj "list" us.toArray 0)) s1.heap.objs.size us _).get? b = some o
      rw [sortedHeap_old (Nat.ne_of_lt lt) (by rw [Heap.size_push]; exact Nat.lt_succ_of_lt lt)]
      exact Heap.get?_push_of_some _ e
    · obtain ⟨n2, g2⟩ := ho2
      exact ⟨lenO, _, n2, va, g2⟩
  · obtain ⟨rfl, hq⟩ := hf
    exact ⟨_, rfl, wpAny_pure ⟨_, rfl, hq⟩⟩
theorem grow_keeps {h : Heap} {us : List Value} {b : Addr} {o : Obj} (e : h.get? b = some o) : ((h.push (seqObj "list" #[] 0)).update h.objs.size (Obj.mapSeq (· ++ us.toArray))).get? b = some o := by
  have lt : b < h.objs.size := Heap.lt_size e
  rw [Heap.get?_update_ne _ _ _ _ (Nat.ne_of_lt lt)]
  exact Heap.get?_push_of_some _ e
/-- a tuple's items, taken into a list -/
theorem collect_tup {prog : Program} {w : World} {A : Around} {E : Value → Shared → Prop} {s : Shared} {t : Addr} {us : List Value} {Q : List Value → Shared → Prop} (ht : s.heap.IsTuple t us.toArray) (len : us.length ≤ sizeLine)
    (k : Q us { s with heap := (s.heap.push (seqObj "list" #[] 0)).update s.heap.objs.size (Obj.mapSeq (· ++ us.toArray)) }) : wpAny (model prog w) A (collect (.ref t)) Q E s := by
  obtain ⟨o, g, c, n, d⟩ := id ht
  have g1 : (s.heap.push (seqObj "list" #[] 0)).get? t = some o := Heap.get?_push_of_some _ g
  have gn : (s.heap.push (seqObj "list" #[] 0)).get? s.heap.objs.size = some (seqObj "list" #[] 0) := Heap.get?_push_size _ rfl
  have same : (Value.type "tuple" == Value.type "tuple") = true := rfl
  unfold collect
  refine wpAny_bind (wpAny_runValue (codeAny_builtin
    entry_proto_collect' ?_))
  show wpAny _ _ (newList [] >>= fun l => again (.builtin "list.__iadd__" ⟨[l, .ref t], []⟩)) _ _ s
  refine wpAny_bind (wpAny_newList (wpAny_pure ⟨Code.quiet_builtin _ (by decide +kernel),
    codeAny_builtin entry_list_iadd' ?_⟩))
  show wpAny _ _ (Builtin.List.listExtendWith (.ref s.heap.objs.size)
    (.ref t) (.ref s.heap.objs.size)) _ _ { s with heap := s.heap.push (seqObj "list" #[] 0) }
  unfold Builtin.List.listExtendWith
  refine wpAny_bind (wpAny_typeOf (T := "tuple") ⟨o, g1, c⟩ ?_)
  rw [if_pos (by rw [same]; simp)]
  refine wpAny_bind (listItems_at g1 d (wpAny_bind (listItems_at (xs := #[]) (n := 0) gn rfl ?_)))
  rw [if_neg (by simp)]
  refine wpAny_bind (listUpdate_at (xs := #[]) (n := 0) gn rfl (wpAny_pure ?_) (Nat.zero_le _) ?_)
  · show wpAny (model prog w) A (load s.heap.objs.size >>= fun o => match o.data with
      | .seq xs _ => pure xs.toList
      | _ => unsupported "internal:collect") Q E { s with heap := (s.heap.push (seqObj "list" #[] 0)).update s.heap.objs.size (Obj.mapSeq (· ++ us.toArray)) }
    refine wpAny_bind (wpAny_load (get?_update_seq gn _) ?_)
    have e : ((#[] : Array Value) ++ us.toArray).toList = us := by simp
    show wpAny _ _ (pure ((#[] : Array Value) ++ us.toArray).toList) Q E _
    rw [e]
    exact wpAny_pure k
  · simp only [Array.size_append, List.size_toArray, List.length_nil]
    omega
theorem c_sorted (hu : X.A.units + 64 < cLine) : CallR X (.builtin "sorted") (rN (cf X) nSorted) := by
  rintro pins s σ H vs us Q I rv ⟨ι, S, ds, sm, r, d, S', e, k⟩
  unfold nSorted at e
  split at e
  · rename_i d0
    split at e
    · rename_i ys hy
      split at e
      · rename_i hs
        obtain ⟨v, rfl, r1⟩ := reps1 r
        obtain ⟨p, xs, rfl, hq, rs⟩ := itemsOf_ok sm r1 hy
        obtain ⟨u, rfl, ru⟩ := rv.one
        cases ru
        have f2 : Fin (cf X) ι H Q (newL (sortD S ys) S) := ⟨d, S', e, k⟩
        have fin : ∀ vs p, Reps (cf X) H ι (sortD S ys) vs → H p = none → Q (.ref p) (upd H p (.lst vs)) := fun vs p rz hp => (f2.lst sm rz).2 p hp
        refine sorted_core (Ok := fun zs => zs = ys) sm hu (fun Q' E' go => ?_) (fun zs hz => by subst hz; exact ⟨hs, rfl⟩) fin
        rcases hq with hq | hq
        · obtain ⟨its, va, pl, len⟩ := I.list hq
          refine PyProof.Rows.collect_list pl.isList (go _ _ _ (I.kept (t' := s.toks) fun b o e => grow_keeps e) rfl (reps_each rs va)) ?_
          rw [← va.length]; exact len
        · obtain ⟨its, va, pl, len⟩ := I.tuple hq
          refine collect_tup (show Heap.IsTuple s.heap p its.toArray from pl) (by rw [← va.length]; exact len) (go _ _ _ (I.kept (t' := s.toks) fun b o e => grow_keeps e) rfl (reps_each rs va))
      · cases e
    · cases e
  · cases e
end
end Mini

/-! MINI, part Q: sets of what is searched by its hash. -/
namespace Mini
open PySem L2 PyProof.Rows
/-- what can stand in a set: besides the kit's HeapKind, the small questions that a set asks -/
structure SetEl (P : Program) (w : World) (β : Type) [DecidableEq β] where
  kd : HeapKind P w β
  grow : ∀ {h h' : Heap} {b : β} {x : Addr}, kd.is h b x → (∀ c o, h.get? c = some o → h'.get? c = some o) → kd.is h' b x
  cls : ∀ {A : Around} {E : Value → Shared → Prop} {s : Shared} {b : β} {x : Addr} {Q : Bool → Shared → Prop}, kd.is s.heap b x → Q false s → wpAny (model P w) A (ofAClassStatement 8 (.ref x)) Q E s
  hbv : ∀ {A : Around} {E : Value → Shared → Prop} {s : Shared} {b : β} {x : Addr} {Q : Bool → Shared → Prop}, kd.is s.heap b x → (∀ r, Q r s) → wpAny (model P w) A (hashByValue 8 (.ref x)) Q E s
section
variable {P : Program} {w : World} {β : Type} [DecidableEq β] (Z : SetEl P w β)
abbrev SetEl.row (p : Addr × β) : Int × Value := (Z.kd.hash p.2, .ref p.1)
abbrev SetEl.hs (L : List (Addr × β)) : List Int := L.map fun p => Z.kd.hash p.2
/-- the set at a: its members in the table's sequence -/
structure TSet (h : Heap) (a : Addr) (L : List (Addr × β)) (es : Array (Int × Value)) (ep : Nat) (t : SetTable) : Prop where
  ob : ∃ o, h.get? a = some o ∧ o.ExactSet ∧ o.data = .set es ep t
  rows : es.toList = L.map Z.row
  tab : TabOk t (Z.hs L)
  nd : (L.map (·.2)).Nodup
  led : w.params.followText "set-order" = true ∨ t.led = true
  room : L.length * 5 < t.mask * 3
  few : L.length < 64
variable {Z}
variable {A : Around} {E : Value → Shared → Prop} {s : Shared} {a x : Addr} {L : List (Addr × β)} {es : Array (Int × Value)} {ep : Nat} {t : SetTable} {k : β}
theorem TSet.len {h : Heap} (R : TSet Z h a L es ep t) : es.size = L.length := by
  rw [← Array.length_toList, R.rows, List.length_map]
theorem TSet.places {h : Heap} (R : TSet Z h a L es ep t) : t.place.size = L.length := by
  have := R.tab.sz
  rwa [List.length_map] at this
theorem TSet.fit {h : Heap} (R : TSet Z h a L es ep t) : t.fits es.size = true := by
  have h1 := R.places
  have h2 := R.len
  have h3 := R.room
  simp only [SetTable.fits, SetTable.fill, R.tab.dm, Bool.and_eq_true, beq_iff_eq, decide_eq_true_eq]
  refine ⟨h1.trans h2.symm, ?_⟩
  show t.place.size + 0 ≤ t.mask
  omega
theorem TSet.row_at {h : Heap} (R : TSet Z h a L es ep t) {i : Nat} {p : Addr × β} (e : L[i]? = some p) : es[i]? = some (Z.row p) := by
  rw [← Array.getElem?_toList, R.rows, List.getElem?_map, e]
  rfl
theorem TSet.odd {h : Heap} (R : TSet Z h a L es ep t) : ¬ t.gaveWay = true := by
  simp [SetTable.gaveWay, mask_odd R.tab.mok]
/-- where the c-th step of the way stands -/
abbrev stepAt (t : SetTable) (h : Int) (c : Nat) : SetTable.Probe := nth t.mask (runAt t.mask (SetTable.bits h % (t.mask + 1)) (SetTable.bits h)) c
theorem stepAt_add (t : SetTable) (h : Int) (c q : Nat) : nth t.mask (stepAt t h c) q = stepAt t h (c + q) := (nth_add t.mask c _ q).symm
theorem stepAt_clean (t : SetTable) (h : Int) (c : Nat) : (stepAt t h c).dummy = none := by
  have gen : ∀ (n : Nat) (p : SetTable.Probe), p.dummy = none → (nth t.mask p n).dummy = none := by
    intro n
    induction n with
    | zero => exact fun p e => e
    | succ n ih => exact fun p e => ih _ (by unfold adv; split <;> exact e)
  exact gen c _ rfl
/-- a search shows nothing of the table -/
theorem unseen {b : β} (hx : Z.kd.is s.heap b x) {ys : List Value} (hy : ∀ y ∈ ys, ∃ b' c, y = Value.ref c ∧ Z.kd.is s.heap b' c) {Q : Bool → Shared → Prop} (q : Q false s) :
    wpAny (model P w) A (searchCouldBeSeen (.ref x) ys) Q E s := by
  unfold searchCouldBeSeen
  refine wpAny_bind (wpAny_forIn_list _ (fun l z s' => z.1 = none ∧ s' = s ∧ ∀ y ∈ l, ∃ b' c, y = Value.ref c ∧ Z.kd.is s.heap b' c) _ ?_ ?_ _ _ ⟨rfl, rfl, hy⟩)
  · rintro y l z s' ⟨z0, rfl, all⟩
    obtain ⟨b', c, rfl, hc⟩ := all y List.mem_cons_self
    have more := fun u hu => all u (List.mem_cons_of_mem _ hu)
    dsimp only
    by_cases same : (x == c || (carriedByValue (.ref x) && carriedByValue (.ref c))) = true
    · exact wp_if_pos same (wpAny_pure ⟨rfl, rfl, more⟩)
    · refine wp_if_neg same (wpAny_bind (Z.kd.quiet hx ?_))
      simp only [Bool.not_true, Bool.false_eq_true, if_false]
      refine wpAny_bind (Z.kd.quiet hc ?_)
      simp only [Bool.not_true, Bool.false_eq_true, if_false]
      refine wpAny_bind (Z.cls hx ?_)
      simp only [Bool.false_eq_true, if_false]
      refine wpAny_bind (Z.cls hc ?_)
      simp only [Bool.false_eq_true, if_false]
      exact wpAny_pure ⟨rfl, rfl, more⟩
  · rintro ⟨z1, z2⟩ s' ⟨z0, rfl, _⟩
    obtain rfl : z1 = none := z0
    exact wpAny_pure q
/-- the search for k, from the c-th step on: K is the first free step; whatever equals k stands at a step of [c, K) -/
theorem seek (R : TSet Z s.heap a L es ep t) (el : ∀ p ∈ L, Z.kd.is s.heap p.2 p.1) (hx : Z.kd.is s.heap k x) (hr : Z.kd.room A) {K : Nat} (hKf : K < 10 * SetTable.turns t.mask)
    (hK : way t.mask (Z.kd.hash k) K ∉ t.place.toList) (hKb : ∀ c, c < K → way t.mask (Z.kd.hash k) c ∈ t.place.toList) {Q : SetFound → Shared → Prop}
    (yes : k ∈ L.map (·.2) → Q (.there none) s) (no : k ∉ L.map (·.2) → Q (.free (way t.mask (Z.kd.hash k) K) false) s) :
    ∀ (f c : Nat) (stand : Option SetTable.Probe), stand.getD (t.probeStart (Z.kd.hash k)) = stepAt t (Z.kd.hash k) c → c ≤ K → K - c < f →
      (∀ (i : Nat) p, L[i]? = some p → p.2 = k → ∃ c', c ≤ c' ∧ c' < K ∧ t.place.toList[i]? = some (way t.mask (Z.kd.hash k) c')) →
      wpAny (model P w) A (setSearchFrom a (.ref x) (Z.kd.hash k) true f stand) Q E s := by
  intro f
  induction f with
  | zero => exact fun c st _ _ h => absurd h (Nat.not_lt_zero _)
  | succ f ih =>
    intro c st hst hc hf still
    obtain ⟨o, ho, hex, hd⟩ := R.ob
    have hv : ∀ (i : Nat) p, L[i]? = some p → (es[i]?.map (·.1)).getD 0 = Z.kd.hash p.2 := fun i p e => by rw [R.row_at e]; rfl
    have jq : ∀ q, (nth t.mask (stepAt t (Z.kd.hash k) c) q).j = way t.mask (Z.kd.hash k) (c + q) := fun q => congrArg SetTable.Probe.j (stepAt_add t _ c q)
    have spec := go_spec t R.tab.ris R.tab.dm (fun i => (es[i]?.map (·.1)).getD 0) (Z.kd.hash k) (10 * SetTable.turns t.mask) (K - c) (stepAt t (Z.kd.hash k) c) (stepAt_clean t _ c) (by omega)
      (fun q hq => by rw [jq]; exact hKb _ (by omega)) (by rw [jq]; rw [Nat.add_sub_cancel' hc]; exact hK)
    rw [setSearchFrom_succ]
    refine wpAny_bind (wpAny_setState_of ho hd R.fit ?_)
    refine wp_if_neg R.odd ?_
    rw [hst]
    rcases spec with ⟨q, i, hq, hi, hh, hno, pr⟩ | ⟨hno, pr⟩
    · -- one of equal hash
      have pr' : t.probe (fun i => (es[i]?.map (·.1)).getD 0) (Z.kd.hash k) (stepAt t (Z.kd.hash k) c) = some (.candidate (way t.mask (Z.kd.hash k) (c + q)) i (stepAt t (Z.kd.hash k) (c + (q + 1)))) := by
        rw [← jq, ← stepAt_add]
        exact pr
      rw [pr']
      rw [jq] at hi
      have il : i < L.length := by
        rw [← R.places, ← Array.length_toList]
        exact (List.getElem?_eq_some_iff.mp hi).1
      obtain ⟨p, ep'⟩ : ∃ p, L[i]? = some p := ⟨_, List.getElem?_eq_getElem il⟩
      have pm : p ∈ L := List.mem_of_getElem? ep'
      have slot := slot_live R.tab.ris hi
      have body : wpAny (model P w) A (searchRest a (.ref x) (Z.kd.hash k) true f es t (way t.mask (Z.kd.hash k) (c + q)) i (stepAt t (Z.kd.hash k) (c + (q + 1)))) Q E s := by
        unfold searchRest
        rw [R.row_at ep']
        refine wpAny_bind (wpAny_holding (Z.kd.eqBool hr (el p pm) hx (wpAny_bind (wpAny_setState_of ho hd R.fit ?_))))
        by_cases eq : p.2 = k
        · exact wp_if_pos (by simp [eq]) (wpAny_pure (yes (List.mem_map.mpr ⟨p, pm, eq⟩)))
        · refine wp_if_neg (by simp [eq]) ?_
          rw [sameMem]
          simp only [if_true, slot, R.row_at ep']
          refine wpAny_bind (wpAny_isSame_ref_self (wpAny_bind (wpAny_pure ?_)))
          simp only [if_true]
          refine wp_if_neg (by simp [eq]) (ih (c + (q + 1)) _ rfl (by omega) (by omega) fun i0 p0 e0 k0 => ?_)
          obtain ⟨c', l1, l2, l3⟩ := still i0 p0 e0 k0
          refine ⟨c', ?_, l2, l3⟩
          apply Decidable.byContradiction
          intro hlt
          rcases Nat.lt_or_ge c' (c + q) with lt | ge
          · refine hno (c' - c) i0 (by omega) (by rw [jq, Nat.add_sub_cancel' l1]; exact l3) ((hv i0 p0 e0).trans (by rw [k0]))
          · obtain rfl : c' = c + q := by omega
            have s2 := slot_live R.tab.ris l3
            rw [slot] at s2
            injection s2 with s2
            rw [← s2, ep'] at e0
            cases e0
            exact eq k0
      by_cases led : t.led = true
      · exact wp_if_neg (by simp [led]) body
      · refine wp_if_pos (by simp [led]) (wpAny_bind (unseen hx (fun y hy => ?_) (wp_if_neg (by decide) body)))
        obtain ⟨r, hr', rfl⟩ := List.mem_map.mp hy
        have : r ∈ es.toList := by
          have := (by simpa using hr' : r ∈ es ∧ r.1 = Z.kd.hash k).1
          simpa using this
        rw [R.rows] at this
        obtain ⟨p2, m2, rfl⟩ := List.mem_map.mp this
        exact ⟨p2.2, p2.1, rfl, el p2 m2⟩
    · -- a free slot
      have pr' : t.probe (fun i => (es[i]?.map (·.1)).getD 0) (Z.kd.hash k) (stepAt t (Z.kd.hash k) c) = some (.empty (way t.mask (Z.kd.hash k) K) none) := by
        have : way t.mask (Z.kd.hash k) K = (nth t.mask (stepAt t (Z.kd.hash k) c) (K - c)).j := by rw [jq, Nat.add_sub_cancel' hc]
        rw [this]
        exact pr
      rw [pr']
      refine wpAny_pure (no fun m => ?_)
      obtain ⟨p0, m0, k0⟩ := List.mem_map.mp m
      obtain ⟨i0, l0, e0⟩ := List.getElem_of_mem m0
      have e1 : L[i0]? = some p0 := by rw [List.getElem?_eq_getElem l0, e0]
      obtain ⟨c', l1, l2, l3⟩ := still i0 p0 e1 k0
      exact hno (c' - c) i0 (by omega) (by rw [jq, Nat.add_sub_cancel' l1]; exact l3) ((hv i0 p0 e1).trans (by rw [k0]))
theorem seek0 (R : TSet Z s.heap a L es ep t) (el : ∀ p ∈ L, Z.kd.is s.heap p.2 p.1) (hx : Z.kd.is s.heap k x) (hr : Z.kd.room A) {Q : SetFound → Shared → Prop} (yes : k ∈ L.map (·.2) → Q (.there none) s)
    (no : ∀ K, k ∉ L.map (·.2) → way t.mask (Z.kd.hash k) K ∉ t.place.toList → (∀ c, c < K → way t.mask (Z.kd.hash k) c ∈ t.place.toList) → Q (.free (way t.mask (Z.kd.hash k) K) false) s) :
    wpAny (model P w) A (setSearch a (.ref x) (Z.kd.hash k) true) Q E s := by
  have rm := R.room
  obtain ⟨K, b1, b2, b3⟩ := R.tab.first (by rw [List.length_map]; omega) (Z.kd.hash k)
  have small : K < 100000 := by
    have : SetTable.turns t.mask ≤ 142 := by
      unfold SetTable.turns
      rcases R.tab.mok with e | e | e <;> omega
    omega
  refine seek R el hx hr b1 b2 b3 yes (fun m => no K m b2 b3) 100000 0 none rfl (Nat.zero_le _) (by omega) fun i p e ek => ?_
  have li : i < L.length := (List.getElem?_eq_some_iff.mp e).1
  have lp : i < t.place.toList.length := by rw [Array.length_toList, R.places]; exact li
  obtain ⟨c, hc, ec⟩ := R.tab.before (h := Z.kd.hash k) b2 (by rw [List.getElem?_map, e, ← ek]; rfl) (List.getElem?_eq_getElem lp)
  exact ⟨c, Nat.zero_le _, hc, by rw [List.getElem?_eq_getElem lp, ec]⟩
theorem map_range_get {α : Type} (l : List α) : ∀ n, n ≤ l.length → (List.range n).filterMap (fun i => l[i]?) = l.take n
  | 0, _ => rfl
  | n + 1, hn => by
    have lt : n < l.length := hn
    rw [List.range_succ, List.filterMap_append, map_range_get l n (by omega), List.filterMap_cons_some (List.getElem?_eq_getElem lt), List.take_succ, List.getElem?_eq_getElem lt]
    rfl
/-- the rows in another sequence -/
theorem rows_order {order : Array Nat} (hr : es.toList = L.map Z.row) (hp : order.toList.Perm (List.range L.length)) :
    ∃ L2, (order.filterMap (es[·]?)).toList = L2.map Z.row ∧ L2.Perm L ∧ Z.hs L2 = order.toList.map fun i => (es.map (·.1)).getD i 0 := by
  have at' : ∀ i : Nat, es[i]? = L[i]?.map Z.row := fun i => by rw [← Array.getElem?_toList, hr, List.getElem?_map]
  refine ⟨order.toList.filterMap fun i => L[i]?, ?_, ?_, ?_⟩
  · rw [Array.toList_filterMap, List.map_filterMap]
    exact congrArg (fun f => List.filterMap f order.toList) (funext at')
  · refine (hp.filterMap _).trans ?_
    rw [map_range_get L _ (Nat.le_refl _), List.take_length]
  · have lt : ∀ i ∈ order.toList, i < L.length := fun i hi => List.mem_range.mp (hp.mem_iff.mp hi)
    generalize order.toList = l at lt
    induction l with
    | nil => rfl
    | cons i l ih =>
      have hi := lt i List.mem_cons_self
      rw [List.filterMap_cons_some (List.getElem?_eq_getElem hi), List.map_cons]
      show _ :: Z.hs _ = _
      rw [ih fun j hj => lt j (List.mem_cons_of_mem _ hj)]
      congr 1
      have e : (es.map (·.1))[i]? = some (Z.kd.hash L[i].2) := by rw [Array.getElem?_map, at', List.getElem?_eq_getElem hi]; rfl
      simp [Array.getD_eq_getD_getElem?, e]
/-- laid anew in a larger table -/
theorem relay {o : Obj} (ho : s.heap.get? a = some o) (hex : o.ExactSet) (hd : o.data = .set es ep t) (rows : es.toList = L.map Z.row) (hsz : t.place.size = es.size) (hdm : t.dummies = #[]) (hfl : es.size ≤ t.mask)
    (nd : (L.map (·.2)).Nodup) (ld : w.params.followText "set-order" = true ∨ t.led = true) (few : L.length < 64) {wanted M : Nat} (hw : SetTable.sizeAbove wanted - 1 = M) (hM : MaskOk M) (hw2 : SetTable.sizeAbove wanted ≤ 128) (hn : L.length * 5 < M * 3) {Q : Unit → Shared → Prop}
    (q : ∀ h' L' es' ep' t', Heap.SameBut a s.heap h' → TSet Z h' a L' es' ep' t' → L'.Perm L → Q () { s with heap := h' }) : wpAny (model P w) A (setRelay a wanted) Q E s := by
  have len : es.size = L.length := by rw [← Array.length_toList, rows, List.length_map]
  have fits : t.fits es.size = true := by
    simp only [SetTable.fits, SetTable.fill, hdm, Bool.and_eq_true, beq_iff_eq, decide_eq_true_eq]
    exact ⟨hsz, by show t.place.size + 0 ≤ t.mask; omega⟩
  obtain ⟨t2, order, e, hp, T, em, el, _, _⟩ := relaid_ok t (hs := es.map (·.1)) (wanted := wanted) hw hM (by rw [Array.size_map, len]; omega)
  rw [Array.size_map, len] at hp
  obtain ⟨L2, r1, r2, r3⟩ := rows_order rows hp
  rw [← r3] at T
  have len2 : (order.filterMap (es[·]?)).size = es.size := by rw [← Array.length_toList, r1, List.length_map, r2.length_eq, len]
  rw [setRelay_eq]
  refine wpAny_bind (wpAny_setState_of ho hd fits (wp_if_neg (by rw [sizeLine_eq]; omega) ?_))
  rw [e]
  refine wpAny_bind (wp_if_neg (by rw [len2]; simp) (wpAny_pure ?_))
  refine wpAny_storeSet_of ho hd (q _ L2 _ (ep + 1) t2 (Heap.SameBut.update _ a _) ⟨⟨_, store_at ho hd, hex, rfl⟩, r1, T, (r2.map (·.2)).nodup_iff.mpr nd, by rw [el]; exact ld, ?_, by rw [r2.length_eq]; exact few⟩ r2) (by rw [len2, len, sizeLine_eq]; omega)
  rw [r2.length_eq, em]
  exact hn
theorem put_at {α : Type} (l : List α) (n : Nat) (y : α) : (l.take n ++ y :: l.drop n).Perm (y :: l) := by
  have := List.perm_middle (a := y) (l₁ := l.take n) (l₂ := l.drop n)
  rwa [List.take_append_drop] at this
/-- k is put in, if it was not there -/
theorem put_in (R : TSet Z s.heap a L es ep t) (el : ∀ p ∈ L, Z.kd.is s.heap p.2 p.1) (hx : Z.kd.is s.heap k x) (hr : Z.kd.room A) (few : L.length + 1 < 64) {Q : Bool → Shared → Prop}
    (q : ∀ b h' L' es' ep' t', Heap.SameBut a s.heap h' → TSet Z h' a L' es' ep' t' → (k ∈ L.map (·.2) → L' = L) → (k ∉ L.map (·.2) → L'.Perm ((x, k) :: L)) → Q b { s with heap := h' }) :
    wpAny (model P w) A (setAddHashed a (.ref x) (Z.kd.hash k)) Q E s := by
  obtain ⟨o, ho, hex, hd⟩ := R.ob
  have len := R.len
  have rm := R.room
  unfold setAddHashed
  rw [show (100000 : Nat) = 99999 + 1 from rfl, setAddHashedIn_succ]
  refine wpAny_holding (wpAny_bind (wpAny_setState_of ho hd R.fit (wp_if_neg (by simp [byScan, Value.scannable]) ?_)))
  refine wpAny_bind (seek0 R el hx hr (fun m => wpAny_pure (q false s.heap L es ep t (Heap.SameBut.refl a s.heap) R (fun _ => rfl) fun z => absurd m z)) fun K m hK hb => ?_)
  refine wpAny_bind (wpAny_setState_of ho hd R.fit ?_)
  obtain ⟨q1, q2, q3, q4, q5, _, _, _, q9⟩ := R.tab.put hK hb
  dsimp only
  generalize hput : t.put (way t.mask (Z.kd.hash k) K) = pt at q1 q3 q4 q5 q9 ⊢
  obtain ⟨t1, pl⟩ := pt
  dsimp only at q1 q3 q4 q5 q9 ⊢
  subst q1
  generalize SetTable.below t.place (way t.mask (Z.kd.hash k) K) = n at q2 q3 ⊢
  have pm := put_at L n (x, k)
  have hrows : (SetTable.insertAt es n (Z.kd.hash k, Value.ref x)).toList = (L.take n ++ (x, k) :: L.drop n).map Z.row := by
    rw [SetTable.toList_insertAt, R.rows, List.map_append, List.map_cons, List.map_take, List.map_drop]
  have htab : TabOk t1 (Z.hs (L.take n ++ (x, k) :: L.drop n)) := by
    have : Z.hs (L.take n ++ (x, k) :: L.drop n) = (Z.hs L).take n ++ Z.kd.hash k :: (Z.hs L).drop n := by
      show List.map _ _ = _
      rw [List.map_append, List.map_cons, List.map_take, List.map_drop]
    rw [this]
    exact q3
  have hnd : ((L.take n ++ (x, k) :: L.drop n).map (·.2)).Nodup := (pm.map (·.2)).nodup_iff.mpr (List.nodup_cons.mpr ⟨m, R.nd⟩)
  have len1 : (SetTable.insertAt es n (Z.kd.hash k, Value.ref x)).size = L.length + 1 := by
    rw [← Array.length_toList, hrows, List.length_map]
    exact pm.length_eq
  have pl1 : (L.take n ++ (x, k) :: L.drop n).length = L.length + 1 := pm.length_eq
  generalize SetTable.insertAt es n (Z.kd.hash k, Value.ref x) = es1 at hrows len1 ⊢
  generalize L.take n ++ (x, k) :: L.drop n = L1 at pm hrows htab hnd pl1
  have q9' : t1.fill = L.length + 1 := by rw [q9, List.length_map]
  -- whatever the flag «plain» comes to
  have rest : ∀ t3 : SetTable, t3.place = t1.place → t3.dummies = t1.dummies → t3.mask = t1.mask → t3.led = t1.led →
      wpAny (model P w) A (do
        storeSet a es1 t3
        if (!false && t3.tooFull) = true then setRelay a (SetTable.grown (es.size + 1))
        return true) Q E s := fun t3 e1 e2 e3 e4 => by
    have tab3 : TabOk t3 (Z.hs L1) := ⟨by rw [e1]; exact htab.ris, by rw [e2]; exact htab.dm, by rw [e1]; exact htab.sz, by rw [e3]; exact htab.mok, by rw [e1, e3]; exact htab.bd, by rw [e1, e3]; exact htab.reach⟩
    have led3 : w.params.followText "set-order" = true ∨ t3.led = true := by rw [e4, q5]; exact R.led
    have sz3 : t3.place.size = es1.size := by
      have := tab3.sz
      rw [List.length_map] at this
      rw [this, pl1, len1]
    have full : t3.tooFull = decide ((L.length + 1) * 5 ≥ t.mask * 3) := by
      have f3 : t3.fill = t1.fill := by unfold SetTable.fill; rw [e1, e2]
      unfold SetTable.tooFull
      rw [f3, q9', e3, q4]
    refine wpAny_bind (wpAny_storeSet_of ho hd ?_ (by rw [len1, sizeLine_eq]; omega))
    have ho1 := store_at (es' := es1) (t' := t3) ho hd
    have sb : Heap.SameBut a s.heap (s.heap.update a (Obj.putSet es1 t3)) := Heap.SameBut.update _ a _
    by_cases hf : (L.length + 1) * 5 ≥ t.mask * 3
    · have hcase : (t.mask = 7 ∧ L.length = 4) ∨ (t.mask = 31 ∧ L.length = 18) := by
        rcases R.tab.mok with e | e | e <;> rw [e] at hf rm <;> omega
      refine wp_if_pos (by rw [full]; simp [hf]) (wpAny_bind ?_)
      have go : ∀ M, SetTable.sizeAbove (SetTable.grown (L.length + 1)) - 1 = M → MaskOk M → SetTable.sizeAbove (SetTable.grown (L.length + 1)) ≤ 128 → (L.length + 1) * 5 < M * 3 →
          wpAny (model P w) A (setRelay a (SetTable.grown (es.size + 1))) (fun _ s' => wpAny (model P w) A (pure true) Q E s') E { s with heap := s.heap.update a (Obj.putSet es1 t3) } := fun M g1 g2 g3 g4 => by
        rw [len]
        refine relay (s := { s with heap := s.heap.update a (Obj.putSet es1 t3) }) ho1 hex rfl hrows sz3 tab3.dm ?_ hnd led3 (by rw [pl1]; exact few) g1 g2 g3 (by rw [pl1]; exact g4) fun h2 L2 es2 ep2 t2 sb2 R2 pm2 => ?_
        · rw [len1, e3, q4]
          rcases hcase with ⟨c1, c2⟩ | ⟨c1, c2⟩ <;> omega
        · exact wpAny_pure (q true h2 L2 es2 ep2 t2 (sb.trans sb2) R2 (fun z => absurd z m) fun _ => pm2.trans pm)
      rcases hcase with ⟨_, c⟩ | ⟨_, c⟩
      · exact go 31 (by rw [c, size_20]) (.inr (.inl rfl)) (by rw [c, size_20]; decide) (by omega)
      · exact go 127 (by rw [c, size_76]) (.inr (.inr rfl)) (by rw [c, size_76]; decide) (by omega)
    · have nf : ¬ (!false && t3.tooFull) = true := by rw [full]; simp [hf]
      show wpAny _ _ (if (!false && t3.tooFull) = true then _ else pure true) _ _ _
      rw [if_neg nf]
      refine wpAny_pure (q true _ L1 es1 (ep + 1) t3 sb ⟨⟨_, ho1, hex, rfl⟩, hrows, tab3, hnd, led3, ?_, by rw [pl1]; exact few⟩ (fun z => absurd z m) fun _ => pm)
      rw [pl1, e3, q4]
      omega
  split
  · refine wpAny_bind (Z.hbv hx fun r => ?_)
    cases r with
    | true => exact rest t1 rfl rfl rfl rfl
    | false => exact rest { t1 with plain := false } rfl rfl rfl rfl
  · exact wpAny_bind (wpAny_pure (rest t1 rfl rfl rfl rfl))
end
end Mini

/-! MINI, part R: set(..) of a list or a tuple. -/
namespace Mini
open PySem L2 PyProof.Rows
abbrev newSetO (w : World) : Obj := { cls := .type "set", dict := none, data := .set #[] 0 (.fresh 0 0 (!w.params.followText "set-order")) }
/-- a set that is filled item by item: γ what an item is, val its value, key what tells items apart -/
structure Fills (P : Program) (w : World) (h0 : Heap) (a : Addr) (γ κ : Type) (val : γ → Value) (key : γ → κ) (its : List γ) (S : Heap → List γ → Prop) : Prop where
  keep : ∀ {h h' : Heap} {L : List γ}, S h L → (∀ o, h.get? a = some o → h'.get? a = some o) → S h' L
  fresh : ∀ {h : Heap}, h.get? a = some (newSetO w) → S h []
  add : ∀ {A : Around} {E : Value → Shared → Prop} {s : Shared} {L : List γ} {g : γ} {Q : Bool → Shared → Prop}, A.units < cLine → (∀ b o, h0.get? b = some o → s.heap.get? b = some o) → S s.heap L → (∀ p ∈ L, p ∈ its) → L.length < its.length → g ∈ its →
    (∀ r h' tk L', Heap.SameBut a s.heap h' → s.toks ≤ tk → S h' L' → (key g ∈ L.map key → L' = L) → (key g ∉ L.map key → L'.Perm (g :: L)) → Q r { s with heap := h', toks := tk }) → wpAny (model P w) A (setAdd a (val g)) Q E s
/-- what the set has of the first i items -/
structure Has {γ κ : Type} (key : γ → κ) (its : List γ) (i : Nat) (L : List γ) : Prop where
  sub : ∀ p ∈ L, p ∈ its.take i
  all : ∀ p ∈ its.take i, key p ∈ L.map key
  nd : (L.map key).Nodup
theorem nodup_le {α : Type} : ∀ (l m : List α), l.Nodup → (∀ x ∈ l, x ∈ m) → l.length ≤ m.length
  | [], _, _, _ => Nat.zero_le _
  | x :: l, m, nd, sub => by
    obtain ⟨u, v, rfl⟩ := List.append_of_mem (sub x List.mem_cons_self)
    obtain ⟨nx, nd'⟩ := List.nodup_cons.mp nd
    have := nodup_le l (u ++ v) nd' fun y hy => by
      have hm := sub y (List.mem_cons_of_mem _ hy)
      rw [List.mem_append, List.mem_cons] at hm
      rw [List.mem_append]
      rcases hm with hm | rfl | hm
      · exact .inl hm
      · exact absurd hy nx
      · exact .inr hm
    simp only [List.length_append, List.length_cons] at this ⊢
    omega
theorem Has.len {γ κ : Type} {key : γ → κ} {its : List γ} {i : Nat} {L : List γ} (g : Has key its i L) : L.length ≤ i := by
  have nd : L.Nodup := List.Pairwise.of_map key (fun _ _ ne e => ne (congrArg key e)) g.nd
  have := nodup_le L _ nd g.sub
  rw [List.length_take] at this
  omega
theorem Has.zero {γ κ : Type} {key : γ → κ} {its : List γ} : Has key its 0 [] := ⟨(fun _ h => nomatch h), (fun _ h => by simp at h), List.nodup_nil⟩
theorem Has.next {γ κ : Type} {key : γ → κ} {its : List γ} {i : Nat} {L L' : List γ} {x : γ} (g : Has key its i L) (hx : its[i]? = some x) (h1 : key x ∈ L.map key → L' = L) (h2 : key x ∉ L.map key → L'.Perm (x :: L)) : Has key its (i + 1) L' := by
  have tk : its.take (i + 1) = its.take i ++ [x] := by rw [List.take_succ, hx]; rfl
  by_cases hm : key x ∈ L.map key
  · rw [h1 hm]
    refine ⟨fun p hp => by rw [tk]; exact List.mem_append_left _ (g.sub p hp), fun p hp => ?_, g.nd⟩
    rw [tk] at hp
    rcases List.mem_append.mp hp with hp | hp
    · exact g.all p hp
    · rw [List.mem_singleton.mp hp]; exact hm
  · have pm := h2 hm
    refine ⟨fun p hp => ?_, fun p hp => ?_, (pm.map key).nodup_iff.mpr (List.nodup_cons.mpr ⟨hm, g.nd⟩)⟩
    · rw [tk]
      rcases List.mem_cons.mp (pm.mem_iff.mp hp) with rfl | hp
      · exact List.mem_append_right _ (List.mem_singleton.mpr rfl)
      · exact List.mem_append_left _ (g.sub p hp)
    · rw [tk] at hp
      rw [(pm.map key).mem_iff, List.map_cons, List.mem_cons]
      rcases List.mem_append.mp hp with hp | hp
      · exact .inr (g.all p hp)
      · rw [List.mem_singleton.mp hp]; exact .inl rfl
section
variable {P : Program} {w : World} {A : Around} {E : Value → Shared → Prop} {a : Addr} {γ κ : Type} {val : γ → Value} {key : γ → κ} {its : List γ} {S : Heap → List γ → Prop} {h0 : Heap}
/-- the loop that fills -/
theorem fill_loop {I : Addr} {fp wr : List Addr} {G : Array GenState → Array GenState → Prop} {n : Nat} {Pv : Nat → Value → Prop} {St : Nat → Shared → Prop} {R : Result → Shared → Prop}
    (W : WalksS P w A.in1 I fp wr G n Pv St) (Z : Fills P w h0 a γ κ val key its S) (hn : n = its.length) (hv : ∀ i v, Pv i v → ∃ p, its[i]? = some p ∧ v = val p) (ha : a ∉ fp) (ha0 : h0.get? a = none) (hw0 : ∀ b ∈ wr, h0.get? b = none) (hu : A.in1.units < cLine) :
    ∀ (j i : Nat) (s : Shared), n - i = j → i ≤ n → St i s → (∀ b o, h0.get? b = some o → s.heap.get? b = some o) → (∃ L, S s.heap L ∧ Has key its i L) →
      (∀ s' L, Moved (a :: wr) G s s' → S s'.heap L → Has key its n L → (∀ b o, h0.get? b = some o → s'.heap.get? b = some o) → R (.ok (.ret .none)) s') → codeAny (model P w) A (.builtin "set.update.loop" ⟨[.ref a, .ref I], []⟩) R s := by
  have aw : a ∉ wr := fun z => ha (W.sub _ z)
  have up : ∀ {s s' : Shared}, Moved wr G s s' → (∀ b o, h0.get? b = some o → s.heap.get? b = some o) → ∀ b o, h0.get? b = some o → s'.heap.get? b = some o := fun mv kp b o e =>
    mv.heap b o (fun z => by rw [hw0 b z] at e; cases e) (kp b o e)
  intro j
  induction j with
  | zero =>
    rintro i s hj hi st kp ⟨L, hS, g⟩ q
    obtain rfl : i = n := by omega
    refine codeAny_builtin PyProof.Rows.F.entry_set_update_loop ?_
    rw [Around.under_plainId F.plain_set_update_loop _]
    refine wpAny_bind (W.done s _ _ st fun s' mv => ?_)
    exact wpAny_pure (q s' L (mv.mono fun b hb => List.mem_cons_of_mem _ hb) (Z.keep hS fun o e => mv.heap a o aw e) g (up mv kp))
  | succ j ih =>
    rintro i s hj hi st kp ⟨L, hS, g⟩ q
    have lt : i < n := by omega
    refine codeAny_builtin PyProof.Rows.F.entry_set_update_loop ?_
    rw [Around.under_plainId F.plain_set_update_loop _]
    refine wpAny_bind (W.item i s _ _ lt st fun v s' pv st' mv => ?_)
    obtain ⟨p, hp, rfl⟩ := hv i v pv
    have kp' := up mv kp
    have hl := g.len
    refine wpAny_bind (wpAny_holding (Z.add hu kp' (Z.keep hS fun o e => mv.heap a o aw e) (fun p hp => List.mem_of_mem_take (g.sub p hp)) (by omega) (List.mem_of_getElem? hp) fun r h' tk L' sb htk hS' c1 c2 => ?_))
    have kp2 : ∀ b o, h0.get? b = some o → h'.get? b = some o := fun b o e => (sb.2 b (fun z => by rw [z, ha0] at e; cases e)).trans (kp' b o e)
    refine wpAny_pure ⟨plainId_quiet F.plain_set_update_loop _, ih (i + 1) _ (by omega) lt (W.frame _ s' _ _ st' htk fun b hb o e => ?_) kp2 ⟨L', hS', g.next hp c1 c2⟩ fun s'' L2 mv2 hS2 g2 kp3 => ?_⟩
    · exact (sb.2 b (fun z : b = a => ha (by rw [← z]; exact hb))).trans e
    · refine q s'' L2 (Moved.trans W.gtrans ((mv.mono fun b hb => List.mem_cons_of_mem _ hb).then_heap htk fun b o hb e => ?_) mv2) hS2 g2 kp3
      exact (sb.2 b (fun z : b = a => hb (by rw [z]; exact List.mem_cons_self))).trans e
theorem none_above {h : Heap} {b : Addr} (hb : h.objs.size ≤ b) : h.get? b = none := by
  cases e : h.get? b with
  | none => rfl
  | some o => exact absurd (Nat.lt_of_lt_of_le (Heap.lt_size e) hb) (Nat.lt_irrefl _)
/-- a sequence whose items a set is made of -/
structure Src (P : Program) (w : World) (h0 : Heap) (l : Addr) (items : Array Value) (T : String) (itO : Obj) (St : Addr → Nat → Heap → Prop) : Prop where
  ob : ∃ o : Obj, h0.get? l = some o ∧ o.cls = .type T
  sub1 : isSubtype (.type T) (.type "set") = pure false
  sub2 : isSubtype (.type T) (.type "frozenset") = pure false
  dic : (Value.type T == Value.type "dict") = false
  iter : ∀ {A : Around} {E : Value → Shared → Prop} {s : Shared} {Q : Value → Shared → Prop}, (∀ o, h0.get? l = some o → s.heap.get? l = some o) → Q (.ref s.heap.objs.size) { s with heap := s.heap.push itO } → wpAny (model P w) A (pyIter (.ref l)) Q E s
  free : itO.isFreed = false
  start : ∀ {h : Heap} {I : Addr}, (∀ o, h0.get? l = some o → h.get? l = some o) → h.get? I = some itO → St I 0 h
  walk : ∀ {A : Around} {I : Addr}, A.handled = none → l ≠ I → Walks P w A I [I, l] [I] items.size (fun i v => items[i]? = some v) (St I)
/-- set(x) -/
theorem set_made {s : Shared} {l : Addr} {items : Array Value} {T : String} {itO : Obj} {St : Addr → Nat → Heap → Prop} {Q : Value → Shared → Prop} (X : Src P w s.heap l items T itO St) (Z : Fills P w s.heap s.heap.objs.size γ κ val key its S) (hit : items.toList = its.map val)
    (hh : A.handled = none) (hu : A.units + 3 < cLine)
    (q : ∀ (h' : Heap) (tk : Nat) L, S h' L → Has key its its.length L → (∀ b o, s.heap.get? b = some o → h'.get? b = some o) → Q (.ref s.heap.objs.size) { s with heap := h', toks := tk }) :
    wpAny (model P w) A (call (.type "set") [.ref l]) Q E s := by
  have isz : items.size = its.length := by rw [← Array.length_toList, hit, List.length_map]
  obtain ⟨c, tl, hmro⟩ := F.called_set.mro
  have hmade := F.called_set.made
  have hsub := F.called_set.sub
  refine wpAny_call (codeAny_of_tree ?_)
  show wpAny _ _ (callAny (.type "set") _) _ _ _
  refine wpAny_pure ⟨Code.quiet_builtin _ (by decide +kernel),
    codeAny_builtin F.entry_type_call ?_⟩
  rw [Around.under_plain (weight_type_call_type "set" [.ref l] []) rfl]
  have h1 := F.called_set.notType
  have h2 := F.called_set.canCreate
  have hct := F.typeCall_set_1 (.ref l)
  repeat (any_goals (first | assumption | wp_step))
  refine codeAny_mono (code_set_led1 (.ref l) (E := E) (Q₁ := fun ob s1 => ob = .ref s.heap.objs.size ∧ s1 = { s with heap := s.heap.push (newSetO w) }) ⟨rfl, rfl⟩) fun r s1 hr => ?_
  match r, hr with
  | .error e, hr => exact hr
  | .ok .next, hr => exact hr.elim
  | .ok .brk, hr => exact hr.elim
  | .ok .cont, hr => exact hr.elim
  | .ok (.ret ob), hr =>
    obtain ⟨rfl, rfl⟩ := hr
    have at1 : (s.heap.push (newSetO w)).get? s.heap.objs.size = some (newSetO w) := Heap.get?_push_size _ rfl
    have hT : Shared.TypeIs { s with heap := s.heap.push (newSetO w) } (.ref s.heap.objs.size) "set" := ⟨_, at1, rfl⟩
    have hli := F.called_set.init.lookup
    have hbi := F.called_set.init.bind (.ref s.heap.objs.size)
    repeat (any_goals (first | assumption | wp_step))
    refine codeAny_mono (codeAny_call_builtin (R := wants (fun r s2 => r = .none ∧ ∃ h' tk L, s2 = { s with heap := h', toks := tk } ∧ S h' L ∧ Has key its its.length L ∧ ∀ b o, s.heap.get? b = some o → h'.get? b = some o) E)
      F.called_set.init.plain F.entry_set_init (check_set_init_1 hT ?_)) fun r2 s2 hr2 => ?_
    · obtain ⟨⟨oc, od, ox, os⟩, ho, hoc⟩ := X.ob
      obtain rfl : oc = .type T := hoc
      have hol : (s.heap.push (newSetO w)).get? l = some ⟨.type T, od, ox, os⟩ := Heap.get?_push_of_some _ ho
      have e1 := X.sub1
      have e2 := X.sub2
      have e3 := X.dic
      unfold Builtin.«set.__init__» noKeywords Builtin.Frozenset.updateFrom
      generalize hPI : pyIter = PI
      wp_walk
      subst hPI
      have keepL : ∀ o, s.heap.get? l = some o → (s.heap.push (newSetO w)).get? l = some o := fun o e => Heap.get?_push_of_some _ e
      refine X.iter keepL (wpAny_bind (wpAny_runValue ?_))
      have lt : l < s.heap.objs.size := Heap.lt_size ho
      have sz : (s.heap.push (newSetO w)).objs.size = s.heap.objs.size + 1 := Heap.size_push ..
      have up : ∀ b o, s.heap.get? b = some o → ((s.heap.push (newSetO w)).push itO).get? b = some o := fun b o e => Heap.get?_push_of_some _ (Heap.get?_push_of_some _ e)
      refine fill_loop ((X.walk (A := _) (by simp [hh]) (by rw [sz]; exact Nat.ne_of_lt (Nat.lt_succ_of_lt lt))).toS) Z isz (fun i v hv => ?_) ?_ (none_above (Nat.le_refl _)) (fun b hb => none_above ?_) hu (items.size - 0) 0 _ (by omega) (Nat.zero_le _)
        (X.start (fun o e => up l o e) (Heap.get?_push_size _ X.free)) up ⟨[], Z.fresh (Heap.get?_push_of_some _ at1), .zero⟩ fun s3 L mv hS g kp => ?_
      · have z : items.toList[i]? = some v := by rw [Array.getElem?_toList]; exact hv
        rw [hit, List.getElem?_map] at z
        obtain ⟨p, z1, z2⟩ := Option.map_eq_some_iff.mp z
        exact ⟨p, z1, z2.symm⟩
      · rw [sz]
        simp only [List.mem_cons, List.not_mem_nil, or_false, not_or]
        exact ⟨Nat.ne_of_lt (Nat.lt_succ_self _), Nat.ne_of_gt lt⟩
      · rw [List.mem_singleton.mp hb, sz]
        exact Nat.le_succ _
      · obtain ⟨h3, g3, d3, t3, o3⟩ := s3
        obtain rfl : g3 = s.gens := mv.gens
        obtain rfl : d3 = s.drawn := mv.drawn
        obtain rfl : o3 = s.os := mv.os
        rw [isz] at g
        exact wpAny_pure (wpAny_pure ⟨rfl, h3, t3, L, rfl, hS, g, kp⟩)
    · match r2, hr2 with
      | .error e, hr2 => exact hr2
      | .ok .next, hr2 => exact hr2.elim
      | .ok .brk, hr2 => exact hr2.elim
      | .ok .cont, hr2 => exact hr2.elim
      | .ok (.ret r), hr2 =>
        obtain ⟨rfl, h', tk, L, rfl, hS, g, kp⟩ := hr2
        repeat (any_goals (first | assumption | wp_step))
        exact q _ _ _ hS g kp
end
end Mini

/-! MINI, part S: sorted(set(..)). -/
namespace Mini
open PySem L2 PyProof.Rows PySem.W
section
variable {P : Program} {w : World} {h0 : Heap} {l : Addr} {items : Array Value}
theorem sub_tup_set : isSubtype (.type "tuple") (.type "set") = pure false := by rw [isSubtype_type]; kernel_rfl
theorem sub_tup_fz : isSubtype (.type "tuple") (.type "frozenset") = pure false := by rw [isSubtype_type]; kernel_rfl
theorem src_list (hl : h0.IsList l items) : Src P w h0 l items "list" { cls := .type "list_iterator", data := .fields #[.ref l, .int 0 0] } (fun I i h => h.IsListIter I l i ∧ h.IsList l items) where
  ob := let ⟨o, e, c, _⟩ := hl; ⟨o, e, c⟩
  sub1 := F.sub_list_set
  sub2 := F.sub_list_frozenset
  dic := rfl
  iter := fun k q => wpAny_pyIter_list (hl.at fun o e => k o e) q
  free := rfl
  start := fun k e => ⟨⟨_, e, rfl, rfl⟩, hl.at fun o z => k o z⟩
  walk := fun hh ne => Walks.list hh _ l ne items
theorem src_tup (hl : h0.IsTuple l items) : Src P w h0 l items "tuple" { cls := .type "tuple_iterator", data := .fields #[.ref l, .int 0 0] } (fun I i h => h.IsTupleIter I l i ∧ h.IsTuple l items) where
  ob := let ⟨o, e, c, _⟩ := hl; ⟨o, e, c⟩
  sub1 := sub_tup_set
  sub2 := sub_tup_fz
  dic := rfl
  iter := fun k q => wpAny_pyIter_tuple (hl.at fun o e => k o e) q
  free := rfl
  start := fun k e => ⟨⟨_, e, rfl, rfl⟩, hl.at fun o z => k o z⟩
  walk := fun hh ne => Walks.tuple hh _ l ne items
/-! ### tuples of ints and texts -/
theorem keyed {k : List Key} {vs : List Value} (h : ItemsAre (mixKind P w) k vs) : ∀ v ∈ vs, (∃ i t, v = Value.int i t) ∨ ∃ x t, v = Value.str x t := by
  induction h with
  | nil => exact fun v m => nomatch m
  | @cons k0 u ks us e _ ih =>
    intro v m
    rcases List.mem_cons.mp m with rfl | m
    · rcases keyIs_shape e with ⟨i, t, _, z⟩ | ⟨x, t, _, z⟩
      · exact .inl ⟨i, t, z⟩
      · exact .inr ⟨x, t, z⟩
    · exact ih v m
def tupEl (P : Program) (w : World) : SetEl P w (List Key) where
  kd := tupleKind (mixKind P w)
  grow := fun h k => let ⟨o, its, n, e, r⟩ := h; ⟨o, its, n, k _ o e, r⟩
  cls := by
    intro A E s b x Q hb q
    have ty := IsTupleKey.typeIs (knd := mixKind P w) hb
    obtain ⟨o, its, n, ho, _, hd, hi⟩ := hb
    unfold ofAClassStatement
    refine wpAny_bind (wpAny_typeOf ty ?_)
    dsimp only
    have e : (("tuple" : String) == "tuple") = true := rfl
    simp only [e, if_true, Bool.not_true, Bool.false_eq_true, if_false]
    try refine wpAny_bind (wpAny_pure ?_)
    try simp only [Bool.not_true, Bool.false_eq_true, if_false]
    show wpAny _ _ (seqItems? (.ref x) >>= _) _ _ s
    refine wpAny_bind (wpAny_seqItems ho hd (wpAny_bind ?_))
    show wpAny _ _ (forIn its _ _) _ _ s
    rw [← Array.forIn_toList]
    refine wpAny_forIn_list _ (fun l z s' => z.1 = none ∧ s' = s ∧ ∀ v ∈ l, (∃ i t, v = Value.int i t) ∨ ∃ x t, v = Value.str x t) _ ?_ ?_ _ _ ⟨rfl, rfl, keyed hi⟩
    · rintro v l z s' ⟨z0, rfl, all⟩
      have no : ofAClassStatement 7 v = pure false := by
        rcases all v List.mem_cons_self with ⟨i, t, rfl⟩ | ⟨y, t, rfl⟩ <;> rfl
      rw [no]
      refine wpAny_bind (wpAny_pure ?_)
      simp only [Bool.false_eq_true, if_false]
      exact wpAny_pure ⟨rfl, rfl, fun u hu => all u (List.mem_cons_of_mem _ hu)⟩
    · rintro ⟨z1, z2⟩ s' ⟨z0, rfl, _⟩
      obtain rfl : z1 = none := z0
      exact wpAny_pure q
  hbv := by
    intro A E s b x Q hb q
    have ty := IsTupleKey.typeIs (knd := mixKind P w) hb
    obtain ⟨o, its, n, ho, _, hd, hi⟩ := hb
    unfold hashByValue
    refine wpAny_bind (wpAny_specialOf ty PySem.F.slot_tuple_hash.lookup ?_)
    show wpAny _ _ (seqItems? (.ref x) >>= _) _ _ s
    refine wpAny_bind (wpAny_seqItems ho hd (wpAny_bind ?_))
    show wpAny _ _ (forIn its _ _) _ _ s
    rw [← Array.forIn_toList]
    refine wpAny_forIn_list _ (fun l z s' => s' = s ∧ z.1 = none ∧ ∀ v ∈ l, (∃ i t, v = Value.int i t) ∨ ∃ x t, v = Value.str x t) _ ?_ ?_ _ _ ⟨rfl, rfl, keyed hi⟩
    · rintro v l z s' ⟨rfl, z0, all⟩
      have more := fun u hu => all u (List.mem_cons_of_mem _ hu)
      rcases all v List.mem_cons_self with ⟨i, t, rfl⟩ | ⟨y, t, rfl⟩
      · rw [show hashByValue 7 (.int i t) = pure true from rfl]
        refine wpAny_bind (wpAny_pure ?_)
        simp only [Bool.not_true, Bool.false_eq_true, if_false]
        exact wpAny_pure ⟨rfl, rfl, more⟩
      · rw [show hashByValue 7 (.str y t) = pure false from rfl]
        refine wpAny_bind (wpAny_pure ?_)
        simp only [Bool.not_false, if_true]
        exact wpAny_pure (wpAny_pure (q _))
    · rintro ⟨z1, z2⟩ s' ⟨rfl, z0, _⟩
      obtain rfl : z1 = none := z0
      exact wpAny_pure (q _)
theorem led_new (w : World) : w.params.followText "set-order" = true ∨ (SetTable.fresh 0 0 (!w.params.followText "set-order")).led = true := by
  cases e : w.params.followText "set-order" with
  | true => exact .inl rfl
  | false => exact .inr rfl
abbrev tupS (P : Program) (w : World) (a : Addr) : Heap → List (Addr × List Key) → Prop := fun h L => ∃ es ep t, TSet (tupEl P w) h a L es ep t
theorem fills_tup {a : Addr} {its : List (Addr × List Key)} (hel : ∀ p ∈ its, (tupEl P w).kd.is h0 p.2 p.1) (few : its.length < 64) : Fills P w h0 a (Addr × List Key) (List Key) (fun p => .ref p.1) (·.2) its (tupS P w a) where
  keep := by
    rintro h h' L ⟨es, ep, t, R⟩ k
    obtain ⟨o, ho, r⟩ := R.ob
    exact ⟨es, ep, t, ⟨o, k o ho, r⟩, R.rows, R.tab, R.nd, R.led, R.room, R.few⟩
  fresh := fun e => ⟨#[], 0, _, ⟨_, e, ⟨rfl, rfl, rfl⟩, rfl⟩, rfl, ⟨List.Pairwise.nil, rfl, rfl, .inl rfl, (fun x m => nomatch m), (fun i h j z => by simp at z)⟩, List.nodup_nil, led_new w, (by show 0 * 5 < 7 * 3; decide), (by show 0 < 64; decide)⟩
  add := by
    rintro A E s L g Q hu kp ⟨es, ep, t, R⟩ sub lt hg q
    have up : ∀ p ∈ its, (tupEl P w).kd.is s.heap p.2 p.1 := fun p hp => (tupEl P w).grow (hel p hp) kp
    unfold setAdd
    refine wpAny_holding (wpAny_bind ((tupEl P w).kd.pyHash hu (up g hg) ?_))
    refine put_in (Z := tupEl P w) (s := { s with toks := s.toks + (tupEl P w).kd.draws g.2 }) R (fun p hp => up p (sub p hp)) (up g hg) hu (by omega) fun b h' L' es' ep' t' sb R' c1 c2 => ?_
    exact q b h' _ L' sb (Nat.le_add_right _ _) ⟨es', ep', t', R'⟩ c1 c2
/-! ### texts (and ints): found by looking at all -/
def keyVal : Value → Key
  | .int i _ => .inl i
  | .str x _ => .inr x
  | _ => .inl 0
theorem keyVal_is {k : Key} {v : Value} (h : keyIs k v = true) : keyVal v = k ∧ v.scannable = true := by
  rcases keyIs_shape h with ⟨i, t, rfl, rfl⟩ | ⟨x, t, rfl, rfl⟩
  · exact ⟨rfl, rfl⟩
  · exact ⟨rfl, rfl⟩
def rowGood (w : World) (e : Int × Value) : Prop := keyIs (keyVal e.2) e.2 = true ∧ e.1 = keyH w (keyVal e.2)
def scanS (P : Program) (w : World) (a : Addr) : Heap → List (Value × Key) → Prop := fun h L => ∃ o es ep t, h.get? a = some o ∧ o.ExactSet ∧ o.data = .set es ep t ∧ L = es.toList.map (fun e => (e.2, keyVal e.2)) ∧ (∀ e ∈ es.toList, rowGood w e) ∧
  (L.map (·.2)).Nodup ∧ es.size < scanBound ∧ t.fits es.size = true ∧ Ris t.place.toList ∧ (w.params.followText "set-order" = true ∨ t.led = true)
theorem good_elemsOf {es : List (Int × Value)} (g : ∀ e ∈ es, rowGood w e) : ElemsOf (mixKind P w) es := fun e he => ⟨⟨_, (g e he).1, (g e he).2⟩, (keyVal_is (g e he).1).2⟩
theorem scan_tail {A : Around} {E : Value → Shared → Prop} {s : Shared} {a : Addr} {g : Bool → Sem Unit} (hg : ∀ (b : Bool) (s1 : Shared) (Q' : Unit → Shared → Prop), Q' () s1 → wpAny (model P w) A (g b) Q' E s1)
    {o : Obj} {es : Array (Int × Value)} {ep : Nat} {t : SetTable} (ho : s.heap.get? a = some o) (hex : o.ExactSet) (hd : o.data = .set es ep t)
    {es1 : Array (Int × Value)} {t2 : SetTable} {M : List (Value × Key)} (gd : ∀ e ∈ es1.toList, rowGood w e) (nd : (es1.toList.map fun e => keyVal e.2).Nodup) (pm : (es1.toList.map fun e => (e.2, keyVal e.2)).Perm M)
    (hb : es1.size < scanBound) (hf : t2.fits es1.size = true) (hr : Ris t2.place.toList) (hl : w.params.followText "set-order" = true ∨ t2.led = true) {wasDummy : Bool} {R : Option Bool → Shared → Prop}
    (q : ∀ h' L, Heap.SameBut a s.heap h' → scanS P w a h' L → L.Perm M → R (some true) { s with heap := h' }) :
    wpAny (model P w) A (do
        storeSet a es1 t2
        if (!wasDummy && t2.tooFull) = true then do
            g (relayAll t2 es1 (SetTable.grown es1.size)).2.2
            storeSet a (relayAll t2 es1 (SetTable.grown es1.size)).1 (relayAll t2 es1 (SetTable.grown es1.size)).2.1
            pure (some true)
          else pure (some true)) R E s := by
  have mk : ∀ {h' : Heap} {ob : Obj} {es2 : Array (Int × Value)} {e2 : Nat} {t3 : SetTable}, h'.get? a = some ob → ob.ExactSet → ob.data = .set es2 e2 t3 → es2.toList.Perm es1.toList → t3.fits es2.size = true → Ris t3.place.toList → t3.led = t2.led → scanS P w a h' (es2.toList.map fun e => (e.2, keyVal e.2)) :=
    fun {h' ob es2 e2 t3} h1 h2 h3 p f r l => by
      refine ⟨ob, es2, e2, t3, h1, h2, h3, rfl, fun e he => gd e (p.mem_iff.mp he), ?_, ?_, f, r, by rw [l]; exact hl⟩
      · rw [List.map_map]
        exact (p.map fun e => keyVal e.2).nodup_iff.mpr nd
      · rw [← Array.length_toList, p.length_eq, Array.length_toList]; exact hb
  have ho1 := store_at (es' := es1) (t' := t2) ho hd
  have sb1 := Heap.SameBut.update s.heap a (Obj.putSet es1 t2)
  refine wpAny_bind (wpAny_storeSet_of ho hd ?_ (fits_of_scanBound hb))
  split
  · have p2 := relayAll_perm t2 es1 (SetTable.grown es1.size)
    have f2 := relayAll_fits t2 es1 (SetTable.grown es1.size)
    have r2 := relayAll_ris t2 es1 (SetTable.grown es1.size)
    have l2 := relayAll_led t2 es1 (SetTable.grown es1.size)
    revert p2 f2 r2 l2
    generalize relayAll t2 es1 (SetTable.grown es1.size) = Y
    obtain ⟨es2, t3, gv⟩ := Y
    intro p2 f2 r2 l2
    dsimp only at p2 f2 r2 l2 ⊢
    have hb2 : es2.size < scanBound := by rw [← Array.length_toList, p2.length_eq, Array.length_toList]; exact hb
    refine wpAny_bind (hg _ _ _ (wpAny_bind (wpAny_storeSet_of ho1 rfl (wpAny_pure ?_) (fits_of_scanBound hb2))))
    exact q _ _ (sb1.trans (Heap.SameBut.update _ a _)) (mk (store_at (es' := es2) (t' := t3) ho1 rfl) hex rfl p2 f2 r2 l2) ((p2.map _).trans pm)
  · exact wpAny_pure (q _ _ sb1 (mk ho1 hex rfl .rfl hf hr rfl) pm)
theorem fills_txt {a : Addr} {its : List (Value × Key)} (hel : ∀ p ∈ its, keyIs p.2 p.1 = true) (few : its.length < scanBound) : Fills P w h0 a (Value × Key) Key (·.1) (·.2) its (scanS P w a) where
  keep := by
    rintro h h' L ⟨o, es, ep, t, ho, r⟩ k
    exact ⟨o, es, ep, t, k o ho, r⟩
  fresh := fun e => ⟨_, #[], 0, _, e, ⟨rfl, rfl, rfl⟩, rfl, rfl, (fun x m => nomatch m), List.nodup_nil, (by decide), (by rfl), List.Pairwise.nil, led_new w⟩
  add := by
    rintro A E s L g Q hu kp ⟨o, es, ep, t, ho, hex, hd, rfl, gd, nd, hb, hf, hr, hl⟩ sub lt hg q
    have hk := hel g hg
    obtain ⟨kv, sc⟩ := keyVal_is hk
    rw [List.map_map] at nd
    rw [List.length_map, Array.length_toList] at lt
    have eo := good_elemsOf (P := P) gd
    unfold setAdd
    refine wpAny_holding (wpAny_bind ((mixKind P w).pyHash hk ?_))
    unfold setAddHashed
    rw [show (100000 : Nat) = 99999 + 1 from rfl, setAddHashedIn_succ]
    refine wpAny_holding (wpAny_bind (wpAny_setState_of ho hd hf (wp_if_pos (byScan_of sc hb eo) ?_)))
    unfold setAddByScan
    refine wpAny_bind (wpAny_bind (wpAny_rule (wpAny_bind (wpAny_setScan_of hk ho hd hf eo ?_))))
    have isk : ∀ e ∈ es.toList, ((mixKind P w).is g.2 e.2 = true ↔ keyVal e.2 = g.2) := fun e he => by
      constructor
      · intro z; exact (keyVal_is z).1
      · intro z; rw [← z]; exact (gd e he).1
    cases hfi : List.findIdx? (fun e => (mixKind P w).is g.2 e.2) es.toList with
    | some j =>
      obtain ⟨hj, pj, _⟩ := List.findIdx?_eq_some_iff_getElem.mp hfi
      have hm : g.2 ∈ (es.toList.map fun e => (e.2, keyVal e.2)).map (·.2) := by
        rw [List.map_map]
        exact List.mem_map.mpr ⟨es.toList[j], List.getElem_mem hj, (isk _ (List.getElem_mem hj)).mp pj⟩
      refine wpAny_pure (wpAny_pure (q false s.heap (s.toks + 1) _ (Heap.SameBut.refl a s.heap) (Nat.le_succ _) ⟨o, es, ep, t, ho, hex, hd, rfl, gd, by rw [List.map_map]; exact nd, hb, hf, hr, hl⟩ (fun _ => rfl) fun z => absurd hm z))
    | none =>
      have hm : g.2 ∉ (es.toList.map fun e => (e.2, keyVal e.2)).map (·.2) := fun z => by
        rw [List.map_map] at z
        obtain ⟨e, he, ek⟩ := List.mem_map.mp z
        have c := List.findIdx?_eq_none_iff.mp hfi e he
        rw [(isk e he).mpr ek] at c
        cases c
      have pm := layNew_perm t es ((mixKind P w).hash g.2) g.1
      have f1 := layNew_fits t es ((mixKind P w).hash g.2) g.1
      have r1 := layNew_ris t es ((mixKind P w).hash g.2) g.1 hr
      have l1 := layNew_led t es ((mixKind P w).hash g.2) g.1
      dsimp only
      revert pm f1 r1 l1
      generalize layNew t es ((mixKind P w).hash g.2) g.1 = Y
      obtain ⟨es1, t1, wd, gv⟩ := Y
      intro pm f1 r1 l1
      dsimp only at pm f1 r1 l1 ⊢
      rw [Array.toList_push] at pm
      have pc : es1.toList.Perm (((mixKind P w).hash g.2, g.1) :: es.toList) := pm.trans (List.perm_append_singleton _ _)
      have gd1 : ∀ e ∈ es1.toList, rowGood w e := fun e he => by
        rcases List.mem_cons.mp (pc.mem_iff.mp he) with rfl | z
        · exact ⟨by rw [kv]; exact hk, by rw [kv]; rfl⟩
        · exact gd e z
      have pk : (es1.toList.map fun e => (e.2, keyVal e.2)).Perm (g :: es.toList.map fun e => (e.2, keyVal e.2)) := by
        have := pc.map fun e => (e.2, keyVal e.2)
        rw [List.map_cons, kv] at this
        exact this
      have nd1 : (es1.toList.map fun e => keyVal e.2).Nodup := by
        have z := (pk.map (·.2)).nodup_iff.mpr (List.nodup_cons.mpr ⟨hm, by rw [List.map_map]; exact nd⟩)
        rw [List.map_map] at z
        exact z
      have sz1 : es1.size = es.size + 1 := by rw [← Array.length_toList, pc.length_eq, List.length_cons, Array.length_toList]
      have hb1 : es1.size < scanBound := by omega
      have ld1 : w.params.followText "set-order" = true ∨ t1.led = true := by rw [l1]; exact hl
      have gw : ∀ (b : Bool) (s1 : Shared) (Q' : Unit → Shared → Prop), Q' () s1 → wpAny (model P w) A (match b with | true => rule "set.scan.the-table-gave-way" | false => pure ()) Q' E s1 := fun b s1 Q' z => by
        cases b
        · exact wpAny_pure z
        · exact wpAny_rule z
      have fin : ∀ h' L, Heap.SameBut a s.heap h' → scanS P w a h' L → L.Perm (g :: es.toList.map fun e => (e.2, keyVal e.2)) → Q true { s with heap := h', toks := s.toks + 1 } := fun h' L sb hS p =>
        q true h' _ L sb (Nat.le_succ _) hS (fun z => absurd z hm) fun _ => p
      refine wpAny_bind (gw _ _ _ ?_)
      split
      · rw [hashByValue_scannable 8 sc]
        refine wpAny_bind (wpAny_pure ?_)
        refine scan_tail (s := { s with toks := s.toks + 1 }) gw ho hex hd gd1 nd1 pk hb1 ?_ ?_ ?_ fun h' L sb hS p => wpAny_pure (fin h' L sb hS p)
        · split
          · exact f1
          · exact SetTable.fits_plain_off f1
        · split <;> exact r1
        · split <;> exact ld1
      · refine wpAny_bind (wpAny_pure ?_)
        exact scan_tail (s := { s with toks := s.toks + 1 }) gw ho hex hd gd1 nd1 pk hb1 f1 r1 ld1 fun h' L sb hS p => wpAny_pure (fin h' L sb hS p)
end
end Mini

/-! MINI, part T: the order of data; sorted(set(..)). -/
namespace Mini
open PySem L2 PyProof.Rows PySem.W
/-! ### the order -/
theorem leD_refl (f : D → PyData) (a : D) : dataLe false f a a = true := by
  show (!dataLt (f a) (f a)) = true
  unfold dataLt
  rw [lex_irrefl]; rfl
theorem leD_trans (f : D → PyData) (a b c : D) (h1 : dataLe false f a b = true) (h2 : dataLe false f b c = true) : dataLe false f a c = true := by
  have h1 : (!dataLt (f b) (f a)) = true := h1
  have h2 : (!dataLt (f c) (f b)) = true := h2
  show (!dataLt (f c) (f a)) = true
  unfold dataLt at *
  simp only [Bool.not_eq_true'] at h1 h2 ⊢
  apply Bool.eq_false_iff.mpr
  intro h
  rcases lex_negTrans _ (keyToks (f b)) _ h with z | z
  · rw [z] at h2; cases h2
  · rw [z] at h1; cases h1
theorem leD_total (f : D → PyData) (a b : D) : (dataLe false f a b || dataLe false f b a) = true := by
  show ((!dataLt (f b) (f a)) || !dataLt (f a) (f b)) = true
  unfold dataLt
  cases h : PyProof.Rows.lexLt itemOrd (keyToks (f b)) (keyToks (f a)) with
  | false => rfl
  | true =>
    cases h2 : PyProof.Rows.lexLt itemOrd (keyToks (f a)) (keyToks (f b)) with
    | false => rfl
    | true =>
      have := lex_trans _ _ _ h h2
      rw [lex_irrefl] at this
      cases this
theorem leD_anti (f : D → PyData) {a b : D} (h1 : dataLe false f a b = true) (h2 : dataLe false f b a = true) : keyToks (f a) = keyToks (f b) := by
  have h1 : (!dataLt (f b) (f a)) = true := h1
  have h2 : (!dataLt (f a) (f b)) = true := h2
  unfold dataLt at *
  simp only [Bool.not_eq_true'] at h1 h2
  exact lex_total _ _ h2 h1
/-- two sequences of the same items sort alike -/
theorem sort_perm (f : D → PyData) {xs ys : List D} (p : xs.Perm ys) (inj : ∀ a ∈ xs, ∀ b ∈ xs, keyToks (f a) = keyToks (f b) → a = b) : xs.mergeSort (dataLe false f) = ys.mergeSort (dataLe false f) := by
  have p1 := List.mergeSort_perm xs (dataLe false f)
  have p2 := List.mergeSort_perm ys (dataLe false f)
  refine List.Perm.eq_of_pairwise (le := fun a b => dataLe false f a b = true) (fun a b ha hb h1 h2 => ?_) (List.pairwise_mergeSort (leD_trans f) (leD_total f) xs) (List.pairwise_mergeSort (leD_trans f) (leD_total f) ys) (p1.trans (p.trans p2.symm))
  exact inj a (p1.mem_iff.mp ha) b (p.symm.mem_iff.mp (p2.mem_iff.mp hb)) (leD_anti f h1 h2)
/-! ### keys -/
theorem keyOf_eq {d : D} {k : Key} (e : keyOf d = some k) : d = kD k := by
  cases d <;> simp only [keyOf] at e <;> cases e <;> rfl
theorem keysOf_eq : ∀ {ds : List D} {ks : List Key}, keysOf ds = some ks → ds = ks.map kD
  | [], _, e => by rw [keysOf] at e; cases e; rfl
  | d :: ds, _, e => by
    rw [keysOf] at e
    obtain ⟨k, e1, e⟩ := Option.bind_eq_some_iff.mp e
    obtain ⟨ks, e2, e⟩ := Option.map_eq_some_iff.mp e
    subst e
    rw [keyOf_eq e1, keysOf_eq e2]; rfl
theorem tkeyOf_eq {d : D} {k : List Key} (e : tkeyOf d = some k) : d = tkD k := by
  cases d <;> simp only [tkeyOf] at e <;> try cases e
  rw [keysOf_eq e]; rfl
theorem keyOf_kD (k : Key) : keyOf (kD k) = some k := by cases k <;> rfl
theorem keysOf_map : ∀ ks : List Key, keysOf (ks.map kD) = some ks
  | [] => rfl
  | k :: ks => by rw [List.map_cons, keysOf, keyOf_kD, keysOf_map ks]; rfl
theorem tkeyOf_tkD (ks : List Key) : tkeyOf (tkD ks) = some ks := keysOf_map ks
/-- what an int, a text, a tuple of such reads as -/
def kP : Key → PyData
  | .inl i => .int i
  | .inr x => .str x
theorem dP_kD (g : Nat → Option PyData) (k : Key) : dP g (kD k) = some (kP k) := by cases k <;> rfl
theorem dPs_kD (g : Nat → Option PyData) : ∀ ks : List Key, dPs g (ks.map kD) = some (ks.map kP)
  | [] => rfl
  | k :: ks => by rw [List.map_cons, dPs, dP_kD, dPs_kD g ks]; rfl
theorem enc_kD (S : Store) (k : Key) : encD S (kD k) = kP k := encD_of (dP_kD _ k)
theorem enc_tkD (S : Store) (ks : List Key) : encD S (tkD ks) = .tuple (ks.map kP) := encD_of (by unfold toP tkD; rw [dP, dPs_kD]; rfl)
theorem str_toks {x y : Str} (h : x.cps.toList = y.cps.toList) : x = y := by
  cases x; cases y
  simp only at h
  rw [Array.toList_inj.mp h]
theorem toks_kP {k j : Key} (h : keyToks (kP k) = keyToks (kP j)) : k = j := by
  cases k <;> cases j <;> simp only [kP, keyToks, List.cons.injEq, Sum.inl.injEq, Sum.inr.injEq, and_true, reduceCtorEq] at h
  · rw [h]
  · rw [str_toks h]
theorem toks_kPs : ∀ {ks js : List Key}, keyToksAll (ks.map kP) = keyToksAll (js.map kP) → ks = js
  | [], [], _ => rfl
  | [], _ :: _, h => by simp [keyToksAll] at h
  | _ :: _, [], h => by simp [keyToksAll] at h
  | k :: ks, j :: js, h => by
    have one : ∀ k : Key, ∃ t, keyToks (kP k) = [t] := fun k => by cases k <;> exact ⟨_, rfl⟩
    obtain ⟨t, et⟩ := one k
    obtain ⟨u, eu⟩ := one j
    simp only [List.map_cons, keyToksAll, et, eu, List.cons_append, List.nil_append, List.cons.injEq, true_and] at h
    obtain ⟨h1, h2⟩ := h
    rw [toks_kP (k := k) (j := j) (by rw [et, eu, h1]), toks_kPs h2]
/-! ### dropping what is there twice -/
def sameK (d e : D) : Bool := decide (keyOf d = keyOf e) && decide (tkeyOf d = tkeyOf e)
def dedup : List D → List D
  | [] => []
  | d :: r => if r.any (sameK d) then dedup r else d :: dedup r
def setOk (ys : List D) : Bool := (ys.all (fun d => (tkeyOf d).isSome) && decide (ys.length < 64)) || (ys.all (fun d => (keyOf d).isSome) && decide (ys.length < 4096))
def nSortSet : PN := fun xs S => match xs with
  | [d] => match itemsOf S d with
    | some ys => if setOk ys && sortOk S (dedup ys) then newL (sortD S (dedup ys)) S else none
    | none => none
  | _ => none
/-- an int, a text, a tuple of such -/
def Kd (d : D) : Prop := (∃ k, d = kD k) ∨ ∃ ks, d = tkD ks
theorem sameK_eq {d e : D} (hd : Kd d) (he : Kd e) (h : sameK d e = true) : d = e := by
  simp only [sameK, Bool.and_eq_true, decide_eq_true_eq] at h
  rcases hd with ⟨k, rfl⟩ | ⟨k, rfl⟩
  · rw [keyOf_kD] at h
    exact (keyOf_eq h.1.symm).symm
  · rw [tkeyOf_tkD] at h
    exact (tkeyOf_eq h.2.symm).symm
theorem sameK_refl (d : D) : sameK d d = true := by simp [sameK]
theorem dedup_mem : ∀ {ys : List D}, (∀ d ∈ ys, Kd d) → ∀ d, d ∈ dedup ys ↔ d ∈ ys
  | [], _, d => by simp [dedup]
  | y :: ys, h, d => by
    have ih := dedup_mem (ys := ys) (fun e he => h e (List.mem_cons_of_mem _ he)) d
    unfold dedup
    split
    · rename_i hy
      obtain ⟨e, he, hs⟩ := List.any_eq_true.mp hy
      obtain rfl := sameK_eq (h y List.mem_cons_self) (h e (List.mem_cons_of_mem _ he)) hs
      rw [ih, List.mem_cons]
      exact ⟨.inr, fun z => z.elim (fun z => by rw [z]; exact he) id⟩
    · rw [List.mem_cons, List.mem_cons, ih]
theorem dedup_nodup : ∀ {ys : List D}, (∀ d ∈ ys, Kd d) → (dedup ys).Nodup
  | [], _ => List.nodup_nil
  | y :: ys, h => by
    have h' : ∀ d ∈ ys, Kd d := fun e he => h e (List.mem_cons_of_mem _ he)
    unfold dedup
    split
    · exact dedup_nodup h'
    · rename_i hy
      refine List.nodup_cons.mpr ⟨fun z => hy ?_, dedup_nodup h'⟩
      exact List.any_eq_true.mpr ⟨y, (dedup_mem h' y).mp z, sameK_refl y⟩
theorem perm_of_map {α β : Type} (f : α → β) {out rows : List β} (p : rows.Perm out) : ∀ {L : List α}, rows = L.map f → ∃ L' : List α, out = L'.map f ∧ L'.Perm L := by
  induction p with
  | nil => intro L e; exact ⟨[], rfl, by cases L with
    | nil => exact .nil
    | cons => cases e⟩
  | cons x _ ih =>
    intro L e
    cases L with
    | nil => cases e
    | cons a L =>
      rw [List.map_cons] at e
      injection e with e1 e2
      obtain ⟨L', h1, h2⟩ := ih e2
      exact ⟨a :: L', by rw [List.map_cons, ← e1, h1], h2.cons a⟩
  | swap x y l =>
    intro L e
    match L, e with
    | a :: b :: L, e =>
      simp only [List.map_cons, List.cons.injEq] at e
      obtain ⟨e1, e2, e3⟩ := e
      exact ⟨b :: a :: L, (by rw [e1, e2, e3]; rfl), .swap a b L⟩
  | trans _ _ ih1 ih2 =>
    intro L e
    obtain ⟨L1, h1, p1⟩ := ih1 e
    obtain ⟨L2, h2, p2⟩ := ih2 h1
    exact ⟨L2, h2, p2.trans p1⟩
theorem sortOk_perm {S : Store} {xs ys : List D} (p : xs.Perm ys) (h : sortOk S ys = true) : sortOk S xs = true := by
  have al : ∀ (q : D → Bool), xs.all q = ys.all q := fun q => by
    rw [Bool.eq_iff_iff, List.all_eq_true, List.all_eq_true]
    exact ⟨fun z d hd => z d (p.mem_iff.mpr hd), fun z d hd => z d (p.mem_iff.mp hd)⟩
  unfold sortOk at h ⊢
  rw [p.length_eq]
  simp only [al]
  exact h
/-! ### sorted(set(..)) -/
section
variable {X : Cx} {pins : List (Addr × Obj)} {σ : L2.St} {H : Hp} {s : Shared} {ι : List Addr} {S : Store}
theorem items_keyed {P : Program} {w : World} : ∀ {ks : List Key} {us : List Value}, Vals (ks.map kV) us → ItemsAre (mixKind P w) ks us
  | [], _, .nil => .nil
  | k :: ks, _, .cons r t => by
    refine .cons ?_ (items_keyed t)
    cases k with
    | inl i => obtain ⟨tk, rfl⟩ := r; exact mixKind_int P w i tk
    | inr x => obtain ⟨tk, rfl⟩ := r; exact mixKind_str P w x tk
theorem Inv.tupKey (I : L2.Inv X pins σ H s) {b : Addr} {ks : List Key} (h : H b = some (.tup (ks.map kV))) : (tupEl X.prog X.w).kd.is s.heap ks b := by
  obtain ⟨its, va, tp, _⟩ := I.tuple (.of h)
  obtain ⟨o, e, c, n, d⟩ := id tp
  exact ⟨o, _, n, e, c, d, by simpa using items_keyed va⟩
/-- what stands in the set at a is what ys has, each once -/
def Coll (X : Cx) (pins : List (Addr × Obj)) (σ : L2.St) (H : Hp) (ι : List Addr) (a : Addr) (ys : List D) (s : Shared) : Prop := ∀ (Q' : List Value → Shared → Prop) (E' : Value → Shared → Prop),
  (∀ s' us zs, L2.Inv X pins σ H s' → zs.Perm (dedup ys) → EachIs (fun u d => ∃ v, L2.RelV v u ∧ Rep (cf X) H ι d v) us zs → Q' us s') → wpAny (model X.prog X.w) X.A.in1 (collect (.ref a)) Q' E' s
theorem tup_items (I : L2.Inv X pins σ H s) : ∀ {ys : List D} {vs : List V} {us : List Value}, Reps (cf X) H ι ys vs → Vals vs us → (∀ d ∈ ys, (tkeyOf d).isSome = true) →
    ∃ its : List (Addr × List Key), us = its.map (fun p => Value.ref p.1) ∧ ys = its.map (fun p => tkD p.2) ∧ ∀ p ∈ its, (tupEl X.prog X.w).kd.is s.heap p.2 p.1 ∧ Rep (cf X) H ι (tkD p.2) (.ref p.1)
  | _, _, _, .nil, .nil, _ => ⟨[], rfl, rfl, fun _ h => nomatch h⟩
  | _, _, _, .cons a b, .cons r t, h => by
    obtain ⟨its, e1, e2, e3⟩ := tup_items I b t fun d hd => h d (List.mem_cons_of_mem _ hd)
    obtain ⟨ks, ek⟩ := Option.isSome_iff_exists.mp (h _ List.mem_cons_self)
    obtain ⟨c, ec, hc⟩ := tkeyOf_rep a ek
    subst ec
    cases r
    obtain rfl := tkeyOf_eq ek
    refine ⟨(c, ks) :: its, by rw [e1]; rfl, by rw [e2]; rfl, fun p hp => ?_⟩
    rcases List.mem_cons.mp hp with rfl | hp
    · exact ⟨Inv.tupKey I hc, a⟩
    · exact e3 p hp
theorem txt_items : ∀ {ys : List D} {vs : List V} {us : List Value}, Reps (cf X) H ι ys vs → Vals vs us → (∀ d ∈ ys, (keyOf d).isSome = true) →
    ∃ its : List (Value × Key), us = its.map (fun p => p.1) ∧ ys = its.map (fun p => kD p.2) ∧ ∀ p ∈ its, keyIs p.2 p.1 = true ∧ ∃ v, L2.RelV v p.1 ∧ Rep (cf X) H ι (kD p.2) v
  | _, _, _, .nil, .nil, _ => ⟨[], rfl, rfl, fun _ h => nomatch h⟩
  | _, _, _, .cons a b, .cons r t, h => by
    obtain ⟨its, e1, e2, e3⟩ := txt_items b t fun d hd => h d (List.mem_cons_of_mem _ hd)
    obtain ⟨k, ek⟩ := Option.isSome_iff_exists.mp (h _ List.mem_cons_self)
    have ev := keyOf_rep a ek
    subst ev
    obtain rfl := keyOf_eq ek
    refine ⟨(_, k) :: its, by rw [e1]; rfl, by rw [e2]; rfl, fun p hp => ?_⟩
    rcases List.mem_cons.mp hp with rfl | hp
    · refine ⟨?_, _, r, a⟩
      cases k with
      | inl i => obtain ⟨tk, rfl⟩ := r; exact keyIs_int i tk
      | inr x => obtain ⟨tk, rfl⟩ := r; exact keyIs_str x tk
    · exact e3 p hp
theorem perm_dedup {γ κ : Type} {key : γ → κ} {its L : List γ} {f : γ → D} {ys : List D} (g : Has key its its.length L) (ey : ys = its.map f) (kd : ∀ d ∈ ys, Kd d) (inj : ∀ p ∈ its, ∀ q ∈ its, f p = f q ↔ key p = key q) : (L.map f).Perm (dedup ys) := by
  have tk : its.take its.length = its := List.take_length
  have sub := g.sub
  have all := g.all
  rw [tk] at sub all
  have nd : (L.map f).Nodup := by
    have := g.nd
    unfold List.Nodup at this ⊢
    rw [List.pairwise_map] at this ⊢
    refine List.Pairwise.imp_of_mem (fun {p q} hp hq h z => h ((inj p (sub p hp) q (sub q hq)).mp z)) this
  refine (List.perm_ext_iff_of_nodup nd (dedup_nodup kd)).mpr fun d => ?_
  rw [dedup_mem kd, ey, List.mem_map, List.mem_map]
  constructor
  · rintro ⟨p, hp, rfl⟩
    exact ⟨p, sub p hp, rfl⟩
  · rintro ⟨p, hp, rfl⟩
    obtain ⟨q, hq, e⟩ := List.mem_map.mp (all p hp)
    exact ⟨q, hq, (inj q (sub q hq) p hp).mpr e⟩
theorem each_map_of {γ : Type} {R : Value → D → Prop} {val : γ → Value} {f : γ → D} : ∀ {L : List γ}, (∀ p ∈ L, R (val p) (f p)) → EachIs R (L.map val) (L.map f)
  | [], _ => .nil
  | p :: L, h => .cons (h p List.mem_cons_self) (each_map_of fun q hq => h q (List.mem_cons_of_mem _ hq))
theorem Inv.kept2 {s' : Shared} (I : L2.Inv X pins σ H s) (k : ∀ b o, s.heap.get? b = some o → s'.heap.get? b = some o) (g : s'.gens = s.gens) (o : s'.os = s.os) : L2.Inv X pins σ H s' := by
  obtain ⟨h', g', d', t', o'⟩ := s'
  obtain rfl : g' = s.gens := g
  obtain rfl : o' = s.os := o
  exact I.call (ch := []) (Un.kept k) (I.hok.kept k) I.bare fun _ z => nomatch z
theorem set_call (hc : X.calm = true) (hu : X.A.units + 64 < cLine) (I : L2.Inv X pins σ H s) (sm : Sim (cf X) ι S H) {l : Addr} {us : List Value} {ys : List D} {vs : List V} {T : String} {itO : Obj} {St : Addr → Nat → Heap → Prop} (Y : Src X.prog X.w s.heap l us.toArray T itO St) (rs : Reps (cf X) H ι ys vs) (va : Vals vs us) (ok : setOk ys = true) {Q : Value → Shared → Prop}
    (q : ∀ a s', L2.Inv X pins σ H s' → Coll X pins σ H ι a ys s' → Q (.ref a) s') : wpAny (model X.prog X.w) X.A (call (.type "set") [.ref l]) Q X.xe s := by
  have hh := I.ok.hd hc
  unfold setOk at ok
  simp only [Bool.or_eq_true, Bool.and_eq_true, List.all_eq_true, decide_eq_true_eq] at ok
  rcases ok with ⟨k1, k2⟩ | ⟨k1, k2⟩
  · obtain ⟨its, e1, e2, e3⟩ := tup_items I rs va k1
    have il : its.length = ys.length := by rw [e2, List.length_map]
    refine set_made Y (fills_tup (a := s.heap.objs.size) (fun p hp => (e3 p hp).1) (by omega)) (by simp [e1]) hh (by omega) fun h' tk L hS g kp => ?_
    have I2 : L2.Inv X pins σ H { s with heap := h', toks := tk } := I.kept kp
    refine q _ _ I2 fun Q' E' go => ?_
    obtain ⟨es, ep, t, R⟩ := hS
    obtain ⟨o, ho, hex, hd⟩ := R.ob
    have few := R.few
    have bound : es.size < scanBound := by rw [R.len]; exact Nat.lt_trans few (by decide)
    refine collect_set (s := { s with heap := h', toks := tk }) hh ⟨o, ho, hex.1, hd⟩ R.fit bound R.tab.ris R.led fun s3 out k3 sz3 g3 o3 pm => ?_
    have rows : es.toList.map (·.2) = L.map fun p => Value.ref p.1 := by rw [R.rows, List.map_map]; rfl
    rw [rows] at pm
    obtain ⟨L', rfl, pL⟩ := perm_of_map (fun p : Addr × List Key => Value.ref p.1) pm.symm rfl
    have kd : ∀ d ∈ ys, Kd d := fun d hd => by
      obtain ⟨ks, ek⟩ := Option.isSome_iff_exists.mp (k1 d hd)
      exact .inr ⟨ks, tkeyOf_eq ek⟩
    have inj : ∀ p ∈ its, ∀ q ∈ its, tkD p.2 = tkD q.2 ↔ p.2 = q.2 := fun p _ q _ => ⟨fun z => by
      have := congrArg tkeyOf z
      rw [tkeyOf_tkD, tkeyOf_tkD] at this
      exact Option.some.inj this, fun z => by rw [z]⟩
    have pd := perm_dedup (f := fun p : Addr × List Key => tkD p.2) g e2 kd inj
    have sub : ∀ p ∈ L', p ∈ its := fun p hp => by
      have := g.sub p (pL.mem_iff.mp hp)
      rwa [List.take_length] at this
    refine go s3 _ (L'.map fun p => tkD p.2) (Inv.kept2 I2 k3 g3 o3) ((pL.map _).trans pd) (each_map_of fun p hp => ?_)
    exact ⟨.ref p.1, rfl, (e3 p (sub p hp)).2⟩
  · obtain ⟨its, e1, e2, e3⟩ := txt_items rs va k1
    have il : its.length = ys.length := by rw [e2, List.length_map]
    have e1' : us.toArray.toList = its.map (fun p => p.1) := by simp [e1]
    refine set_made Y (fills_txt (h0 := s.heap) (a := s.heap.objs.size) (fun p hp => (e3 p hp).1) (show its.length < 4096 by omega)) e1' hh (by omega) fun h' tk L hS g kp => ?_
    have I2 : L2.Inv X pins σ H { s with heap := h', toks := tk } := I.kept kp
    refine q _ _ I2 fun Q' E' go => ?_
    obtain ⟨o, es, ep, t, ho, hex, hd, rfl, gd, nd, hb, hf, hr, hl⟩ := hS
    refine collect_set (s := { s with heap := h', toks := tk }) hh ⟨o, ho, hex.1, hd⟩ hf hb hr hl fun s3 out k3 sz3 g3 o3 pm => ?_
    have rows : es.toList.map (·.2) = (es.toList.map fun e => (e.2, keyVal e.2)).map (·.1) := by rw [List.map_map]; rfl
    rw [rows] at pm
    generalize es.toList.map (fun e => (e.2, keyVal e.2)) = L at g pm
    obtain ⟨L', rfl, pL⟩ := perm_of_map (fun p : Value × Key => p.1) pm.symm rfl
    have kd : ∀ d ∈ ys, Kd d := fun d hd => by
      obtain ⟨k, ek⟩ := Option.isSome_iff_exists.mp (k1 d hd)
      exact .inl ⟨k, keyOf_eq ek⟩
    have inj : ∀ p ∈ its, ∀ q ∈ its, kD p.2 = kD q.2 ↔ p.2 = q.2 := fun p _ q _ => ⟨fun z => by
      have := congrArg keyOf z
      rw [keyOf_kD, keyOf_kD] at this
      exact Option.some.inj this, fun z => by rw [z]⟩
    have pd := perm_dedup (f := fun p : Value × Key => kD p.2) g e2 kd inj
    have sub : ∀ p ∈ L', p ∈ its := fun p hp => by
      have := g.sub p (pL.mem_iff.mp hp)
      rwa [List.take_length] at this
    exact go s3 _ (L'.map fun p => kD p.2) (Inv.kept2 I2 k3 g3 o3) ((pL.map _).trans pd) (each_map_of fun p hp => (e3 p (sub p hp)).2)
theorem kd_toks {S : Store} {ys : List D} (ok : setOk ys = true) : (∀ d ∈ ys, Kd d) ∧ ∀ a ∈ ys, ∀ b ∈ ys, keyToks (encD S a) = keyToks (encD S b) → a = b := by
  unfold setOk at ok
  simp only [Bool.or_eq_true, Bool.and_eq_true, List.all_eq_true, decide_eq_true_eq] at ok
  rcases ok with ⟨k1, _⟩ | ⟨k1, _⟩
  · have h : ∀ d ∈ ys, ∃ ks, d = tkD ks := fun d hd => let ⟨ks, e⟩ := Option.isSome_iff_exists.mp (k1 d hd); ⟨ks, tkeyOf_eq e⟩
    refine ⟨fun d hd => .inr (h d hd), fun a ha b hb e => ?_⟩
    obtain ⟨ks, rfl⟩ := h a ha
    obtain ⟨js, rfl⟩ := h b hb
    rw [enc_tkD, enc_tkD] at e
    rw [toks_kPs e]
  · have h : ∀ d ∈ ys, ∃ k, d = kD k := fun d hd => let ⟨ks, e⟩ := Option.isSome_iff_exists.mp (k1 d hd); ⟨ks, keyOf_eq e⟩
    refine ⟨fun d hd => .inl (h d hd), fun a ha b hb e => ?_⟩
    obtain ⟨ks, rfl⟩ := h a ha
    obtain ⟨js, rfl⟩ := h b hb
    rw [enc_kD, enc_kD] at e
    rw [toks_kP e]
theorem boot_sorted1 : bootBuiltins "sorted" = some (.builtin "sorted") := by decide +kernel
/-- sorted(set(e)) -/
theorem se_sortSet {W : WX} {fe : ME} {e : Expr} {p p2 q pos : Pos} (hc : X.calm = true) (hu : X.A.units + 64 < cLine) (hg : Gl X "sorted") (hm : X.mg "sorted" = none) (hg2 : Gl X "set") (hm2 : X.mg "set" = none) (he : PE X e (tE (cf X) W fe))
    (na : starEach [e] X.env = (false, eval e X.env) :: starEach [] X.env := by rfl) : PE X (.Call (.Name "sorted" p) [.Call (.Name "set" p2) [e] [] q] [] pos) (tE (cf X) W (eB nSortSet (aCons fe aNil))) := by
  refine ⟨fun pins s σ H Q I ⟨ι, S, ρ, sm, en, qq⟩ => ?_⟩
  refine Call_ (ld_blt I hg hm boot_sorted1 ?_)
  refine PyProof.Rows.callWith_builtin1 (PyProof.Rows.args_cons ?_ rfl) rfl rfl
  refine Call_ (ld_blt I hg2 hm2 PyProof.Rows.boot_set ?_)
  unfold eB aCons at qq
  refine PyProof.Rows.callWith_type1 (PyProof.Rows.args_cons (thn (he.run pins s σ H (fun x H1 => ∃ ι1 S1 d, Sim (cf X) ι1 S1 H1 ∧ Rep (cf X) H1 ι1 d x ∧ Fin (cf X) ι1 H1 Q (nSortSet [d] S1)) I ⟨ι, S, ρ, sm, en, ?_⟩) fun v s1 ⟨x, H1, I1, r1, q1⟩ => PyProof.Rows.args_nil ?_) na) na rfl
  · have qq' : post (RD (cf X)) (cf X) W ι H σ Q (bnd (fe ρ) (fun a => fun S => lift (nSortSet [a] S)) S) := by
      have : bnd (bnd (fe ρ) fun a => bnd (aNil ρ) fun as => pur (a :: as)) (fun xs S => lift (nSortSet xs S)) S = bnd (fe ρ) (fun a => fun S => lift (nSortSet [a] S)) S := by
        unfold bnd aNil pur
        cases fe ρ S <;> rfl
      rw [← this]
      exact qq
    exact post_bnd qq' fun a S1 ι1 H1 x e1 st1 sm1 r1 p1 => ⟨ι1, S1, a, sm1, r1, fin_of p1⟩
  · obtain ⟨ι1, S1, d, sm1, rd, d', S', e2, k⟩ := q1
    have q0 := e2
    unfold nSortSet at e2
    simp only at e2
    split at e2
    · rename_i ys hy
      split at e2
      · rename_i hs
        rw [Bool.and_eq_true] at hs
        obtain ⟨pl, vs, rfl, hq, rs⟩ := itemsOf_ok sm1 rd hy
        cases r1
        have f2 : Fin (cf X) ι1 H1 Q (newL (sortD S1 (dedup ys)) S1) := ⟨d', S', e2, k⟩
        obtain ⟨kd, inj⟩ := kd_toks (S := S1) hs.1
        have fin : ∀ a s', L2.Inv X pins σ H1 s' → Coll X pins σ H1 ι1 a ys s' → wpAny (model X.prog X.w) X.A (call (.builtin "sorted") [.ref a]) (EP X pins σ Q) X.xe s' := fun a s' I2 co => by
          refine sorted_core (S := S1) (zs := sortD S1 (dedup ys)) (Ok := fun zs => zs.Perm (dedup ys)) sm1 hu co (fun zs hz => ⟨sortOk_perm hz hs.2, sort_perm _ hz fun a ha b hb => ?_⟩) fun vs p rz hp => (f2.lst sm1 rz).2 p hp
          exact inj a ((dedup_mem kd a).mp (hz.mem_iff.mp ha)) b ((dedup_mem kd b).mp (hz.mem_iff.mp hb))
        rcases hq with hq | hq
        · obtain ⟨its, va, tp, _⟩ := I1.list hq
          exact set_call hc hu I1 sm1 (src_list tp.isList) rs va hs.1 fun a s' I2 co => PyProof.Rows.args_nil (fin a s' I2 co)
        · obtain ⟨its, va, tp, _⟩ := I1.tuple hq
          exact set_call hc hu I1 sm1 (src_tup (show Heap.IsTuple s1.heap pl its.toArray from tp)) rs va hs.1 fun a s' I2 co => PyProof.Rows.args_nil (fin a s' I2 co)
      · cases e2
    · cases e2
end
end Mini

/-! MINI, part U: try .. except A as e: .. except B as e: .. -/
namespace Mini
open PySem L2 PyProof.Rows
abbrev Suite := Addr → Value → Option Addr → TS
/-- what a clause's suite comes to: a name, if the clause has one, is gone behind it -/
def gone (i : Option Nat) (D : Ends) : Ends := match i with
  | none => D
  | some i => { nx := fun σ H => D.nx (σ.set i none) H, rt := D.rt, bk := fun σ H => D.bk (σ.set i none) H, ct := fun σ H => D.ct (σ.set i none) H }
def bound (i : Option Nat) (a : Addr) (σ : L2.St) : L2.St := match i with
  | none => σ
  | some i => σ.set i (some (.ref a))
def wCl (K : PySem.W.Frag) (Wout : WX) (D : Ends) : List (Value × Option Nat × Suite) → WX
  | [] => Wout
  | (c, i, ts) :: r => fun cls d σ H => ∃ b, PySem.W.exmOne K cls c = some b ∧ (b = true → ∀ a, H a = none → ts a cls d (gone i D) (bound i a σ) H) ∧ (b = false → wCl K Wout D r cls d σ H)
inductive Clauses (X : Cx) : List ExceptHandler → List (Value × Option Nat × Suite) → Prop
  | nil : Clauses X [] []
  | only {x : Str} {c : Value} {ts : Suite} {b : Stmt} {bs : List Stmt} {p1 p2 : Pos} {hs : List ExceptHandler} {l : List (Value × Option Nat × Suite)} (nm : Names X x c)
      (su : ∀ (a : Addr) (oe : Obj) (cls : Value) (d : Option Addr) (pn : List (Addr × Obj)), Zc cls d oe → (∃ vs, oe.data = .fields vs) → PSs (X.suite a ((a, oe) :: pn)) (b :: bs) (ts a cls d)) (r : Clauses X hs l) :
      Clauses X (.ExceptHandler (some (.Name x p1)) none (b :: bs) p2 :: hs) ((c, none, ts) :: l)
  | as {x n : Str} {i : Nat} {c : Value} {ts : Suite} {b : Stmt} {bs : List Stmt} {p1 p2 : Pos} {hs : List ExceptHandler} {l : List (Value × Option Nat × Suite)} (nm : Names X x c) (hi : X.N[i]? = some n) (hl : X.env.kindOf n = some .local)
      (su : ∀ (a : Addr) (oe : Obj) (cls : Value) (d : Option Addr) (pn : List (Addr × Obj)), Zc cls d oe → (∃ vs, oe.data = .fields vs) → PSs (X.suite a ((a, oe) :: pn)) (b :: bs) (ts a cls d)) (r : Clauses X hs l) :
      Clauses X (.ExceptHandler (some (.Name x p1)) (some n) (b :: bs) p2 :: hs) ((c, some i, ts) :: l)
section
variable {X : Cx} {body : List Stmt} {h1 : ExceptHandler} {hs : List ExceptHandler} {l : List (Value × Option Nat × Suite)} {pos : Pos} {tb : WX → TS} {Wout : WX}
theorem ps_clauses (st : X.stack = X.env :: X.outer) (fr : X.env.frame = some X.env.locals) (nd : X.N.Nodup) (tk : Takes X Wout)
    (hb : ∀ (W : WX) (pn : List (Addr × Obj)) (xe : Value → Shared → Prop), Takes (X.tr pn xe) W → PassesOwn (model X.prog X.w) X.A X.env xe → PSs (X.tr pn xe) body (tb W))
    (cl : Clauses X (h1 :: hs) l) : PS X (.Try body (h1 :: hs) [] [] pos) (fun D σ H => tb (wCl X.K Wout D l) D σ H) := by
  constructor
  intro pins s σ H D I q
  have ok := I.ok
  have fr2 : X.A.frames = some (X.env :: X.outer) := by rw [← st]; exact ok.frames
  let ctch : Value → Shared → Prop := fun e z1 => wpAny (model X.prog X.w) X.A (noteFrame e X.env) (fun _ z2 => wpAny (model X.prog X.w) X.A (setFlight e none)
    (fun _ z3 => wpAny (model X.prog X.w) X.A (handleBy e X.env (h1 :: hs)) (SP X pins D) X.xe z3) X.xe z2) X.xe z1
  have caught : Takes (X.tr (X.pn ++ pins) ctch) (wCl X.K Wout D l) := by
    rintro u z ⟨a, B, zI, pins', σ2, H2, cls, d, rfl, J0, nb, up, sky, na, os, ag, wish⟩
    have J : Inv X pins σ2 H2 zI := J0.ofTry ok
    have sky2 : Sky B (X.env :: X.outer) a (Zc cls d) X.env.locals z.heap := by rw [← st]; exact sky
    refine Sky.land Zc.steady fr2 fr sky2 fun g3 fl3 up3 => ?_
    have J3 : Inv X pins σ2 H2 { z with heap := g3 } := J.landed nb fl3.1 (up.trans up3) os ag
    obtain ⟨oe, vs, eo, zo, do_⟩ := fl3.there
    -- the exception is no frame
    have nofr : a ∉ frs (X.env :: X.outer) := fun m => by
      obtain ⟨_, ob, e, nf⟩ := fl3.2.2.1.mem m
      rw [eo] at e
      cases e
      exact nf _ do_
    have nL : a ≠ X.env.locals := fun e => nofr (List.mem_filterMap.mpr ⟨X.env, List.mem_cons_self, by rw [fr, e]⟩)
    have nF : a ∉ X.fs := fun m => by
      obtain ⟨v, hv, e⟩ := List.mem_filterMap.mp m
      exact nofr (List.mem_filterMap.mpr ⟨v, List.mem_cons_of_mem _ hv, e⟩)
    have S3 := J3.suite eo do_ na nL nF
    have looks : PySem.W.Looks (model X.prog X.w) g3 (typeOf (.ref a)) cls := fun A Q E y k q => wpAny_typeOf_ref (k _ _ eo) (by rw [zo.1]; exact q)
    have clsTest : ∀ {x : Str} {c : Value} {p : Pos} {Q : Value → Shared → Prop} {E : Value → Shared → Prop}, Names X x c → Q c { z with heap := g3 } → wpAny (model X.prog X.w) (X.A.mark (some (.ref a))) (eval (.Name x p) X.env) Q E { z with heap := g3 } := by
      rintro x c p Q E ⟨hg, hd, hm | ⟨hm, hv, hn⟩⟩ q
      · exact ld_glob (X := X.suite a ((a, oe) :: (X.pn ++ pins))) S3 hg hm q hd
      · exact ld_blt (X := X.suite a ((a, oe) :: (X.pn ++ pins))) S3 hg hm hv q hn hd
    have go : ∀ {hs' : List ExceptHandler} {l' : List (Value × Option Nat × Suite)}, Clauses X hs' l' → wCl X.K Wout D l' cls d σ2 H2 → wpAny (model X.prog X.w) X.A (handleBy (.ref a) X.env hs') (SP X pins D) X.xe { z with heap := g3 } := by
      intro hs' l' k
      induction k with
      | nil =>
        intro w
        refine wpAny_handleBy_nil ?_
        obtain ⟨_, _, _, o5, v5, T5, _, _, e5, z5, d5, f5, _⟩ := id fl3
        have last : wpAny (model X.prog X.w) X.A (setFlight (.ref a) X.env.frame) (fun _ y => wpAny (model X.prog X.w) X.A (throw (.ref a) : Sem Flow) (SP X pins D) X.xe y) X.xe { z with heap := g3 } := by
          rw [fr]
          refine HandSPX.setFlight_upZ fl3 fun g4 held up4 => wpAny_throw (tk _ _ ⟨a, B, zI, pins, σ2, H2, cls, d, rfl, J, nb, (up.trans up3).trans up4, .inr (.inr ?_), na, os, ag, w⟩)
          rw [st]; exact held
        unfold PySem.passOn
        refine wpAny_bind (wpAny_field e5 d5 f5 ?_)
        have nn : ¬ ((Value.ref T5 == Value.none) = true) := by simp
        rw [if_neg nn]
        first
          | exact wpAny_bind (wpAny_pure (wpAny_bind last))
          | exact wpAny_bind last
      | only nm su r ih =>
        rintro ⟨b, e1, yes, no⟩
        refine wpAny_handleBy_cons (codeAny_handlers_test (clsTest nm ((PySem.W.exm_one (M := model X.prog X.w) J3.kIn looks e1).here ?_))) (fun e => nomatch e)
        cases b with
        | false => exact ih (no rfl)
        | true =>
          refine codeAny_handlers_suite (HandSPX.lands_againZ fl3 fun g4 fl4 up4 => ?_)
          have J4 : Inv X pins σ2 H2 { z with heap := g4 } := J.landed nb fl4.1 ((up.trans up3).trans up4) os ag
          obtain ⟨o4, v4, e4, z4, d4⟩ := fl4.there
          refine wpAny_mono ((su a o4 cls d (X.pn ++ pins) z4 ⟨_, d4⟩).run [] _ _ H2 _ (J4.suite e4 d4 na nL nF) (yes rfl a na)) (fun f y hy => ?_) fun _ _ h => h.elim
          match f, hy with
          | .next, ⟨σ6, H6, S6, q6⟩ => exact ⟨_, _, S6.unsuite ok, q6⟩
          | .brk, ⟨σ6, H6, S6, q6⟩ => exact ⟨_, _, S6.unsuite ok, q6⟩
          | .cont, ⟨σ6, H6, S6, q6⟩ => exact ⟨_, _, S6.unsuite ok, q6⟩
          | .ret _, ⟨v6, σ6, H6, S6, r6, q6⟩ => exact ⟨_, _, _, S6.unsuite ok, r6, q6⟩
      | @as x n i c ts b bs p1 p2 hs2 l2 nm hi hl su r ih =>
        rintro ⟨b, e1, yes, no⟩
        refine wpAny_handleBy_cons (codeAny_handlers_test (clsTest nm ((PySem.W.exm_one (M := model X.prog X.w) J3.kIn looks e1).here ?_))) (fun e => nomatch e)
        cases b with
        | false => exact ih (no rfl)
        | true =>
          refine codeAny_handlers_suite_as (HandSPX.lands_againZ fl3 fun g4 fl4 up4 => ?_)
          have J4 : Inv X pins σ2 H2 { z with heap := g4 } := J.landed nb fl4.1 ((up.trans up3).trans up4) os ag
          obtain ⟨o4, v4, e4, z4, d4⟩ := fl4.there
          refine store_ok (X := X.suite a ((a, o4) :: (X.pn ++ pins))) (v := .ref a) (J4.suite e4 d4 na nL nF) nd hi (.inl hl) rfl (fun z5 S5 => ?_) (.inr hl)
          refine wpAny_mono ((su a o4 cls d (X.pn ++ pins) z4 ⟨_, d4⟩).run [] z5 _ H2 _ S5 (yes rfl a na)) (fun f y hy => ?_) fun _ _ h => h.elim
          have leave : ∀ {σ6 : L2.St} {H6 : Hp} {Q : Shared → Prop}, Inv (X.suite a ((a, o4) :: (X.pn ++ pins))) [] σ6 H6 y → (∀ y7, Inv X pins (σ6.set i none) H6 y7 → Q y7) →
              wpAny (model X.prog X.w) X.A (do bindName X.env n .none; unbindBehindTheSuite X.env n p2) (fun _ y7 => Q y7) X.xe y := fun S6 k => gone_ok (S6.unsuite ok) nd hi hl k
          match f, hy with
          | .next, ⟨σ6, H6, S6, q6⟩ => exact leave S6 fun y7 J7 => ⟨_, _, J7, q6⟩
          | .brk, ⟨σ6, H6, S6, q6⟩ => exact leave S6 fun y7 J7 => ⟨_, _, J7, q6⟩
          | .cont, ⟨σ6, H6, S6, q6⟩ => exact leave S6 fun y7 J7 => ⟨_, _, J7, q6⟩
          | .ret _, ⟨v6, σ6, H6, S6, r6, q6⟩ => exact leave S6 fun y7 J7 => ⟨_, _, _, J7, r6, q6⟩
    exact go cl wish
  refine wpAny_Try_except (wpAny_mono ((hb (wCl X.K Wout D l) (X.pn ++ pins) ctch caught PassesOwn.looking).run [] s σ H D (I.toTry _) q) (fun f z hz => ?_) fun e z h => h)
  match f, hz with
  | .next, ⟨σ6, H6, S6, q6⟩ => exact wpAny_execs_nil ⟨σ6, H6, S6.ofTry ok, q6⟩
  | .brk, ⟨σ6, H6, S6, q6⟩ => exact ⟨σ6, H6, S6.ofTry ok, q6⟩
  | .cont, ⟨σ6, H6, S6, q6⟩ => exact ⟨σ6, H6, S6.ofTry ok, q6⟩
  | .ret _, ⟨v6, σ6, H6, S6, r6, q6⟩ => exact ⟨v6, σ6, H6, S6.ofTry ok, r6, q6⟩
end
end Mini

/-! MINI, part V: try. -/
namespace Mini
open PySem L2 PyProof.Rows
/-- an exception of the class n with the fields fs stands at a, its own dict at d; its name's slot -/
structure ExAt (c : Cf) (H : Hp) (ι : List Addr) (i : Option Nat) (a : Addr) (n : Str) (fs : List (Str × D)) (cls : Value) (d : Option Addr) (σ : L2.St) : Prop where
  slot : ∀ j, i = some j → σ[j]? = some (some (.ref a))
  exc : RExc c H ι n fs cls d
theorem RExc.step {c : Cf} {H H' : Hp} {ι ι' : List Addr} {n : Str} {fs : List (Str × D)} {cls : Value} {d : Option Addr} (p : Stp ι H ι' H') (r : RExc c H ι n fs cls d) : RExc c H' ι' n fs cls d := by
  obtain ⟨C, e1, e2, e3⟩ := r
  refine ⟨C, e1, e2, ?_⟩
  cases d with
  | none => exact e3
  | some x => obtain ⟨vs, h, q, ne⟩ := e3; exact ⟨vs, p.xd _ _ h, q.step p, ne⟩
theorem ExAt.step {c : Cf} {H H' : Hp} {ι ι' : List Addr} {i : Option Nat} {a : Addr} {n : Str} {fs : List (Str × D)} {cls : Value} {d : Option Addr} {σ : L2.St} (p : Stp ι H ι' H') (r : ExAt c H ι i a n fs cls d σ) : ExAt c H' ι' i a n fs cls d σ := ⟨r.slot, r.exc.step p⟩
def tX (c : Cf) (i : Option Nat) (a : Addr) (n : Str) (fs : List (Str × D)) (cls : Value) (d : Option Addr) (f : ME) : TE := fun σ H Q => ∃ ι S ρ, Sim c ι S H ∧ REnv c H ι ρ σ ∧ ExAt c H ι i a n fs cls d σ ∧ post (RD c) c W0 ι H σ Q (f ρ S)
def tXA (c : Cf) (i : Option Nat) (a : Addr) (n : Str) (fs : List (Str × D)) (cls : Value) (d : Option Addr) (f : Env → M (List D)) : TA := fun σ H Q => ∃ ι S ρ, Sim c ι S H ∧ REnv c H ι ρ σ ∧ ExAt c H ι i a n fs cls d σ ∧ post (RDs c) c W0 ι H σ Q (f ρ S)
def xFld (x : Str) (fs : List (Str × D)) : ME := fun _ S => match fs.lookup x with
  | some d => .ok d S
  | none => .bad
def xIsi (b : Bool) (fs : List (Str × D)) : ME := fun _ S => match fs with
  | [] => .ok (.bl b) S
  | _ => .bad
section
variable {X : Cx} {i : Option Nat} {a : Addr} {n : Str} {fs : List (Str × D)} {cls : Value} {d : Option Addr} {oe : Obj} {pn : List (Addr × Obj)} {e : Expr} {es : List Expr} {fe : ME} {fa : Env → M (List D)} {pos : Pos}
theorem sx_C {d0 : D} {v : V} (h : PE (X.suite a ((a, oe) :: pn)) e (tC v)) (r : ∀ c H ι, Rep c H ι d0 v) : PE (X.suite a ((a, oe) :: pn)) e (tX (cf X) i a n fs cls d (eC d0)) :=
  PE.imp h fun σ H Q ⟨ι, S, ρ, s, en, ex, p⟩ => p ι H v .refl s (r _ _ _)
theorem sx_nil : PA (X.suite a ((a, oe) :: pn)) [] (tXA (cf X) i a n fs cls d aNil) := PA.imp pa_nil fun σ H Q ⟨ι, S, ρ, s, en, ex, p⟩ => p ι H [] .refl s .nil
theorem sx_cons (he : PE (X.suite a ((a, oe) :: pn)) e (tX (cf X) i a n fs cls d fe)) (hr : PA (X.suite a ((a, oe) :: pn)) es (tXA (cf X) i a n fs cls d fa)) (hs : starEach (e :: es) X.env = (false, eval e X.env) :: starEach es X.env := by rfl) : PA (X.suite a ((a, oe) :: pn)) (e :: es) (tXA (cf X) i a n fs cls d (aCons fe fa)) := by
  refine PA.imp (pa_cons he hr hs) ?_
  rintro σ H Q ⟨ι, S, ρ, s, en, ex, p⟩
  refine ⟨ι, S, ρ, s, en, ex, post_bnd p fun b S1 ι1 H1 x e1 st1 sm1 r1 p1 => ?_⟩
  refine ⟨ι1, S1, ρ, sm1, en.step st1, ex.step st1, post_bnd p1 fun as S2 ι2 H2 xs e2 st2 sm2 r2 p2 => ?_⟩
  exact p2 ι2 H2 (x :: xs) .refl sm2 (.cons (r1.step st2) r2)
theorem sx_tup {x1 : Nat} (h : PA (X.suite a ((a, oe) :: pn)) es (tXA (cf X) i a n fs cls d fa)) : PE (X.suite a ((a, oe) :: pn)) (.Tuple es x1 pos) (tX (cf X) i a n fs cls d (eTup fa)) := by
  refine PE.imp (pe_tup h) ?_
  rintro σ H Q ⟨ι, S, ρ, s, en, ex, p⟩
  refine ⟨ι, S, ρ, s, en, ex, post_bnd p fun xs S1 ι1 H1 vs e1 st1 sm1 r1 p1 => ?_⟩
  obtain ⟨d1, S', e, k⟩ := fin_of p1
  obtain ⟨hl, e2⟩ := tupO_some e
  cases e2
  have f2 : Fin (cf X) ι1 H1 Q (some (.tup xs, S1)) := ⟨_, _, rfl, k⟩
  exact ⟨by rw [r1.length]; exact Nat.le_trans hl lim_le, f2.tup sm1 r1⟩
theorem sx_lst (h : PA (X.suite a ((a, oe) :: pn)) es (tXA (cf X) i a n fs cls d fa)) : PE (X.suite a ((a, oe) :: pn)) (.List es pos) (tX (cf X) i a n fs cls d (eLst fa)) := by
  refine PE.imp (pe_lst h) ?_
  rintro σ H Q ⟨ι, S, ρ, s, en, ex, p⟩
  exact ⟨ι, S, ρ, s, en, ex, post_bnd p fun xs S1 ι1 H1 vs e1 st1 sm1 r1 p1 => (fin_of p1).lst sm1 r1⟩
/-- what the class at C says of the field x of its instances -/
structure FldC (K : PySem.W.Frag) (C : Addr) (x : Str) : Prop where
  ga : PySem.W.findIn K (.ref C) "__getattribute__" = some (some (.builtin "BaseException.__getattribute__"))
  gg : PySem.W.findIn K (.ref C) "__getattr__" = some none
  sub : PySem.W.subIn K (.ref C) (.type "BaseException") = some true
  hd : PySem.W.hasDictIn K C = true
  no : PySem.W.findIn K (.ref C) x = some none
theorem lookup_kv {c : Cf} {H : Hp} {ι : List Addr} {x : Str} {d0 : D} : ∀ {fs : List (Str × D)} {vs : List (Str × V)}, RepKV c H ι fs vs → fs.lookup x = some d0 → ∃ v, vs.lookup x = some v ∧ Rep c H ι d0 v
  | _, _, .nil, e => by cases e
  | (j, d1) :: fs, (_, v1) :: vs, .cons r q, e => by
    rw [List.lookup_cons] at e ⊢
    split at e
    · cases e; exact ⟨v1, rfl, r⟩
    · exact lookup_kv q e
/-- e.x, e the exception that the suite holds -/
theorem sx_fld {j : Nat} {y x : Str} {p : Pos} (hz : Zc cls d oe) (hf : ∃ vs, oe.data = .fields vs) (hN : X.N[j]? = some y) (hv : Vis X.env.scope y) (hi : i = some j) (fc : ∀ C, X.mg n = some (.ref C) → FldC X.K C x)
    (hd : (y == ("__debug__" : Str)) = false := by decide) (hcd : (y == ("__classdict__" : Str)) = false := by decide) (hb : attributeBase (.Name y p) x X.env (eval (.Name y p) X.env) = eval (.Name y p) X.env := by rfl) :
    PE (X.suite a ((a, oe) :: pn)) (.Attribute (.Name y p) x pos) (tX (cf X) i a n fs cls d (xFld x fs)) := by
  have pv : PE (X.suite a ((a, oe) :: pn)) (.Name y p) (tVar j) := pe_var hN hv hd hcd
  refine ⟨fun pins s σ H Q I ⟨ι, S, ρ, sm, en, ex, q⟩ => ?_⟩
  refine attr_of hb (thn (pv.run pins s σ H (fun x H1 => x = .ref a ∧ H1 = H) I ⟨_, ex.slot j hi, rfl, rfl⟩) fun u s1 ⟨w, H1, I1, rw', e1, e2⟩ => ?_)
  subst e1
  rw [e2] at I1
  obtain rfl : u = Value.ref a := rw'
  obtain ⟨C, rfl, hm, hd'⟩ := ex.exc
  have F := fc C hm
  unfold xFld at q
  split at q
  · rename_i d0 hl
    cases d with
    | none => rw [show fs = [] from hd'] at hl; cases hl
    | some x2 =>
      obtain ⟨vs, hx, rk, _⟩ := hd'
      obtain ⟨v, lv, rv⟩ := lookup_kv rk hl
      obtain ⟨ha, _⟩ := I1.pin (a, oe) (List.mem_append_left _ List.mem_cons_self)
      obtain ⟨ws, hw⟩ := hf
      have hx2 : ObjOk X.prog X.w H s1.heap x2 (.xd vs) := I1.hok x2 _ hx
      obtain ⟨mA, hns, hr⟩ := hx2
      obtain ⟨od, ho, hlk⟩ := lookIn_ns hns
      obtain ⟨u2, hu, ru⟩ := RelO.some_of (v := v) (o := mA x) (by rw [← lv]; exact hr x)
      have J : PySem.W.InstAt s1.heap a oe C (some od) := ⟨ha, hz.1, by unfold PySem.W.notCls; rw [hw] <;> rfl, by rw [hz.2]; exact ho⟩
      exact HandSPX.exc_get I1.kIn J F.ga F.gg F.sub (PySem.W.findObj_own F.hd F.no rfl (by rw [hlk, hu])) (handed_of ru) ⟨v, H, I1.tok _, ru, q ι H v .refl sm rv⟩
  · exact q.elim
theorem boot_isinstance1 : bootBuiltins "isinstance" = some (.builtin "isinstance") := by decide +kernel
/-- isinstance(e, c) -/
theorem sx_isi {j : Nat} {y x : Str} {b : Bool} {C2 : Addr} {f p p2 p3 : Pos} (hz : Zc cls d oe) (hf : ∃ vs, oe.data = .fields vs) (hN : X.N[j]? = some y) (hv : Vis X.env.scope y) (hi : i = some j) (hg : Gl X "isinstance") (hm : X.mg "isinstance" = none) (hg2 : Gl X x) (hm2 : X.mg x = some (.ref C2))
    (fc : ∀ C, X.mg n = some (.ref C) → ExcC X.K C ∧ PySem.W.kitOne X.K (.ref C) (.ref C2) = some b) (hd2 : (x == ("__debug__" : Str)) = false := by decide)
    (hd : (y == ("__debug__" : Str)) = false := by decide) (hcd : (y == ("__classdict__" : Str)) = false := by decide) :
    PE (X.suite a ((a, oe) :: pn)) (.Call (.Name "isinstance" f) [.Name y p, .Name x p2] [] p3) (tX (cf X) i a n fs cls d (xIsi b fs)) := by
  have pv : PE (X.suite a ((a, oe) :: pn)) (.Name y p) (tVar j) := pe_var hN hv hd hcd
  refine ⟨fun pins s σ H Q I ⟨ι, S, ρ, sm, en, ex, q⟩ => ?_⟩
  obtain ⟨C, rfl, hm3, hd'⟩ := id ex.exc
  obtain ⟨ec, ek⟩ := fc C hm3
  unfold xIsi at q
  split at q
  · cases d with
    | some x2 => obtain ⟨vs, _, _, ne⟩ := hd'; exact absurd rfl ne
    | none =>
      refine (pe_callB (X := X.suite a ((a, oe) :: pn)) (call_isE ec hz hf) hg hm boot_isinstance1 (pa_cons pv (pa_cons (pe_glob (X := X.suite a ((a, oe) :: pn)) (v := .ref C2) hg2 hm2 rfl hd2) pa_nil))).run pins s σ H Q I ?_
      exact ⟨_, ex.slot j hi, .ref C2, .ref C2, b, rfl, (fun u r => r), ek, q ι H _ .refl sm (.bl b)⟩
  · exact q.elim
end
/-! ### the statement -/
/-- except ..: j = f(..), of the classes that sub answers -/
structure Cl where
  sub : Str → Option Bool
  slot : Option Nat
  to : Nat
  val : Str → List (Str × D) → ME
def unslot (i : Option Nat) (ρ : Env) : Env := match i with
  | none => ρ
  | some i => ρ.set i none
def slotIn (i : Option Nat) (ρ : Env) : Bool := match i with
  | none => true
  | some i => decide (i < ρ.length)
def clsM (n : Str) (fs : List (Str × D)) (ρ : Env) (S : Store) : List Cl → SO
  | [] => .exc n fs ρ S
  | c :: r => match c.sub n with
    | none => .bad
    | some false => clsM n fs ρ S r
    | some true => if slotIn c.slot ρ = true then (match c.val n fs (unslot c.slot ρ) S with
      | .ok d S1 => .nx ((unslot c.slot ρ).set c.to (some d)) S1
      | _ => .bad) else .bad
def sTry (b : MS) (cs : List Cl) : MS := fun ρ S => match b ρ S with
  | .exc n fs ρ1 S1 => clsM n fs ρ1 S1 cs
  | o => o
/-- what the clause's class answers -/
def Subs (K : PySem.W.Frag) (mg : Str → Option Value) (c : Value) (sub : Str → Option Bool) : Prop := ∀ n C b, sub n = some b → mg n = some (.ref C) → PySem.W.exmOne K (.ref C) c = some b
/-- the suite of a clause: one assignment -/
def suX (c : Cf) (cl : Cl) : Suite := fun a cls d => fun E σ H => ∃ n fs, cl.sub n = some true ∧ tAsg (tX c cl.slot a n fs cls d (cl.val n fs)) (gName cl.to) E σ H
section
variable {X : Cx} {W : WX} {f : MS} {sts : List Stmt} {pos : Pos}
inductive CsOk (X : Cx) : List ExceptHandler → List Cl → List (Value × Option Nat × Suite) → Prop
  | nil : CsOk X [] [] []
  | cons {h : ExceptHandler} {hs : List ExceptHandler} {c : Cl} {cs : List Cl} {cv : Value} {l : List (Value × Option Nat × Suite)} (hc : ∀ {l' : List (Value × Option Nat × Suite)}, Clauses X hs l' → Clauses X (h :: hs) ((cv, c.slot, suX (cf X) c) :: l')) (sb : Subs X.K X.mg cv c.sub) (ne : ∀ j, c.slot = some j → j ≠ c.to) (r : CsOk X hs cs l) :
      CsOk X (h :: hs) (c :: cs) ((cv, c.slot, suX (cf X) c) :: l)
theorem CsOk.clauses {hs : List ExceptHandler} {cs : List Cl} {l : List (Value × Option Nat × Suite)} (k : CsOk X hs cs l) : Clauses X hs l := by
  induction k with
  | nil => exact .nil
  | cons hc _ _ _ ih => exact hc ih
theorem REnv.unslot {c : Cf} {H : Hp} {ι : List Addr} {ρ : Env} {σ : L2.St} (en : REnv c H ι ρ σ) (i : Option Nat) (a : Addr) : REnv c H ι (unslot i ρ) (bound i a σ) := by
  cases i with
  | none => exact en
  | some i =>
    refine ⟨by show (ρ.set i none).length = (σ.set i _).length; rw [List.length_set, List.length_set]; exact en.len, fun j d e => ?_⟩
    have e : (ρ.set i none)[j]? = some (some d) := e
    show ∃ v, (σ.set i (some (.ref a)))[j]? = some (some v) ∧ _
    by_cases hj : i = j
    · subst hj
      by_cases hl : i < ρ.length
      · rw [List.getElem?_set_self hl] at e; cases e
      · rw [List.getElem?_eq_none (by rw [List.length_set]; omega)] at e; cases e
    · rw [List.getElem?_set_ne hj] at e ⊢
      exact en.get j d e
theorem cs_wish {hs : List ExceptHandler} {cs : List Cl} {l : List (Value × Option Nat × Suite)} (k : CsOk X hs cs l) {E : Ends} : ∀ {n : Str} {fs : List (Str × D)} {ρ : Env} {S : Store} {ι ι' : List Addr} {H H' : Hp} {σ' : L2.St} {cls : Value} {d : Option Addr},
    postS (cf X) W ι H E (clsM n fs ρ S cs) → Stp ι H ι' H' → Sim (cf X) ι' S H' → REnv (cf X) H' ι' ρ σ' → RExc (cf X) H' ι' n fs cls d → wCl X.K W E l cls d σ' H' := by
  induction k with
  | nil =>
    intro n fs ρ S ι ι' H H' σ' cls d q p sm en ex
    exact q ι' H' σ' cls d p sm en ex
  | @cons h hs c cs cv l hc sb ne r ih =>
    intro n fs ρ S ι ι' H H' σ' cls d q p sm en ex
    obtain ⟨C, rfl, hm, hd⟩ := id ex
    unfold clsM at q
    cases es : c.sub n with
    | none => rw [es] at q; exact q.elim
    | some b =>
      rw [es] at q
      refine ⟨b, sb n C b es hm, fun hb a na => ?_, fun hb => ?_⟩
      · subst hb
        dsimp only at q
        -- the slot of the name: laid, if the frame has it
        by_cases hs' : slotIn c.slot ρ = true
        · rw [if_pos hs'] at q
          have hin : ∀ j, c.slot = some j → j < σ'.length := fun j ej => by
            rw [ej] at hs'
            rw [← en.len]
            exact of_decide_eq_true hs'
          refine ⟨n, fs, es, ι', S, unslot c.slot ρ, sm, REnv.unslot en c.slot a, ⟨fun j ej => ?_, ex⟩, ?_⟩
          · rw [ej]
            show (σ'.set j (some (.ref a)))[j]? = _
            rw [List.getElem?_set_self (hin j ej)]
          · cases ev : c.val n fs (unslot c.slot ρ) S with
            | bad => rw [ev] at q; exact q.elim
            | exc m gs S1 => rw [ev] at q; exact q.elim
            | ok d1 S1 =>
              rw [ev] at q
              intro ι2 H2 v p2 s2 r2
              -- behind the suite
              have fin : ∀ τ : L2.St, REnv (cf X) H2 ι2 ((unslot c.slot ρ).set c.to (some d1)) τ → E.nx τ H2 := fun τ en2 => q ι2 H2 τ (p.trans p2) s2 en2
              have e2 := (REnv.unslot (en.step p2) c.slot a).set r2 c.to
              cases hsl : c.slot with
              | none => rw [hsl] at e2; rw [hsl] at fin; exact fin _ e2
              | some j =>
                rw [hsl] at e2 fin
                have nej := ne j hsl
                show E.nx (((σ'.set j (some (.ref a))).set c.to (some v)).set j none) H2
                refine fin _ ⟨by have := e2.len; simp only [unslot, bound, List.length_set] at this ⊢; exact this, fun m dm em => ?_⟩
                obtain ⟨w, h1, h2⟩ := e2.get m dm em
                refine ⟨w, ?_, h2⟩
                by_cases hmj : j = m
                · subst hmj
                  exfalso
                  have em : ((ρ.set j none).set c.to (some d1))[j]? = some (some dm) := em
                  rw [List.getElem?_set_ne (Ne.symm nej)] at em
                  by_cases hl : j < ρ.length
                  · rw [List.getElem?_set_self hl] at em; cases em
                  · rw [List.getElem?_eq_none (by rw [List.length_set]; omega)] at em; cases em
                · rw [List.getElem?_set_ne hmj]
                  exact h1
        · rw [if_neg hs'] at q
          exact q.elim
      · subst hb
        exact ih q p sm en ex
theorem ss_try {hs : List ExceptHandler} {h1 : ExceptHandler} {cs : List Cl} {l : List (Value × Option Nat × Suite)} (st : X.stack = X.env :: X.outer) (fr : X.env.frame = some X.env.locals) (nd : X.N.Nodup) (tk : Takes X W)
    (hb : ∀ (W' : WX) (pn : List (Addr × Obj)) (xe : Value → Shared → Prop), Takes (X.tr pn xe) W' → PassesOwn (model X.prog X.w) X.A X.env xe → PSs (X.tr pn xe) sts (tS (cf X) W' f)) (k : CsOk X (h1 :: hs) cs l) :
    PS X (.Try sts (h1 :: hs) [] [] pos) (tS (cf X) W (sTry f cs)) := by
  refine PS.imp (ps_clauses (tb := fun W' => tS (cf X) W' f) (Wout := W) st fr nd tk hb k.clauses) ?_
  rintro E σ H ⟨ι, S, ρ, sm, en, q⟩
  refine ⟨ι, S, ρ, sm, en, ?_⟩
  unfold sTry at q
  cases e : f ρ S with
  | exc n fs ρ1 S1 =>
    rw [e] at q
    exact fun ι' H' σ' cls dd p s' en' ex => cs_wish k q p s' en' ex
  | nx ρ1 S1 => rw [e] at q; exact q
  | ret d S1 => rw [e] at q; exact q
  | brk ρ1 S1 => rw [e] at q; exact q
  | ct ρ1 S1 => rw [e] at q; exact q
  | bad => rw [e] at q; exact q
/-- a clause with a name, one without: the suite's rule is given for every exception that the clause takes -/
theorem cl_as {x n : Str} {i j : Nat} {sub : Str → Option Bool} {val : Str → List (Str × D) → ME} {cv : Value} {e : Expr} {y : Str} {p1 p2 p3 p4 : Pos} {hs : List ExceptHandler} {cs : List Cl} {l : List (Value × Option Nat × Suite)}
    (nm : Names X x cv) (sb : Subs X.K X.mg cv sub) (hi : X.N[i]? = some n) (hl : X.env.kindOf n = some .local) (ne : i ≠ j) (nd : X.N.Nodup) (hj : X.N[j]? = some y) (hy : Loc X.env.scope y)
    (he : ∀ (a : Addr) (oe : Obj) (cls : Value) (d : Option Addr) (pn : List (Addr × Obj)) (m : Str) (fs : List (Str × D)), Zc cls d oe → (∃ vs, oe.data = .fields vs) → sub m = some true → PE (X.suite a ((a, oe) :: pn)) e (tX (cf X) (some i) a m fs cls d (val m fs)))
    (r : CsOk X hs cs l) (hsw : swapsWith e (some (.Name y p3)) p4.line X.env = pure false := by rfl) (hf : X.fn y = true ∨ X.env.scope.names.lookup y = some .local := by first | exact .inl rfl | exact .inr rfl | assumption) :
    CsOk X (.ExceptHandler (some (.Name x p1)) (some n) [.Assign [.Name y p3] e p4] p2 :: hs) (⟨sub, some i, j, val⟩ :: cs) ((cv, some i, suX (cf X) ⟨sub, some i, j, val⟩) :: l) := by
  refine .cons (fun k => .as nm hi hl (fun a oe cls d pn hz hv => ?_) k) sb (fun j' ej => by cases ej; exact ne) r
  refine ⟨fun pins s σ H E I ⟨m, fs, hm, q⟩ => ?_⟩
  exact (pss_one (ps_set (X := X.suite a ((a, oe) :: pn)) nd hj hy (he a oe cls d pn m fs hz hv hm) hsw hf)).run pins s σ H E I q
theorem cl_only {x : Str} {j : Nat} {sub : Str → Option Bool} {val : Str → List (Str × D) → ME} {cv : Value} {e : Expr} {y : Str} {p1 p2 p3 p4 : Pos} {hs : List ExceptHandler} {cs : List Cl} {l : List (Value × Option Nat × Suite)}
    (nm : Names X x cv) (sb : Subs X.K X.mg cv sub) (nd : X.N.Nodup) (hj : X.N[j]? = some y) (hy : Loc X.env.scope y)
    (he : ∀ (a : Addr) (oe : Obj) (cls : Value) (d : Option Addr) (pn : List (Addr × Obj)) (m : Str) (fs : List (Str × D)), Zc cls d oe → (∃ vs, oe.data = .fields vs) → sub m = some true → PE (X.suite a ((a, oe) :: pn)) e (tX (cf X) none a m fs cls d (val m fs)))
    (r : CsOk X hs cs l) (hsw : swapsWith e (some (.Name y p3)) p4.line X.env = pure false := by rfl) (hf : X.fn y = true ∨ X.env.scope.names.lookup y = some .local := by first | exact .inl rfl | exact .inr rfl | assumption) :
    CsOk X (.ExceptHandler (some (.Name x p1)) none [.Assign [.Name y p3] e p4] p2 :: hs) (⟨sub, none, j, val⟩ :: cs) ((cv, none, suX (cf X) ⟨sub, none, j, val⟩) :: l) := by
  refine .cons (fun k => .only nm (fun a oe cls d pn hz hv => ?_) k) sb (fun j' ej => nomatch ej) r
  refine ⟨fun pins s σ H E I ⟨m, fs, hm, q⟩ => ?_⟩
  exact (pss_one (ps_set (X := X.suite a ((a, oe) :: pn)) nd hj hy (he a oe cls d pn m fs hz hv hm) hsw hf)).run pins s σ H E I q
end
section
variable {K : PySem.W.Frag} {mg : Str → Option Value}
/-- what the written part says of the class x, at C -/
structure ClsF (K : PySem.W.Frag) (mg : Str → Option Value) (x : Str) (C : Addr) : Prop where
  g : mg x = some (.ref C)
  be : PySem.W.subIn K (.ref C) (.type "BaseException") = some true
  hd : PySem.W.hasDictIn K C = true
  ty : PySem.W.typeIn K (.ref C) = some (.type "type")
  kp : PySem.W.keepIn K (.ref C) = true
theorem ClsF.mk' {h : Heap} {x : Str} {C : Addr} (X : K.In h) (G : h.Ns mainGlobals mg) (a : PySem.W.nsIn K mainGlobals x = some (some (.ref C))) (h1 : PySem.W.subIn K (.ref C) (.type "BaseException") = some true) (h2 : PySem.W.hasDictIn K C = true) (h3 : PySem.W.typeIn K (.ref C) = some (.type "type")) (h4 : PySem.W.keepIn K (.ref C) = true) : ClsF K mg x C :=
  ⟨PySem.W.mg_of X G a, h1, h2, h3, h4⟩
/-- the classes that a clause is asked about -/
def tab (l : List (Str × Bool)) (n : Str) : Option Bool := l.lookup n
theorem subs_nil {cv : Value} : Subs K mg cv (tab []) := fun n C b h => by cases h
theorem subs_cons {x y : Str} {C D : Addr} {b : Bool} {l : List (Str × Bool)} (F : ClsF K mg y C) (E : ClsF K mg x D) (s : PySem.W.subIn K (.ref D) (.ref C) = some b) (r : Subs K mg (.ref C) (tab l)) : Subs K mg (.ref C) (tab ((x, b) :: l)) := by
  intro n C' b' h hm
  unfold tab at h
  rw [List.lookup_cons] at h
  split at h
  · rename_i e
    cases h
    have e : n = x := by simpa using e
    subst e
    rw [E.g] at hm
    cases hm
    exact PySem.W.exm_ref F.be F.hd F.ty s
  · exact r n C' b' h hm
end
section
variable {X : Cx} {W : WX} {pos p p2 q : Pos} {x m : Str} {j : Nat} {C : Addr}
/-- raise x('m'), x an own class over ValueError without __init__ of its own -/
theorem ss_raiseV (hc : X.calm = true) (tk : Takes X W) (F : ClsF X.K X.mg x C) (ex : PySem.W.excIn X.K C [.type "ValueError", .type "Exception", .type "BaseException", .type "object"] "ValueError.__new__" = true) (hg : Gl X x) (hdb : (x == ("__debug__" : Str)) = false := by decide) :
    PS X (.Raise (some (.Call (.Name x p) [.Constant (.str m) j p2] [] pos)) none q) (tS (cf X) W (sRaise0 x)) :=
  ss_raise0 hc tk F.g (pmk_own PySem.F.excBase_ValueError ex F.g F.kp (raises_own F.be F.ty) hg hdb)
end
end Mini
namespace Mini
open PySem L2
theorem tab_one {l : List (Str × Bool)} {m x : Str} (h : tab l m = some true) (e : l.filter (fun p => p.2) = [(x, true)]) : m = x := by
  have : ∀ {l : List (Str × Bool)}, List.lookup m l = some true → (m, true) ∈ l.filter (fun p => p.2) := by
    intro l
    induction l with
    | nil => intro h; cases h
    | cons q l ih =>
      intro h
      obtain ⟨y, b⟩ := q
      rw [List.lookup_cons] at h
      split at h
      · rename_i e
        cases h
        have e : m = y := by simpa using e
        subst e
        simp
      · exact List.mem_filter.mpr ⟨List.mem_cons_of_mem _ (List.mem_filter.mp (ih h)).1, rfl⟩
  have z := this h
  rw [e] at z
  simpa using z
end Mini

/-! MINI, part W: the law's end. -/
namespace Mini
open PySem L2 PyProof.Rows
/-- the law is asked of the list of ints at a -/
def spL (K : PySem.W.Frag) : Sp := fun vs H Q _ => ∃ (a : Addr) (ns : List Int), vs = [.ref a] ∧ SqL K H a (ns.map V.int) ∧ ns.length ≤ 63 ∧ ∀ H', Q (.bl true) H'
/-- the plain statement -/
def Plain (g : List D → M D) : Prop := ∀ (ns : List Int) (m : MO), ns.length ≤ 63 → (m = .lst (ns.map D.int) ∨ m = .rol (ns.map D.int)) → ∃ S', g [.ref 0] [m] = .ok (.bl true) S'
theorem reps_ints {c : Cf} {H : Hp} {ι : List Addr} : ∀ ns : List Int, Reps c H ι (ns.map D.int) (ns.map V.int)
  | [] => .nil
  | n :: ns => .cons (.int n) (reps_ints ns)
theorem spL_imp {K : PySem.W.Frag} {mg : Str → Option Value} {g : List D → M D} (hp : Plain g) : ∀ vs H Q E, spL K vs H Q E → spM ⟨K, mg⟩ 1 g vs H Q E := by
  rintro vs H Q E ⟨a, ns, rfl, hs, hl, k⟩
  refine ⟨rfl, ?_⟩
  have go : ∀ m : MO, (m = .lst (ns.map D.int) ∨ m = .rol (ns.map D.int)) → ObjRep ⟨K, mg⟩ H [a] a m → ∃ ι S ds, Sim ⟨K, mg⟩ ι S H ∧ Reps ⟨K, mg⟩ H ι ds [.ref a] ∧ match g ds S with
      | .ok d S' => ∀ ι' H' v, Stp ι H ι' H' → Sim ⟨K, mg⟩ ι' S' H' → Rep ⟨K, mg⟩ H' ι' d v → Q v H'
      | .exc m fs S' => ∀ ι' H' cls dd, Stp ι H ι' H' → Sim ⟨K, mg⟩ ι' S' H' → RExc ⟨K, mg⟩ H' ι' m fs cls dd → E cls dd H'
      | .bad => False := fun m hm ob => by
    obtain ⟨S', e⟩ := hp ns m hl hm
    refine ⟨[a], [m], [.ref 0], ⟨rfl, fun h j b m1 m2 h1 h2 _ _ _ _ => ?_, fun h m1 b e1 e2 => ?_⟩, .cons (.ref rfl) .nil, ?_⟩
    · have l1 := (List.getElem?_eq_some_iff.mp h1).1
      have l2 := (List.getElem?_eq_some_iff.mp h2).1
      simp only [List.length_singleton] at l1 l2
      omega
    · have l1 := (List.getElem?_eq_some_iff.mp e1).1
      simp only [List.length_singleton] at l1
      obtain rfl : h = 0 := by omega
      cases e1; cases e2
      exact ob
    · rw [e]
      intro ι' H' v p s r
      cases r
      exact k H'
  rcases hs with hs | hs
  · rcases hs with hs | ⟨o, hs⟩
    · exact go _ (.inl rfl) ⟨_, hs, reps_ints ns⟩
    · exact go _ (.inr rfl) ⟨_, .inl ⟨o, hs⟩, reps_ints ns⟩
  · exact go _ (.inr rfl) ⟨_, .inr hs, reps_ints ns⟩
theorem Does.fn {P : Program} {w : World} {K : PySem.W.Frag} {mg : Str → Option Value} {base : Heap} {x q : Str} {ps : List Str} {k n : Nat} {g : List D → M D} {st : Stmt} {f : Addr} {fd : FuncData} (d : Does P w K mg base x ps k n g) (F : Fun K x q st f fd) (hm : mg x = some (.ref f)) : FnOk P w K mg base (L2.CX P w) k f fd ps (spM ⟨K, mg⟩ n g) := by
  obtain ⟨f2, fd2, st2, m2, F2, _, ok⟩ := d.ex
  rw [hm] at m2
  cases m2
  obtain ⟨oc, od, kV, doc, pm, an, cdv, ct, osl, e1, lk, _⟩ := F.ex
  obtain ⟨oc', od', kV', doc', pm', an', cdv', ct', osl', e2, lk', _⟩ := F2.ex
  rw [lk] at lk'
  have : fd2 = fd := by
    injection lk' with z
    injection z with _ _ z _
    injection z with z
    exact z.symm
  rw [← this]
  exact ok
theorem law_end {P : Program} {w : World} {K : PySem.W.Frag} {mg : Str → Option Value} {fa : Addr} {k : Nat} {g : List D → M D} {st : Stmt} (D : Def K mg "law" st ["script"]) (hfa : mg "law" = some (.ref fa))
    (hb : ∀ (kV doc pm : Value) (an : Option Addr) (cdv ct v : Value), bindArgs (PySem.W.fnOf "law" "law" (defArgs st) (defBody st) (defScope st) .none kV doc pm an cdv ct) ⟨[v], []⟩ = pure [(("script" : Str), v)])
    (hd : ∀ base : Heap, Does P w K mg base "law" ["script"] k 1 g) (hp : Plain g) :
    ∃ fd : FuncData, (∀ (s : Shared) (v : Value), BindsTo s fd ⟨[v], []⟩ [("script", v)]) ∧ ∀ base : Heap, K.In base → base.Ns mainGlobals mg → FnOk P w K mg base (L2.CX P w) k fa fd ["script"] (spL K) := by
  obtain ⟨f, fd, F, hm, _⟩ := D.ex
  rw [hfa] at hm
  cases hm
  refine ⟨fd, fun s v => ?_, fun base _ _ => ((hd base).fn F hfa).imp (spL_imp hp)⟩
  obtain ⟨oc, od, kV, doc, pm, an, cdv, ct, osl, rfl, lk, hcd⟩ := F.ex
  exact .of_eq (hb kV doc pm an cdv ct v)
theorem walk {l : PySem.W.OpenLaw} {k : Nat} {q : Program} {loose : List Str} {XP : (Str → Option Value) → Heap → Prop} {YP : World → Heap → Prop} {d : DefRec} {K : Params → PySem.W.Frag} (hn : l.most = some 63) (hdf : d.params.defaults = []) (hr : Room k callerA)
    (hY : ∀ (w : World) (h : Heap), YP w h → (K w.params).In h)
    (F : ∀ (w : World) (mg : Str → Option Value) (fa : Addr) (h : Heap), (K w.params).In h → h.Ns mainGlobals mg → mg d.name = some (.ref fa) →
      ∃ fd : FuncData, (∀ (s : Shared) (u : Value), BindsTo s fd ⟨[u], []⟩ [("script", u)]) ∧ ∀ base : Heap, (K w.params).In base → base.Ns mainGlobals mg → FnOk l.prog w (K w.params) mg base (L2.CX l.prog w) k fa fd ["script"] (spL (K w.params))) :
    PySem.W.WalkO q loose XP YP l.row.toRowW d [] (fun f vs => PySem.call f vs) :=
  L2.walk_of (n := 63) (k := k) (x := "script") (CX := fun w => L2.CX l.prog w) (sp := fun w => spL (K w.params)) hn (by decide) hdf hr hY F (fun _ _ a ns hl _ hS => ⟨a, ns, rfl, hS, hl, fun _ => rfl⟩) fun w H s e s' z => by
    obtain ⟨_, _, _, _, _, _, _, _, _, _, _, _, z⟩ := z
    exact z.elim
theorem Blt.mk' {K : PySem.W.Frag} {mg : Str → Option Value} {h : Heap} (X : K.In h) (G : h.Ns mainGlobals mg) (a : ∀ x ∈ (["len", "range", "isinstance", "str", "int", "bool", "tuple", "list", "dict", "set", "all", "any", "sum", "abs", "max", "min", "sorted", "enumerate", "zip", "reversed"] : List Str), PySem.W.nsIn K mainGlobals x = some none) : Blt mg := by
  constructor <;> exact PySem.W.mg_none_of X G (a _ (by simp))
end Mini

/-! MINI, part X: how a mini program is reasoned about. -/
namespace Mini
open PySem
abbrev XP := Str → List (Str × D) → Store → Prop
abbrev XPs := Str → List (Str × D) → Env → Store → Prop
def ok {α : Type} (o : Out α) (P : α → Store → Prop) (X : XP) : Prop := match o with
  | .ok a S => P a S
  | .exc n fs S => X n fs S
  | .bad => False
def so (o : SO) (N : Env → Store → Prop) (R : D → Store → Prop) (X : XPs) : Prop := match o with
  | .nx ρ S => N ρ S
  | .ret d S => R d S
  | .exc n fs ρ S => X n fs ρ S
  | _ => False
abbrev X0 : XP := fun _ _ _ => False
abbrev Xs0 : XPs := fun _ _ _ _ => False
theorem ok_mono {α : Type} {o : Out α} {P P' : α → Store → Prop} {X X' : XP} (h : ok o P X) (hP : ∀ a S, P a S → P' a S) (hX : ∀ n fs S, X n fs S → X' n fs S) : ok o P' X' := by
  cases o with
  | ok a S => exact hP a S h
  | exc n fs S => exact hX n fs S h
  | bad => exact h
theorem so_mono {o : SO} {N N' : Env → Store → Prop} {R R' : D → Store → Prop} {X X' : XPs} (h : so o N R X) (hN : ∀ ρ S, N ρ S → N' ρ S) (hR : ∀ d S, R d S → R' d S) (hX : ∀ n fs ρ S, X n fs ρ S → X' n fs ρ S) : so o N' R' X' := by
  cases o with
  | nx ρ S => exact hN ρ S h
  | ret d S => exact hR d S h
  | exc n fs ρ S => exact hX n fs ρ S h
  | _ => exact h
section
variable {α β : Type} {P : α → Store → Prop} {X : XP} {S : Store}
@[simp] theorem ok_ok {a : α} : ok (.ok a S) P X = P a S := rfl
@[simp] theorem ok_bad : ok (.bad : Out α) P X = False := rfl
@[simp] theorem ok_pur {a : α} : ok (pur a S) P X = P a S := rfl
@[simp] theorem ok_bnd {x : M β} {k : β → M α} : ok (bnd x k S) P X = ok (x S) (fun b S1 => ok (k b S1) P X) X := by
  unfold bnd
  cases x S <;> rfl
@[simp] theorem ok_lift {o : Option (α × Store)} : ok (lift o) P X = ∃ p, o = some p ∧ P p.1 p.2 := by
  cases o with
  | none => simp [lift, ok]
  | some p => simp [lift, ok]
@[simp] theorem ok_nox {x : M α} : ok (nox x S) P X = ok (x S) P X0 := by
  unfold nox
  cases x S <;> rfl
@[simp] theorem ok_liftI {o : Option α} : ok (liftI S o) P X = ∃ a, o = some a ∧ P a S := by
  cases o with
  | none => simp [liftI, ok]
  | some p => simp [liftI, ok]
end
section
variable {P : D → Store → Prop} {X : XP} {S : Store} {ρ : Env} {fa fb fc : ME} {fs : Env → M (List D)}
@[simp] theorem ok_eC {d : D} : ok (eC d ρ S) P X = P d S := rfl
theorem ok_eVar {i : Nat} {d : D} (h : ρ[i]? = some (some d)) : ok (eVar i ρ S) P X = P d S := by unfold eVar; rw [h]; rfl
@[simp] theorem ok_eOp {g : P2} : ok (eOp g fa fb ρ S) P X = ok (fa ρ S) (fun a S1 => ok (fb ρ S1) (fun b S2 => ∃ p, g a b S2 = some p ∧ P p.1 p.2) X) X := by simp [eOp]
@[simp] theorem ok_eUn {g : P1} : ok (eUn g fa ρ S) P X = ok (fa ρ S) (fun a S1 => ∃ p, g a S1 = some p ∧ P p.1 p.2) X := by simp [eUn]
@[simp] theorem ok_eIsi {u : String} : ok (eIsi u fa ρ S) P X = ok (fa ρ S) (fun a S1 => ∃ p, pIsi u a S1 = some p ∧ P p.1 p.2) X := by simp [eIsi]
@[simp] theorem ok_aNil {P : List D → Store → Prop} : ok (aNil ρ S) P X = P [] S := rfl
@[simp] theorem ok_aCons {P : List D → Store → Prop} : ok (aCons fa fs ρ S) P X = ok (fa ρ S) (fun a S1 => ok (fs ρ S1) (fun as S2 => P (a :: as) S2) X) X := by simp [aCons]
@[simp] theorem ok_eTup : ok (eTup fs ρ S) P X = ok (fs ρ S) (fun as S1 => ∃ p, tupO as S1 = some p ∧ P p.1 p.2) X := by simp [eTup]
@[simp] theorem ok_eLst : ok (eLst fs ρ S) P X = ok (fs ρ S) (fun as S1 => ∃ p, newL as S1 = some p ∧ P p.1 p.2) X := by simp [eLst]
@[simp] theorem ok_eB {g : PN} : ok (eB g fs ρ S) P X = ok (fs ρ S) (fun as S1 => ∃ p, g as S1 = some p ∧ P p.1 p.2) X := by simp [eB]
@[simp] theorem ok_eCall {g : List D → M D} : ok (eCall g fs ρ S) P X = ok (fs ρ S) (fun as S1 => ok (g as S1) P X) X := by simp [eCall]
@[simp] theorem ok_eCallK {g : List D → M D} {n1 n2 : Nat} {fk : Env → M (List D)} : ok (eCallK n1 n2 g fs fk ρ S) P X = ok (fs ρ S) (fun as S1 => ok (fk ρ S1) (fun bs S2 => as.length = n1 ∧ bs.length = n2 ∧ ok (g (as ++ bs) S2) P X) X) X := by
  simp only [eCallK, ok_bnd]
  congr 1; funext as S1; congr 1; funext bs S2
  by_cases h : as.length = n1 ∧ bs.length = n2
  · rw [if_pos h]; simp [h.1, h.2]
  · rw [if_neg h]
    simp only [ok_bad, eq_iff_iff, false_iff]
    exact fun z => h ⟨z.1, z.2.1⟩
@[simp] theorem ok_eMt {T : String} {g : PM} : ok (eMt T g fa fs ρ S) P X = ok (fa ρ S) (fun o S1 => tyD S1 o = some T ∧ ok (fs ρ S1) (fun as S2 => ∃ p, g o as S2 = some p ∧ P p.1 p.2) X) X := by
  simp only [eMt, ok_bnd]
  congr 1; funext o S1
  by_cases h : tyD S1 o = some T
  · rw [if_pos h]; simp [h]
  · rw [if_neg h]; simp [h]
@[simp] theorem ok_eCut {lo hi : Env → M (Option Int)} : ok (eCut fa lo hi ρ S) P X = ok (fa ρ S) (fun a S1 => ok (lo ρ S1) (fun l S2 => ok (hi ρ S2) (fun h S3 => ∃ p, pCut a l h S3 = some p ∧ P p.1 p.2) X) X) X := by simp [eCut]
@[simp] theorem ok_oNone {P : Option Int → Store → Prop} : ok (oNone ρ S) P X = P none S := rfl
@[simp] theorem ok_oSome {P : Option Int → Store → Prop} : ok (oSome fa ρ S) P X = ok (fa ρ S) (fun a S1 => ∃ i, a = .int i ∧ P (some i) S1) X := by
  simp only [oSome, ok_bnd]
  congr 1; funext a S1
  cases a <;> simp
@[simp] theorem ok_eIf {t : Env → M Bool} : ok (eIf t fa fb ρ S) P X = ok (t ρ S) (fun b S1 => ok ((if b = true then fa ρ else fb ρ) S1) P X) X := by
  simp only [eIf, ok_bnd]
theorem ok_bl {k : Bool → M D} {a : D} : ok ((match a with | .bl b => k b | _ => fun _ => .bad) S) P X = ∃ b, a = .bl b ∧ ok (k b S) P X := by cases a <;> simp
@[simp] theorem ok_eAnd : ok (eAnd fa fb ρ S) P X = ok (fa ρ S) (fun a S1 => ∃ b, a = .bl b ∧ ok ((if b = true then fb ρ else pur (.bl false)) S1) P X) X := by
  simp only [eAnd, ok_bnd]
  congr 1; funext a S1
  exact ok_bl (k := fun b => if b = true then fb ρ else pur (.bl false))
@[simp] theorem ok_eOr : ok (eOr fa fb ρ S) P X = ok (fa ρ S) (fun a S1 => ∃ b, a = .bl b ∧ ok ((if b = true then pur (.bl true) else fb ρ) S1) P X) X := by
  simp only [eOr, ok_bnd]
  congr 1; funext a S1
  exact ok_bl (k := fun b => if b = true then pur (.bl true) else fb ρ)
@[simp] theorem ok_eNot : ok (eNot fa ρ S) P X = ok (fa ρ S) (fun a S1 => ∃ b, a = .bl b ∧ P (.bl (!b)) S1) X := by
  simp only [eNot, ok_bnd]
  congr 1; funext a S1
  cases a <;> simp
@[simp] theorem ok_tBl {P : Bool → Store → Prop} : ok (tBl fa ρ S) P X = ok (fa ρ S) (fun a S1 => ∃ b, a = .bl b ∧ P b S1) X := by
  simp only [tBl, ok_bnd]
  congr 1; funext a S1
  cases a <;> simp
@[simp] theorem ok_tTru {P : Bool → Store → Prop} : ok (tTru fa ρ S) P X = ok (fa ρ S) (fun a S1 => ∃ b, truD S1 a = some b ∧ P b S1) X := by
  simp only [tTru, ok_bnd]
  congr 1; funext a S1
  cases h : truD S1 a <;> simp
variable {t u : Env → M Bool}
@[simp] theorem ok_tAnd {P : Bool → Store → Prop} : ok (tAnd' t u ρ S) P X = ok (t ρ S) (fun b S1 => ok ((if b = true then u ρ else pur false) S1) P X) X := by simp only [tAnd', ok_bnd]
@[simp] theorem ok_tOr {P : Bool → Store → Prop} : ok (tOr' t u ρ S) P X = ok (t ρ S) (fun b S1 => ok ((if b = true then pur true else u ρ) S1) P X) X := by simp only [tOr', ok_bnd]
@[simp] theorem ok_tNot {P : Bool → Store → Prop} : ok (tNot' t ρ S) P X = ok (t ρ S) (fun b S1 => P (!b) S1) X := by simp only [tNot', ok_bnd, ok_pur]
@[simp] theorem ok_ttYes {P : Bool → Store → Prop} : ok (ttYes ρ S) P X = P true S := rfl
@[simp] theorem ok_eChain {g g' : P2} : ok (eChain g g' fa fb fc ρ S) P X = ok (fa ρ S) (fun a S1 => ok (fb ρ S1) (fun b S2 => ∃ p, g a b S2 = some p ∧ ∃ k, p.1 = .bl k ∧ ok ((if k = true then (bnd (fc ρ) fun c => fun S => lift (g' b c S)) else pur (.bl false)) p.2) P X) X) X := by
  simp only [eChain, ok_bnd]
  congr 1; funext a S1; congr 1; funext b S2
  rw [ok_lift]
  congr 1; funext p; congr 1
  exact ok_bl (k := fun k => if k = true then (bnd (fc ρ) fun c => fun S => lift (g' b c S)) else pur (.bl false))
@[simp] theorem ok_iAny {P : MIt → Store → Prop} : ok (iAny fa ρ S) P X = ok (fa ρ S) (fun d S1 => ∃ it, itOf S1 d = some it ∧ P it S1) X := by simp [iAny]
@[simp] theorem ok_iEnu {P : MIt → Store → Prop} : ok (iEnu fa ρ S) P X = ok (fa ρ S) (fun d S1 => ∃ it, enuOf S1 d = some it ∧ P it S1) X := by simp [iEnu]
@[simp] theorem ok_iArgs {P : MIt → Store → Prop} {g : List D → Option MIt} : ok (iArgs g fs ρ S) P X = ok (fs ρ S) (fun ds S1 => ∃ it, g ds = some it ∧ P it S1) X := by simp [iArgs]
end
section
variable {N : Env → Store → Prop} {R : D → Store → Prop} {X : XPs} {S : Store} {ρ : Env} {f g : MS} {fa fb fc : ME}
@[simp] theorem so_nil : so (sNil ρ S) N R X = N ρ S := rfl
@[simp] theorem so_seq : so (sSeq f g ρ S) N R X = so (f ρ S) (fun ρ1 S1 => so (g ρ1 S1) N R X) R X := by
  unfold sSeq
  cases f ρ S <;> rfl
@[simp] theorem so_ev {α : Type} {x : M α} {k : α → Store → SO} : so (ev x ρ k S) N R X = ok (x S) (fun a S1 => so (k a S1) N R X) (fun n fs S1 => X n fs ρ S1) := by
  unfold ev
  cases x S <;> rfl
@[simp] theorem so_nx : so (.nx ρ S) N R X = N ρ S := rfl
@[simp] theorem so_ret' {d : D} : so (.ret d S) N R X = R d S := rfl
@[simp] theorem so_expr : so (sExpr fa ρ S) N R X = ok (fa ρ S) (fun _ S1 => N ρ S1) (fun n fs S1 => X n fs ρ S1) := by simp [sExpr]
@[simp] theorem so_ret : so (sRet fa ρ S) N R X = ok (fa ρ S) R (fun n fs S1 => X n fs ρ S1) := by simp [sRet]
@[simp] theorem so_if {t : Env → M Bool} : so (sIf t f g ρ S) N R X = ok (t ρ S) (fun b S1 => so (if b = true then f ρ S1 else g ρ S1) N R X) (fun n fs S1 => X n fs ρ S1) := by simp only [sIf, so_ev]
@[simp] theorem so_set {t : Tg} : so (sSet t fa ρ S) N R X = ok (fa ρ S) (fun d S1 => ∃ ρ1, setT t d ρ = some ρ1 ∧ N ρ1 S1) (fun n fs S1 => X n fs ρ S1) := by
  simp only [sSet, so_ev]
  congr 1; funext d S1
  cases h : setT t d ρ <;> simp [so]
@[simp] theorem so_par {i j : Nat} {fs : Env → M (List D)} : so (sPar i j fs ρ S) N R X = ok (fs ρ S) (fun ds S1 => ∃ a b, ds = [a, b] ∧ N ((ρ.set i (some a)).set j (some b)) S1) (fun n fs S1 => X n fs ρ S1) := by
  simp only [sPar, so_ev]
  congr 1; funext ds S1
  match ds with
  | [] => simp [so]
  | [_] => simp [so]
  | [a, b] => exact propext ⟨fun z => ⟨a, b, rfl, z⟩, fun ⟨_, _, e, z⟩ => by cases e; exact z⟩
  | _ :: _ :: _ :: _ => simp [so]
@[simp] theorem so_put : so (sPut fa fb fc ρ S) N R X = ok (fa ρ S) (fun d S1 => ok (fb ρ S1) (fun o S2 => ok (fc ρ S2) (fun i S3 => ∃ S4, pSet o i d S3 = some S4 ∧ N ρ S4) (fun n fs S1 => X n fs ρ S1)) (fun n fs S1 => X n fs ρ S1)) (fun n fs S1 => X n fs ρ S1) := by
  simp only [sPut, so_ev]
  congr 1; funext d S1; congr 1; funext o S2; congr 1; funext i S3
  cases h : pSet o i d S3 <;> simp [so]
@[simp] theorem so_for {wi : Env → M MIt} {t : Tg} : so (sFor wi t f ρ S) N R X = ok (wi ρ S) (fun it S1 => so (forM t f it turns 0 ρ S1) N R X) (fun n fs S1 => X n fs ρ S1) := by simp [sFor]
@[simp] theorem so_try {cs : List Cl} : so (sTry f cs ρ S) N R X = so (f ρ S) N R (fun n fs ρ1 S1 => so (clsM n fs ρ1 S1 cs) N R X) := by
  unfold sTry
  cases f ρ S <;> rfl
@[simp] theorem so_raise0 {c : Str} : so (sRaise0 c ρ S) N R X = X c [] ρ S := rfl
theorem ok_runF {n m : Nat} {b : MS} {ds : List D} {P : D → Store → Prop} {X : XP} (h : ds.length = m) : ok (runF n m b ds S) P X = so (b (ds.map some ++ List.replicate (n - m) none) S) (fun _ S1 => P .non S1) P (fun n fs _ S1 => X n fs S1) := by
  unfold runF
  rw [if_pos h]
  cases b (ds.map some ++ List.replicate (n - m) none) S <;> rfl
end
/-! ### loops -/
theorem for_inv {t : Tg} {f : MS} {it : MIt} {xs : List D} {N : Env → Store → Prop} {R : D → Store → Prop} {X : XPs} (I : Nat → Env → Store → Prop) (hx : xs.length ≤ lim)
    (nx : ∀ i ρ S, i ≤ xs.length → I i ρ S → nextI it i S = .of xs[i]?)
    (step : ∀ i x ρ S, xs[i]? = some x → I i ρ S → ∃ ρ1, setT t x ρ = some ρ1 ∧ so (f ρ1 S) (I (i + 1)) R X) (done : ∀ ρ S, I xs.length ρ S → N ρ S) {ρ : Env} {S : Store} (h0 : I 0 ρ S) : so (forM t f it turns 0 ρ S) N R X := by
  have go : ∀ (k i : Nat) (ρ : Env) (S : Store), i + k = xs.length → ∀ n, k < n → I i ρ S → so (forM t f it n i ρ S) N R X := by
    intro k
    induction k with
    | zero =>
      intro i ρ S hi n hn h
      obtain ⟨n, rfl⟩ : ∃ m, n = m + 1 := ⟨n - 1, by omega⟩
      unfold forM
      have e : xs[i]? = none := List.getElem?_eq_none (by omega)
      rw [nx i ρ S (by omega) h, e]
      obtain rfl : i = xs.length := by omega
      exact done ρ S h
    | succ k ih =>
      intro i ρ S hi n hn h
      obtain ⟨n, rfl⟩ : ∃ m, n = m + 1 := ⟨n - 1, by omega⟩
      unfold forM
      have hl : i < xs.length := by omega
      rw [nx i ρ S (by omega) h, List.getElem?_eq_getElem hl]
      obtain ⟨ρ1, e1, h1⟩ := step i _ ρ S (List.getElem?_eq_getElem hl) h
      simp only [Nxt.of, e1]
      cases e : f ρ1 S with
      | nx ρ2 S2 => rw [e] at h1; exact ih (i + 1) ρ2 S2 (by omega) n (by omega) h1
      | ret d S2 => rw [e] at h1; exact h1
      | exc c fs ρ2 S2 => rw [e] at h1; exact h1
      | brk ρ2 S2 => rw [e] at h1; exact h1.elim
      | ct ρ2 S2 => rw [e] at h1; exact h1.elim
      | bad => rw [e] at h1; exact h1.elim
  exact go xs.length 0 ρ S (by omega) turns (by unfold turns; unfold lim at hx; omega) h0
theorem lc_inv {g : Tg} {tt : Env → M Bool} {fe : ME} {it : MIt} {h : Nat} {ρ : Env} {xs : List D} {P : D → Store → Prop} {X : XP} (I : Nat → List D → Store → Prop) (hx : xs.length ≤ lim)
    (nx : ∀ i acc S, i ≤ xs.length → I i acc S → nextI it i S = .of xs[i]?)
    (len : ∀ i acc S, I i acc S → acc.length ≤ i)
    (step : ∀ i x acc S, xs[i]? = some x → I i acc S → ∃ ρ1, setT g x ρ = some ρ1 ∧ ok (tt ρ1 S) (fun b S1 => if b = true then ok (fe ρ1 S1) (fun y S2 => S2[h]? = some (.lst acc) ∧ I (i + 1) (acc ++ [y]) (S2.set h (.lst (acc ++ [y])))) X0 else I (i + 1) acc S1) X0)
    (done : ∀ acc S, I xs.length acc S → P (.ref h) S) {S : Store} (h0 : I 0 [] S) : ok (lcM g tt fe it h ρ turns 0 S) P X := by
  have go : ∀ (k i : Nat) (acc : List D) (S : Store), i + k = xs.length → ∀ n, k < n → I i acc S → ok (lcM g tt fe it h ρ n i S) P X := by
    intro k
    induction k with
    | zero =>
      intro i acc S hi n hn hI
      obtain ⟨n, rfl⟩ : ∃ m, n = m + 1 := ⟨n - 1, by omega⟩
      unfold lcM
      have e : xs[i]? = none := List.getElem?_eq_none (by omega)
      simp only [nx i acc S (by omega) hI, e, Nxt.of]
      obtain rfl : i = xs.length := by omega
      exact done acc S hI
    | succ k ih =>
      intro i acc S hi n hn hI
      obtain ⟨n, rfl⟩ : ∃ m, n = m + 1 := ⟨n - 1, by omega⟩
      have hl : i < xs.length := by omega
      obtain ⟨ρ1, e1, h1⟩ := step i _ acc S (List.getElem?_eq_getElem hl) hI
      have ln := len i acc S hI
      unfold lcM
      simp only [nx i acc S (by omega) hI, List.getElem?_eq_getElem hl, Nxt.of, e1]
      rw [ok_bnd, ok_nox]
      refine ok_mono h1 (fun b S1 hb => ?_) fun _ _ _ z => z.elim
      cases b with
      | false => exact ih (i + 1) acc S1 (by omega) n (by omega) hb
      | true =>
        simp only [if_true] at hb ⊢
        rw [ok_bnd, ok_nox]
        refine ok_mono hb (fun y S2 hy => ?_) fun _ _ _ z => z.elim
        simp only [hy.1]
        rw [if_pos (show acc.length < lim by omega)]
        exact ih (i + 1) _ _ (by omega) n (by omega) hy.2
  exact go xs.length 0 [] S (by omega) turns (by unfold turns; unfold lim at hx; omega) h0
end Mini

namespace C
open PySem L2 Mini
def b_is_tuple_of : MS :=
    (sRet (eAnd (eIsi "tuple" (eVar 1)) (eOp pEq (eB nLen (aCons (eVar 1) aNil)) (eVar 0))))
def g_is_tuple_of : List D → M D := runF 2 2 b_is_tuple_of
def b_is_word : MS :=
    (sRet (eAnd (eIsi "str" (eVar 0)) (eAnd (eChain pLe pLe (eC (.int 1)) (eB nLen (aCons (eVar 0) aNil)) (eVar 1)) (eB nAll (aCons (eLc (iAny (eVar 0)) (.nm 2) ttYes (eOp pIn (eVar 2) (eC (.str "abcdefghijklmnopqrstuvwxyz"))) [2]) aNil)))))
def g_is_word : List D → M D := runF 3 2 b_is_word
def b_is_name : MS :=
    (sRet (eCall g_is_word (aCons (eVar 0) (aCons (eC (.int 8)) aNil))))
def g_is_name : List D → M D := runF 1 1 b_is_name
def b_is_right : MS :=
    (sRet (eCall g_is_word (aCons (eVar 0) (aCons (eC (.int 3)) aNil))))
def g_is_right : List D → M D := runF 1 1 b_is_right
def b_names_fault : MS :=
    (sSeq (sFor (iEnu (eVar 1)) (.tp [(.nm 3), (.nm 4)])
    (sIf (tOr' (tNot' (tTru (eCall g_is_name (aCons (eVar 4) aNil)))) (tOr' (tAnd' (tBl (eOp pGt (eVar 3) (eC (.int 0)))) (tBl (eOp pLe (eVar 4) (eOp pIdx (eVar 1) (eOp pSub (eVar 3) (eC (.int 1))))))) (tBl (eOp pIn (eVar 4) (eVar 2)))))
    (sRet (eTup (aCons (eVar 0) (aCons (eVar 3) aNil))))
    sNil))
    (sRet (eC .non)))
def g_names_fault : List D → M D := runF 5 3 b_names_fault
def b_is_hold_of : MS :=
    (sSeq (sIf (tOr' (tNot' (tTru (eCall g_is_tuple_of (aCons (eC (.int 3)) (aCons (eVar 1) aNil))))) (tNot' (tTru (eB nAll (aCons (eLc (iAny (eCut (eVar 1) oNone (oSome (eC (.int 2))))) (.nm 2) ttYes (eAnd (eCall g_is_name (aCons (eVar 2) aNil)) (eOp pIn (eVar 2) (eVar 0))) [2]) aNil)))))
    (sRet (eC (.bl false)))
    sNil)
    (sRet (eCall g_is_right (aCons (eOp pIdx (eVar 1) (eC (.int 2))) aNil))))
def g_is_hold_of : List D → M D := runF 3 2 b_is_hold_of
def b_graph_fault : MS :=
    (sSeq (sIf (tOr' (tNot' (tTru (eCall g_is_tuple_of (aCons (eC (.int 3)) (aCons (eVar 0) aNil))))) (tNot' (tTru (eB nAll (aCons (eLc (iAny (eVar 0)) (.nm 1) ttYes (eIsi "tuple" (eVar 1)) [1]) aNil)))))
    (sRet (eTup aNil))
    sNil)
    (sSeq (sSet (.tp [(.nm 2), (.nm 3), (.nm 4)]) (eVar 0))
    (sSeq (sSet (.nm 5) (eCall g_names_fault (aCons (eC (.int 0)) (aCons (eVar 2) (aCons (eTup aNil) aNil)))))
    (sSeq (sIf (tBl (eOp pIs (eVar 5) (eC .non)))
    (sSet (.nm 5) (eCall g_names_fault (aCons (eC (.int 1)) (aCons (eVar 3) (aCons (eVar 2) aNil)))))
    sNil)
    (sSeq (sIf (tBl (eOp pIsNot (eVar 5) (eC .non)))
    (sRet (eVar 5))
    sNil)
    (sSeq (sSet (.nm 6) (eDc (iAny (eOp pAdd (eVar 2) (eVar 3))) (.nm 7) ttYes (eVar 7) (eC (.bl true)) [7]))
    (sSeq (sFor (iEnu (eVar 4)) (.tp [(.nm 8), (.nm 9)])
    (sIf (tOr' (tNot' (tTru (eCall g_is_hold_of (aCons (eVar 6) (aCons (eVar 9) aNil))))) (tAnd' (tBl (eOp pGt (eVar 8) (eC (.int 0)))) (tBl (eOp pLe (eVar 9) (eOp pIdx (eVar 4) (eOp pSub (eVar 8) (eC (.int 1))))))))
    (sRet (eTup (aCons (eC (.int 2)) (aCons (eVar 8) aNil))))
    sNil))
    (sRet (eC .non)))))))))
def g_graph_fault : List D → M D := runF 10 1 b_graph_fault
def b_check_graph : MS :=
    (sSeq (sSet (.nm 1) (eCall g_graph_fault (aCons (eVar 0) aNil)))
    (sIf (tBl (eOp pIsNot (eVar 1) (eC .non)))
    sNever
    sNil))
def g_check_graph : List D → M D := runF 2 1 b_check_graph
def b_has_name : MS :=
    (sRet (eAnd (eCall g_is_name (aCons (eVar 1) aNil)) (eOr (eOp pIn (eVar 1) (eOp pIdx (eVar 0) (eC (.int 0)))) (eOp pIn (eVar 1) (eOp pIdx (eVar 0) (eC (.int 1)))))))
def g_has_name : List D → M D := runF 2 2 b_has_name
def b__law_pot : MS :=
    (sSeq (sSet (.nm 2) (eOp pMul (eC (.int 7)) (eVar 1)))
    (sSeq (sIf (tBl (eOp pLt (eVar 1) (eB nLen (aCons (eVar 0) aNil))))
    (sSet (.nm 2) (eOp pIdx (eVar 0) (eVar 1)))
    sNil)
    (sSeq (sSet (.nm 2) (eOp pMod (eB nInt (aCons (eB nAbs (aCons (eVar 2) aNil)) aNil)) (eOp pMul (eOp pMul (eOp pMul (eOp pPow (eC (.int 10)) (eC (.int 60))) (eOp pPow (eC (.int 10)) (eC (.int 60)))) (eOp pPow (eC (.int 10)) (eC (.int 60)))) (eOp pPow (eC (.int 10)) (eC (.int 60))))))
    (sRet (eLst (aCons (eVar 2) (aCons (eB nInt (aCons (eOp pGe (eVar 2) (eOp pPow (eC (.int 10)) (eC (.int 18)))) aNil)) (aCons (eOp pMul (eC (.int 3)) (eVar 1)) aNil))))))))
def g__law_pot : List D → M D := runF 3 2 b__law_pot
def b__law_draw : MS :=
    (sSeq (sPut (eOp pAdd (eOp pIdx (eVar 0) (eC (.int 2))) (eC (.int 1))) (eVar 0) (eC (.int 2)))
    (sSeq (sIf (tAnd' (tBl (eOp pEq (eOp pIdx (eVar 0) (eC (.int 1))) (eC (.int 1)))) (tBl (eOp pGt (eOp pIdx (eVar 0) (eC (.int 0))) (eC (.int 0)))))
    (sSeq (sSet (.nm 2) (eOp pMod (eB nInt (aCons (eOp pIdx (eVar 0) (eC (.int 0))) aNil)) (eVar 1)))
    (sSeq (sPut (eOp pDiv (eOp pIdx (eVar 0) (eC (.int 0))) (eVar 1)) (eVar 0) (eC (.int 0)))
    (sRet (eVar 2))))
    sNil)
    (sSeq (sSet (.nm 3) (eOp pMod (eB nInt (aCons (eOp pMul (eOp pAdd (eOp pAdd (eOp pIdx (eVar 0) (eC (.int 0))) (eOp pMul (eC (.int 977)) (eOp pIdx (eVar 0) (eC (.int 2))))) (eC (.int 1))) (eC (.int 48271))) aNil)) (eC (.int 2147483647))))
    (sSeq (sSet (.nm 3) (eOp pMod (eB nInt (aCons (eOp pMul (eVar 3) (eVar 3)) aNil)) (eC (.int 2147483629))))
    (sSeq (sSet (.nm 3) (eOp pMod (eB nInt (aCons (eOp pMul (eOp pAdd (eVar 3) (eOp pMul (eC (.int 40692)) (eOp pIdx (eVar 0) (eC (.int 2))))) (eC (.int 69621))) aNil)) (eC (.int 2147483563))))
    (sRet (eOp pMod (eB nInt (aCons (eOp pDiv (eVar 3) (eC (.int 8))) aNil)) (eVar 1))))))))
def g__law_draw : List D → M D := runF 4 2 b__law_draw
def b__law_name : MS :=
    (sSeq (sSet (.tp [(.nm 1), (.nm 2)]) (eTup (aCons (eC (.str "abcxyz")) (aCons (eC (.int 2)) aNil))))
    (sSeq (sIf (tBl (eOp pEq (eCall g__law_draw (aCons (eVar 0) (aCons (eC (.int 3)) aNil))) (eC (.int 0))))
    (sSet (.tp [(.nm 1), (.nm 2)]) (eTup (aCons (eC (.str "abcdefghijklmnopqrstuvwxyz")) (aCons (eC (.int 4)) aNil))))
    sNil)
    (sRet (eMt "str" qJoin (eC (.str "")) (aCons (eLc (iArgs rng1 (aCons (eOp pAdd (eC (.int 1)) (eCall g__law_draw (aCons (eVar 0) (aCons (eVar 2) aNil)))) aNil)) (.nm 3) ttYes (eOp pIdx (eVar 1) (eCall g__law_draw (aCons (eVar 0) (aCons (eB nLen (aCons (eVar 1) aNil)) aNil)))) [3]) aNil)))))
def g__law_name : List D → M D := runF 4 1 b__law_name
def b__law_names : MS :=
    (sSeq (sSet (.nm 2) (eLst aNil))
    (sSeq (sFor (iArgs rng1 (aCons (eVar 1) aNil)) (.nm 3)
    (sSeq (sSet (.nm 4) (eCall g__law_name (aCons (eVar 0) aNil)))
    (sSeq (sIf (tBl (eOp pIn (eVar 4) (eVar 2)))
    (sSet (.nm 4) (eOp pAdd (eC (.str "qqqq")) (eOp pIdx (eC (.str "abcdefghijklmnopqrstuvwxyz")) (eVar 3))))
    sNil)
    (sExpr (eMt "list" qAppend (eVar 2) (aCons (eVar 4) aNil))))))
    (sRet (eVar 2))))
def g__law_names : List D → M D := runF 5 2 b__law_names
def b__law_rights : MS :=
    (sRet (eLst (aCons (eC (.str "t")) (aCons (eC (.str "g")) (aCons (eC (.str "t")) (aCons (eC (.str "g")) (aCons (eC (.str "r")) (aCons (eC (.str "w")) (aCons (eOp pIdx (eLst (aCons (eC (.str "own")) (aCons (eC (.str "x")) (aCons (eC (.str "do")) aNil)))) (eCall g__law_draw (aCons (eVar 0) (aCons (eC (.int 3)) aNil)))) aNil)))))))))
def g__law_rights : List D → M D := runF 1 1 b__law_rights
def b__law_graph : MS :=
    (sSeq (sPar 4 5 (aCons (eOp pAdd (eC (.int 1)) (eCall g__law_draw (aCons (eVar 0) (aCons (eVar 1) aNil)))) (aCons (eCall g__law_draw (aCons (eVar 0) (aCons (eOp pAdd (eVar 2) (eC (.int 1))) aNil))) aNil)))
    (sSeq (sSet (.nm 6) (eCall g__law_names (aCons (eVar 0) (aCons (eOp pAdd (eVar 4) (eVar 5)) aNil))))
    (sSeq (sPar 7 8 (aCons (eCall g__law_rights (aCons (eVar 0) aNil)) (aCons (eLst aNil) aNil)))
    (sSeq (sFor (iArgs rng1 (aCons (eCall g__law_draw (aCons (eVar 0) (aCons (eOp pAdd (eVar 3) (eC (.int 1))) aNil))) aNil)) (.nm 9)
    (sSeq (sPar 10 11 (aCons (eOp pIdx (eVar 6) (eCall g__law_draw (aCons (eVar 0) (aCons (eB nLen (aCons (eVar 6) aNil)) aNil)))) (aCons (eOp pIdx (eVar 6) (eCall g__law_draw (aCons (eVar 0) (aCons (eB nLen (aCons (eVar 6) aNil)) aNil)))) aNil)))
    (sExpr (eMt "list" qAppend (eVar 8) (aCons (eTup (aCons (eVar 10) (aCons (eVar 11) (aCons (eOp pIdx (eVar 7) (eCall g__law_draw (aCons (eVar 0) (aCons (eB nLen (aCons (eVar 7) aNil)) aNil)))) aNil)))) aNil)))))
    (sRet (eTup (aCons (eB nTuple (aCons (eB nSorted (aCons (eCut (eVar 6) oNone (oSome (eVar 4))) aNil)) aNil)) (aCons (eB nTuple (aCons (eB nSorted (aCons (eCut (eVar 6) (oSome (eVar 4)) oNone) aNil)) aNil)) (aCons (eB nTuple (aCons (eB nSortSet (aCons (eVar 8) aNil)) aNil)) aNil)))))))))
def g__law_graph : List D → M D := runF 12 4 b__law_graph
def b__law_is_word : MS :=
    (sSeq (sSet (.nm 2) (eC (.str "abcdefghijklmnopqrstuvwxyz")))
    (sRet (eAnd (eIsi "str" (eVar 0)) (eAnd (eChain pLe pLe (eC (.int 1)) (eB nLen (aCons (eVar 0) aNil)) (eVar 1)) (eB nAll (aCons (eLc (iAny (eVar 0)) (.nm 3) ttYes (eOp pIn (eVar 3) (eVar 2)) [3]) aNil))))))
def g__law_is_word : List D → M D := runF 4 2 b__law_is_word
def b__law_same (g__law_same : List D → M D) : MS :=
    (sSeq (sIf (tOr' (tTru (eIsi "tuple" (eVar 1))) (tTru (eIsi "list" (eVar 1))))
    (sSeq (sIf (tOr' (tBl (eOp pNe (eIsi "tuple" (eVar 1)) (eIsi "tuple" (eVar 0)))) (tBl (eOp pNe (eIsi "list" (eVar 1)) (eIsi "list" (eVar 0)))))
    (sRet (eC (.bl false)))
    sNil)
    (sRet (eAnd (eOp pEq (eB nLen (aCons (eVar 0) aNil)) (eB nLen (aCons (eVar 1) aNil))) (eB nAll (aCons (eLc (iArgs rng1 (aCons (eB nLen (aCons (eVar 1) aNil)) aNil)) (.nm 2) ttYes (eCall g__law_same (aCons (eOp pIdx (eVar 0) (eVar 2)) (aCons (eOp pIdx (eVar 1) (eVar 2)) aNil))) [2]) aNil)))))
    sNil)
    (sSeq (sIf (tBl (eOp pIs (eVar 1) (eC .non)))
    (sRet (eOp pIs (eVar 0) (eC .non)))
    sNil)
    (sSeq (sIf (tTru (eIsi "bool" (eVar 1)))
    (sRet (eAnd (eIsi "bool" (eVar 0)) (eOp pEq (eVar 0) (eVar 1))))
    sNil)
    (sSeq (sIf (tOr' (tTru (eIsi "bool" (eVar 0))) (tOr' (tBl (eOp pNe (eIsi "int" (eVar 0)) (eIsi "int" (eVar 1)))) (tBl (eOp pNe (eIsi "str" (eVar 0)) (eIsi "str" (eVar 1))))))
    (sRet (eC (.bl false)))
    sNil)
    (sRet (eOp pEq (eVar 0) (eVar 1)))))))
def f__law_same : Nat → List D → M D
  | 0 => badF
  | k + 1 => runF 3 2 (b__law_same (f__law_same k))
def g__law_same : List D → M D := f__law_same 16
def b__law_odd : MS :=
    (sSeq (sSet (.nm 1) (eLst (aCons (eC .non) (aCons (eC (.bl true)) (aCons (eC (.bl false)) (aCons (eC (.int 0)) (aCons (eC (.int 7)) (aCons (eUn pNeg (eC (.int 1))) (aCons (eOp pPow (eC (.int 10)) (eC (.int 30))) (aCons (eC (.str "")) (aCons (eC (.str "A")) (aCons (eC (.str "a b")) (aCons (eC (.str "abcdefghi")) (aCons (eC (.str "a1")) (aCons (eC (.str "t-")) (aCons (eTup (aCons (eC (.str "a")) aNil)) (aCons (eLst (aCons (eC (.str "a")) aNil)) (aCons (eLst aNil) (aCons (eTup aNil) (aCons (eC (.str "Zz")) (aCons (eC (.str " a")) (aCons (eC (.str "a\n")) aNil))))))))))))))))))))))
    (sRet (eOp pIdx (eVar 1) (eCall g__law_draw (aCons (eVar 0) (aCons (eB nLen (aCons (eVar 1) aNil)) aNil))))))
def g__law_odd : List D → M D := runF 2 1 b__law_odd
def b__law_stranger : MS :=
    (sSeq (sSet (.nm 2) (eOp pAdd (eOp pIdx (eVar 1) (eC (.int 0))) (eOp pIdx (eVar 1) (eC (.int 1)))))
    (sSeq (sSet (.nm 3) (eC (.str "b")))
    (sSeq (sIf (tBl (eOp pNe (eVar 2) (eTup aNil)))
    (sSet (.nm 3) (eOp pIdx (eVar 2) (eCall g__law_draw (aCons (eVar 0) (aCons (eB nLen (aCons (eVar 2) aNil)) aNil)))))
    sNil)
    (sSeq (sSet (.nm 4) (eLst (aCons (eOp pAdd (eVar 3) (eC (.str "k"))) (aCons (eCut (eVar 3) oNone (oSome (eUn pNeg (eC (.int 1))))) (aCons (eOp pAdd (eVar 3) (eC (.str "kk"))) (aCons (eCut (eVar 3) (oSome (eC (.int 1))) oNone) (aCons (eC (.str "strange")) aNil)))))))
    (sSeq (sSet (.nm 5) (eCall g__law_draw (aCons (eVar 0) (aCons (eC (.int 4)) aNil))))
    (sSeq (sSet (.nm 4) (eOp pAdd (eCut (eVar 4) (oSome (eVar 5)) oNone) (eLst (aCons (eC (.str "strange")) aNil))))
    (sRet (eOp pIdx (eLc (iAny (eVar 4)) (.nm 6) (tAnd' (tTru (eCall g__law_is_word (aCons (eVar 6) (aCons (eC (.int 8)) aNil)))) (tBl (eOp pNotIn (eVar 6) (eVar 2)))) (eVar 6) [6]) (eC (.int 0))))))))))
def g__law_stranger : List D → M D := runF 7 2 b__law_stranger
end C

/-! MINI, part Y: what the common defs compute. -/
namespace Mini
open PySem
@[simp] theorem ok_var {i : Nat} {ρ : Env} {S : Store} {P : D → Store → Prop} {X : XP} : ok (eVar i ρ S) P X = ∃ d, ρ[i]? = some (some d) ∧ P d S := by
  unfold eVar
  match ρ[i]? with
  | none => simp
  | some none => simp
  | some (some d) => simp
section
variable {n : Nat} {b : MS} {x y z u : D} {S : Store} {P : D → Store → Prop} {X : XP}
theorem run1 : ok (runF n 1 b [x] S) P X = so (b (some x :: List.replicate (n - 1) none) S) (fun _ S1 => P .non S1) P (fun m fs _ S1 => X m fs S1) := ok_runF (ds := [x]) rfl
theorem run2 : ok (runF n 2 b [x, y] S) P X = so (b (some x :: some y :: List.replicate (n - 2) none) S) (fun _ S1 => P .non S1) P (fun m fs _ S1 => X m fs S1) := ok_runF (ds := [x, y]) rfl
theorem run3 : ok (runF n 3 b [x, y, z] S) P X = so (b (some x :: some y :: some z :: List.replicate (n - 3) none) S) (fun _ S1 => P .non S1) P (fun m fs _ S1 => X m fs S1) := ok_runF (ds := [x, y, z]) rfl
theorem run4 : ok (runF n 4 b [x, y, z, u] S) P X = so (b (some x :: some y :: some z :: some u :: List.replicate (n - 4) none) S) (fun _ S1 => P .non S1) P (fun m fs _ S1 => X m fs S1) := ok_runF (ds := [x, y, z, u]) rfl
end
/-- the store grew; but for the handles M all is as it was -/
structure Kp (M : List Nat) (S S' : Store) : Prop where
  len : S.length ≤ S'.length
  get : ∀ (h : Nat) (m : MO), h ∉ M → S[h]? = some m → S'[h]? = some m
theorem Kp.refl {M : List Nat} {S : Store} : Kp M S S := ⟨Nat.le_refl _, fun _ _ _ e => e⟩
theorem Kp.trans {M : List Nat} {S S1 S2 : Store} (a : Kp M S S1) (b : Kp M S1 S2) : Kp M S S2 := ⟨Nat.le_trans a.len b.len, fun h m n e => b.get h m n (a.get h m n e)⟩
theorem Kp.wk {M M' : List Nat} {S S1 : Store} (a : Kp M S S1) (s : ∀ h ∈ M, h ∈ M') : Kp M' S S1 := ⟨a.len, fun h m n e => a.get h m (fun z => n (s h z)) e⟩
theorem Kp.set {S : Store} {h : Nat} {m : MO} : Kp [h] S (S.set h m) := ⟨by rw [List.length_set]; exact Nat.le_refl _, fun j o n e => by
  rw [List.getElem?_set_ne (fun z => n (by simp [z]))]; exact e⟩
theorem Kp.new {M : List Nat} {S G : Store} : Kp M S (S ++ G) := ⟨by simp, fun j o n e => by
  rw [List.getElem?_append_left (List.getElem?_eq_some_iff.mp e).1]; exact e⟩
/-- a pot: k draws are left -/
def PotOk (S : Store) (h k : Nat) : Prop := ∃ a b c : Int, S[h]? = some (.lst [.int a, .int b, .int c]) ∧ 0 ≤ a ∧ a < 10 ^ 240 ∧ 0 ≤ c ∧ c + k ≤ 10 ^ 9
theorem PotOk.mono {S : Store} {h k j : Nat} (p : PotOk S h k) (hj : j ≤ k) : PotOk S h j := let ⟨a, b, c, e, h1, h2, h3, h4⟩ := p; ⟨a, b, c, e, h1, h2, h3, by omega⟩
theorem set_get {S : Store} {h : Nat} {m m' : MO} (e : S[h]? = some m') : (S.set h m)[h]? = some m := List.getElem?_set_self (List.getElem?_eq_some_iff.mp e).1
section
variable {S : Store} {h : Nat} {xs : List D} {i : Int} {d : D}
theorem idxL (e : S[h]? = some (.lst xs)) (ha : L2.atI xs i = some d) : pIdx (.ref h) (.int i) S = some (d, S) := by
  simp only [pIdx, e, ha, Option.map_some]
theorem idxR (e : S[h]? = some (.rol xs)) (ha : L2.atI xs i = some d) : pIdx (.ref h) (.int i) S = some (d, S) := by
  simp only [pIdx, e, ha, Option.map_some]
theorem idxT (ha : L2.atI xs i = some d) : pIdx (.tup xs) (.int i) S = some (d, S) := by
  simp only [pIdx, ha, Option.map_some]
theorem setL {k : Nat} (e : S[h]? = some (.lst xs)) (ha : L2.ixN xs.length i = some k) : pSet (.ref h) (.int i) d S = some (S.set h (.lst (xs.set k d))) := by
  simp only [pSet, e, ha, Option.map_some]
theorem eqI {i j : Int} : pEq (.int i) (.int j) S = some (.bl (decide (i = j)), S) := by
  have : toP S (.int i) = some (.int i) ∧ toP S (.int j) = some (.int j) := ⟨rfl, rfl⟩
  simp only [pEq, eqD, this.1, this.2]
  have z : (SeqAt.shaped (.int i) && SeqAt.shaped (.int j)) = true := rfl
  rw [if_pos z]
  show some (D.bl (PyData.eqv (.int i) (.int j)), S) = _
  congr 3
end
theorem ok_val {α : Type} {o : Out α} {S : Store} {P : α → Prop} (h : ok o (fun a S' => S' = S ∧ P a) X0) : ∃ a, o = .ok a S ∧ P a := by
  cases o with
  | ok a S1 => obtain ⟨rfl, p⟩ := h; exact ⟨a, rfl, p⟩
  | exc n fs S1 => exact h.elim
  | bad => exact h.elim
theorem ltI {i j : Int} {S : Store} : pLt (.int i) (.int j) S = some (.bl (decide (i < j)), S) := rfl
theorem gtI {i j : Int} {S : Store} : pGt (.int i) (.int j) S = some (.bl (decide (j < i)), S) := rfl
theorem leI {i j : Int} {S : Store} : pLe (.int i) (.int j) S = some (.bl (!decide (j < i)), S) := rfl
theorem geI {i j : Int} {S : Store} : pGe (.int i) (.int j) S = some (.bl (!decide (i < j)), S) := rfl
theorem addI {i j : Int} {S : Store} : pAdd (.int i) (.int j) S = some (.int (i + j), S) := rfl
theorem subI {i j : Int} {S : Store} : pSub (.int i) (.int j) S = some (.int (i - j), S) := rfl
theorem natAbs_lt {i : Int} {n : Nat} (h0 : 0 ≤ i) (h : i < n) : i.natAbs < n := by omega
theorem big {i : Int} (h0 : 0 ≤ i) (h : i < 10 ^ 300) : i.natAbs < 2 ^ 4000 := by
  have h1 : i.natAbs < 10 ^ 300 := by
    have : (i.natAbs : Int) < ((10 ^ 300 : Nat) : Int) := by
      rw [Int.natAbs_of_nonneg h0]
      exact_mod_cast h
    exact_mod_cast this
  exact Nat.lt_of_lt_of_le h1 (by decide)
theorem mulI {i j : Int} {S : Store} (hi : 0 ≤ i) (hi2 : i < 10 ^ 300) (hj : 0 ≤ j) (hj2 : j < 10 ^ 300) : pMul (.int i) (.int j) S = some (.int (i * j), S) := by
  have z : (decide (i.natAbs < 2 ^ 4000) && decide (j.natAbs < 2 ^ 4000)) = true := by rw [decide_eq_true (big hi hi2), decide_eq_true (big hj hj2)]; rfl
  show (if (decide (i.natAbs < 2 ^ 4000) && decide (j.natAbs < 2 ^ 4000)) = true then _ else _) = _
  rw [if_pos z]
theorem modI {i j : Int} {S : Store} (h : 0 < j) : pMod (.int i) (.int j) S = some (.int (i % j), S) := by
  show (if 0 < j then _ else _) = _
  rw [if_pos h]
theorem divI {i j : Int} {S : Store} (h : 0 < j) (h2 : j < 1073741824) : pDiv (.int i) (.int j) S = some (.int (i / j), S) := by
  have z : (decide (0 < j) && decide (j < 1073741824)) = true := by rw [decide_eq_true h, decide_eq_true h2]; rfl
  show (if (decide (0 < j) && decide (j < 1073741824)) = true then _ else _) = _
  rw [if_pos z]
theorem intI {i : Int} {S : Store} : nInt [.int i] S = some (.int i, S) := rfl
theorem mod_rng {i j : Int} (h : 0 < j) : 0 ≤ i % j ∧ i % j < j := ⟨Int.emod_nonneg _ (by omega), Int.emod_lt_of_pos _ h⟩
theorem draw_spec {S : Store} {h k : Nat} {many : Int} {X : XP} (p : PotOk S h (k + 1)) (h1 : 1 ≤ many) (h2 : many < 1000) :
    ok (C.g__law_draw [.ref h, .int many] S) (fun d S' => ∃ r, d = .int r ∧ 0 ≤ r ∧ r < many ∧ PotOk S' h k ∧ Kp [h] S S') X := by
  obtain ⟨a, b, c, e, ha, ha2, hc, hk⟩ := p
  unfold C.g__law_draw
  rw [run2]
  unfold C.b__law_draw
  simp only [so_seq, so_put, ok_eOp, ok_var, ok_eC]
  refine ⟨_, rfl, _, idxL e rfl, _, rfl, _, rfl, _, setL (k := 2) e rfl, ?_⟩
  have e1 : (S.set h (.lst [.int a, .int b, .int (c + 1)]))[h]? = some (.lst [.int a, .int b, .int (c + 1)]) := set_get e
  have kp : Kp [h] S (S.set h (.lst [.int a, .int b, .int (c + 1)])) := Kp.set
  dsimp only [List.set]
  generalize S.set h (.lst [.int a, .int b, .int (c + 1)]) = S1 at e1 kp
  obtain ⟨t, ht, _⟩ := ok_val (P := fun _ => True) (S := S1) (o := tAnd' (tBl (eOp pEq (eOp pIdx (eVar 0) (eC (.int 1))) (eC (.int 1)))) (tBl (eOp pGt (eOp pIdx (eVar 0) (eC (.int 0))) (eC (.int 0)))) (some (.ref h) :: some (.int many) :: List.replicate (4 - 2) none) S1) (by
    simp only [ok_tAnd, ok_tBl, ok_eOp, ok_var, ok_eC]
    refine ⟨_, rfl, _, idxL e1 rfl, _, eqI, _, rfl, ?_⟩
    by_cases hb : b = 1
    · simp only [hb, decide_true, if_true, ok_tBl, ok_eOp, ok_var, ok_eC]
      exact ⟨_, rfl, _, idxL e1 rfl, _, gtI, _, rfl, rfl, trivial⟩
    · simp only [hb, decide_false, Bool.false_eq_true, if_false, ok_pur, and_self])
  rw [so_if, ht, ok_ok]
  have p1 : PotOk S1 h k := ⟨a, b, c + 1, e1, ha, ha2, by omega, by push_cast at hk ⊢; omega⟩
  cases t with
  | true =>
    simp only [if_true, so_seq, so_set, so_put, so_ret, ok_eOp, ok_eB, ok_aCons, ok_aNil, ok_var, ok_eC]
    refine ⟨_, rfl, _, idxL e1 rfl, _, intI, _, rfl, _, modI (by omega), _, rfl, ?_⟩
    refine ⟨_, rfl, _, idxL e1 rfl, _, rfl, _, divI (by omega) (by omega), _, rfl, _, setL (k := 0) e1 rfl, _, rfl, ?_⟩
    have hr := mod_rng (i := a) (show 0 < many by omega)
    refine ⟨_, rfl, hr.1, hr.2, ⟨a / many, b, c + 1, set_get e1, Int.ediv_nonneg ha (by omega), ?_, by omega, by push_cast at hk ⊢; omega⟩, kp.trans Kp.set⟩
    exact Int.lt_of_le_of_lt (Int.ediv_le_self _ ha) ha2
  | false =>
    simp only [Bool.false_eq_true, if_false, so_nil, so_set, so_ret, ok_eOp, ok_eB, ok_aCons, ok_aNil, ok_var, ok_eC]
    have c9 : c + 1 < 10 ^ 10 := by push_cast at hk; omega
    refine ⟨_, rfl, _, idxL e1 rfl, _, rfl, _, idxL e1 rfl, _, mulI (by decide) (by decide) (by omega) (Int.lt_trans c9 (by decide)), _, addI, _, addI, _, mulI ?_ ?_ (by decide) (by decide), _, intI, _, modI (by decide), _, rfl, ?_⟩
    · omega
    · have h240 : (10 : Int) ^ 240 + 977 * 10 ^ 10 + 1 < 10 ^ 300 := by decide
      have h977 : 977 * (c + 1) < 977 * 10 ^ 10 := by omega
      exact Int.lt_trans (by omega) h240
    generalize hm : (a + 977 * (c + 1) + 1) * 48271 % 2147483647 = m
    have hm1 := mod_rng (i := (a + 977 * (c + 1) + 1) * 48271) (show (0 : Int) < 2147483647 by decide)
    rw [hm] at hm1
    refine ⟨_, rfl, _, rfl, _, mulI hm1.1 (Int.lt_trans hm1.2 (by decide)) hm1.1 (Int.lt_trans hm1.2 (by decide)), _, intI, _, modI (by decide), _, rfl, ?_⟩
    generalize hn : m * m % 2147483629 = n
    have hn1 := mod_rng (i := m * m) (show (0 : Int) < 2147483629 by decide)
    rw [hn] at hn1
    refine ⟨_, rfl, _, rfl, _, idxL e1 rfl, _, mulI (by decide) (by decide) (by omega) (Int.lt_trans c9 (by decide)), _, addI, _, mulI (by omega) ?_ (by decide) (by decide), _, intI, _, modI (by decide), _, rfl, ?_⟩
    · have : (2147483629 : Int) + 40692 * 10 ^ 10 < 10 ^ 300 := by decide
      exact Int.lt_trans (by omega) this
    generalize hq : (n + 40692 * (c + 1)) * 69621 % 2147483563 = q
    have hr := mod_rng (i := q / 8) (show 0 < many by omega)
    exact ⟨_, rfl, _, divI (by decide) (by decide), _, intI, _, rfl, _, modI (by omega), _, rfl, hr.1, hr.2, p1, kp⟩
theorem Kp.none_new {S G : Store} {M : List Nat} : Kp M S (S ++ G) := Kp.new
theorem newL_eq {xs : List D} {S : Store} (h : xs.length ≤ lim) : newL xs S = some (.ref S.length, S ++ [.lst xs]) := by unfold newL; rw [if_pos h]; rfl
theorem tupO_eq {xs : List D} {S : Store} (h : xs.length ≤ lim) : tupO xs S = some (.tup xs, S) := by unfold tupO; rw [if_pos h]
theorem strO_eq {x : Str} {S : Store} (h : x.length ≤ lim) : strO x S = some (.str x, S) := by unfold strO; rw [if_pos h]
theorem new_get {S : Store} {m : MO} : (S ++ [m])[S.length]? = some m := by rw [List.getElem?_append_right (Nat.le_refl _)]; simp
theorem powI {i j : Int} {S : Store} (h : (decide (0 ≤ j) && decide (j ≤ 1000) && decide (i.natAbs < 2 ^ 64)) = true) : pPow (.int i) (.int j) S = some (.int (i ^ j.toNat), S) := by
  show (if (decide (0 ≤ j) && decide (j ≤ 1000) && decide (i.natAbs < 2 ^ 64)) = true then _ else _) = _
  rw [if_pos h]
theorem lenL {S : Store} {h : Nat} {xs : List D} (e : S[h]? = some (.lst xs)) : nLen [.ref h] S = some (.int xs.length, S) := by simp only [nLen, lenD, e, Option.map_some]
theorem lenR {S : Store} {h : Nat} {xs : List D} (e : S[h]? = some (.rol xs)) : nLen [.ref h] S = some (.int xs.length, S) := by simp only [nLen, lenD, e, Option.map_some]
theorem lenT {S : Store} {xs : List D} : nLen [.tup xs] S = some (.int xs.length, S) := rfl
theorem lenS {S : Store} {x : Str} (h : x.length ≤ lim) : nLen [.str x] S = some (.int x.length, S) := by
  simp only [nLen, lenD, if_pos h, Option.map_some]
theorem atI_nat {α : Type} {xs : List α} {i : Nat} {d : α} (h : xs[i]? = some d) : L2.atI xs (i : Int) = some d := by
  have hl : i < xs.length := (List.getElem?_eq_some_iff.mp h).1
  have e : L2.ixN xs.length (i : Int) = some i := by
    unfold L2.ixN
    simp [hl]
  unfold L2.atI
  rw [e]
  exact h
/-- the script: a list of ints, read only or not -/
def Scr (S : Store) (h : Nat) (ns : List Int) : Prop := S[h]? = some (.lst (ns.map D.int)) ∨ S[h]? = some (.rol (ns.map D.int))
theorem Scr.kp {M : List Nat} {S S' : Store} {h : Nat} {ns : List Int} (s : Scr S h ns) (k : Kp M S S') (hm : h ∉ M) : Scr S' h ns := s.imp (k.get h _ hm) (k.get h _ hm)
theorem Scr.len {S : Store} {h : Nat} {ns : List Int} (s : Scr S h ns) : nLen [.ref h] S = some (.int ns.length, S) := by
  rcases s with e | e
  · rw [lenL e, List.length_map]
  · rw [lenR e, List.length_map]
theorem Scr.idx {S : Store} {h i : Nat} {ns : List Int} {n : Int} (s : Scr S h ns) (e : ns[i]? = some n) : pIdx (.ref h) (.int i) S = some (.int n, S) := by
  have e2 : (ns.map D.int)[i]? = some (.int n) := by rw [List.getElem?_map, e]; rfl
  rcases s with z | z
  · exact idxL z (atI_nat e2)
  · exact idxR z (atI_nat e2)
theorem Scr.lt {S : Store} {h : Nat} {ns : List Int} (s : Scr S h ns) : h < S.length := by
  rcases s with e | e <;> exact (List.getElem?_eq_some_iff.mp e).1
theorem absI {i : Int} {S : Store} : nAbs [.int i] S = some (.int (if i < 0 then -i else i), S) := rfl
theorem intB {b : Bool} {S : Store} : nInt [.bl b] S = some (.int (if b then 1 else 0), S) := rfl
theorem pot_spec {S : Store} {h at' : Nat} {ns : List Int} {X : XP} (s : Scr S h ns) (hat : at' < 1000) :
    ok (C.g__law_pot [.ref h, .int at'] S) (fun d S' => d = .ref S.length ∧ PotOk S' S.length 100000000 ∧ Kp [] S S') X := by
  unfold C.g__law_pot
  rw [run2]
  unfold C.b__law_pot
  rw [so_seq, so_set]
  simp only [ok_eOp, ok_var, ok_eC]
  refine ⟨_, rfl, _, mulI (by decide) (by decide) (by omega) (by omega), _, rfl, ?_⟩
  rw [so_seq]
  -- whatever the cell is
  suffices go : ∀ c : Int, so (sSeq (sSet (.nm 2) (eOp pMod (eB nInt (aCons (eB nAbs (aCons (eVar 2) aNil)) aNil)) (eOp pMul (eOp pMul (eOp pMul (eOp pPow (eC (.int 10)) (eC (.int 60))) (eOp pPow (eC (.int 10)) (eC (.int 60)))) (eOp pPow (eC (.int 10)) (eC (.int 60)))) (eOp pPow (eC (.int 10)) (eC (.int 60))))))
      (sRet (eLst (aCons (eVar 2) (aCons (eB nInt (aCons (eOp pGe (eVar 2) (eOp pPow (eC (.int 10)) (eC (.int 18)))) aNil)) (aCons (eOp pMul (eC (.int 3)) (eVar 1)) aNil))))) [some (.ref h), some (.int at'), some (.int c)] S) (fun _ S1 => D.non = .ref S.length ∧ PotOk S1 S.length 100000000 ∧ Kp [] S S1) (fun d S' => d = .ref S.length ∧ PotOk S' S.length 100000000 ∧ Kp [] S S') (fun m fs _ S1 => X m fs S1) by
    simp only [so_if, ok_tBl, ok_eOp, ok_eB, ok_aCons, ok_aNil, ok_var]
    refine ⟨_, rfl, _, rfl, _, s.len, _, ltI, _, rfl, ?_⟩
    by_cases hl : at' < ns.length
    · simp only [show ((at' : Int) < (ns.length : Int)) from by omega, decide_true, if_true, so_set, ok_eOp, ok_var]
      refine ⟨_, rfl, _, rfl, _, s.idx (List.getElem?_eq_getElem hl), _, rfl, ?_⟩
      exact go ns[at']
    · simp only [show ¬ ((at' : Int) < (ns.length : Int)) from by omega, decide_false, Bool.false_eq_true, if_false, so_nil]
      exact go (7 * at')
  intro c
  simp only [so_seq, so_set, so_ret, ok_eOp, ok_eB, ok_eLst, ok_aCons, ok_aNil, ok_var, ok_eC]
  refine ⟨_, rfl, _, absI, _, intI, _, powI rfl, _, powI rfl, _, mulI (by decide) (by decide) (by decide) (by decide), _, powI rfl, _, mulI (by decide) (by decide) (by decide) (by decide), _, powI rfl, _, mulI (by decide) (by decide) (by decide) (by decide), _, modI (by decide), _, rfl, ?_⟩
  have hr := mod_rng (i := if c < 0 then -c else c) (show (0 : Int) < 10 ^ 60 * 10 ^ 60 * 10 ^ 60 * 10 ^ 60 by decide)
  refine ⟨_, rfl, _, rfl, _, powI rfl, _, geI, _, intB, _, rfl, _, mulI (by decide) (by decide) (by omega) (by omega), _, newL_eq (show 3 ≤ lim by decide), rfl, ⟨_, _, _, new_get, hr.1, ?_, by omega, by omega⟩, Kp.new⟩
  have e240 : (10 : Int) ^ 60 * 10 ^ 60 * 10 ^ 60 * 10 ^ 60 = 10 ^ 240 := by decide
  rw [← e240]
  exact hr.2
end Mini

/-! MINI, part Z: closed data, names, ascending lists. -/
namespace Mini
open PySem L2 PyProof.Rows PySem.W
def eP (d : D) : PyData := (dP (fun _ => none) d).getD .none
/-- without a handle: it reads alike in every store -/
def Clo (d : D) : Prop := ∃ p, ∀ g, dP g d = some p
theorem Clo.enc {d : D} (c : Clo d) (S : Store) : encD S d = eP d ∧ toP S d = some (eP d) := by
  obtain ⟨p, h⟩ := c
  have e1 : eP d = p := by unfold eP; rw [h]; rfl
  have e2 : toP S d = some p := h _
  exact ⟨(encD_of e2).trans e1.symm, e2.trans (congrArg some e1.symm)⟩
theorem clo_str (x : Str) : Clo (.str x) := ⟨.str x, fun _ => rfl⟩
theorem clo_int (x : Int) : Clo (.int x) := ⟨.int x, fun _ => rfl⟩
theorem clo_bl (x : Bool) : Clo (.bl x) := ⟨.bool x, fun _ => rfl⟩
theorem clo_non : Clo .non := ⟨.none, fun _ => rfl⟩
theorem clo_all : ∀ {xs : List D}, (∀ d ∈ xs, Clo d) → ∀ g, dPs g xs = some (xs.map eP)
  | [], _, _ => rfl
  | d :: r, h, g => by
    obtain ⟨p, hp⟩ := h d List.mem_cons_self
    have e1 : eP d = p := by unfold eP; rw [hp]; rfl
    rw [dPs, hp, clo_all (fun e m => h e (List.mem_cons_of_mem _ m)) g, List.map_cons, e1]; rfl
theorem clo_tup {xs : List D} (h : ∀ d ∈ xs, Clo d) : Clo (.tup xs) := ⟨.tuple (xs.map eP), fun g => by rw [dP, clo_all h g]; rfl⟩
theorem eP_tup {xs : List D} (h : ∀ d ∈ xs, Clo d) : eP (.tup xs) = .tuple (xs.map eP) := by
  unfold eP
  rw [dP, clo_all h]; rfl
theorem eP_str (x : Str) : eP (.str x) = .str x := rfl
def asc (l : List D) : Prop := l.Pairwise fun a b => dataLt (eP a) (eP b) = true
/-- of one kind: as data they tell them apart -/
def Uni (l : List D) : Prop := (∀ d ∈ l, Clo d) ∧ ∀ a ∈ l, ∀ b ∈ l, keyToks (eP a) = keyToks (eP b) → a = b
theorem Uni.sub {l l' : List D} (u : Uni l) (s : ∀ d ∈ l', d ∈ l) : Uni l' := ⟨fun d m => u.1 d (s d m), fun a ha b hb e => u.2 a (s a ha) b (s b hb) e⟩
theorem lt_irr (a : PyData) : dataLt a a = false := (listOrd itemOrd).irrefl _
theorem le_of_lt {f : D → PyData} {a b : D} (h : dataLt (f a) (f b) = true) : dataLe false f a b = true := by
  rcases Bool.or_eq_true _ _ ▸ leD_total f a b with z | z
  · exact z
  · have z2 : (!dataLt (f a) (f b)) = true := z
    rw [h] at z2; cases z2
theorem asc.nodup {l : List D} (h : asc l) : l.Nodup := h.imp fun z e => by subst e; rw [lt_irr] at z; cases z
theorem asc.filter {l : List D} (p : D → Bool) (h : asc l) : asc (l.filter p) := List.Pairwise.filter p h
theorem sortD_mem {S : Store} {l : List D} {d : D} : d ∈ sortD S l ↔ d ∈ l := (List.mergeSort_perm l _).mem_iff
theorem sortD_len {S : Store} {l : List D} : (sortD S l).length = l.length := List.length_mergeSort l
theorem sort_asc {S : Store} {l : List D} (u : Uni l) (n : l.Nodup) : asc (sortD S l) := by
  have p := List.mergeSort_perm l (dataLe false (encD S))
  have s : (sortD S l).Pairwise fun a b => dataLe false (encD S) a b = true := List.pairwise_mergeSort (leD_trans _) (leD_total _) l
  have n2 : (sortD S l).Nodup := p.nodup_iff.mpr n
  refine (s.and n2).imp_of_mem fun {a b} ha hb h => ?_
  have ha := sortD_mem.mp ha
  have hb := sortD_mem.mp hb
  cases e : dataLt (eP a) (eP b) with
  | true => rfl
  | false =>
    have z : dataLe false (encD S) b a = true := by
      show (!dataLt (encD S a) (encD S b)) = true
      rw [((u.1 a ha).enc S).1, ((u.1 b hb).enc S).1, e]; rfl
    have q := leD_anti _ h.1 z
    rw [((u.1 a ha).enc S).1, ((u.1 b hb).enc S).1] at q
    exact absurd (u.2 a ha b hb q) h.2
theorem asc_uniq {l k : List D} (u : Uni l) (h1 : asc l) (h2 : asc k) (m : ∀ d, d ∈ l ↔ d ∈ k) : l = k := by
  have p : l.Perm k := (List.perm_ext_iff_of_nodup h1.nodup h2.nodup).mpr m
  refine List.Perm.eq_of_pairwise (le := fun a b => dataLe false eP a b = true) ?_ (h1.imp le_of_lt) (h2.imp le_of_lt) p
  intro a b ha hb l1 l2
  exact u.2 a ha b ((m b).mpr hb) (leD_anti eP l1 l2)
theorem sort_id {S : Store} {l : List D} (u : Uni l) (h : asc l) : sortD S l = l := (asc_uniq u h (sort_asc u h.nodup) fun d => sortD_mem.symm).symm
theorem sort_ext {S T : Store} {l k : List D} (u : Uni l) (n : l.Nodup) (n2 : k.Nodup) (m : ∀ d, d ∈ l ↔ d ∈ k) : sortD S l = sortD T k := by
  have uk : Uni k := u.sub fun d z => (m d).mpr z
  exact asc_uniq (u.sub fun d z => sortD_mem.mp z) (sort_asc u n) (sort_asc uk n2) fun d => sortD_mem.trans ((m d).trans sortD_mem.symm)
/-! ### names -/
def nD (xs : List Str) : List D := xs.map D.str
theorem nD_uni (xs : List Str) : Uni (nD xs) := by
  refine ⟨fun d m => ?_, fun a ha b hb e => ?_⟩
  · obtain ⟨x, _, rfl⟩ := List.mem_map.mp m; exact clo_str x
  · obtain ⟨x, _, rfl⟩ := List.mem_map.mp ha
    obtain ⟨y, _, rfl⟩ := List.mem_map.mp hb
    exact congrArg kD (toks_kP (k := .inr x) (j := .inr y) e)
theorem nD_mem {xs : List Str} {x : Str} : D.str x ∈ nD xs ↔ x ∈ xs := by unfold nD; simp
theorem nD_inv {xs : List D} (h : ∀ d ∈ xs, ∃ x, d = .str x) : ∃ ys, xs = nD ys := by
  induction xs with
  | nil => exact ⟨[], rfl⟩
  | cons d r ih =>
    obtain ⟨x, rfl⟩ := h d List.mem_cons_self
    obtain ⟨ys, rfl⟩ := ih fun e m => h e (List.mem_cons_of_mem _ m)
    exact ⟨x :: ys, rfl⟩
theorem nD_len (xs : List Str) : (nD xs).length = xs.length := List.length_map ..
theorem nD_nodup {xs : List Str} : (nD xs).Nodup ↔ xs.Nodup := by
  unfold nD
  refine ⟨fun h => (List.pairwise_map.mp h).imp fun n e => n (by rw [e]), fun h => List.Pairwise.map _ (fun a b n e => n (by cases e; rfl)) h⟩
theorem nD_app (xs ys : List Str) : nD (xs ++ ys) = nD xs ++ nD ys := List.map_append ..
theorem nD_filter (p : D → Bool) (xs : List Str) : (nD xs).filter p = nD (xs.filter fun x => p (.str x)) := by
  unfold nD; rw [List.filter_map]; rfl
theorem sortOk_names {S : Store} {xs : List Str} (h : xs.length ≤ lim) : sortOk S (nD xs) = true := by
  unfold sortOk
  simp only [Bool.and_eq_true, Bool.or_eq_true, List.all_eq_true, decide_eq_true_eq]
  refine ⟨⟨⟨fun d m => ?_, fun d m e n => ?_⟩, .inr fun d m => ?_⟩, by rw [nD_len]; exact h⟩
  · obtain ⟨x, _, rfl⟩ := List.mem_map.mp m
    exact ⟨rfl, by show PyData.depth (.str x) ≤ 32; simp [PyData.depth]⟩
  · obtain ⟨x, _, rfl⟩ := List.mem_map.mp m
    obtain ⟨y, _, rfl⟩ := List.mem_map.mp n
    rfl
  · obtain ⟨x, _, rfl⟩ := List.mem_map.mp m
    rfl
theorem sort_names {S : Store} {xs : List Str} : ∃ ys, sortD S (nD xs) = nD ys ∧ ys.Perm xs := by
  obtain ⟨ys, e⟩ := nD_inv (xs := sortD S (nD xs)) fun d m => by
    obtain ⟨x, _, rfl⟩ := List.mem_map.mp (sortD_mem.mp m)
    exact ⟨x, rfl⟩
  refine ⟨ys, e, ?_⟩
  have p : (nD ys).Perm (nD xs) := e ▸ List.mergeSort_perm (nD xs) _
  have q := p.map (fun d => match d with | .str x => x | _ => "")
  unfold nD at q
  rw [List.map_map, List.map_map] at q
  have id1 : ((fun d : D => match d with | .str x => x | _ => ("" : Str)) ∘ D.str) = id := rfl
  rw [id1, List.map_id, List.map_id] at q
  exact q
/-! ### equality, membership -/
def memN (xs : List Str) : D → Bool
  | .str x => decide (x ∈ xs)
  | _ => false
theorem memN_iff {xs : List Str} {d : D} : memN xs d = true ↔ d ∈ nD xs := by
  cases d <;> simp [memN, nD]
theorem eqv_str {x y : Str} : PyData.eqv (.str x) (.str y) = decide (x = y) := by
  show (x == y) = _
  rfl
theorem eqP {S : Store} {a b : D} {p q : PyData} (ha : toP S a = some p) (hb : toP S b = some q) (sa : SeqAt.shaped p = true) (sb : SeqAt.shaped q = true) : eqD S a b = some (PyData.eqv p q) := by
  unfold eqD
  rw [ha, hb]
  show (if (SeqAt.shaped p && SeqAt.shaped q) = true then _ else _) = _
  rw [sa, sb]; rfl
theorem shaped_str {x : Str} (h : PyData.strOk x = true) : SeqAt.shaped (.str x) = true := by
  unfold SeqAt.shaped
  rw [show PyData.canLay0 (.str x) = PyData.strOk x from rfl, h]; rfl
theorem canAll_names {xs : List Str} (h : ∀ x ∈ xs, PyData.strOk x = true) : PyData.canLayAll0 (xs.map PyData.str) = true := by
  induction xs with
  | nil => rfl
  | cons x r ih =>
    rw [List.map_cons, PyData.canLayAll0, show PyData.canLay0 (.str x) = PyData.strOk x from rfl, h x List.mem_cons_self, ih fun y m => h y (List.mem_cons_of_mem _ m)]; rfl
theorem depthAll_names (xs : List Str) : PyData.depthAll (xs.map PyData.str) ≤ 1 := by
  induction xs with
  | nil => exact Nat.zero_le _
  | cons x r ih =>
    rw [List.map_cons, PyData.depthAll]
    exact Nat.max_le.mpr ⟨by rw [PyData.depth]; all_goals first | decide | (intros; rfl) | simp, ih⟩
theorem shaped_names {xs : List Str} (h : ∀ x ∈ xs, PyData.strOk x = true) : SeqAt.shaped (.list (xs.map PyData.str)) = true ∧ SeqAt.shaped (.tuple (xs.map PyData.str)) = true := by
  have d := depthAll_names xs
  constructor <;>
  · unfold SeqAt.shaped
    rw [Bool.and_eq_true, decide_eq_true_eq]
    refine ⟨canAll_names h, ?_⟩
    rw [PyData.depth]; omega
theorem dPs_names (g : Nat → Option PyData) (xs : List Str) : dPs g (nD xs) = some (xs.map PyData.str) := by
  induction xs with
  | nil => rfl
  | cons x r ih => rw [nD, List.map_cons, dPs, show dPs g (r.map D.str) = _ from ih]; rfl
theorem any_names {S : Store} {xs : List Str} {d : D} {p : PyData} (h : ∀ x ∈ xs, PyData.strOk x = true) (hd : toP S d = some p) (sp : SeqAt.shaped p = true) : anyEq S d (nD xs) = some (memN xs d) := by
  unfold anyEq
  rw [hd, dPs_names]
  show (if (SeqAt.shaped p && SeqAt.shaped (.list (xs.map PyData.str))) = true then _ else _) = _
  rw [sp, (shaped_names h).1]
  show some _ = some _
  congr 1
  rw [List.any_map, Bool.eq_iff_iff, List.any_eq_true, memN_iff]
  have hp : ∀ x, PyData.eqv (.str x) p = true ↔ d = .str x := by
    intro x
    cases p with
    | str y =>
      rw [eqv_str, decide_eq_true_eq]
      have : d = .str y := by
        cases d with
        | str z => cases hd; rfl
        | tup z =>
          have hd : dP (deref 8 S) (.tup z) = _ := hd
          rw [dP] at hd
          obtain ⟨_, _, e⟩ := Option.map_eq_some_iff.mp hd; cases e
        | ref z =>
          have hd : deref 8 S z = _ := hd
          unfold deref at hd
          split at hd
          · obtain ⟨_, _, e⟩ := Option.map_eq_some_iff.mp hd; cases e
          · obtain ⟨_, _, e⟩ := Option.map_eq_some_iff.mp hd; cases e
          · cases hd
        | _ => cases hd
      rw [this]
      exact ⟨fun e => by rw [e], fun e => by cases e; rfl⟩
    | _ =>
      refine ⟨fun z => ?_, fun z => ?_⟩
      · simp [PyData.eqv] at z
      · subst z; cases hd
  constructor
  · rintro ⟨x, m, e⟩
    rw [(hp x).mp e]; exact nD_mem.mpr m
  · intro m
    obtain ⟨x, mx, rfl⟩ := List.mem_map.mp m
    exact ⟨x, mx, (hp x).mpr rfl⟩
theorem inT {S : Store} {xs : List Str} {d : D} {p : PyData} (h : ∀ x ∈ xs, PyData.strOk x = true) (hd : toP S d = some p) (sp : SeqAt.shaped p = true) : pIn d (.tup (nD xs)) S = some (.bl (memN xs d), S) := by
  show (anyEq S d (nD xs)).map _ = _
  rw [any_names h hd sp]; rfl
theorem ninT {S : Store} {xs : List Str} {d : D} {p : PyData} (h : ∀ x ∈ xs, PyData.strOk x = true) (hd : toP S d = some p) (sp : SeqAt.shaped p = true) : pNotIn d (.tup (nD xs)) S = some (.bl (!memN xs d), S) := by
  show (anyEq S d (nD xs)).map _ = _
  rw [any_names h hd sp]; rfl
theorem inL {S : Store} {k : Nat} {xs : List Str} {d : D} {p : PyData} (e : S[k]? = some (.lst (nD xs))) (h : ∀ x ∈ xs, PyData.strOk x = true) (hd : toP S d = some p) (sp : SeqAt.shaped p = true) : pIn d (.ref k) S = some (.bl (memN xs d), S) := by
  show (inD S d (.ref k)).map _ = _
  simp only [inD, e]
  rw [any_names h hd sp]; rfl
theorem ninL {S : Store} {k : Nat} {xs : List Str} {d : D} {p : PyData} (e : S[k]? = some (.lst (nD xs))) (h : ∀ x ∈ xs, PyData.strOk x = true) (hd : toP S d = some p) (sp : SeqAt.shaped p = true) : pNotIn d (.ref k) S = some (.bl (!memN xs d), S) := by
  show (inD S d (.ref k)).map _ = _
  simp only [inD, e]
  rw [any_names h hd sp]; rfl
end Mini

/-! MINI, part Yb: comprehension rules; drawn names. -/
namespace Mini
open PySem L2
theorem ok_eLc {wi : Env → M MIt} {g : Tg} {tt : Env → M Bool} {fe : ME} {vs : List Nat} {ρ : Env} {S : Store} {P : D → Store → Prop} {X : XP} : ok (eLc wi g tt fe vs ρ S) P X = ok (wi ρ S) (fun it S1 => ok (lcM g tt fe it S1.length (wipeM ρ vs) turns 0 (S1 ++ [.lst []])) P X) X := by simp [eLc]
theorem Kp.fresh {M : List Nat} {S S1 S2 : Store} {n : Nat} (a : Kp M S S1) (b : Kp (n :: M) S1 S2) (hn : S.length ≤ n) : Kp M S S2 := ⟨Nat.le_trans a.len b.len, fun h m nm e => b.get h m (by
  have hl : h < S.length := (List.getElem?_eq_some_iff.mp e).1
  intro z
  rcases List.mem_cons.mp z with z | z
  · omega
  · exact nm z) (a.get h m nm e)⟩
theorem lc_rule {g : Tg} {tt : Env → M Bool} {fe : ME} {it : MIt} {ρ : Env} {xs : List D} {X : XP} {S : Store} {M : List Nat} (J : Nat → List D → Store → Prop) (hx : xs.length ≤ lim) (hM : S.length ∉ M)
    (nx : ∀ i S', Kp M S S' → nextI it i S' = .of xs[i]?) (stab : ∀ i acc S' m, J i acc S' → J i acc (S'.set S.length m)) (len : ∀ i acc S', J i acc S' → acc.length ≤ i)
    (step : ∀ i x acc S', xs[i]? = some x → J i acc S' → Kp M S S' → ∃ ρ1, setT g x ρ = some ρ1 ∧ ok (tt ρ1 S') (fun b S1 => Kp M S' S1 ∧ if b = true then ok (fe ρ1 S1) (fun y S2 => Kp M S1 S2 ∧ J (i + 1) (acc ++ [y]) S2) X0 else J (i + 1) acc S1) X0)
    (h0 : J 0 [] (S ++ [.lst []])) : ok (lcM g tt fe it S.length ρ turns 0 (S ++ [.lst []])) (fun d S' => d = .ref S.length ∧ ∃ acc, S'[S.length]? = some (.lst acc) ∧ J xs.length acc S' ∧ Kp M S S') X := by
  refine lc_inv (xs := xs) (I := fun i acc S' => S'[S.length]? = some (.lst acc) ∧ J i acc S' ∧ Kp M S S') hx (fun i acc S' _ h => nx i S' h.2.2) (fun i acc S' h => len i acc S' h.2.1) ?_ (fun acc S' h => ⟨rfl, acc, h⟩) ⟨new_get, h0, Kp.new⟩
  intro i x acc S' e ⟨e1, j, k⟩
  obtain ⟨ρ1, e2, h⟩ := step i x acc S' e j k
  refine ⟨ρ1, e2, ok_mono h (fun b S1 hb => ?_) fun _ _ _ z => z⟩
  cases b with
  | false => exact ⟨hb.1.get _ _ hM e1, hb.2, k.trans hb.1⟩
  | true =>
    simp only [if_true] at hb ⊢
    refine ok_mono hb.2 (fun y S2 hy => ?_) fun _ _ _ z => z
    have e3 := hy.1.get _ _ hM (hb.1.get _ _ hM e1)
    refine ⟨e3, set_get e3, stab _ _ _ _ hy.2, ?_⟩
    exact Kp.fresh (k.trans (hb.1.trans hy.1)) (Kp.set.wk (fun h m => by rw [List.mem_singleton.mp m]; exact List.mem_cons_self)) (Nat.le_refl _)
/-- a comprehension that keeps all that was: filter and map -/
theorem lc_pure {g : Tg} {tt : Env → M Bool} {fe : ME} {it : MIt} {ρ : Env} {xs : List D} {X : XP} {S : Store} (p : D → Bool) (f : D → D) (hx : xs.length ≤ lim)
    (nx : ∀ i S', Kp [] S S' → nextI it i S' = .of xs[i]?)
    (step : ∀ x S', x ∈ xs → Kp [] S S' → ∃ ρ1, setT g x ρ = some ρ1 ∧ ok (tt ρ1 S') (fun b S1 => Kp [] S' S1 ∧ b = p x ∧ (p x = true → ok (fe ρ1 S1) (fun y S2 => Kp [] S1 S2 ∧ y = f x) X0)) X0) :
    ok (lcM g tt fe it S.length ρ turns 0 (S ++ [.lst []])) (fun d S' => d = .ref S.length ∧ S'[S.length]? = some (.lst ((xs.filter p).map f)) ∧ Kp [] S S') X := by
  have h := lc_rule (g := g) (tt := tt) (fe := fe) (it := it) (ρ := ρ) (xs := xs) (X := X) (S := S) (M := []) (fun i acc _ => acc = ((xs.take i).filter p).map f) hx List.not_mem_nil nx (fun _ _ _ _ z => z)
    (fun i acc _ z => by
      rw [z, List.length_map]
      exact Nat.le_trans (List.length_filter_le _ _) (by rw [List.length_take]; exact Nat.min_le_left _ _)) (fun i x acc S' e j k => by
      obtain ⟨ρ1, e1, h1⟩ := step x S' (List.mem_of_getElem? e) k
      have ht : xs.take (i + 1) = xs.take i ++ [x] := by rw [List.take_add_one, e]; rfl
      refine ⟨ρ1, e1, ok_mono h1 (fun b S1 hb => ⟨hb.1, ?_⟩) fun _ _ _ z => z⟩
      obtain ⟨k1, rfl, hb⟩ := hb
      cases hp : p x with
      | false =>
        simp only [Bool.false_eq_true, if_false]
        rw [ht, List.filter_append, j]
        simp [hp]
      | true =>
        simp only [if_true]
        refine ok_mono (hb hp) (fun y S2 hy => ⟨hy.1, ?_⟩) fun _ _ _ z => z
        rw [ht, List.filter_append, j, hy.2]
        simp [hp]) (by simp)
  refine ok_mono h (fun d S' hd => ?_) fun _ _ _ z => z
  obtain ⟨e, acc, e1, j, k⟩ := hd
  rw [List.take_length] at j
  exact ⟨e, j ▸ e1, k⟩
/-! ### letters -/
def low (c : Nat) : Bool := decide (97 ≤ c) && decide (c ≤ 122)
/-- a word: 1 to m letters from a to z -/
def Wd (m : Nat) (x : Str) : Prop := 1 ≤ x.length ∧ x.length ≤ m ∧ ∀ c ∈ x.cps.toList, low c = true
theorem Wd.mono {m n : Nat} {x : Str} (w : Wd m x) (h : m ≤ n) : Wd n x := ⟨w.1, Nat.le_trans w.2.1 h, w.2.2⟩
theorem Wd.strOk {m : Nat} {x : Str} (w : Wd m x) : PyData.strOk x = true := by
  unfold PyData.strOk
  rw [Array.all_eq_true_iff_forall_mem]
  intro c hc
  have := w.2.2 c (Array.mem_toList_iff.mpr hc)
  unfold low at this
  simp only [Bool.and_eq_true, decide_eq_true_eq] at this ⊢
  omega
theorem strAt {x : Str} {r : Int} {S : Store} (h0 : 0 ≤ r) (h : r < x.length) (hl : x.length ≤ lim) : ∃ c, c ∈ x.cps.toList ∧ pIdx (.str x) (.int r) S = some (.str ⟨#[c]⟩, S) := by
  have e0 : x.length = x.cps.toList.length := by simp [Str.length]
  obtain ⟨n, rfl⟩ := Int.eq_ofNat_of_zero_le h0
  have hn : n < x.cps.toList.length := by rw [← e0]; exact_mod_cast h
  refine ⟨x.cps.toList[n], List.getElem_mem _, ?_⟩
  simp only [pIdx, if_pos hl]
  rw [atI_nat (List.getElem?_eq_getElem hn)]; rfl
theorem rng_nx {n : Nat} (i : Nat) (S : Store) : nextI (.rng 0 n) i S = .of ((List.range n).map fun i : Nat => D.int i)[i]? := by
  simp only [nextI]
  rw [List.getElem?_map]
  by_cases h : i < n
  · rw [if_pos h, List.getElem?_range h]; simp [Nxt.of]
  · rw [if_neg h, List.getElem?_eq_none (by simp; omega)]; rfl
theorem rng1_nat {n : Nat} (h : n < 2 ^ 62) : rng1 [.int n] = some (.rng 0 n) := by
  have z : fits62 (n : Int) = true := by
    unfold fits62
    rw [Bool.and_eq_true, decide_eq_true_eq, decide_eq_true_eq]
    omega
  simp only [rng1, z, if_true, Int.toNat_natCast]
theorem tl_joined {parts : List Str} : (Str.join "" parts).cps.toList = (parts.map fun x => x.cps.toList).flatten := by
  have e := TL.tl_join "" parts
  rw [show (Str.join "" parts).cps.toList = TL.tl (Str.join "" parts) from rfl, e]
  have e0 : TL.tl ("" : Str) = [] := rfl
  rw [e0]
  have go : ∀ l : List (List Nat), TL.joinL [] l = l.flatten := by
    intro l
    induction l with
    | nil => rfl
    | cons p r ih =>
      cases r with
      | nil => simp [TL.joinL]
      | cons q r => rw [TL.joinL, ih]; simp
  rw [go]
theorem strsD_sg (cs : List Nat) : strsD (cs.map fun c => D.str ⟨#[c]⟩) = some (cs.map fun c => (⟨#[c]⟩ : Str)) := by
  induction cs with
  | nil => rfl
  | cons c r ih => rw [List.map_cons, strsD, ih]; rfl
theorem pot_draw {S : Store} {h k : Nat} {many : Int} {ρ : Env} {fa fb : ME} {P : D → Store → Prop} {X : XP} (p : PotOk S h (k + 1)) (ha : ∀ Q, ok (fa ρ S) Q X = Q (.ref h) S) (hb : ∀ Q, ok (fb ρ S) Q X = Q (.int many) S) (h1 : 1 ≤ many) (h2 : many < 1000)
    (K : ∀ (r : Int) S', 0 ≤ r → r < many → PotOk S' h k → Kp [h] S S' → P (.int r) S') : ok (eCall C.g__law_draw (aCons fa (aCons fb aNil)) ρ S) P X := by
  simp only [ok_eCall, ok_aCons, ok_aNil, ha, hb]
  refine ok_mono (draw_spec p h1 h2) (fun d S' hd => ?_) fun _ _ _ z => z
  obtain ⟨r, rfl, a, b, c, e⟩ := hd
  exact K r S' a b c e
theorem vr {i : Nat} {ρ : Env} {d : D} {S : Store} {X : XP} (h : ρ[i]? = some (some d)) : ∀ Q, ok (eVar i ρ S) Q X = Q d S := fun Q => ok_eVar h
theorem PotOk.kp {M : List Nat} {S S' : Store} {h k : Nat} (p : PotOk S h k) (q : Kp M S S') (hm : h ∉ M) : PotOk S' h k := let ⟨a, b, c, e, r⟩ := p; ⟨a, b, c, q.get h _ hm e, r⟩
theorem PotOk.lt {S : Store} {h k : Nat} (p : PotOk S h k) : h < S.length := let ⟨_, _, _, e, _⟩ := p; (List.getElem?_eq_some_iff.mp e).1
theorem PotOk.set {S : Store} {h k n : Nat} {m : MO} (p : PotOk S h k) (hn : h ≠ n) : PotOk (S.set n m) h k := let ⟨a, b, c, e, r⟩ := p; ⟨a, b, c, by rw [List.getElem?_set_ne (Ne.symm hn)]; exact e, r⟩
theorem name_spec {S : Store} {h k : Nat} {X : XP} (p : PotOk S h (k + 6)) : ok (C.g__law_name [.ref h] S) (fun d S' => ∃ x, d = .str x ∧ Wd 4 x ∧ PotOk S' h k ∧ Kp [h] S S') X := by
  unfold C.g__law_name
  rw [run1]
  unfold C.b__law_name
  rw [so_seq, so_set]
  simp only [ok_eTup, ok_aCons, ok_aNil, ok_eC]
  refine ⟨_, tupO_eq (show 2 ≤ lim by decide), _, rfl, ?_⟩
  rw [so_seq]
  -- whatever the letters
  suffices go : ∀ (ls : Str) (most : Nat) (S1 : Store), 1 ≤ ls.length → ls.length < 1000 → (∀ c ∈ ls.cps.toList, low c = true) → 1 ≤ most → most ≤ 4 → PotOk S1 h (k + 5) → Kp [h] S S1 →
      so (sRet (eMt "str" qJoin (eC (.str "")) (aCons (eLc (iArgs rng1 (aCons (eOp pAdd (eC (.int 1)) (eCall C.g__law_draw (aCons (eVar 0) (aCons (eVar 2) aNil)))) aNil)) (.nm 3) ttYes (eOp pIdx (eVar 1) (eCall C.g__law_draw (aCons (eVar 0) (aCons (eB nLen (aCons (eVar 1) aNil)) aNil)))) [3]) aNil)) [some (.ref h), some (.str ls), some (.int most), none] S1)
        (fun _ S1 => ∃ x, D.non = .str x ∧ Wd 4 x ∧ PotOk S1 h k ∧ Kp [h] S S1) (fun d S' => ∃ x, d = .str x ∧ Wd 4 x ∧ PotOk S' h k ∧ Kp [h] S S') (fun m fs _ S1 => X m fs S1) by
    rw [so_if]
    simp only [ok_tBl, ok_eOp, ok_eC]
    refine pot_draw (many := 3) p (vr rfl) (fun _ => rfl) (by decide) (by decide) fun r S1 r0 r3 p1 k1 => ⟨_, eqI, _, rfl, ?_⟩
    by_cases hr : r = 0
    · simp only [hr, decide_true, if_true, so_set, ok_eTup, ok_aCons, ok_aNil, ok_eC]
      exact ⟨_, tupO_eq (show 2 ≤ lim by decide), _, rfl, go _ 4 S1 (by decide) (by decide) (by decide) (by decide) (by decide) p1 k1⟩
    · simp only [hr, decide_false, Bool.false_eq_true, if_false, so_nil]
      exact go _ 2 S1 (by decide) (by decide) (by decide) (by decide) (by decide) p1 k1
  intro ls most S1 hl hl2 hlow hm hm4 p1 k1
  simp only [so_ret, ok_eMt, ok_eC, ok_aCons, ok_aNil, ok_eLc, ok_iArgs, ok_eOp]
  refine ⟨rfl, ?_⟩
  refine pot_draw (many := most) p1 (vr rfl) (vr rfl) (by omega) (by omega) fun r S2 r0 r3 p2 k2 => ⟨_, addI, ?_⟩
  obtain ⟨n, rfl⟩ := Int.eq_ofNat_of_zero_le r0
  rw [show (1 : Int) + (n : Int) = ((n + 1 : Nat) : Int) from by omega]
  refine ⟨_, rng1_nat (by omega), ?_⟩
  have hM : S2.length ∉ [h] := fun z => by
    have := p2.lt
    rw [List.mem_singleton] at z
    omega
  refine ok_mono (lc_rule (M := [h]) (xs := (List.range (n + 1)).map fun i : Nat => D.int i) (fun i acc S' => ∃ cs : List Nat, acc = cs.map (fun c => D.str ⟨#[c]⟩) ∧ cs.length = i ∧ (∀ c ∈ cs, low c = true) ∧ PotOk S' h (k + (4 - i))) (by rw [List.length_map, List.length_range]; unfold lim; omega) hM (fun i S' _ => rng_nx i S') ?_ ?_ ?_ ?_) ?_ fun _ _ _ z => z
  · rintro i acc S' m ⟨cs, e1, e2, e3, e4⟩
    exact ⟨cs, e1, e2, e3, e4.set fun z => hM (by rw [← z]; exact List.mem_singleton_self _)⟩
  · rintro i acc S' ⟨cs, e1, e2, e3, e4⟩
    rw [e1, List.length_map]; omega
  · rintro i x acc S' ex ⟨cs, e1, e2, e3, e4⟩ kk
    have hi : i < n + 1 := by
      have := (List.getElem?_eq_some_iff.mp ex).1
      simpa using this
    refine ⟨_, rfl, ?_⟩
    simp only [ok_ttYes, if_true, ok_eOp]
    refine ⟨Kp.refl, ?_⟩
    rw [ok_eVar (d := .str ls) (by rfl)]
    have e5 : PotOk S' h (k + (4 - (i + 1)) + 1) := by
      have : k + (4 - (i + 1)) + 1 = k + (4 - i) := by omega
      rw [this]; exact e4
    refine pot_draw (many := ls.length) e5 (vr rfl) (fun Q => ?_) (by omega) (by omega) fun r S3 r0 r3 p3 k3 => ?_
    · simp only [ok_eB, ok_aCons, ok_aNil]
      rw [ok_eVar (d := .str ls) (by rfl), lenS (by unfold lim; omega)]
      exact propext ⟨fun ⟨_, e, q⟩ => by cases e; exact q, fun q => ⟨_, rfl, q⟩⟩
    · obtain ⟨c, hc, ec⟩ := strAt (S := S3) r0 r3 (by unfold lim; omega)
      refine ⟨_, ec, k3, cs ++ [c], ?_, ?_, ?_, p3⟩
      · rw [e1, List.map_append]; rfl
      · rw [List.length_append, e2]; rfl
      · intro d hd
        rcases List.mem_append.mp hd with z | z
        · exact e3 d z
        · rw [List.mem_singleton.mp z]; exact hlow c hc
  · exact ⟨[], rfl, rfl, (fun _ z => nomatch z), (p2.kp Kp.new (M := []) (fun z => nomatch z)).mono (by omega)⟩
  · rintro d S3 ⟨rfl, acc, e1, ⟨cs, e2, e3, e4, e5⟩, k3⟩
    rw [List.length_map, List.length_range] at e3
    have hitems : itemsOf S3 (.ref S2.length) = some (cs.map fun c => D.str ⟨#[c]⟩) := by
      simp only [itemsOf, e1, e2]
    have hsum : ∀ l : List Nat, ((l.map fun c => (⟨#[c]⟩ : Str)).map (·.length)).sum = l.length := by
      intro l
      induction l with
      | nil => rfl
      | cons a r ih => simp only [List.map_cons, List.sum_cons, ih, List.length_cons]; show 1 + _ = _; omega
    refine ⟨(.str (Txt.join "" (cs.map fun c => (⟨#[c]⟩ : Str))), S3), ?_, _, rfl, ?_, PotOk.mono e5 (by omega), k1.trans (k2.trans k3)⟩
    · simp only [qJoin, hitems, strsD_sg]
      rw [if_pos]
      rw [hsum, List.length_map, e3]
      show n + 1 + (n + 1) * 0 ≤ _
      unfold lim; omega
    · rw [TL.join_eq]
      have et := tl_joined (parts := cs.map fun c => (⟨#[c]⟩ : Str))
      have el : (cs.map fun c => (⟨#[c]⟩ : Str)).map (fun x => x.cps.toList) = cs.map fun c => [c] := by rw [List.map_map]; rfl
      have ef : (cs.map fun c => [c]).flatten = cs := by
        clear et el hitems e2 e1 e3 e4
        induction cs with
        | nil => rfl
        | cons a r ih => simpa using ih
      rw [el, ef] at et
      have en : (Str.join "" (cs.map fun c => (⟨#[c]⟩ : Str))).length = cs.length := by
        rw [show (Str.join "" (cs.map fun c => (⟨#[c]⟩ : Str))).length = (Str.join "" (cs.map fun c => (⟨#[c]⟩ : Str))).cps.toList.length from by simp [Str.length], et]
      refine ⟨by omega, by omega, fun c hc => e4 c (et ▸ hc)⟩
end Mini

/-! MINI, part Yc: drawn lists of names, rights. -/
namespace Mini
open PySem L2
def qN (j : Nat) : Str := "qqqq" ++ (⟨#[97 + j]⟩ : Str)
theorem qN_len (j : Nat) : (qN j).length = 5 := by
  unfold qN
  show (("qqqq" : Str).cps ++ #[97 + j]).size = 5
  rw [Array.size_append]; rfl
theorem qN_tl (j : Nat) : (qN j).cps.toList = [113, 113, 113, 113, 97 + j] := by
  unfold qN
  show (("qqqq" : Str).cps ++ #[97 + j]).toList = _
  rw [Array.toList_append]; rfl
theorem qN_inj {i j : Nat} (h : qN i = qN j) : i = j := by
  have e := congrArg (fun x : Str => x.cps.toList) h
  simp only [qN_tl] at e
  have e2 := (List.cons.inj (List.cons.inj (List.cons.inj (List.cons.inj (List.cons.inj e).2).2).2).2).1
  omega
theorem qN_wd {j : Nat} (h : j < 26) : Wd 5 (qN j) := by
  refine ⟨by rw [qN_len]; decide, by rw [qN_len]; decide, fun c hc => ?_⟩
  rw [qN_tl] at hc
  unfold low
  simp only [List.mem_cons, List.not_mem_nil, or_false] at hc
  rw [Bool.and_eq_true, decide_eq_true_eq, decide_eq_true_eq]
  omega
theorem qN_get {i : Nat} {S : Store} (h : i < 26) : pIdx (.str "abcdefghijklmnopqrstuvwxyz") (.int i) S = some (.str ⟨#[97 + i]⟩, S) := by
  have e : ("abcdefghijklmnopqrstuvwxyz" : Str).cps.toList = (List.range 26).map (97 + ·) := by decide
  have hl : ("abcdefghijklmnopqrstuvwxyz" : Str).length ≤ lim := by decide
  simp only [pIdx, if_pos hl]
  rw [atI_nat (d := 97 + i) (by rw [e, List.getElem?_map, List.getElem?_range h]; rfl)]; rfl
theorem name_in {S : Store} {h k : Nat} {ρ : Env} {fa : ME} {P : D → Store → Prop} {X : XP} (p : PotOk S h (k + 6)) (ha : ∀ Q, ok (fa ρ S) Q X = Q (.ref h) S)
    (K : ∀ x S', Wd 4 x → PotOk S' h k → Kp [h] S S' → P (.str x) S') : ok (eCall C.g__law_name (aCons fa aNil) ρ S) P X := by
  simp only [ok_eCall, ok_aCons, ok_aNil, ha]
  refine ok_mono (name_spec p) (fun d S' hd => ?_) fun _ _ _ z => z
  obtain ⟨r, rfl, a, b, c⟩ := hd
  exact K r S' a b c
theorem Kp.new1 {M : List Nat} {S S1 : Store} {m m' : MO} {n : Nat} (a : Kp M S S1) (hn : S.length ≤ n) : Kp M S (S1.set n m) := a.fresh (Kp.set.wk fun h z => by rw [List.mem_singleton.mp z]; exact List.mem_cons_self) hn
theorem names_spec {S : Store} {h k n : Nat} {X : XP} (p : PotOk S h (k + 6 * n)) (hn : n ≤ 26) :
    ok (C.g__law_names [.ref h, .int n] S) (fun d S' => d = .ref S.length ∧ ∃ xs, S'[S.length]? = some (.lst (nD xs)) ∧ xs.length = n ∧ xs.Nodup ∧ (∀ x ∈ xs, Wd 5 x) ∧ PotOk S' h k ∧ Kp [h] S S') X := by
  unfold C.g__law_names
  rw [run2]
  unfold C.b__law_names
  rw [so_seq, so_set]
  simp only [ok_eLst, ok_aNil]
  refine ⟨_, newL_eq (show 0 ≤ lim by decide), _, rfl, ?_⟩
  rw [so_seq, so_for]
  simp only [ok_iArgs, ok_aCons, ok_aNil]
  rw [ok_eVar (d := .int n) (by rfl)]
  refine ⟨_, rng1_nat (by omega), ?_⟩
  have hne : h ≠ S.length := by have := p.lt; omega
  refine for_inv (xs := (List.range n).map fun i : Nat => D.int i) (fun i ρ S' => ∃ xs a b, ρ = [some (.ref h), some (.int n), some (.ref S.length), a, b] ∧ S'[S.length]? = some (.lst (nD xs)) ∧ xs.length = i ∧ xs.Nodup ∧ (∀ x ∈ xs, Wd 4 x ∨ ∃ j, j < i ∧ x = qN j) ∧ PotOk S' h (k + 6 * (n - i)) ∧ Kp [h] S S') (by rw [List.length_map, List.length_range]; unfold lim; omega) (fun i ρ S' _ _ => rng_nx i S') ?_ ?_ ?_
  · rintro i x ρ S1 ex ⟨xs, a, b, rfl, e1, e2, e3, e4, p1, k1⟩
    have hi : i < n := by
      have := (List.getElem?_eq_some_iff.mp ex).1
      simpa using this
    have hx : x = .int i := by
      rw [List.getElem?_map, List.getElem?_range hi] at ex
      cases ex; rfl
    subst hx
    refine ⟨_, rfl, ?_⟩
    rw [so_seq, so_set]
    have p1' : PotOk S1 h (k + 6 * (n - (i + 1)) + 6) := by
      have : k + 6 * (n - (i + 1)) + 6 = k + 6 * (n - i) := by omega
      rw [this]; exact p1
    refine name_in p1' (vr rfl) fun x S2 w p2 k2 => ⟨_, rfl, ?_⟩
    have e1 := k2.get _ _ (fun z => hne (List.mem_singleton.mp z).symm) e1
    have hok : ∀ x ∈ xs, PyData.strOk x = true := fun x m => by
      rcases e4 x m with w | ⟨j, hj, rfl⟩
      · exact w.strOk
      · exact (qN_wd (by omega)).strOk
    rw [so_seq]
    suffices go : ∀ y : Str, y ∉ xs → (Wd 4 y ∨ y = qN i) → so (sExpr (eMt "list" qAppend (eVar 2) (aCons (eVar 4) aNil)) [some (.ref h), some (.int n), some (.ref S.length), some (.int i), some (.str y)] S2)
        (fun ρ S' => ∃ xs a b, ρ = [some (.ref h), some (.int n), some (.ref S.length), a, b] ∧ S'[S.length]? = some (.lst (nD xs)) ∧ xs.length = i + 1 ∧ xs.Nodup ∧ (∀ x ∈ xs, Wd 4 x ∨ ∃ j, j < i + 1 ∧ x = qN j) ∧ PotOk S' h (k + 6 * (n - (i + 1))) ∧ Kp [h] S S')
        (fun d S' => d = .ref S.length ∧ ∃ xs, S'[S.length]? = some (.lst (nD xs)) ∧ xs.length = n ∧ xs.Nodup ∧ (∀ x ∈ xs, Wd 5 x) ∧ PotOk S' h k ∧ Kp [h] S S') (fun m fs _ S1 => X m fs S1) by
      simp only [so_if, ok_tBl, ok_eOp, ok_var]
      refine ⟨_, rfl, _, rfl, _, inL e1 hok (p := .str x) rfl (shaped_str w.strOk), _, rfl, ?_⟩
      by_cases hm : x ∈ xs
      · rw [show memN xs (.str x) = true from decide_eq_true hm, if_pos rfl]
        simp only [so_set, ok_eOp, ok_eC, ok_var]
        refine ⟨_, rfl, _, qN_get (by omega), _, strO_eq (show (qN i).length ≤ lim by rw [qN_len]; decide), _, rfl, ?_⟩
        refine go (qN i) (fun z => ?_) (.inr rfl)
        rcases e4 _ z with w | ⟨j, hj, e⟩
        · have := w.2.1
          rw [qN_len] at this; omega
        · have := qN_inj e; omega
      · rw [show memN xs (.str x) = false from decide_eq_false hm, if_neg (by decide)]
        exact go x hm (.inl w)
    intro y hy wy
    simp only [so_expr, ok_eMt, ok_aCons, ok_aNil, ok_var]
    refine ⟨_, rfl, ?_, _, rfl, ?_⟩
    · simp only [tyD, e1]
    · refine ⟨(.non, S2.set S.length (.lst (nD xs ++ [.str y]))), ?_, xs ++ [y], _, _, rfl, ?_, ?_, ?_, ?_, p2.set hne, (k1.trans k2).new1 (m' := .lst []) (Nat.le_refl _)⟩
      · simp only [qAppend, e1]
        rw [if_pos (by rw [nD_len, e2]; unfold lim; omega)]
      · rw [nD_app]; exact set_get e1
      · rw [List.length_append, e2]; rfl
      · rw [List.nodup_append]
        refine ⟨e3, by simp, fun a ha b hb e => ?_⟩
        rw [List.mem_singleton] at hb
        exact hy (hb ▸ e ▸ ha)
      · intro z hz
        rcases List.mem_append.mp hz with hz | hz
        · rcases e4 z hz with w | ⟨j, hj, e⟩
          · exact .inl w
          · exact .inr ⟨j, by omega, e⟩
        · rw [List.mem_singleton.mp hz]
          exact wy.imp id fun e => ⟨i, by omega, e⟩
  · rintro ρ S1 ⟨xs, a, b, rfl, e1, e2, e3, e4, p1, k1⟩
    rw [List.length_map, List.length_range] at e2 e4 p1
    rw [so_ret, ok_eVar (d := .ref S.length) (by rfl)]
    refine ⟨rfl, xs, e1, e2, e3, fun x m => ?_, p1.mono (by omega), k1⟩
    rcases e4 x m with w | ⟨j, hj, rfl⟩
    · exact w.mono (by decide)
    · exact qN_wd (by omega)
  · exact ⟨[], none, none, rfl, new_get, rfl, List.nodup_nil, (fun _ z => nomatch z), by
      refine (p.kp Kp.new (M := []) (fun z => nomatch z)).mono ?_
      omega, Kp.new⟩
theorem idxLn {S : Store} {h : Nat} {xs : List Str} {r : Int} (e : S[h]? = some (.lst (nD xs))) (h0 : 0 ≤ r) (h1 : r < xs.length) : ∃ x ∈ xs, pIdx (.ref h) (.int r) S = some (.str x, S) := by
  obtain ⟨n, rfl⟩ := Int.eq_ofNat_of_zero_le h0
  have hn : n < xs.length := by omega
  exact ⟨xs[n], List.getElem_mem _, idxL e (atI_nat (by unfold nD; rw [List.getElem?_map, List.getElem?_eq_getElem hn]; rfl))⟩
theorem rights_spec {S : Store} {h k : Nat} {X : XP} (p : PotOk S h (k + 1)) :
    ok (C.g__law_rights [.ref h] S) (fun d S' => ∃ r xs, d = .ref r ∧ S.length ≤ r ∧ S'[r]? = some (.lst (nD xs)) ∧ xs.length = 7 ∧ (∀ x ∈ xs, Wd 3 x) ∧ PotOk S' h k ∧ Kp [h] S S') X := by
  unfold C.g__law_rights
  rw [run1]
  unfold C.b__law_rights
  simp only [so_ret, ok_eLst, ok_aCons, ok_aNil, ok_eC, ok_eOp]
  refine ⟨_, newL_eq (show 3 ≤ lim by decide), ?_⟩
  have hne : h ≠ S.length := by have := p.lt; omega
  refine pot_draw (many := 3) (p.kp Kp.new (M := []) (fun z => nomatch z)) (vr rfl) (fun _ => rfl) (by decide) (by decide) fun r S1 r0 r3 p1 k1 => ?_
  have e1 := k1.get S.length (.lst (nD ["own", "x", "do"])) (fun z => hne (List.mem_singleton.mp z).symm) new_get
  obtain ⟨x, mx, ex⟩ := idxLn e1 r0 r3
  refine ⟨_, ex, _, newL_eq (show 7 ≤ lim by decide), S1.length, ["t", "g", "t", "g", "r", "w", x], rfl, ?_, new_get, rfl, ?_, p1.kp Kp.new (M := []) (fun z => nomatch z), (Kp.new.trans k1).trans Kp.new⟩
  · have := k1.len
    rw [List.length_append] at this
    simp only [List.length_cons, List.length_nil] at this
    show S.length ≤ S1.length
    omega
  · have w : ∀ y ∈ (["t", "g", "r", "w", "own", "x", "do"] : List Str), Wd 3 y := by
      simp only [List.forall_mem_cons]
      refine ⟨⟨by decide, by decide, by decide⟩, ⟨by decide, by decide, by decide⟩, ⟨by decide, by decide, by decide⟩, ⟨by decide, by decide, by decide⟩, ⟨by decide, by decide, by decide⟩, ⟨by decide, by decide, by decide⟩, ⟨by decide, by decide, by decide⟩, (fun _ z => nomatch z)⟩
    intro y hy
    refine w y ?_
    simp only [List.mem_cons, List.not_mem_nil, or_false] at hy mx ⊢
    rcases hy with z | z | z | z | z | z | z
    · exact .inl z
    · exact .inr (.inl z)
    · exact .inl z
    · exact .inr (.inl z)
    · exact .inr (.inr (.inl z))
    · exact .inr (.inr (.inr (.inl z)))
    · subst z
      rcases mx with z | z | z
      · exact .inr (.inr (.inr (.inr (.inl z))))
      · exact .inr (.inr (.inr (.inr (.inr (.inl z)))))
      · exact .inr (.inr (.inr (.inr (.inr (.inr z)))))
end Mini

/-! MINI, part Yd: drawn graphs. -/
namespace Mini
open PySem L2 PySem.W
abbrev Ho := Str × Str × Str
def hD (h : Ho) : D := .tup [.str h.1, .str h.2.1, .str h.2.2]
theorem hD_key (h : Ho) : hD h = tkD [.inr h.1, .inr h.2.1, .inr h.2.2] := rfl
theorem hD_inj {h g : Ho} (e : hD h = hD g) : h = g := by
  obtain ⟨a, b, c⟩ := h
  obtain ⟨x, y, z⟩ := g
  simp only [hD, D.tup.injEq, List.cons.injEq, D.str.injEq, and_true] at e
  obtain ⟨rfl, rfl, rfl⟩ := e
  rfl
theorem hD_clo (h : Ho) : Clo (hD h) := clo_tup fun d m => by
  simp only [List.mem_cons, List.not_mem_nil, or_false] at m
  rcases m with z | z | z <;> rw [z] <;> exact clo_str _
theorem hD_eP (h : Ho) : eP (hD h) = .tuple [.str h.1, .str h.2.1, .str h.2.2] := rfl
def hsD (hs : List Ho) : List D := hs.map hD
theorem hsD_uni (hs : List Ho) : Uni (hsD hs) := by
  refine ⟨fun d m => ?_, fun a ha b hb e => ?_⟩
  · obtain ⟨x, _, rfl⟩ := List.mem_map.mp m; exact hD_clo x
  · obtain ⟨x, _, rfl⟩ := List.mem_map.mp ha
    obtain ⟨y, _, rfl⟩ := List.mem_map.mp hb
    have q := toks_kPs (ks := [.inr x.1, .inr x.2.1, .inr x.2.2]) (js := [.inr y.1, .inr y.2.1, .inr y.2.2]) e
    rw [hD_key, hD_key, q]
theorem hsD_mem {hs : List Ho} {h : Ho} : hD h ∈ hsD hs ↔ h ∈ hs := by
  unfold hsD
  rw [List.mem_map]
  exact ⟨fun ⟨g, m, e⟩ => hD_inj e ▸ m, fun m => ⟨h, m, rfl⟩⟩
theorem hsD_inv {xs : List D} (h : ∀ d ∈ xs, ∃ x, d = hD x) : ∃ ys, xs = hsD ys := by
  induction xs with
  | nil => exact ⟨[], rfl⟩
  | cons d r ih =>
    obtain ⟨x, rfl⟩ := h d List.mem_cons_self
    obtain ⟨ys, rfl⟩ := ih fun e m => h e (List.mem_cons_of_mem _ m)
    exact ⟨x :: ys, rfl⟩
theorem hsD_kd (hs : List Ho) : ∀ d ∈ hsD hs, Kd d := fun d m => by
  obtain ⟨x, _, rfl⟩ := List.mem_map.mp m
  exact .inr ⟨_, hD_key x⟩
theorem sortOk_holds {S : Store} {hs : List D} (hh : ∀ d ∈ hs, ∃ x, d = hD x) (h : hs.length ≤ lim) : sortOk S hs = true := by
  unfold sortOk
  simp only [Bool.and_eq_true, Bool.or_eq_true, List.all_eq_true, decide_eq_true_eq]
  refine ⟨⟨⟨fun d m => ?_, fun d m e n => ?_⟩, .inl fun d m => ?_⟩, h⟩
  · obtain ⟨x, rfl⟩ := hh d m
    exact ⟨rfl, by show PyData.depth (.tuple [.str x.1, .str x.2.1, .str x.2.2]) ≤ 32; simp [PyData.depth, PyData.depthAll]⟩
  · obtain ⟨x, rfl⟩ := hh d m
    obtain ⟨y, rfl⟩ := hh e n
    rfl
  · obtain ⟨x, rfl⟩ := hh d m
    rfl
theorem setOk_holds {hs : List Ho} (h : hs.length < 64) : setOk (hsD hs) = true := by
  unfold setOk
  rw [Bool.or_eq_true, Bool.and_eq_true, decide_eq_true_eq, List.all_eq_true]
  refine .inl ⟨fun d m => ?_, by unfold hsD; rw [List.length_map]; exact h⟩
  obtain ⟨x, _, rfl⟩ := List.mem_map.mp m
  rw [hD_key, tkeyOf_tkD]; rfl
theorem dedup_len : ∀ ys : List D, (dedup ys).length ≤ ys.length
  | [] => Nat.le_refl _
  | d :: r => by
    unfold dedup
    split
    · exact Nat.le_succ_of_le (dedup_len r)
    · exact Nat.succ_le_succ (dedup_len r)
/-- sorted(set(holds)) -/
theorem sortSet_holds {S : Store} {k : Nat} {hs : List Ho} (e : S[k]? = some (.lst (hsD hs))) (h : hs.length < 64) : ∃ gs, nSortSet [.ref k] S = some (.ref S.length, S ++ [.lst (hsD gs)]) ∧ asc (hsD gs) ∧ (∀ g, g ∈ gs ↔ g ∈ hs) ∧ gs.length ≤ hs.length := by
  have ei : itemsOf S (.ref k) = some (hsD hs) := by simp only [itemsOf, e]
  have md := dedup_mem (hsD_kd hs)
  have hh : ∀ d ∈ dedup (hsD hs), ∃ x, d = hD x := fun d m => by
    obtain ⟨x, _, rfl⟩ := List.mem_map.mp ((md d).mp m); exact ⟨x, rfl⟩
  have hl : (dedup (hsD hs)).length ≤ hs.length := Nat.le_trans (dedup_len _) (by unfold hsD; rw [List.length_map]; exact Nat.le_refl _)
  obtain ⟨gs, eg⟩ := hsD_inv (xs := sortD S (dedup (hsD hs))) fun d m => hh d (sortD_mem.mp m)
  have el : gs.length ≤ hs.length := by
    have := congrArg List.length eg
    rw [sortD_len] at this
    unfold hsD at this hl
    rw [List.length_map] at this
    omega
  refine ⟨gs, ?_, ?_, fun g => ?_, el⟩
  · simp only [nSortSet, ei]
    rw [setOk_holds h, sortOk_holds hh (by unfold lim; omega)]
    rw [show (true && true) = true from rfl, if_pos rfl, eg, newL_eq (by unfold hsD; rw [List.length_map]; unfold lim; omega)]
  · rw [← eg]
    exact sort_asc ((hsD_uni hs).sub fun d m => (md d).mp m) (dedup_nodup (hsD_kd hs))
  · rw [← hsD_mem (h := g) (hs := gs), ← eg, sortD_mem, md, hsD_mem]
structure Gr where
  A : List Str
  O : List Str
  H : List Ho
def Gr.d (G : Gr) : D := .tup [.tup (nD G.A), .tup (nD G.O), .tup (hsD G.H)]
/-- a graph -/
structure Gr.Ok (G : Gr) : Prop where
  ascA : asc (nD G.A)
  ascO : asc (nD G.O)
  ascH : asc (hsD G.H)
  dis : ∀ x ∈ G.A, x ∉ G.O
  wd : ∀ x ∈ G.A ++ G.O, Wd 8 x
  of : ∀ h ∈ G.H, h.1 ∈ G.A ++ G.O ∧ h.2.1 ∈ G.A ++ G.O ∧ Wd 3 h.2.2
  len : (G.A ++ G.O).length ≤ 30
  lenH : G.H.length < 64
theorem cut_take {xs : List D} {a : Nat} : cutD xs none (some (a : Int)) = xs.take a := by
  unfold cutD
  rw [HT.sIx_none, HT.sIx_nat, List.drop_zero, Nat.sub_zero]
  by_cases h : a ≤ xs.length
  · rw [Nat.min_eq_left h]
  · rw [Nat.min_eq_right (by omega), List.take_of_length_le (Nat.le_refl _), List.take_of_length_le (by omega)]
theorem cut_drop {xs : List D} {a : Nat} : cutD xs (some (a : Int)) none = xs.drop a := by
  unfold cutD
  rw [HT.sIx_none, HT.sIx_nat]
  by_cases h : a ≤ xs.length
  · rw [Nat.min_eq_left h, List.take_of_length_le (by rw [List.length_drop]; exact Nat.le_refl _)]
  · rw [Nat.min_eq_right (by omega), List.drop_of_length_le (Nat.le_refl _), List.drop_of_length_le (by omega), List.take_nil]
theorem cutL {S : Store} {h : Nat} {xs : List D} {lo hi : Option Int} (e : S[h]? = some (.lst xs)) : pCut (.ref h) lo hi S = some (.ref S.length, S ++ [.lst (cutD xs lo hi)]) := by
  simp only [pCut, e]; rfl
theorem tupleL {S : Store} {h : Nat} {xs : List D} (e : S[h]? = some (.lst xs)) : nTuple [.ref h] S = some (.tup xs, S) := by simp only [nTuple, e]
theorem sortedL {S : Store} {h : Nat} {xs : List Str} (e : S[h]? = some (.lst (nD xs))) (hl : xs.length ≤ lim) : nSorted [.ref h] S = some (.ref S.length, S ++ [.lst (sortD S (nD xs))]) := by
  simp only [nSorted, itemsOf, e]
  rw [if_pos (sortOk_names hl), newL_eq (by rw [sortD_len, nD_len]; exact hl)]
theorem sortedT {S : Store} {xs : List Str} (hl : xs.length ≤ lim) : nSorted [.tup (nD xs)] S = some (.ref S.length, S ++ [.lst (sortD S (nD xs))]) := by
  simp only [nSorted, itemsOf]
  rw [if_pos (sortOk_names hl), newL_eq (by rw [sortD_len, nD_len]; exact hl)]
theorem names_in {S : Store} {h k n : Nat} {ρ : Env} {fa fb : ME} {P : D → Store → Prop} {X : XP} (p : PotOk S h (k + 6 * n)) (hn : n ≤ 26) (ha : ∀ Q, ok (fa ρ S) Q X = Q (.ref h) S) (many : Int) (hmn : many = n) (hb : ∀ Q, ok (fb ρ S) Q X = Q (.int many) S)
    (K : ∀ xs S', S'[S.length]? = some (.lst (nD xs)) → xs.length = n → xs.Nodup → (∀ x ∈ xs, Wd 5 x) → PotOk S' h k → Kp [h] S S' → P (.ref S.length) S') : ok (eCall C.g__law_names (aCons fa (aCons fb aNil)) ρ S) P X := by
  simp only [ok_eCall, ok_aCons, ok_aNil, ha, hb]
  subst hmn
  have q := names_spec (k := k) (n := n) (X := X) p hn
  refine ok_mono q (fun d S' hd => ?_) fun _ _ _ z => z
  obtain ⟨rfl, xs, a1, a2, a3, a4, a5, a6⟩ := hd
  exact K xs S' a1 a2 a3 a4 a5 a6
theorem pick {S : Store} {h k v i j : Nat} {xs : List Str} {ρ : Env} {P : D → Store → Prop} {X : XP} (p : PotOk S h (k + 1)) (e : S[v]? = some (.lst (nD xs))) (hv : v ≠ h) (l1 : 1 ≤ xs.length) (l2 : xs.length < 1000) (h0 : ρ[j]? = some (some (.ref h))) (hi : ρ[i]? = some (some (.ref v)))
    (K : ∀ x S', x ∈ xs → PotOk S' h k → Kp [h] S S' → P (.str x) S') : ok (eOp pIdx (eVar i) (eCall C.g__law_draw (aCons (eVar j) (aCons (eB nLen (aCons (eVar i) aNil)) aNil))) ρ S) P X := by
  rw [ok_eOp, ok_eVar hi]
  refine pot_draw (many := xs.length) p (vr h0) (fun Q => ?_) (by omega) (by omega) fun r S1 r0 r3 p1 k1 => ?_
  · simp only [ok_eB, ok_aCons, ok_aNil]
    rw [ok_eVar hi, lenL e, nD_len]
    exact propext ⟨fun ⟨_, e, q⟩ => by cases e; exact q, fun q => ⟨_, rfl, q⟩⟩
  · obtain ⟨x, m, ex⟩ := idxLn (k1.get _ _ (fun z => hv (List.mem_singleton.mp z)) e) r0 (by omega)
    exact ⟨_, ex, K x S1 m p1 k1⟩
theorem graph_spec {S : Store} {h k sm om hm : Nat} {X : XP} (p : PotOk S h (k + 400)) (h1 : 1 ≤ sm) (h2 : sm + om ≤ 26) (h3 : hm ≤ 40) :
    ok (C.g__law_graph [.ref h, .int sm, .int om, .int hm] S) (fun d S' => ∃ G : Gr, d = G.d ∧ G.Ok ∧ 1 ≤ G.A.length ∧ G.A.length ≤ sm ∧ G.O.length ≤ om ∧ G.H.length ≤ hm ∧ (∀ x ∈ G.A ++ G.O, Wd 5 x) ∧ PotOk S' h k ∧ Kp [h] S S') X := by
  unfold C.g__law_graph
  rw [run4]
  unfold C.b__law_graph
  rw [so_seq, so_par, ok_aCons, ok_eOp, ok_eC]
  refine pot_draw (k := k + 399) (many := sm) p (vr rfl) (vr rfl) (by omega) (by omega) fun r1 S1 r10 r11 p1 k1 => ⟨_, addI, ?_⟩
  rw [ok_aCons]
  refine pot_draw (k := k + 398) (many := om + 1) p1 (vr rfl) (fun Q => by
    rw [ok_eOp, ok_eVar (d := .int om) (by rfl), ok_eC]
    exact propext ⟨fun ⟨_, e, q⟩ => by cases e; exact q, fun q => ⟨_, rfl, q⟩⟩) (by omega) (by omega) fun r2 S2 r20 r21 p2 k2 => ?_
  rw [ok_aNil]
  refine ⟨_, _, rfl, ?_⟩
  dsimp only [List.set, List.length_cons, List.length_nil]
  obtain ⟨ac, rfl⟩ : ∃ ac : Nat, r1 = ac := Int.eq_ofNat_of_zero_le r10
  obtain ⟨ly, rfl⟩ : ∃ ly : Nat, r2 = ly := Int.eq_ofNat_of_zero_le r20
  have hac : ac + 1 ≤ sm := by omega
  have hly : ly ≤ om := by omega
  rw [so_seq, so_set]
  have e1n : (1 : Int) + (ac : Int) = ((ac + 1 : Nat) : Int) := by omega
  rw [e1n]
  refine names_in (k := k + 200) (n := ac + 1 + ly) (p2.mono (by omega)) (by omega) (vr rfl) (((ac + 1 : Nat) : Int) + (ly : Int)) (by omega) (fun Q => by
    rw [ok_eOp, ok_eVar (d := .int (ac + 1 : Nat)) (by rfl), ok_eVar (d := .int ly) (by rfl)]
    exact propext ⟨fun ⟨_, e, q⟩ => by cases e; exact q, fun q => ⟨_, rfl, q⟩⟩) fun ns S3 en nlen nnd nwd p3 k3 => ⟨_, rfl, ?_⟩
  have hn2 : S2.length ≠ h := by have := p2.lt; omega
  dsimp only [List.set, List.length_cons, List.length_nil, List.replicate]
  rw [so_seq, so_par, ok_aCons, ok_eCall, ok_aCons, ok_eVar (d := .ref h) (by rfl), ok_aNil]
  refine ok_mono (rights_spec (k := k + 199) p3) (fun d S4 hd => ?_) fun _ _ _ z => z
  obtain ⟨rh, rs, rfl, hrh, er, rlen, rwd, p4, k4⟩ := hd
  simp only [ok_aCons, ok_eLst, ok_aNil]
  refine ⟨_, newL_eq (show 0 ≤ lim by decide), _, _, rfl, ?_⟩
  dsimp only [List.set, List.length_cons, List.length_nil, List.replicate]
  have hrh2 : rh ≠ h := by have := p3.lt; omega
  have hh4 : S4.length ≠ h := by have := p4.lt; omega
  have en4 := k4.get _ _ (fun z => hn2 (List.mem_singleton.mp z)) en
  have hl2 : S2.length < S4.length := (List.getElem?_eq_some_iff.mp en4).1
  have hlr : rh < S4.length := (List.getElem?_eq_some_iff.mp er).1
  have K04 : Kp [h] S S4 := ((k1.trans k2).trans k3).trans k4
  rw [so_seq, so_for]
  simp only [ok_iArgs, ok_aCons, ok_aNil]
  refine pot_draw (k := k + 198) (many := hm + 1) (p4.kp Kp.new (M := []) (fun z => nomatch z)) (vr rfl) (fun Q => by
    rw [ok_eOp, ok_eVar (d := .int hm) (by rfl), ok_eC]
    exact propext ⟨fun ⟨_, e, q⟩ => by cases e; exact q, fun q => ⟨_, rfl, q⟩⟩) (by omega) (by omega) fun r3 S5 r30 r31 p5 k5 => ?_
  obtain ⟨tn, rfl⟩ : ∃ tn : Nat, r3 = tn := Int.eq_ofNat_of_zero_le r30
  refine ⟨_, rng1_nat (by omega), ?_⟩
  refine for_inv (xs := (List.range tn).map fun i : Nat => D.int i) (fun i ρ S' => ∃ hs a b c, ρ = [some (.ref h), some (.int sm), some (.int om), some (.int hm), some (.int (ac + 1 : Nat)), some (.int ly), some (.ref S2.length), some (.ref rh), some (.ref S4.length), a, b, c] ∧ S'[S2.length]? = some (.lst (nD ns)) ∧ S'[rh]? = some (.lst (nD rs)) ∧ S'[S4.length]? = some (.lst (hsD hs)) ∧ hs.length = i ∧ (∀ g ∈ hs, g.1 ∈ ns ∧ g.2.1 ∈ ns ∧ g.2.2 ∈ rs) ∧ PotOk S' h (k + 3 * (tn - i)) ∧ Kp [h] S S') (by rw [List.length_map, List.length_range]; unfold lim; omega) (fun i ρ S' _ _ => rng_nx i S') ?_ ?_ ?_
  · rintro i x ρ T1 ex ⟨hs, a, b, c, rfl, e1, e2, e3, e4, e5, q1, kk⟩
    have hi : i < tn := by
      have := (List.getElem?_eq_some_iff.mp ex).1
      simpa using this
    refine ⟨_, rfl, ?_⟩
    dsimp only [List.set]
    rw [so_seq, so_par, ok_aCons]
    have q1 : PotOk T1 h (k + 3 * (tn - (i + 1)) + 3) := by
      have : k + 3 * (tn - (i + 1)) + 3 = k + 3 * (tn - i) := by omega
      rw [this]; exact q1
    refine pick (k := k + 3 * (tn - (i + 1)) + 2) q1 e1 hn2 (by omega) (by omega) rfl rfl fun y1 T2 m1 q2 kk2 => ?_
    have e1 := kk2.get _ _ (fun z => hn2 (List.mem_singleton.mp z)) e1
    rw [ok_aCons]
    refine pick (k := k + 3 * (tn - (i + 1)) + 1) q2 e1 hn2 (by omega) (by omega) rfl rfl fun y2 T3 m2 q3 kk3 => ?_
    have e1 := kk3.get _ _ (fun z => hn2 (List.mem_singleton.mp z)) e1
    have e2 := kk3.get _ _ (fun z => hrh2 (List.mem_singleton.mp z)) (kk2.get _ _ (fun z => hrh2 (List.mem_singleton.mp z)) e2)
    have e3 := kk3.get _ _ (fun z => hh4 (List.mem_singleton.mp z)) (kk2.get _ _ (fun z => hh4 (List.mem_singleton.mp z)) e3)
    rw [ok_aNil]
    refine ⟨_, _, rfl, ?_⟩
    dsimp only [List.set]
    rw [so_expr, ok_eMt, ok_eVar (d := .ref S4.length) (by rfl)]
    refine ⟨by simp only [tyD, e3], ?_⟩
    rw [ok_aCons, ok_eTup, ok_aCons, ok_eVar (d := .str y1) (by rfl), ok_aCons, ok_eVar (d := .str y2) (by rfl), ok_aCons]
    refine pick (k := k + 3 * (tn - (i + 1))) q3 e2 hrh2 (by omega) (by omega) rfl rfl fun y3 T4 m3 q4 kk4 => ?_
    have e1 := kk4.get _ _ (fun z => hn2 (List.mem_singleton.mp z)) e1
    have e2 := kk4.get _ _ (fun z => hrh2 (List.mem_singleton.mp z)) e2
    have e3 := kk4.get _ _ (fun z => hh4 (List.mem_singleton.mp z)) e3
    rw [ok_aNil]
    refine ⟨_, tupO_eq (show 3 ≤ lim by decide), ?_⟩
    rw [ok_aNil]
    refine ⟨(.non, T4.set S4.length (.lst (hsD hs ++ [hD (y1, y2, y3)]))), ?_, hs ++ [(y1, y2, y3)], _, _, _, rfl, ?_, ?_, ?_, ?_, ?_, q4.set (Ne.symm hh4), ?_⟩
    · simp only [qAppend, e3]
      rw [if_pos (by unfold hsD; rw [List.length_map, e4]; unfold lim; omega)]; rfl
    · rw [List.getElem?_set_ne (by omega)]; exact e1
    · rw [List.getElem?_set_ne (by omega)]; exact e2
    · rw [set_get e3]; unfold hsD; rw [List.map_append]; rfl
    · rw [List.length_append, e4]; rfl
    · intro g hg
      rcases List.mem_append.mp hg with z | z
      · exact e5 g z
      · rw [List.mem_singleton.mp z]; exact ⟨m1, m2, m3⟩
    · exact (((kk.trans kk2).trans kk3).trans kk4).new1 (m' := .lst []) K04.len
  · rintro ρ T1 ⟨hs, a, b, c, rfl, e1, e2, e3, e4, e5, q1, kk⟩
    rw [List.length_map, List.length_range] at e4 q1
    simp only [so_ret, ok_eTup, ok_aCons, ok_aNil, ok_eB, ok_eCut, ok_oNone, ok_oSome]
    have l1 : (nD ns).length = ac + 1 + ly := by rw [nD_len, nlen]
    rw [ok_eVar (d := .ref S2.length) (by rfl), ok_eVar (d := .int (ac + 1 : Nat)) (by rfl)]
    have ct : (nD ns).take (ac + 1) = nD (ns.take (ac + 1)) := by unfold nD; rw [List.map_take]
    have cd : (nD ns).drop (ac + 1) = nD (ns.drop (ac + 1)) := by unfold nD; rw [List.map_drop]
    refine ⟨_, rfl, _, cutL e1, ?_⟩
    rw [cut_take, ct]
    refine ⟨_, sortedL new_get (by rw [List.length_take]; unfold lim; omega), _, tupleL new_get, ?_⟩
    generalize eU : (T1 ++ [MO.lst (nD (ns.take (ac + 1)))]) = U1
    have k6 : Kp [] T1 U1 := eU ▸ Kp.new
    obtain ⟨A, eA, pA⟩ := sort_names (S := U1) (xs := ns.take (ac + 1))
    rw [eA]
    generalize eU2 : (U1 ++ [MO.lst (nD A)]) = U2
    have k7 : Kp [] T1 U2 := k6.trans (eU2 ▸ Kp.new)
    have e1 := k7.get _ _ (fun z => nomatch z) e1
    rw [ok_eVar (d := .ref S2.length) (by rfl), ok_eVar (d := .int (ac + 1 : Nat)) (by rfl)]
    refine ⟨_, rfl, _, cutL e1, ?_⟩
    rw [cut_drop, cd]
    refine ⟨_, sortedL new_get (by rw [List.length_drop]; unfold lim; omega), _, tupleL new_get, ?_⟩
    generalize eU3 : (U2 ++ [MO.lst (nD (ns.drop (ac + 1)))]) = U3
    have k8 : Kp [] T1 U3 := k7.trans (eU3 ▸ Kp.new)
    obtain ⟨O, eO, pO⟩ := sort_names (S := U3) (xs := ns.drop (ac + 1))
    rw [eO]
    generalize eU4 : (U3 ++ [MO.lst (nD O)]) = U4
    have k9 : Kp [] T1 U4 := k8.trans (eU4 ▸ Kp.new)
    have e3 := k9.get _ _ (fun z => nomatch z) e3
    rw [ok_eVar (d := .ref S4.length) (by rfl)]
    obtain ⟨gs, eg, ga, gm, gl⟩ := sortSet_holds e3 (by omega)
    refine ⟨_, eg, _, tupleL new_get, _, tupO_eq (show 3 ≤ lim by decide), ⟨A, O, gs⟩, rfl, ?_, ?_, ?_, ?_, ?_, ?_, ?_, ?_⟩
    · have nd1 : (ns.take (ac + 1)).Nodup := nnd.sublist (List.take_sublist _ _)
      have nd2 : (ns.drop (ac + 1)).Nodup := nnd.sublist (List.drop_sublist _ _)
      have mAll : ∀ x, x ∈ A ++ O ↔ x ∈ ns := fun x => by
        rw [List.mem_append, pA.mem_iff, pO.mem_iff, ← List.mem_append, List.take_append_drop]
      refine ⟨?_, ?_, ga, ?_, fun x m => (nwd x ((mAll x).mp m)).mono (by decide), fun g m => ?_, ?_, by show gs.length < 64; omega⟩
      · rw [← eA]; exact sort_asc (nD_uni _) (nD_nodup.mpr nd1)
      · rw [← eO]; exact sort_asc (nD_uni _) (nD_nodup.mpr nd2)
      · intro x mA mO
        have mA := pA.mem_iff.mp mA
        have mO := pO.mem_iff.mp mO
        have := nnd
        rw [← List.take_append_drop (ac + 1) ns, List.nodup_append] at this
        exact this.2.2 x mA x mO rfl
      · have := e5 g ((gm g).mp m)
        exact ⟨(mAll _).mpr this.1, (mAll _).mpr this.2.1, rwd _ this.2.2⟩
      · show (A ++ O).length ≤ 30
        rw [List.length_append, pA.length_eq, pO.length_eq, List.length_take, List.length_drop]
        omega
    · show 1 ≤ A.length
      rw [pA.length_eq, List.length_take]; omega
    · show A.length ≤ sm
      rw [pA.length_eq, List.length_take]; omega
    · show O.length ≤ om
      rw [pO.length_eq, List.length_drop]; omega
    · show gs.length ≤ hm
      omega
    · intro x m
      have : x ∈ ns := by
        rcases List.mem_append.mp m with z | z
        · exact List.mem_of_mem_take (pA.mem_iff.mp z)
        · exact List.mem_of_mem_drop (pO.mem_iff.mp z)
      exact nwd x this
    · exact ((q1.kp k9 (fun z => nomatch z)).kp Kp.new (M := []) (fun z => nomatch z)).mono (by omega)
    · exact kk.trans ((k9.trans Kp.new).wk (fun _ z => nomatch z))
  · have e0 := k5.get S4.length (.lst []) (fun z => hh4 (List.mem_singleton.mp z)) new_get
    have g5 : ∀ j m, j ≠ h → S4[j]? = some m → S5[j]? = some m := fun j m hj z => k5.get j m (fun y => hj (List.mem_singleton.mp y)) ((Kp.new (M := [])).get j m (fun y => nomatch y) z)
    exact ⟨[], none, none, none, rfl, g5 _ _ hn2 en4, g5 _ _ hrh2 er, e0, rfl, (fun _ z => nomatch z), p5.mono (by omega), K04.trans (Kp.new.trans k5)⟩
end Mini

/-! MINI, part Ye: words, names, graphs without fault. -/
namespace Mini
open PySem L2
section
variable {wi : Env → M MIt} {g : Tg} {tt : Env → M Bool} {fe : ME} {vs : List Nat} {ρ : Env} {S : Store} {P : D → Store → Prop} {X : XP} {it : MIt} {xs : List D}
theorem ok_lc (p : D → Bool) (f : D → D) (hw : ∀ Q, ok (wi ρ S) Q X = Q it S) (hx : xs.length ≤ lim) (nx : ∀ i S', Kp [] S S' → nextI it i S' = .of xs[i]?)
    (step : ∀ x S', x ∈ xs → Kp [] S S' → ∃ ρ1, setT g x (wipeM ρ vs) = some ρ1 ∧ ok (tt ρ1 S') (fun b S1 => Kp [] S' S1 ∧ b = p x ∧ (p x = true → ok (fe ρ1 S1) (fun y S2 => Kp [] S1 S2 ∧ y = f x) X0)) X0)
    (K : ∀ S', S'[S.length]? = some (.lst ((xs.filter p).map f)) → Kp [] S S' → P (.ref S.length) S') : ok (eLc wi g tt fe vs ρ S) P X := by
  rw [ok_eLc, hw]
  refine ok_mono (lc_pure (xs := xs) p f hx nx step) (fun d S' hd => ?_) fun _ _ _ z => z
  obtain ⟨rfl, e, k⟩ := hd
  exact K S' e k
theorem blsD_map (q : D → Bool) : ∀ xs : List D, blsD (xs.map fun d => D.bl (q d)) = some (xs.map q)
  | [] => rfl
  | x :: r => by rw [List.map_cons, blsD, blsD_map q r]; rfl
theorem allL {h : Nat} (q : D → Bool) (e : S[h]? = some (.lst (xs.map fun d => D.bl (q d)))) : nAll [.ref h] S = some (.bl (xs.all q), S) := by
  simp only [nAll, seqOf, e, Option.bind_some, blsD_map, Option.map_some]
  rw [List.all_map]; rfl
theorem ok_all (q : D → Bool) (hw : ∀ Q, ok (wi ρ S) Q X = Q it S) (hx : xs.length ≤ lim) (nx : ∀ i S', Kp [] S S' → nextI it i S' = .of xs[i]?)
    (step : ∀ x S', x ∈ xs → Kp [] S S' → ∃ ρ1, setT g x (wipeM ρ vs) = some ρ1 ∧ ok (fe ρ1 S') (fun y S2 => Kp [] S' S2 ∧ y = .bl (q x)) X0)
    (K : ∀ S', Kp [] S S' → P (.bl (xs.all q)) S') : ok (eB nAll (aCons (eLc wi g ttYes fe vs) aNil) ρ S) P X := by
  rw [ok_eB, ok_aCons]
  refine ok_lc (fun _ => true) (fun d => .bl (q d)) hw hx nx (fun x S' m k => ?_) fun S' e k => ?_
  · obtain ⟨ρ1, e, h⟩ := step x S' m k
    exact ⟨ρ1, e, Kp.refl, rfl, fun _ => h⟩
  · rw [List.filter_eq_self.mpr (fun _ _ => rfl)] at e
    rw [ok_aNil]
    exact ⟨_, allL q e, K S' k⟩
theorem anyV {i : Nat} {d : D} (h : ρ[i]? = some (some d)) (e : itOf S d = some it) : ∀ Q, ok (iAny (eVar i) ρ S) Q X = Q it S := fun Q => by
  rw [ok_iAny, ok_eVar h]
  exact propext ⟨fun ⟨_, e2, q⟩ => by rw [e] at e2; cases e2; exact q, fun q => ⟨_, e, q⟩⟩
theorem enuV {i : Nat} {d : D} (h : ρ[i]? = some (some d)) (e : enuOf S d = some it) : ∀ Q, ok (iEnu (eVar i) ρ S) Q X = Q it S := fun Q => by
  rw [ok_iEnu, ok_eVar h]
  exact propext ⟨fun ⟨_, e2, q⟩ => by rw [e] at e2; cases e2; exact q, fun q => ⟨_, e, q⟩⟩
end
def isWd (m : Nat) : D → Bool
  | .str x => decide (1 ≤ x.length) && decide (x.length ≤ m) && x.cps.toList.all low
  | _ => false
theorem isWd_iff {m : Nat} {x : Str} : isWd m (.str x) = true ↔ Wd m x := by
  simp only [isWd, Bool.and_eq_true, decide_eq_true_eq, List.all_eq_true, and_assoc, Wd]
def Dat (S : Store) : D → Prop
  | .str x => x.length ≤ lim
  | .ref h => ∃ xs, S[h]? = some (.lst xs)
  | _ => True
theorem isi_str {S : Store} {d : D} (h : Dat S d) (n : ∀ x, d ≠ .str x) : pIsi "str" d S = some (.bl false, S) := by
  cases d with
  | str x => exact absurd rfl (n x)
  | ref k => obtain ⟨xs, e⟩ := h; simp only [pIsi, tyD, e]; rfl
  | _ => rfl
theorem sgIn {S : Store} {c : Nat} : pIn (.str ⟨#[c]⟩) (.str "abcdefghijklmnopqrstuvwxyz") S = some (.bl (low c), S) := by
  have e : ("abcdefghijklmnopqrstuvwxyz" : Str).cps.toList = (List.range 26).map (97 + ·) := by decide
  show some (D.bl (decide (c ∈ ("abcdefghijklmnopqrstuvwxyz" : Str).cps.toList)), S) = _
  congr 3
  rw [e]
  unfold low
  rw [Bool.eq_iff_iff, decide_eq_true_eq, Bool.and_eq_true, decide_eq_true_eq, decide_eq_true_eq, List.mem_map]
  constructor
  · rintro ⟨a, ha, rfl⟩
    have := List.mem_range.mp ha
    omega
  · intro h
    exact ⟨c - 97, List.mem_range.mpr (by omega), by omega⟩
theorem sgs_nx {x : Str} (i : Nat) (S : Store) : nextI (.sgn x) i S = .of (x.cps.toList.map fun c => D.str ⟨#[c]⟩)[i]? := by
  simp only [nextI]
  rw [List.getElem?_map]
  cases x.cps.toList[i]? <;> rfl
def lowD : D → Bool
  | .str x => x.cps.toList.all low
  | _ => false
theorem is_word_spec {S : Store} {d : D} {m : Nat} {X : XP} (hs : Dat S d) : ok (C.g_is_word [d, .int m] S) (fun r S' => r = .bl (isWd m d) ∧ Kp [] S S') X := by
  unfold C.g_is_word
  rw [run2]
  unfold C.b_is_word
  rw [so_ret, ok_eAnd, ok_eIsi, ok_eVar (d := d) (by rfl)]
  by_cases hx : ∃ x, d = .str x
  · obtain ⟨x, rfl⟩ := hx
    refine ⟨(.bl true, S), rfl, _, rfl, ?_⟩
    rw [if_pos rfl, ok_eAnd, ok_eChain, ok_eC, ok_eB, ok_aCons, ok_eVar (d := .str x) (by rfl), ok_aNil]
    refine ⟨_, lenS hs, _, leI, _, rfl, ?_⟩
    by_cases h1 : 1 ≤ x.length
    · rw [show (!decide ((x.length : Int) < 1)) = true from by rw [decide_eq_false (by omega)]; rfl, if_pos rfl]
      simp only [ok_bnd, ok_var, ok_lift]
      refine ⟨_, rfl, _, leI, _, rfl, ?_⟩
      by_cases h2 : x.length ≤ m
      · rw [show (!decide ((m : Int) < (x.length : Int))) = true from by rw [decide_eq_false (by omega)]; rfl, if_pos rfl]
        refine ok_all (xs := x.cps.toList.map fun c => D.str ⟨#[c]⟩) (it := .sgn x) lowD (anyV rfl rfl) (by rw [List.length_map]; have := hs; rw [show x.cps.toList.length = x.length from by simp [Str.length]]; exact hs) (fun i S' _ => sgs_nx i S') (fun y S' my k => ?_) fun S' k => ⟨?_, k⟩
        · obtain ⟨c, hc, rfl⟩ := List.mem_map.mp my
          refine ⟨_, rfl, ?_⟩
          rw [ok_eOp, ok_eVar (d := .str ⟨#[c]⟩) (by rfl), ok_eC]
          refine ⟨_, sgIn, Kp.refl, ?_⟩
          show D.bl (low c) = .bl ([c].all low)
          simp
        · rw [List.all_map]
          simp only [isWd, decide_eq_true h1, decide_eq_true h2, Bool.true_and]
          congr 1
          have : ∀ l : List Nat, l.all (lowD ∘ fun c => D.str ⟨#[c]⟩) = l.all low := fun l => by
            congr 1; funext c; simp [lowD]
          exact this _
      · rw [show (!decide ((m : Int) < (x.length : Int))) = false from by rw [decide_eq_true (by omega)]; rfl, if_neg (by decide)]
        refine ⟨?_, Kp.refl⟩
        simp only [isWd, decide_eq_false h2, Bool.and_false, Bool.false_and]
    · rw [show (!decide ((x.length : Int) < 1)) = false from by rw [decide_eq_true (by omega)]; rfl, if_neg (by decide)]
      rw [ok_pur]
      refine ⟨_, rfl, ?_⟩
      rw [if_neg (by decide), ok_pur]
      refine ⟨?_, Kp.refl⟩
      simp only [isWd, decide_eq_false h1, Bool.false_and]
  · refine ⟨_, isi_str hs (fun x e => hx ⟨x, e⟩), _, rfl, ?_⟩
    rw [if_neg (by decide), ok_pur]
    refine ⟨?_, Kp.refl⟩
    cases d with
    | str x => exact absurd ⟨x, rfl⟩ hx
    | _ => rfl
theorem is_name_spec {S : Store} {d : D} {X : XP} (hs : Dat S d) : ok (C.g_is_name [d] S) (fun r S' => r = .bl (isWd 8 d) ∧ Kp [] S S') X := by
  unfold C.g_is_name
  rw [run1]
  unfold C.b_is_name
  rw [so_ret, ok_eCall, ok_aCons, ok_eVar (d := d) (by rfl), ok_aCons, ok_eC, ok_aNil]
  exact is_word_spec (m := 8) hs
theorem is_right_spec {S : Store} {d : D} {X : XP} (hs : Dat S d) : ok (C.g_is_right [d] S) (fun r S' => r = .bl (isWd 3 d) ∧ Kp [] S S') X := by
  unfold C.g_is_right
  rw [run1]
  unfold C.b_is_right
  rw [so_ret, ok_eCall, ok_aCons, ok_eVar (d := d) (by rfl), ok_aCons, ok_eC, ok_aNil]
  exact is_word_spec (m := 3) hs
theorem isi_tup {S : Store} {d : D} (h : Dat S d) : pIsi "tuple" d S = some (.bl (match d with | .tup _ => true | _ => false), S) := by
  cases d with
  | ref k => obtain ⟨xs, e⟩ := h; simp only [pIsi, tyD, e]; rfl
  | _ => rfl
end Mini

/-! MINI, part Yf: a drawn graph has no fault. -/
namespace Mini
open PySem L2 PySem.W
def numd (xs : List D) : List D := xs.mapIdx fun i d => .tup [.int i, d]
theorem enu_nx {xs : List D} (i : Nat) (S : Store) : nextI (.enuT xs) i S = .of (numd xs)[i]? := by
  simp only [nextI, numd]
  rw [List.getElem?_mapIdx]
theorem numd_len (xs : List D) : (numd xs).length = xs.length := List.length_mapIdx
theorem numd_get {xs : List D} {i : Nat} {x : D} (h : (numd xs)[i]? = some x) : ∃ d, xs[i]? = some d ∧ x = .tup [.int i, d] := by
  unfold numd at h
  rw [List.getElem?_mapIdx] at h
  obtain ⟨d, e, rfl⟩ := Option.map_eq_some_iff.mp h
  exact ⟨d, e, rfl⟩
theorem leS {x y : Str} {S : Store} : pLe (.str x) (.str y) S = some (.bl (!decide (y.cps.toList < x.cps.toList)), S) := rfl
theorem ltS {x y : Str} {S : Store} : pLt (.str x) (.str y) S = some (.bl (decide (x.cps.toList < y.cps.toList)), S) := rfl
theorem nD_get {xs : List Str} {i : Nat} {d : D} (h : (nD xs)[i]? = some d) : ∃ x, xs[i]? = some x ∧ d = .str x := by
  unfold nD at h
  rw [List.getElem?_map] at h
  obtain ⟨x, e, rfl⟩ := Option.map_eq_some_iff.mp h
  exact ⟨x, e, rfl⟩
theorem asc_get {xs : List D} (a : asc xs) {i j : Nat} {d e : D} (hi : xs[i]? = some d) (hj : xs[j]? = some e) (h : i < j) : dataLt (eP d) (eP e) = true := by
  obtain ⟨li, ei⟩ := List.getElem?_eq_some_iff.mp hi
  obtain ⟨lj, ej⟩ := List.getElem?_eq_some_iff.mp hj
  rw [← ei, ← ej]
  exact List.pairwise_iff_getElem.mp a i j li lj h
theorem lt_names {x y : Str} (h : dataLt (eP (.str x)) (eP (.str y)) = true) : x.cps.toList < y.cps.toList := by
  rw [eP_str, eP_str, dataLt_str] at h
  exact of_decide_eq_true h
theorem Wd.fits {m : Nat} {x : Str} (w : Wd m x) (h : m ≤ lim) : x.length ≤ lim := Nat.le_trans w.2.1 h
theorem names_fault_none {S : Store} {part : D} {xs os : List Str} {X : XP} (a : asc (nD xs)) (w : ∀ x ∈ xs, Wd 8 x) (wo : ∀ x ∈ os, PyData.strOk x = true) (n : ∀ x ∈ xs, x ∉ os) (hl : xs.length ≤ lim) :
    ok (C.g_names_fault [part, .tup (nD xs), .tup (nD os)] S) (fun d S' => d = .non ∧ Kp [] S S') X := by
  unfold C.g_names_fault
  rw [run3]
  unfold C.b_names_fault
  rw [so_seq, so_for, enuV (d := .tup (nD xs)) (it := .enuT (nD xs)) (by rfl) rfl]
  refine for_inv (xs := numd (nD xs)) (fun i ρ S' => (∃ a b, ρ = [some part, some (.tup (nD xs)), some (.tup (nD os)), a, b]) ∧ Kp [] S S') (by rw [numd_len, nD_len]; exact hl) (fun i ρ S' _ _ => enu_nx i S') ?_ ?_ ⟨⟨_, _, rfl⟩, Kp.refl⟩
  · rintro i x ρ S1 ex ⟨⟨p, q, rfl⟩, k1⟩
    obtain ⟨d, ed, rfl⟩ := numd_get ex
    obtain ⟨y, ey, rfl⟩ := nD_get ed
    have my := List.mem_of_getElem? ey
    refine ⟨_, rfl, ?_⟩
    dsimp only [List.set]
    rw [so_if, ok_tOr, ok_tNot, ok_tTru, ok_eCall, ok_aCons, ok_eVar (d := .str y) (by rfl), ok_aNil]
    refine ok_mono (is_name_spec (d := .str y) ((w y my).fits (by decide))) (fun r S2 hr => ?_) fun _ _ _ z => z
    obtain ⟨rfl, k2⟩ := hr
    rw [isWd_iff.mpr (w y my)]
    refine ⟨_, rfl, ?_⟩
    rw [if_neg (by decide), ok_tOr, ok_tAnd, ok_tBl, ok_eOp, ok_eVar (d := .int i) (by rfl), ok_eC]
    refine ⟨_, gtI, _, rfl, ?_⟩
    have last : ok (tBl (eOp pIn (eVar 4) (eVar 2)) [some part, some (.tup (nD xs)), some (.tup (nD os)), some (.int i), some (.str y)] S2) (fun b S3 => so (if b = true then sRet (eTup (aCons (eVar 0) (aCons (eVar 3) aNil))) [some part, some (.tup (nD xs)), some (.tup (nD os)), some (.int i), some (.str y)] S3 else sNil [some part, some (.tup (nD xs)), some (.tup (nD os)), some (.int i), some (.str y)] S3)
        (fun ρ S' => (∃ a b, ρ = [some part, some (.tup (nD xs)), some (.tup (nD os)), a, b]) ∧ Kp [] S S') (fun d S' => d = .non ∧ Kp [] S S') (fun m fs _ S1 => X m fs S1)) (fun n fs S1 => X n fs S1) := by
      rw [ok_tBl, ok_eOp, ok_eVar (d := .str y) (by rfl), ok_eVar (d := .tup (nD os)) (by rfl)]
      refine ⟨_, inT wo (p := .str y) rfl (shaped_str (w y my).strOk), _, rfl, ?_⟩
      rw [show memN os (.str y) = false from decide_eq_false (n y my), if_neg (by decide)]
      exact ⟨⟨_, _, rfl⟩, k1.trans k2⟩
    by_cases h0 : 0 < i
    · rw [decide_eq_true (show (0 : Int) < (i : Int) by omega), if_pos rfl, ok_tBl, ok_eOp, ok_eVar (d := .str y) (by rfl), ok_eOp, ok_eVar (d := .tup (nD xs)) (by rfl), ok_eOp, ok_eVar (d := .int i) (by rfl), ok_eC]
      have li : i < xs.length := (List.getElem?_eq_some_iff.mp ey).1
      have ep : (nD xs)[i - 1]? = some (.str xs[i - 1]) := by unfold nD; rw [List.getElem?_map, List.getElem?_eq_getElem (by omega)]; rfl
      refine ⟨_, subI, _, idxT (d := .str xs[i - 1]) (by rw [show (i : Int) - 1 = ((i - 1 : Nat) : Int) by omega]; exact atI_nat ep), _, leS, _, rfl, ?_⟩
      have hlt := lt_names (asc_get a ep ed (by omega))
      rw [decide_eq_true hlt, show (!true) = false from rfl, if_neg (by decide)]
      exact last
    · rw [decide_eq_false (show ¬ (0 : Int) < (i : Int) by omega), if_neg (by decide), ok_pur, if_neg (by decide)]
      exact last
  · rintro ρ S1 ⟨⟨p, q, rfl⟩, k1⟩
    rw [so_ret, ok_eC]
    exact ⟨rfl, k1⟩
/-! ### a dict of names -/
theorem getM_put {κ : Type} [DecidableEq κ] {kvs : List (κ × D)} {k j : κ} {v : D} (h : (getM kvs j).isSome = true ∨ j = k) : (getM (putM kvs k v) j).isSome = true := by
  unfold putM
  split
  · rename_i hk
    rcases h with h | h
    · unfold getM at h ⊢
      rw [Option.isSome_map, List.find?_isSome] at h ⊢
      obtain ⟨p, m, e⟩ := h
      have e := of_decide_eq_true e
      by_cases hp : p.1 = k
      · exact ⟨(k, v), List.mem_map.mpr ⟨p, m, by simp [hp]⟩, by simp [← e, hp]⟩
      · exact ⟨p, List.mem_map.mpr ⟨p, m, by simp [hp]⟩, by simp [e]⟩
    · subst h
      unfold getM
      rw [Option.isSome_map, List.find?_isSome]
      obtain ⟨p, m, e⟩ := List.any_eq_true.mp hk
      have e := of_decide_eq_true e
      exact ⟨(j, v), List.mem_map.mpr ⟨p, m, by simp [e]⟩, by simp⟩
  · unfold getM at h ⊢
    rw [Option.isSome_map, List.find?_isSome] at h ⊢
    rcases h with ⟨p, m, e⟩ | h
    · exact ⟨p, List.mem_append_left _ m, e⟩
    · exact ⟨(k, v), List.mem_append_right _ (List.mem_singleton_self _), by simp [h]⟩
def Knows (S : Store) (h : Nat) (xs : List Str) : Prop := ∃ kvs : List (Key × D), S[h]? = some (.dK kvs) ∧ kvs.length ≤ xs.length ∧ ∀ x ∈ xs, (getM kvs (.inr x)).isSome = true
end Mini

/-! MINI, part Yg: a drawn graph has no fault (goes on). -/
namespace Mini
open PySem L2 PySem.W
theorem ok_eDc {wi : Env → M MIt} {g : Tg} {tt : Env → M Bool} {fk fv : ME} {vs : List Nat} {ρ : Env} {S : Store} {P : D → Store → Prop} {X : XP} : ok (eDc wi g tt fk fv vs ρ S) P X = ok (wi ρ S) (fun it S1 => ok (dcM g tt fk fv it S1.length (wipeM ρ vs) turns 0 (S1 ++ [.dK []])) P X) X := by simp [eDc]
theorem dc_inv {g : Tg} {tt : Env → M Bool} {fk fv : ME} {it : MIt} {h : Nat} {ρ : Env} {xs : List D} {P : D → Store → Prop} {X : XP} (I : Nat → Store → Prop) (hx : xs.length ≤ lim)
    (nx : ∀ i S, i ≤ xs.length → I i S → nextI it i S = .of xs[i]?)
    (step : ∀ i x S, xs[i]? = some x → I i S → ∃ ρ1, setT g x ρ = some ρ1 ∧ ok (tt ρ1 S) (fun b S1 => if b = true then ok (fk ρ1 S1) (fun y S2 => ok (fv ρ1 S2) (fun z S3 => ∃ kvs kk, S3[h]? = some (.dK kvs) ∧ keyOf y = some kk ∧ kvs.length < lim ∧ I (i + 1) (S3.set h (.dK (putM kvs kk z)))) X0) X0 else I (i + 1) S1) X0)
    (done : ∀ S, I xs.length S → P (.ref h) S) {S : Store} (h0 : I 0 S) : ok (dcM g tt fk fv it h ρ turns 0 S) P X := by
  have go : ∀ (k i : Nat) (S : Store), i + k = xs.length → ∀ n, k < n → I i S → ok (dcM g tt fk fv it h ρ n i S) P X := by
    intro k
    induction k with
    | zero =>
      intro i S hi n hn hI
      obtain ⟨n, rfl⟩ : ∃ m, n = m + 1 := ⟨n - 1, by omega⟩
      unfold dcM
      have e : xs[i]? = none := List.getElem?_eq_none (by omega)
      simp only [nx i S (by omega) hI, e, Nxt.of]
      obtain rfl : i = xs.length := by omega
      exact done S hI
    | succ k ih =>
      intro i S hi n hn hI
      obtain ⟨n, rfl⟩ : ∃ m, n = m + 1 := ⟨n - 1, by omega⟩
      have hl : i < xs.length := by omega
      obtain ⟨ρ1, e1, h1⟩ := step i _ S (List.getElem?_eq_getElem hl) hI
      unfold dcM
      simp only [nx i S (by omega) hI, List.getElem?_eq_getElem hl, Nxt.of, e1]
      rw [ok_bnd, ok_nox]
      refine ok_mono h1 (fun b S1 hb => ?_) fun _ _ _ z => z.elim
      cases b with
      | false => exact ih (i + 1) S1 (by omega) n (by omega) hb
      | true =>
        simp only [if_true] at hb ⊢
        rw [ok_bnd, ok_nox]
        refine ok_mono hb (fun y S2 hy => ?_) fun _ _ _ z => z.elim
        rw [ok_bnd, ok_nox]
        refine ok_mono hy (fun z S3 hz => ?_) fun _ _ _ z => z.elim
        obtain ⟨kvs, kk, e2, e3, e4, e5⟩ := hz
        simp only [e2, e3]
        rw [if_pos e4]
        exact ih (i + 1) _ (by omega) n (by omega) e5
  exact go xs.length 0 S (by omega) turns (by unfold turns; unfold lim at hx; omega) h0
theorem putM_len {κ : Type} [DecidableEq κ] {kvs : List (κ × D)} {k : κ} {v : D} : (putM kvs k v).length ≤ kvs.length + 1 := by
  unfold putM
  split
  · rw [List.length_map]; omega
  · rw [List.length_append]; exact Nat.le_refl _
theorem dict_names {S : Store} {j : Nat} {xs : List Str} {ρ : Env} {X : XP} (hj : j < ρ.length) (hl : xs.length ≤ 1000) :
    ok (dcM (.nm j) ttYes (eVar j) (eC (.bl true)) (.tup (nD xs)) S.length ρ turns 0 (S ++ [.dK []])) (fun d S' => d = .ref S.length ∧ Knows S' S.length xs ∧ Kp [] S S') X := by
  refine dc_inv (xs := nD xs) (fun i S' => (∃ kvs : List (Key × D), S'[S.length]? = some (.dK kvs) ∧ kvs.length ≤ i ∧ ∀ x ∈ xs.take i, (getM kvs (.inr x)).isSome = true) ∧ Kp [] S S') (by rw [nD_len]; unfold lim; omega) (fun i S' _ _ => rfl) ?_ ?_ ⟨⟨[], new_get, Nat.le_refl _, (fun _ z => by simp at z)⟩, Kp.new⟩
  · rintro i x S1 ex ⟨⟨kvs, e1, e2, e3⟩, k1⟩
    obtain ⟨y, ey, rfl⟩ := nD_get ex
    have li : i < xs.length := (List.getElem?_eq_some_iff.mp ey).1
    refine ⟨_, rfl, ?_⟩
    rw [ok_ttYes, if_pos rfl, ok_eVar (d := .str y) (by rw [List.getElem?_set_self hj]), ok_eC]
    refine ⟨kvs, .inr y, e1, rfl, by unfold lim; omega, ⟨_, set_get e1, Nat.le_trans putM_len (by omega), fun x m => ?_⟩, k1.new1 (m' := .dK []) (Nat.le_refl _)⟩
    rw [List.take_add_one, ey] at m
    rcases List.mem_append.mp m with m | m
    · exact getM_put (.inl (e3 x m))
    · simp only [Option.toList_some, List.mem_singleton] at m
      exact getM_put (.inr (by rw [m]))
  · rintro S1 ⟨⟨kvs, e1, e2, e3⟩, k1⟩
    rw [nD_len] at e2 e3
    rw [List.take_length] at e3
    exact ⟨rfl, ⟨kvs, e1, e2, e3⟩, k1⟩
theorem Knows.kp {M : List Nat} {S S' : Store} {h : Nat} {xs : List Str} (q : Knows S h xs) (k : Kp M S S') (hm : h ∉ M) : Knows S' h xs := let ⟨kvs, e, r⟩ := q; ⟨kvs, k.get h _ hm e, r⟩
theorem Knows.mem {S : Store} {h : Nat} {xs : List Str} {x : Str} (q : Knows S h xs) (m : x ∈ xs) : pIn (.str x) (.ref h) S = some (.bl true, S) := by
  obtain ⟨kvs, e, _, r⟩ := q
  show (inD S (.str x) (.ref h)).map _ = _
  simp only [inD, e, dLook, keyOf, Option.map_some, r x m]
theorem is_tuple_of_spec {S : Store} {xs : List D} {n : Nat} {X : XP} : ok (C.g_is_tuple_of [.int n, .tup xs] S) (fun r S' => r = .bl (decide (xs.length = n)) ∧ S' = S) X := by
  unfold C.g_is_tuple_of
  rw [run2]
  unfold C.b_is_tuple_of
  rw [so_ret, ok_eAnd, ok_eIsi, ok_eVar (d := .tup xs) (by rfl)]
  refine ⟨(.bl true, S), rfl, _, rfl, ?_⟩
  rw [if_pos rfl, ok_eOp, ok_eB, ok_aCons, ok_eVar (d := .tup xs) (by rfl), ok_aNil]
  refine ⟨_, lenT, ?_⟩
  rw [ok_eVar (d := .int n) (by rfl)]
  refine ⟨_, eqI, ?_, rfl⟩
  show D.bl (decide ((xs.length : Int) = (n : Int))) = _
  by_cases h : xs.length = n
  · rw [decide_eq_true h, decide_eq_true (by omega)]
  · rw [decide_eq_false h, decide_eq_false (by omega)]
theorem is_hold_of_spec {S : Store} {k : Nat} {ns : List Str} {h : Ho} {X : XP} (q : Knows S k ns) (m1 : h.1 ∈ ns) (m2 : h.2.1 ∈ ns) (w1 : Wd 8 h.1) (w2 : Wd 8 h.2.1) (w3 : Wd 3 h.2.2) : ok (C.g_is_hold_of [.ref k, hD h] S) (fun r S' => r = .bl true ∧ Kp [] S S') X := by
  unfold C.g_is_hold_of
  rw [run2]
  unfold C.b_is_hold_of
  rw [so_seq, so_if, ok_tOr, ok_tNot, ok_tTru, ok_eCall, ok_aCons, ok_eC, ok_aCons, ok_eVar (d := hD h) (by rfl), ok_aNil]
  refine ok_mono (is_tuple_of_spec (n := 3) (xs := [.str h.1, .str h.2.1, .str h.2.2])) (fun r S1 hr => ?_) fun _ _ _ z => z
  obtain ⟨rfl, rfl⟩ := hr
  refine ⟨true, rfl, ?_⟩
  rw [if_neg (by decide), ok_tNot, ok_tTru]
  refine ok_all (xs := [.str h.1, .str h.2.1]) (it := .tup [.str h.1, .str h.2.1]) (fun _ => true) (fun Q => ?_) (show 2 ≤ lim by decide) (fun i S' _ => rfl) (fun x S2 mx k2 => ?_) fun S2 k2 => ⟨true, rfl, ?_⟩
  · rw [ok_iAny, ok_eCut, ok_eVar (d := hD h) (by rfl), ok_oNone, ok_oSome, ok_eC]
    exact propext ⟨fun ⟨_, e, p, e2, it, e3, q⟩ => by cases e; cases e2; cases e3; exact q, fun q => ⟨_, rfl, _, rfl, _, rfl, q⟩⟩
  · obtain ⟨y, rfl, wy, my⟩ : ∃ y, x = .str y ∧ Wd 8 y ∧ y ∈ ns := by
      simp only [List.mem_cons, List.not_mem_nil, or_false] at mx
      rcases mx with rfl | rfl
      · exact ⟨_, rfl, w1, m1⟩
      · exact ⟨_, rfl, w2, m2⟩
    refine ⟨_, rfl, ?_⟩
    rw [ok_eAnd, ok_eCall, ok_aCons, ok_eVar (d := .str y) (by rfl), ok_aNil]
    refine ok_mono (is_name_spec (d := .str y) (wy.fits (by decide))) (fun r S3 hr => ?_) fun _ _ _ z => z
    obtain ⟨rfl, k3⟩ := hr
    rw [isWd_iff.mpr wy]
    refine ⟨_, rfl, ?_⟩
    rw [if_pos rfl, ok_eOp, ok_eVar (d := .str y) (by rfl), ok_eVar (d := .ref k) (by rfl)]
    exact ⟨_, ((q.kp k2 (fun z => nomatch z)).kp k3 (fun z => nomatch z)).mem my, k3, rfl⟩
  · rw [show (!true) = false from rfl, if_neg (by decide), so_nil, so_ret, ok_eCall, ok_aCons, ok_eOp, ok_eVar (d := hD h) (by rfl), ok_eC]
    refine ⟨(.str h.2.2, S2), rfl, ?_⟩
    rw [ok_aNil]
    refine ok_mono (is_right_spec (d := .str h.2.2) (w3.fits (by decide))) (fun r S3 hr => ?_) fun _ _ _ z => z
    obtain ⟨rfl, k3⟩ := hr
    exact ⟨by rw [isWd_iff.mpr w3], k2.trans k3⟩
theorem shaped_hold {h : Ho} (w1 : PyData.strOk h.1 = true) (w2 : PyData.strOk h.2.1 = true) (w3 : PyData.strOk h.2.2 = true) : SeqAt.shaped (eP (hD h)) = true := by
  have := (shaped_names (xs := [h.1, h.2.1, h.2.2]) (by simp [w1, w2, w3])).2
  exact this
theorem leH {S : Store} {g h : Ho} (sg : SeqAt.shaped (eP (hD g)) = true) (sh : SeqAt.shaped (eP (hD h)) = true) : pLe (hD h) (hD g) S = some (.bl (!dataLt (eP (hD g)) (eP (hD h))), S) := by
  have e : ltD S (hD g) (hD h) = some (dataLt (eP (hD g)) (eP (hD h))) := by
    have e1 : toP S (hD g) = some (eP (hD g)) := ((hD_clo g).enc S).2
    have e2 : toP S (hD h) = some (eP (hD h)) := ((hD_clo h).enc S).2
    unfold hD at e1 e2 ⊢
    simp only [ltD, e1, e2]
    have al : PySem.W.alike (eP (.tup [.str g.1, .str g.2.1, .str g.2.2])) (eP (.tup [.str h.1, .str h.2.1, .str h.2.2])) = true := rfl
    unfold hD at sg sh
    rw [al, sg, sh]; rfl
  show (ltD S (hD g) (hD h)).map _ = _
  rw [e]; rfl
theorem Gr.Ok.strOk {G : Gr} (o : G.Ok) : ∀ x ∈ G.A ++ G.O, PyData.strOk x = true := fun x m => (o.wd x m).strOk
theorem Gr.Ok.shH {G : Gr} (o : G.Ok) {h : Ho} (m : h ∈ G.H) : SeqAt.shaped (eP (hD h)) = true := shaped_hold (o.strOk _ (o.of h m).1) (o.strOk _ (o.of h m).2.1) (o.of h m).2.2.strOk
theorem hsD_get {xs : List Ho} {i : Nat} {d : D} (h : (hsD xs)[i]? = some d) : ∃ x, xs[i]? = some x ∧ d = hD x := by
  unfold hsD at h
  rw [List.getElem?_map] at h
  obtain ⟨x, e, rfl⟩ := Option.map_eq_some_iff.mp h
  exact ⟨x, e, rfl⟩
theorem hsD_len (xs : List Ho) : (hsD xs).length = xs.length := List.length_map ..
theorem graph_fault_none {S : Store} {G : Gr} {X : XP} (o : G.Ok) : ok (C.g_graph_fault [G.d] S) (fun d S' => d = .non ∧ Kp [] S S') X := by
  have lA : G.A.length ≤ 30 := by have := o.len; rw [List.length_append] at this; omega
  have lO : G.O.length ≤ 30 := by have := o.len; rw [List.length_append] at this; omega
  unfold C.g_graph_fault
  rw [run1]
  unfold C.b_graph_fault
  rw [so_seq, so_if, ok_tOr, ok_tNot, ok_tTru, ok_eCall, ok_aCons, ok_eC, ok_aCons, ok_eVar (d := G.d) (by rfl), ok_aNil]
  refine ok_mono (is_tuple_of_spec (n := 3) (xs := [.tup (nD G.A), .tup (nD G.O), .tup (hsD G.H)])) (fun r S1 hr => ?_) fun _ _ _ z => z
  obtain ⟨rfl, rfl⟩ := hr
  refine ⟨true, rfl, ?_⟩
  rw [if_neg (by decide), ok_tNot, ok_tTru]
  refine ok_all (xs := [.tup (nD G.A), .tup (nD G.O), .tup (hsD G.H)]) (it := .tup [.tup (nD G.A), .tup (nD G.O), .tup (hsD G.H)]) (fun _ => true) (anyV (d := G.d) (by rfl) rfl) (show 3 ≤ lim by decide) (fun i S' _ => rfl) (fun x S2 mx k2 => ?_) fun S2 k2 => ⟨true, rfl, ?_⟩
  · obtain ⟨ys, rfl⟩ : ∃ ys, x = .tup ys := by
      simp only [List.mem_cons, List.not_mem_nil, or_false] at mx
      rcases mx with rfl | rfl | rfl <;> exact ⟨_, rfl⟩
    refine ⟨_, rfl, ?_⟩
    rw [ok_eIsi, ok_eVar (d := .tup ys) (by rfl)]
    exact ⟨(.bl true, S2), rfl, Kp.refl, rfl⟩
  rw [show (!true) = false from rfl, if_neg (by decide), so_nil, so_seq, so_set, ok_eVar (d := G.d) (by rfl)]
  refine ⟨_, rfl, ?_⟩
  rw [so_seq, so_set, ok_eCall, ok_aCons, ok_eC, ok_aCons, ok_eVar (d := .tup (nD G.A)) (by rfl), ok_aCons, ok_eTup, ok_aNil]
  refine ⟨_, tupO_eq (show 0 ≤ lim by decide), ?_⟩
  rw [ok_aNil]
  refine ok_mono (names_fault_none (os := []) o.ascA (fun x m => o.wd x (List.mem_append_left _ m)) (fun _ z => nomatch z) (fun _ _ z => nomatch z) (by unfold lim; omega)) (fun r S3 hr => ?_) fun _ _ _ z => z
  obtain ⟨rfl, k3⟩ := hr
  refine ⟨_, rfl, ?_⟩
  rw [so_seq, so_if, ok_tBl, ok_eOp, ok_eVar (d := .non) (by rfl), ok_eC]
  refine ⟨(.bl true, S3), rfl, _, rfl, ?_⟩
  rw [if_pos rfl, so_set, ok_eCall, ok_aCons, ok_eC, ok_aCons, ok_eVar (d := .tup (nD G.O)) (by rfl), ok_aCons, ok_eVar (d := .tup (nD G.A)) (by rfl), ok_aNil]
  refine ok_mono (names_fault_none (os := G.A) o.ascO (fun x m => o.wd x (List.mem_append_right _ m)) (fun x m => o.strOk x (List.mem_append_left _ m)) (fun x m z => o.dis x z m) (by unfold lim; omega)) (fun r S4 hr => ?_) fun _ _ _ z => z
  obtain ⟨rfl, k4⟩ := hr
  refine ⟨_, rfl, ?_⟩
  rw [so_seq, so_if, ok_tBl, ok_eOp, ok_eVar (d := .non) (by rfl), ok_eC]
  refine ⟨(.bl false, S4), rfl, _, rfl, ?_⟩
  rw [if_neg (by decide), so_nil, so_seq, so_set, ok_eDc, ok_iAny, ok_eOp, ok_eVar (d := .tup (nD G.A)) (by rfl), ok_eVar (d := .tup (nD G.O)) (by rfl)]
  refine ⟨(.tup (nD (G.A ++ G.O)), S4), ?_, .tup (nD (G.A ++ G.O)), rfl, ?_⟩
  · rw [nD_app]
    exact tupO_eq (by rw [List.length_append, nD_len, nD_len]; unfold lim; omega)
  refine ok_mono (dict_names (by simp [wipeM, setT, setTs]) (by have := o.len; omega)) (fun r S5 hr => ?_) fun _ _ _ z => z
  obtain ⟨rfl, kn, k5⟩ := hr
  refine ⟨_, rfl, ?_⟩
  dsimp only [List.set, List.replicate]
  rw [so_seq, so_for, enuV (d := .tup (hsD G.H)) (it := .enuT (hsD G.H)) (by rfl) rfl]
  refine for_inv (xs := numd (hsD G.H)) (fun i ρ S' => (∃ a b, ρ = [some G.d, none, some (.tup (nD G.A)), some (.tup (nD G.O)), some (.tup (hsD G.H)), some .non, some (.ref S4.length), none, a, b]) ∧ Kp [] S5 S') (by rw [numd_len, hsD_len]; have := o.lenH; unfold lim; omega) (fun i ρ S' _ _ => enu_nx i S') ?_ ?_ ⟨⟨none, none, rfl⟩, Kp.refl⟩
  · rintro i x ρ T1 ex ⟨⟨p, q, rfl⟩, k6⟩
    obtain ⟨d, ed, rfl⟩ := numd_get ex
    obtain ⟨y, ey, rfl⟩ := hsD_get ed
    have my := List.mem_of_getElem? ey
    have oy := o.of y my
    refine ⟨_, rfl, ?_⟩
    dsimp only [List.set]
    rw [so_if, ok_tOr, ok_tNot, ok_tTru, ok_eCall, ok_aCons, ok_eVar (d := .ref S4.length) (by rfl), ok_aCons, ok_eVar (d := hD y) (by rfl), ok_aNil]
    refine ok_mono (is_hold_of_spec (kn.kp k6 (fun z => nomatch z)) oy.1 oy.2.1 (o.wd _ oy.1) (o.wd _ oy.2.1) oy.2.2) (fun r T2 hr => ?_) fun _ _ _ z => z
    obtain ⟨rfl, k7⟩ := hr
    refine ⟨true, rfl, ?_⟩
    rw [if_neg (by decide), ok_tAnd, ok_tBl, ok_eOp, ok_eVar (d := .int i) (by rfl), ok_eC]
    refine ⟨_, gtI, _, rfl, ?_⟩
    by_cases h0 : 0 < i
    · rw [decide_eq_true (show (0 : Int) < (i : Int) by omega), if_pos rfl, ok_tBl, ok_eOp, ok_eVar (d := hD y) (by rfl), ok_eOp, ok_eVar (d := .tup (hsD G.H)) (by rfl), ok_eOp, ok_eVar (d := .int i) (by rfl), ok_eC]
      have li : i < G.H.length := (List.getElem?_eq_some_iff.mp ey).1
      have ep : (hsD G.H)[i - 1]? = some (hD G.H[i - 1]) := by unfold hsD; rw [List.getElem?_map, List.getElem?_eq_getElem (by omega)]; rfl
      refine ⟨_, subI, _, idxT (d := hD G.H[i - 1]) (by rw [show (i : Int) - 1 = ((i - 1 : Nat) : Int) by omega]; exact atI_nat ep), _, leH (o.shH (List.getElem_mem _)) (o.shH my), _, rfl, ?_⟩
      rw [asc_get o.ascH ep ed (by omega), show (!true) = false from rfl, if_neg (by decide)]
      exact ⟨⟨_, _, rfl⟩, k6.trans k7⟩
    · rw [decide_eq_false (show ¬ (0 : Int) < (i : Int) by omega), if_neg (by decide), ok_pur, if_neg (by decide)]
      exact ⟨⟨_, _, rfl⟩, k6.trans k7⟩
  · rintro ρ T1 ⟨⟨p, q, rfl⟩, k6⟩
    rw [so_ret, ok_eC]
    exact ⟨rfl, ((((k2.trans k3).trans k4).trans k5).trans k6)⟩
theorem check_graph_ok {S : Store} {G : Gr} {X : XP} (o : G.Ok) : ok (C.g_check_graph [G.d] S) (fun d S' => Kp [] S S') X := by
  unfold C.g_check_graph
  rw [run1]
  unfold C.b_check_graph
  rw [so_seq, so_set, ok_eCall, ok_aCons, ok_eVar (d := G.d) (by rfl), ok_aNil]
  refine ok_mono (graph_fault_none o) (fun r S1 hr => ?_) fun _ _ _ z => z
  obtain ⟨rfl, k1⟩ := hr
  refine ⟨_, rfl, ?_⟩
  rw [so_if, ok_tBl, ok_eOp, ok_eVar (d := .non) (by rfl), ok_eC]
  refine ⟨(.bl false, S1), rfl, _, rfl, ?_⟩
  rw [if_neg (by decide), so_nil]
  exact k1
end Mini

section
open PySem PySem.W PyProof.Rows L2
namespace R
open PySem L2 Mini
structure CF (K : PySem.W.Frag) (mg : Str → Option Value) (a_InvalidNames a_RightError : Addr) : Prop where
  E_InvalidNames : ClsF K mg "InvalidNames" a_InvalidNames
  E_RightError : ClsF K mg "RightError" a_RightError
  ex_InvalidNames : PySem.W.excIn K a_InvalidNames [.type "ValueError", .type "Exception", .type "BaseException", .type "object"] "ValueError.__new__" = true
  xc_InvalidNames : ExcC K a_InvalidNames
  s_InvalidNames_InvalidNames : PySem.W.subIn K (.ref a_InvalidNames) (.ref a_InvalidNames) = some true
  k_InvalidNames_RightError : PySem.W.kitOne K (.ref a_InvalidNames) (.ref a_RightError) = some true
def top (i : Nat) : Stmt := PySem.Challenge.pw_rightspans_k05_sealed_and_freed.main.body.getD i (.Pass ⟨0, 0, 0, 0⟩)
abbrev st_is_tuple_of : Stmt := top 8
abbrev b_is_tuple_of := C.b_is_tuple_of
abbrev g_is_tuple_of := C.g_is_tuple_of
theorem sc_is_tuple_of : FnScope ["length", "value"] ["length", "value"] (defScope st_is_tuple_of) := ⟨rfl, rfl, rfl, by decide +kernel, rfl, by decide +kernel, by decide +kernel⟩
theorem ok_is_tuple_of {P : Program} {w : World} {K : PySem.W.Frag} {mg : Str → Option Value} {base : Heap} {k : Nat} (B : Blt mg) (Df : Def K mg "is_tuple_of" st_is_tuple_of ["length", "value"]) : Does P w K mg base "is_tuple_of" ["length", "value"] (k + 1) 2 g_is_tuple_of := by
  have S := sc_is_tuple_of
  refine Df.does S rfl rfl fun f cdv A outer s H E hr => ?_
  have hu4 := h64 hr
  have hu5 := h65 hr
  have hu1 := h1 hr
  have tk := takes_of (X := cxOf (L2.CX P w) P w K mg base ["length", "value"] "is_tuple_of" (defScope st_is_tuple_of) f cdv A outer s H E) (E := E) rfl rfl rfl rfl
  have pas := passes_of (X := cxOf (L2.CX P w) P w K mg base ["length", "value"] "is_tuple_of" (defScope st_is_tuple_of) f cdv A outer s H E) rfl
  exact (ss_one (ss_ret (se_and (se_isi (by decide) (by rfl) B.isinstance rfl (sv 1) (by rfl) B.tuple rfl) (pe_one (se_cmp (op_pEq hu4) (se_callB c_len (by rfl) B.len rfl (sa_cons (sv 1) sa_nil rfl)) (sv 0) rfl)))))
abbrev st_is_word : Stmt := top 9
abbrev b_is_word := C.b_is_word
abbrev g_is_word := C.g_is_word
theorem sc_is_word : FnScope ["value", "most", "sign"] ["value", "most"] (defScope st_is_word) := ⟨rfl, rfl, rfl, by decide +kernel, rfl, by decide +kernel, by decide +kernel⟩
theorem ok_is_word {P : Program} {w : World} {K : PySem.W.Frag} {mg : Str → Option Value} {base : Heap} {k : Nat} (B : Blt mg) (Df : Def K mg "is_word" st_is_word ["value", "most"]) {t_LETTERS : Tok} (c_LETTERS : mg "LETTERS" = some (.str "abcdefghijklmnopqrstuvwxyz" t_LETTERS)) : Does P w K mg base "is_word" ["value", "most"] (k + 1) 2 g_is_word := by
  have S := sc_is_word
  refine Df.does S rfl rfl fun f cdv A outer s H E hr => ?_
  have hu4 := h64 hr
  have hu5 := h65 hr
  have hu1 := h1 hr
  have tk := takes_of (X := cxOf (L2.CX P w) P w K mg base ["value", "most", "sign"] "is_word" (defScope st_is_word) f cdv A outer s H E) (E := E) rfl rfl rfl rfl
  have pas := passes_of (X := cxOf (L2.CX P w) P w K mg base ["value", "most", "sign"] "is_word" (defScope st_is_word) f cdv A outer s H E) rfl
  exact (ss_one (ss_ret (se_and (se_isi (by decide) (by rfl) B.isinstance rfl (sv 0) (by rfl) B.str rfl) (se_and (se_chain (op_pLe hu4) (op_pLe hu4) se_int (se_callB c_len (by rfl) B.len rfl (sa_cons (sv 0) sa_nil rfl)) (sv 1) rfl) (pe_one (se_callB (c_all rfl) (by rfl) B.all rfl (sa_cons (se_lc rfl S.nd (si_any (sv 0)) (blkOk_by (own := [("sign", 2)]) (by kernel_rfl)) (by decide) (fun _ _ _ _ _ => (sg_nm S.nd rfl (Or.inl rfl))) (fun _ _ _ _ _ => sts_nil) (fun _ _ _ _ _ => (se_cmp (op_pIn hu5) (sv 2) (se_glS (by rfl) c_LETTERS) rfl))) sa_nil rfl)))))))
abbrev st_is_name : Stmt := top 10
abbrev b_is_name := C.b_is_name
abbrev g_is_name := C.g_is_name
theorem sc_is_name : FnScope ["value"] ["value"] (defScope st_is_name) := ⟨rfl, rfl, rfl, by decide +kernel, rfl, by decide +kernel, by decide +kernel⟩
theorem ok_is_name {P : Program} {w : World} {K : PySem.W.Frag} {mg : Str → Option Value} {base : Heap} {k : Nat} (B : Blt mg) (Df : Def K mg "is_name" st_is_name ["value"]) {t_MOST_LETTERS : Tok} (c_MOST_LETTERS : mg "MOST_LETTERS" = some (.int 8 t_MOST_LETTERS)) (d_is_word : Does P w K mg base "is_word" ["value", "most"] k 2 g_is_word) : Does P w K mg base "is_name" ["value"] (k + 1) 1 g_is_name := by
  have S := sc_is_name
  refine Df.does S rfl rfl fun f cdv A outer s H E hr => ?_
  have hu4 := h64 hr
  have hu5 := h65 hr
  have hu1 := h1 hr
  have tk := takes_of (X := cxOf (L2.CX P w) P w K mg base ["value"] "is_name" (defScope st_is_name) f cdv A outer s H E) (E := E) rfl rfl rfl rfl
  have pas := passes_of (X := cxOf (L2.CX P w) P w K mg base ["value"] "is_name" (defScope st_is_name) f cdv A outer s H E) rfl
  exact (ss_one (ss_ret (se_do d_is_word tk hr (by rfl) (sa_cons (sv 0) (sa_cons (se_glI (by rfl) c_MOST_LETTERS) sa_nil rfl) rfl))))
abbrev st_is_right : Stmt := top 11
abbrev b_is_right := C.b_is_right
abbrev g_is_right := C.g_is_right
theorem sc_is_right : FnScope ["value"] ["value"] (defScope st_is_right) := ⟨rfl, rfl, rfl, by decide +kernel, rfl, by decide +kernel, by decide +kernel⟩
theorem ok_is_right {P : Program} {w : World} {K : PySem.W.Frag} {mg : Str → Option Value} {base : Heap} {k : Nat} (B : Blt mg) (Df : Def K mg "is_right" st_is_right ["value"]) {t_MOST_RIGHT : Tok} (c_MOST_RIGHT : mg "MOST_RIGHT" = some (.int 3 t_MOST_RIGHT)) (d_is_word : Does P w K mg base "is_word" ["value", "most"] k 2 g_is_word) : Does P w K mg base "is_right" ["value"] (k + 1) 1 g_is_right := by
  have S := sc_is_right
  refine Df.does S rfl rfl fun f cdv A outer s H E hr => ?_
  have hu4 := h64 hr
  have hu5 := h65 hr
  have hu1 := h1 hr
  have tk := takes_of (X := cxOf (L2.CX P w) P w K mg base ["value"] "is_right" (defScope st_is_right) f cdv A outer s H E) (E := E) rfl rfl rfl rfl
  have pas := passes_of (X := cxOf (L2.CX P w) P w K mg base ["value"] "is_right" (defScope st_is_right) f cdv A outer s H E) rfl
  exact (ss_one (ss_ret (se_do d_is_word tk hr (by rfl) (sa_cons (sv 0) (sa_cons (se_glI (by rfl) c_MOST_RIGHT) sa_nil rfl) rfl))))
abbrev st_is_ascending : Stmt := top 12
def b_is_ascending : MS :=
    (sRet (eB nAll (aCons (eLc (iArgs rng1 (aCons (eOp pSub (eB nLen (aCons (eVar 0) aNil)) (eC (.int 1))) aNil)) (.nm 1) ttYes (eOp pLt (eOp pIdx (eVar 0) (eVar 1)) (eOp pIdx (eVar 0) (eOp pAdd (eVar 1) (eC (.int 1))))) [1]) aNil)))
def g_is_ascending : List D → M D := runF 2 1 b_is_ascending
theorem sc_is_ascending : FnScope ["values", "at"] ["values"] (defScope st_is_ascending) := ⟨rfl, rfl, rfl, by decide +kernel, rfl, by decide +kernel, by decide +kernel⟩
theorem ok_is_ascending {P : Program} {w : World} {K : PySem.W.Frag} {mg : Str → Option Value} {base : Heap} {k : Nat} (B : Blt mg) (Df : Def K mg "is_ascending" st_is_ascending ["values"]) : Does P w K mg base "is_ascending" ["values"] (k + 1) 1 g_is_ascending := by
  have S := sc_is_ascending
  refine Df.does S rfl rfl fun f cdv A outer s H E hr => ?_
  have hu4 := h64 hr
  have hu5 := h65 hr
  have hu1 := h1 hr
  have tk := takes_of (X := cxOf (L2.CX P w) P w K mg base ["values", "at"] "is_ascending" (defScope st_is_ascending) f cdv A outer s H E) (E := E) rfl rfl rfl rfl
  have pas := passes_of (X := cxOf (L2.CX P w) P w K mg base ["values", "at"] "is_ascending" (defScope st_is_ascending) f cdv A outer s H E) rfl
  exact (ss_one (ss_ret (se_callB (c_all rfl) (by rfl) B.all rfl (sa_cons (se_lc rfl S.nd (si_range1 (by rfl) B.range (sa_cons (se_op op_pSub (se_callB c_len (by rfl) B.len rfl (sa_cons (sv 0) sa_nil rfl)) se_int) sa_nil rfl)) (blkOk_by (own := [("at", 1)]) (by kernel_rfl)) (by decide) (fun _ _ _ _ _ => (sg_nm S.nd rfl (Or.inl rfl))) (fun _ _ _ _ _ => sts_nil) (fun _ _ _ _ _ => (se_cmp (op_pLt hu4) (se_ix (ix_pIdx hu1) (sv 0) (sv 1) (fun _ _ => rfl)) (se_ix (ix_pIdx hu1) (sv 0) (se_op op_pAdd (sv 1) se_int) (fun _ _ => rfl)) rfl))) sa_nil rfl))))
abbrev st_are_names : Stmt := top 13
def b_are_names : MS :=
    (sRet (eAnd (eIsi "tuple" (eVar 0)) (eAnd (eB nAll (aCons (eLc (iAny (eVar 0)) (.nm 1) ttYes (eCall g_is_name (aCons (eVar 1) aNil)) [1]) aNil)) (eCall g_is_ascending (aCons (eVar 0) aNil)))))
def g_are_names : List D → M D := runF 2 1 b_are_names
theorem sc_are_names : FnScope ["value", "name"] ["value"] (defScope st_are_names) := ⟨rfl, rfl, rfl, by decide +kernel, rfl, by decide +kernel, by decide +kernel⟩
theorem ok_are_names {P : Program} {w : World} {K : PySem.W.Frag} {mg : Str → Option Value} {base : Heap} {k : Nat} (B : Blt mg) (Df : Def K mg "are_names" st_are_names ["value"]) (d_is_ascending : Does P w K mg base "is_ascending" ["values"] k 1 g_is_ascending) (d_is_name : Does P w K mg base "is_name" ["value"] k 1 g_is_name) : Does P w K mg base "are_names" ["value"] (k + 1) 1 g_are_names := by
  have S := sc_are_names
  refine Df.does S rfl rfl fun f cdv A outer s H E hr => ?_
  have hu4 := h64 hr
  have hu5 := h65 hr
  have hu1 := h1 hr
  have tk := takes_of (X := cxOf (L2.CX P w) P w K mg base ["value", "name"] "are_names" (defScope st_are_names) f cdv A outer s H E) (E := E) rfl rfl rfl rfl
  have pas := passes_of (X := cxOf (L2.CX P w) P w K mg base ["value", "name"] "are_names" (defScope st_are_names) f cdv A outer s H E) rfl
  exact (ss_one (ss_ret (se_and (se_isi (by decide) (by rfl) B.isinstance rfl (sv 0) (by rfl) B.tuple rfl) (se_and (se_callB (c_all rfl) (by rfl) B.all rfl (sa_cons (se_lc rfl S.nd (si_any (sv 0)) (blkOk_by (own := [("name", 1)]) (by kernel_rfl)) (by decide) (fun _ _ _ _ _ => (sg_nm S.nd rfl (Or.inl rfl))) (fun _ _ _ _ _ => sts_nil) (fun _ _ _ _ _ => (se_do d_is_name takes0 hr (by rfl) (sa_cons (sv 1) sa_nil rfl)))) sa_nil rfl)) (pe_one (se_do d_is_ascending tk hr (by rfl) (sa_cons (sv 0) sa_nil rfl)))))))
abbrev st_names_fault : Stmt := top 15
abbrev b_names_fault := C.b_names_fault
abbrev g_names_fault := C.g_names_fault
theorem sc_names_fault : FnScope ["part", "names", "others", "at", "name"] ["part", "names", "others"] (defScope st_names_fault) := ⟨rfl, rfl, rfl, by decide +kernel, rfl, by decide +kernel, by decide +kernel⟩
theorem ok_names_fault {P : Program} {w : World} {K : PySem.W.Frag} {mg : Str → Option Value} {base : Heap} {k : Nat} (B : Blt mg) (Df : Def K mg "names_fault" st_names_fault ["part", "names", "others"]) (d_is_name : Does P w K mg base "is_name" ["value"] k 1 g_is_name) : Does P w K mg base "names_fault" ["part", "names", "others"] (k + 1) 3 g_names_fault := by
  have S := sc_names_fault
  refine Df.does S rfl rfl fun f cdv A outer s H E hr => ?_
  have hu4 := h64 hr
  have hu5 := h65 hr
  have hu1 := h1 hr
  have tk := takes_of (X := cxOf (L2.CX P w) P w K mg base ["part", "names", "others", "at", "name"] "names_fault" (defScope st_names_fault) f cdv A outer s H E) (E := E) rfl rfl rfl rfl
  have pas := passes_of (X := cxOf (L2.CX P w) P w K mg base ["part", "names", "others", "at", "name"] "names_fault" (defScope st_names_fault) f cdv A outer s H E) rfl
  exact (ss_cons (ss_for pas rfl (si_enu (by rfl) B.enumerate (sv 1)) (sg_tp rfl (sgs_cons (sg_nm S.nd rfl (Or.inl rfl)) (sgs_cons (sg_nm S.nd rfl (Or.inl rfl)) sgs_nil)))
    (ss_one (ss_if (PW.pt (sw_or (st_not (st_tru (se_do d_is_name tk hr (by rfl) (sa_cons (sv 4) sa_nil rfl)) (by intro _; rfl))) (sw_or (PW.pt (sw_and (st_cmp (op_pGt hu4) (sv 3) se_int rfl) (pw_and1 (st_cmp (op_pLe hu4) (sv 4) (se_ix (ix_pIdx hu1) (sv 1) (se_op op_pSub (sv 3) se_int) (fun _ _ => rfl)) rfl)))) (pw_or1 (st_cmp (op_pIn hu5) (sv 4) (sv 2) rfl)))))
    (ss_one (ss_ret (se_tup (sa_cons (sv 0) (sa_cons (sv 3) sa_nil rfl) rfl))))
    ss_nil)))
    (ss_one (ss_ret se_non)))
abbrev st_is_hold_of : Stmt := top 16
abbrev b_is_hold_of := C.b_is_hold_of
abbrev g_is_hold_of := C.g_is_hold_of
theorem sc_is_hold_of : FnScope ["names", "value", "name"] ["names", "value"] (defScope st_is_hold_of) := ⟨rfl, rfl, rfl, by decide +kernel, rfl, by decide +kernel, by decide +kernel⟩
theorem ok_is_hold_of {P : Program} {w : World} {K : PySem.W.Frag} {mg : Str → Option Value} {base : Heap} {k : Nat} (B : Blt mg) (Df : Def K mg "is_hold_of" st_is_hold_of ["names", "value"]) (d_is_name : Does P w K mg base "is_name" ["value"] k 1 g_is_name) (d_is_right : Does P w K mg base "is_right" ["value"] k 1 g_is_right) (d_is_tuple_of : Does P w K mg base "is_tuple_of" ["length", "value"] k 2 g_is_tuple_of) : Does P w K mg base "is_hold_of" ["names", "value"] (k + 1) 2 g_is_hold_of := by
  have S := sc_is_hold_of
  refine Df.does S rfl rfl fun f cdv A outer s H E hr => ?_
  have hu4 := h64 hr
  have hu5 := h65 hr
  have hu1 := h1 hr
  have tk := takes_of (X := cxOf (L2.CX P w) P w K mg base ["names", "value", "name"] "is_hold_of" (defScope st_is_hold_of) f cdv A outer s H E) (E := E) rfl rfl rfl rfl
  have pas := passes_of (X := cxOf (L2.CX P w) P w K mg base ["names", "value", "name"] "is_hold_of" (defScope st_is_hold_of) f cdv A outer s H E) rfl
  exact (ss_cons (ss_if (PW.pt (sw_or (st_not (st_tru (se_do d_is_tuple_of tk hr (by rfl) (sa_cons se_int (sa_cons (sv 1) sa_nil rfl) rfl)) (by intro _; rfl))) (pw_or1 (st_not (st_tru (se_callB (c_all rfl) (by rfl) B.all rfl (sa_cons (se_lc rfl S.nd (si_any (se_cut (sv 1) so_none (so_some se_int))) (blkOk_by (own := [("name", 2)]) (by kernel_rfl)) (by decide) (fun _ _ _ _ _ => (sg_nm S.nd rfl (Or.inl rfl))) (fun _ _ _ _ _ => sts_nil) (fun _ _ _ _ _ => (se_and (se_do d_is_name takes0 hr (by rfl) (sa_cons (sv 2) sa_nil rfl)) (pe_one (se_cmp (op_pIn hu5) (sv 2) (sv 0) rfl))))) sa_nil rfl)) (by intro _; rfl))))))
    (ss_one (ss_ret se_bl))
    ss_nil)
    (ss_one (ss_ret (se_do d_is_right tk hr (by rfl) (sa_cons (se_ix (ix_pIdx hu1) (sv 1) se_int (fun _ _ => rfl)) sa_nil rfl)))))
abbrev st_graph_fault : Stmt := top 17
abbrev b_graph_fault := C.b_graph_fault
abbrev g_graph_fault := C.g_graph_fault
theorem sc_graph_fault : FnScope ["value", "part", "subjects", "objects", "holds", "fault", "names", "name", "at", "hold"] ["value"] (defScope st_graph_fault) := ⟨rfl, rfl, rfl, by decide +kernel, rfl, by decide +kernel, by decide +kernel⟩
theorem ok_graph_fault {P : Program} {w : World} {K : PySem.W.Frag} {mg : Str → Option Value} {base : Heap} {k : Nat} (B : Blt mg) (Df : Def K mg "graph_fault" st_graph_fault ["value"]) (d_is_hold_of : Does P w K mg base "is_hold_of" ["names", "value"] k 2 g_is_hold_of) (d_is_tuple_of : Does P w K mg base "is_tuple_of" ["length", "value"] k 2 g_is_tuple_of) (d_names_fault : Does P w K mg base "names_fault" ["part", "names", "others"] k 3 g_names_fault) : Does P w K mg base "graph_fault" ["value"] (k + 1) 1 g_graph_fault := by
  have S := sc_graph_fault
  refine Df.does S rfl rfl fun f cdv A outer s H E hr => ?_
  have hu4 := h64 hr
  have hu5 := h65 hr
  have hu1 := h1 hr
  have tk := takes_of (X := cxOf (L2.CX P w) P w K mg base ["value", "part", "subjects", "objects", "holds", "fault", "names", "name", "at", "hold"] "graph_fault" (defScope st_graph_fault) f cdv A outer s H E) (E := E) rfl rfl rfl rfl
  have pas := passes_of (X := cxOf (L2.CX P w) P w K mg base ["value", "part", "subjects", "objects", "holds", "fault", "names", "name", "at", "hold"] "graph_fault" (defScope st_graph_fault) f cdv A outer s H E) rfl
  exact (ss_cons (ss_if (PW.pt (sw_or (st_not (st_tru (se_do d_is_tuple_of tk hr (by rfl) (sa_cons se_int (sa_cons (sv 0) sa_nil rfl) rfl)) (by intro _; rfl))) (pw_or1 (st_not (st_tru (se_callB (c_all rfl) (by rfl) B.all rfl (sa_cons (se_lc rfl S.nd (si_any (sv 0)) (blkOk_by (own := [("part", 1)]) (by kernel_rfl)) (by decide) (fun _ _ _ _ _ => (sg_nm S.nd rfl (Or.inl rfl))) (fun _ _ _ _ _ => sts_nil) (fun _ _ _ _ _ => (se_isi (by decide) (by rfl) B.isinstance rfl (sv 1) (by rfl) B.tuple rfl))) sa_nil rfl)) (by intro _; rfl))))))
    (ss_one (ss_ret (se_tup sa_nil)))
    ss_nil)
    (ss_cons (ss_asg (sv 0) (sg_tp rfl (sgs_cons (sg_nm S.nd rfl (Or.inl rfl)) (sgs_cons (sg_nm S.nd rfl (Or.inl rfl)) (sgs_cons (sg_nm S.nd rfl (Or.inl rfl)) sgs_nil)))))
    (ss_cons (ss_set S.nd rfl (Or.inl rfl) (se_do d_names_fault tk hr (by rfl) (sa_cons se_int (sa_cons (sv 2) (sa_cons (se_tup sa_nil) sa_nil rfl) rfl) rfl)))
    (ss_cons (ss_if (st_cmp op_pIs (sv 5) se_non rfl)
    (ss_one (ss_set S.nd rfl (Or.inl rfl) (se_do d_names_fault tk hr (by rfl) (sa_cons se_int (sa_cons (sv 3) (sa_cons (sv 2) sa_nil rfl) rfl) rfl))))
    ss_nil)
    (ss_cons (ss_if (st_cmp op_pIsNot (sv 5) se_non rfl)
    (ss_one (ss_ret (sv 5)))
    ss_nil)
    (ss_cons (ss_setDc rfl S.nd rfl rfl rfl (si_any (se_op op_pAdd (sv 2) (sv 3))) (blkOk_by (own := [("name", 7)]) (by kernel_rfl)) (by decide) (fun _ _ _ _ _ => (sg_nm S.nd rfl (Or.inl rfl))) (fun _ _ _ _ _ => sts_nil) (fun _ _ _ _ _ => (sv 7)) (fun _ _ _ _ _ => se_bl))
    (ss_cons (ss_for pas rfl (si_enu (by rfl) B.enumerate (sv 4)) (sg_tp rfl (sgs_cons (sg_nm S.nd rfl (Or.inl rfl)) (sgs_cons (sg_nm S.nd rfl (Or.inl rfl)) sgs_nil)))
    (ss_one (ss_if (PW.pt (sw_or (st_not (st_tru (se_do d_is_hold_of tk hr (by rfl) (sa_cons (sv 6) (sa_cons (sv 9) sa_nil rfl) rfl)) (by intro _; rfl))) (pw_or1 (PW.pt (sw_and (st_cmp (op_pGt hu4) (sv 8) se_int rfl) (pw_and1 (st_cmp (op_pLe hu4) (sv 9) (se_ix (ix_pIdx hu1) (sv 4) (se_op op_pSub (sv 8) se_int) (fun _ _ => rfl)) rfl)))))))
    (ss_one (ss_ret (se_tup (sa_cons se_int (sa_cons (sv 8) sa_nil rfl) rfl))))
    ss_nil)))
    (ss_one (ss_ret se_non)))))))))
abbrev st_check_graph : Stmt := top 18
abbrev b_check_graph := C.b_check_graph
abbrev g_check_graph := C.g_check_graph
theorem sc_check_graph : FnScope ["graph", "place"] ["graph"] (defScope st_check_graph) := ⟨rfl, rfl, rfl, by decide +kernel, rfl, by decide +kernel, by decide +kernel⟩
theorem ok_check_graph {P : Program} {w : World} {K : PySem.W.Frag} {mg : Str → Option Value} {base : Heap} {k : Nat} (B : Blt mg) (Df : Def K mg "check_graph" st_check_graph ["graph"]) (d_graph_fault : Does P w K mg base "graph_fault" ["value"] k 1 g_graph_fault) : Does P w K mg base "check_graph" ["graph"] (k + 1) 1 g_check_graph := by
  have S := sc_check_graph
  refine Df.does S rfl rfl fun f cdv A outer s H E hr => ?_
  have hu4 := h64 hr
  have hu5 := h65 hr
  have hu1 := h1 hr
  have tk := takes_of (X := cxOf (L2.CX P w) P w K mg base ["graph", "place"] "check_graph" (defScope st_check_graph) f cdv A outer s H E) (E := E) rfl rfl rfl rfl
  have pas := passes_of (X := cxOf (L2.CX P w) P w K mg base ["graph", "place"] "check_graph" (defScope st_check_graph) f cdv A outer s H E) rfl
  exact (ss_cons (ss_set S.nd rfl (Or.inl rfl) (se_do d_graph_fault tk hr (by rfl) (sa_cons (sv 0) sa_nil rfl)))
    (ss_one (ss_if (st_cmp op_pIsNot (sv 1) se_non rfl)
    (ss_one ss_never)
    ss_nil)))
abbrev st_has_name : Stmt := top 19
abbrev b_has_name := C.b_has_name
abbrev g_has_name := C.g_has_name
theorem sc_has_name : FnScope ["graph", "value"] ["graph", "value"] (defScope st_has_name) := ⟨rfl, rfl, rfl, by decide +kernel, rfl, by decide +kernel, by decide +kernel⟩
theorem ok_has_name {P : Program} {w : World} {K : PySem.W.Frag} {mg : Str → Option Value} {base : Heap} {k : Nat} (B : Blt mg) (Df : Def K mg "has_name" st_has_name ["graph", "value"]) (d_is_name : Does P w K mg base "is_name" ["value"] k 1 g_is_name) : Does P w K mg base "has_name" ["graph", "value"] (k + 1) 2 g_has_name := by
  have S := sc_has_name
  refine Df.does S rfl rfl fun f cdv A outer s H E hr => ?_
  have hu4 := h64 hr
  have hu5 := h65 hr
  have hu1 := h1 hr
  have tk := takes_of (X := cxOf (L2.CX P w) P w K mg base ["graph", "value"] "has_name" (defScope st_has_name) f cdv A outer s H E) (E := E) rfl rfl rfl rfl
  have pas := passes_of (X := cxOf (L2.CX P w) P w K mg base ["graph", "value"] "has_name" (defScope st_has_name) f cdv A outer s H E) rfl
  exact (ss_one (ss_ret (se_and (se_do d_is_name tk hr (by rfl) (sa_cons (sv 1) sa_nil rfl)) (pe_one (se_or (se_cmp (op_pIn hu5) (sv 1) (se_ix (ix_pIdx hu1) (sv 0) se_int (fun _ _ => rfl)) rfl) (pe_one (se_cmp (op_pIn hu5) (sv 1) (se_ix (ix_pIdx hu1) (sv 0) se_int (fun _ _ => rfl)) rfl)))))))
abbrev st_check_names : Stmt := top 20
def b_check_names : MS :=
    (sIf (tOr' (tNot' (tTru (eCall g_are_names (aCons (eVar 1) aNil)))) (tNot' (tTru (eB nAll (aCons (eLc (iAny (eVar 1)) (.nm 2) ttYes (eCall g_has_name (aCons (eVar 0) (aCons (eVar 2) aNil))) [2]) aNil)))))
    (sRaise0 "InvalidNames")
    sNil)
def g_check_names : List D → M D := runF 3 2 b_check_names
theorem sc_check_names : FnScope ["graph", "names", "name"] ["graph", "names"] (defScope st_check_names) := ⟨rfl, rfl, rfl, by decide +kernel, rfl, by decide +kernel, by decide +kernel⟩
theorem ok_check_names {P : Program} {w : World} {K : PySem.W.Frag} {mg : Str → Option Value} {base : Heap} {k : Nat} (B : Blt mg) (Df : Def K mg "check_names" st_check_names ["graph", "names"]) {a_InvalidNames a_RightError : Addr} (Y : CF K mg a_InvalidNames a_RightError) (d_are_names : Does P w K mg base "are_names" ["value"] k 1 g_are_names) (d_has_name : Does P w K mg base "has_name" ["graph", "value"] k 2 g_has_name) : Does P w K mg base "check_names" ["graph", "names"] (k + 1) 2 g_check_names := by
  have S := sc_check_names
  refine Df.does S rfl rfl fun f cdv A outer s H E hr => ?_
  have hu4 := h64 hr
  have hu5 := h65 hr
  have hu1 := h1 hr
  have tk := takes_of (X := cxOf (L2.CX P w) P w K mg base ["graph", "names", "name"] "check_names" (defScope st_check_names) f cdv A outer s H E) (E := E) rfl rfl rfl rfl
  have pas := passes_of (X := cxOf (L2.CX P w) P w K mg base ["graph", "names", "name"] "check_names" (defScope st_check_names) f cdv A outer s H E) rfl
  exact (ss_one (ss_if (PW.pt (sw_or (st_not (st_tru (se_do d_are_names tk hr (by rfl) (sa_cons (sv 1) sa_nil rfl)) (by intro _; rfl))) (pw_or1 (st_not (st_tru (se_callB (c_all rfl) (by rfl) B.all rfl (sa_cons (se_lc rfl S.nd (si_any (sv 1)) (blkOk_by (own := [("name", 2)]) (by kernel_rfl)) (by decide) (fun _ _ _ _ _ => (sg_nm S.nd rfl (Or.inl rfl))) (fun _ _ _ _ _ => sts_nil) (fun _ _ _ _ _ => (se_do d_has_name takes0 hr (by rfl) (sa_cons (sv 0) (sa_cons (sv 2) sa_nil rfl) rfl)))) sa_nil rfl)) (by intro _; rfl))))))
    (ss_one (ss_raiseV rfl tk Y.E_InvalidNames Y.ex_InvalidNames (by rfl)))
    ss_nil))
abbrev st_as_objects : Stmt := top 22
def b_as_objects : MS :=
    (sSeq (sSet (.nm 2) (eB nTuple (aCons (eLc (iAny (eOp pIdx (eVar 0) (eC (.int 0)))) (.nm 3) (tBl (eOp pNotIn (eVar 3) (eVar 1))) (eVar 3) [3]) aNil)))
    (sRet (eTup (aCons (eVar 2) (aCons (eB nTuple (aCons (eB nSorted (aCons (eOp pAdd (eOp pIdx (eVar 0) (eC (.int 1))) (eB nTuple (aCons (eLc (iAny (eOp pIdx (eVar 0) (eC (.int 0)))) (.nm 3) (tBl (eOp pIn (eVar 3) (eVar 1))) (eVar 3) [3]) aNil))) aNil)) aNil)) (aCons (eOp pIdx (eVar 0) (eC (.int 2))) aNil))))))
def g_as_objects : List D → M D := runF 4 2 b_as_objects
theorem sc_as_objects : FnScope ["graph", "names", "subjects", "one"] ["graph", "names"] (defScope st_as_objects) := ⟨rfl, rfl, rfl, by decide +kernel, rfl, by decide +kernel, by decide +kernel⟩
theorem ok_as_objects {P : Program} {w : World} {K : PySem.W.Frag} {mg : Str → Option Value} {base : Heap} {k : Nat} (B : Blt mg) (Df : Def K mg "as_objects" st_as_objects ["graph", "names"]) : Does P w K mg base "as_objects" ["graph", "names"] (k + 1) 2 g_as_objects := by
  have S := sc_as_objects
  refine Df.does S rfl rfl fun f cdv A outer s H E hr => ?_
  have hu4 := h64 hr
  have hu5 := h65 hr
  have hu1 := h1 hr
  have tk := takes_of (X := cxOf (L2.CX P w) P w K mg base ["graph", "names", "subjects", "one"] "as_objects" (defScope st_as_objects) f cdv A outer s H E) (E := E) rfl rfl rfl rfl
  have pas := passes_of (X := cxOf (L2.CX P w) P w K mg base ["graph", "names", "subjects", "one"] "as_objects" (defScope st_as_objects) f cdv A outer s H E) rfl
  exact (ss_cons (ss_set S.nd rfl (Or.inl rfl) (se_callTy c_tuple (by rfl) B.tuple rfl (sa_cons (se_lc rfl S.nd (si_any (se_ix (ix_pIdx hu1) (sv 0) se_int (fun _ _ => rfl))) (blkOk_by (own := [("one", 3)]) (by kernel_rfl)) (by decide) (fun _ _ _ _ _ => (sg_nm S.nd rfl (Or.inl rfl))) (fun _ _ _ _ _ => (sts_one (st_cmp (op_pNotIn hu5) (sv 3) (sv 1) rfl))) (fun _ _ _ _ _ => (sv 3))) sa_nil rfl)))
    (ss_one (ss_ret (se_tup (sa_cons (sv 2) (sa_cons (se_callTy c_tuple (by rfl) B.tuple rfl (sa_cons (se_callB (c_sorted hu4) (by rfl) B.sorted rfl (sa_cons (se_op op_pAdd (se_ix (ix_pIdx hu1) (sv 0) se_int (fun _ _ => rfl)) (se_callTy c_tuple (by rfl) B.tuple rfl (sa_cons (se_lc rfl S.nd (si_any (se_ix (ix_pIdx hu1) (sv 0) se_int (fun _ _ => rfl))) (blkOk_by (own := [("one", 3)]) (by kernel_rfl)) (by decide) (fun _ _ _ _ _ => (sg_nm S.nd rfl (Or.inl rfl))) (fun _ _ _ _ _ => (sts_one (st_cmp (op_pIn hu5) (sv 3) (sv 1) rfl))) (fun _ _ _ _ _ => (sv 3))) sa_nil rfl))) sa_nil rfl)) sa_nil rfl)) (sa_cons (se_ix (ix_pIdx hu1) (sv 0) se_int (fun _ _ => rfl)) sa_nil rfl) rfl) rfl)))))
abbrev st_as_subjects : Stmt := top 23
def b_as_subjects : MS :=
    (sSeq (sSet (.nm 2) (eB nTuple (aCons (eLc (iAny (eOp pIdx (eVar 0) (eC (.int 1)))) (.nm 3) (tBl (eOp pNotIn (eVar 3) (eVar 1))) (eVar 3) [3]) aNil)))
    (sRet (eTup (aCons (eB nTuple (aCons (eB nSorted (aCons (eOp pAdd (eOp pIdx (eVar 0) (eC (.int 0))) (eB nTuple (aCons (eLc (iAny (eOp pIdx (eVar 0) (eC (.int 1)))) (.nm 3) (tBl (eOp pIn (eVar 3) (eVar 1))) (eVar 3) [3]) aNil))) aNil)) aNil)) (aCons (eVar 2) (aCons (eOp pIdx (eVar 0) (eC (.int 2))) aNil))))))
def g_as_subjects : List D → M D := runF 4 2 b_as_subjects
theorem sc_as_subjects : FnScope ["graph", "names", "objects", "one"] ["graph", "names"] (defScope st_as_subjects) := ⟨rfl, rfl, rfl, by decide +kernel, rfl, by decide +kernel, by decide +kernel⟩
theorem ok_as_subjects {P : Program} {w : World} {K : PySem.W.Frag} {mg : Str → Option Value} {base : Heap} {k : Nat} (B : Blt mg) (Df : Def K mg "as_subjects" st_as_subjects ["graph", "names"]) : Does P w K mg base "as_subjects" ["graph", "names"] (k + 1) 2 g_as_subjects := by
  have S := sc_as_subjects
  refine Df.does S rfl rfl fun f cdv A outer s H E hr => ?_
  have hu4 := h64 hr
  have hu5 := h65 hr
  have hu1 := h1 hr
  have tk := takes_of (X := cxOf (L2.CX P w) P w K mg base ["graph", "names", "objects", "one"] "as_subjects" (defScope st_as_subjects) f cdv A outer s H E) (E := E) rfl rfl rfl rfl
  have pas := passes_of (X := cxOf (L2.CX P w) P w K mg base ["graph", "names", "objects", "one"] "as_subjects" (defScope st_as_subjects) f cdv A outer s H E) rfl
  exact (ss_cons (ss_set S.nd rfl (Or.inl rfl) (se_callTy c_tuple (by rfl) B.tuple rfl (sa_cons (se_lc rfl S.nd (si_any (se_ix (ix_pIdx hu1) (sv 0) se_int (fun _ _ => rfl))) (blkOk_by (own := [("one", 3)]) (by kernel_rfl)) (by decide) (fun _ _ _ _ _ => (sg_nm S.nd rfl (Or.inl rfl))) (fun _ _ _ _ _ => (sts_one (st_cmp (op_pNotIn hu5) (sv 3) (sv 1) rfl))) (fun _ _ _ _ _ => (sv 3))) sa_nil rfl)))
    (ss_one (ss_ret (se_tup (sa_cons (se_callTy c_tuple (by rfl) B.tuple rfl (sa_cons (se_callB (c_sorted hu4) (by rfl) B.sorted rfl (sa_cons (se_op op_pAdd (se_ix (ix_pIdx hu1) (sv 0) se_int (fun _ _ => rfl)) (se_callTy c_tuple (by rfl) B.tuple rfl (sa_cons (se_lc rfl S.nd (si_any (se_ix (ix_pIdx hu1) (sv 0) se_int (fun _ _ => rfl))) (blkOk_by (own := [("one", 3)]) (by kernel_rfl)) (by decide) (fun _ _ _ _ _ => (sg_nm S.nd rfl (Or.inl rfl))) (fun _ _ _ _ _ => (sts_one (st_cmp (op_pIn hu5) (sv 3) (sv 1) rfl))) (fun _ _ _ _ _ => (sv 3))) sa_nil rfl))) sa_nil rfl)) sa_nil rfl)) (sa_cons (sv 2) (sa_cons (se_ix (ix_pIdx hu1) (sv 0) se_int (fun _ _ => rfl)) sa_nil rfl) rfl) rfl)))))
abbrev st_sealed : Stmt := top 24
def b_sealed : MS :=
    (sSeq (sExpr (eCall g_check_graph (aCons (eVar 0) aNil)))
    (sSeq (sExpr (eCall g_check_names (aCons (eVar 0) (aCons (eVar 1) aNil))))
    (sRet (eCall g_as_objects (aCons (eVar 0) (aCons (eVar 1) aNil))))))
def g_sealed : List D → M D := runF 2 2 b_sealed
theorem sc_sealed : FnScope ["graph", "names"] ["graph", "names"] (defScope st_sealed) := ⟨rfl, rfl, rfl, by decide +kernel, rfl, by decide +kernel, by decide +kernel⟩
theorem ok_sealed {P : Program} {w : World} {K : PySem.W.Frag} {mg : Str → Option Value} {base : Heap} {k : Nat} (B : Blt mg) (Df : Def K mg "sealed" st_sealed ["graph", "names"]) (d_as_objects : Does P w K mg base "as_objects" ["graph", "names"] k 2 g_as_objects) (d_check_graph : Does P w K mg base "check_graph" ["graph"] k 1 g_check_graph) (d_check_names : Does P w K mg base "check_names" ["graph", "names"] k 2 g_check_names) : Does P w K mg base "sealed" ["graph", "names"] (k + 1) 2 g_sealed := by
  have S := sc_sealed
  refine Df.does S rfl rfl fun f cdv A outer s H E hr => ?_
  have hu4 := h64 hr
  have hu5 := h65 hr
  have hu1 := h1 hr
  have tk := takes_of (X := cxOf (L2.CX P w) P w K mg base ["graph", "names"] "sealed" (defScope st_sealed) f cdv A outer s H E) (E := E) rfl rfl rfl rfl
  have pas := passes_of (X := cxOf (L2.CX P w) P w K mg base ["graph", "names"] "sealed" (defScope st_sealed) f cdv A outer s H E) rfl
  exact (ss_cons (ss_expr (se_do d_check_graph tk hr (by rfl) (sa_cons (sv 0) sa_nil rfl)))
    (ss_cons (ss_expr (se_do d_check_names tk hr (by rfl) (sa_cons (sv 0) (sa_cons (sv 1) sa_nil rfl) rfl)))
    (ss_one (ss_ret (se_do d_as_objects tk hr (by rfl) (sa_cons (sv 0) (sa_cons (sv 1) sa_nil rfl) rfl))))))
abbrev st_freed : Stmt := top 25
def b_freed : MS :=
    (sSeq (sExpr (eCall g_check_graph (aCons (eVar 0) aNil)))
    (sSeq (sExpr (eCall g_check_names (aCons (eVar 0) (aCons (eVar 1) aNil))))
    (sRet (eCall g_as_subjects (aCons (eVar 0) (aCons (eVar 1) aNil))))))
def g_freed : List D → M D := runF 2 2 b_freed
theorem sc_freed : FnScope ["graph", "names"] ["graph", "names"] (defScope st_freed) := ⟨rfl, rfl, rfl, by decide +kernel, rfl, by decide +kernel, by decide +kernel⟩
theorem ok_freed {P : Program} {w : World} {K : PySem.W.Frag} {mg : Str → Option Value} {base : Heap} {k : Nat} (B : Blt mg) (Df : Def K mg "freed" st_freed ["graph", "names"]) (d_as_subjects : Does P w K mg base "as_subjects" ["graph", "names"] k 2 g_as_subjects) (d_check_graph : Does P w K mg base "check_graph" ["graph"] k 1 g_check_graph) (d_check_names : Does P w K mg base "check_names" ["graph", "names"] k 2 g_check_names) : Does P w K mg base "freed" ["graph", "names"] (k + 1) 2 g_freed := by
  have S := sc_freed
  refine Df.does S rfl rfl fun f cdv A outer s H E hr => ?_
  have hu4 := h64 hr
  have hu5 := h65 hr
  have hu1 := h1 hr
  have tk := takes_of (X := cxOf (L2.CX P w) P w K mg base ["graph", "names"] "freed" (defScope st_freed) f cdv A outer s H E) (E := E) rfl rfl rfl rfl
  have pas := passes_of (X := cxOf (L2.CX P w) P w K mg base ["graph", "names"] "freed" (defScope st_freed) f cdv A outer s H E) rfl
  exact (ss_cons (ss_expr (se_do d_check_graph tk hr (by rfl) (sa_cons (sv 0) sa_nil rfl)))
    (ss_cons (ss_expr (se_do d_check_names tk hr (by rfl) (sa_cons (sv 0) (sa_cons (sv 1) sa_nil rfl) rfl)))
    (ss_one (ss_ret (se_do d_as_subjects tk hr (by rfl) (sa_cons (sv 0) (sa_cons (sv 1) sa_nil rfl) rfl))))))
abbrev st__law_pot : Stmt := top 27
abbrev b__law_pot := C.b__law_pot
abbrev g__law_pot := C.g__law_pot
theorem sc__law_pot : FnScope ["script", "at", "cell"] ["script", "at"] (defScope st__law_pot) := ⟨rfl, rfl, rfl, by decide +kernel, rfl, by decide +kernel, by decide +kernel⟩
theorem ok__law_pot {P : Program} {w : World} {K : PySem.W.Frag} {mg : Str → Option Value} {base : Heap} {k : Nat} (B : Blt mg) (Df : Def K mg "_law_pot" st__law_pot ["script", "at"]) : Does P w K mg base "_law_pot" ["script", "at"] (k + 1) 2 g__law_pot := by
  have S := sc__law_pot
  refine Df.does S rfl rfl fun f cdv A outer s H E hr => ?_
  have hu4 := h64 hr
  have hu5 := h65 hr
  have hu1 := h1 hr
  have tk := takes_of (X := cxOf (L2.CX P w) P w K mg base ["script", "at", "cell"] "_law_pot" (defScope st__law_pot) f cdv A outer s H E) (E := E) rfl rfl rfl rfl
  have pas := passes_of (X := cxOf (L2.CX P w) P w K mg base ["script", "at", "cell"] "_law_pot" (defScope st__law_pot) f cdv A outer s H E) rfl
  exact (ss_cons (ss_set S.nd rfl (Or.inl rfl) (se_op op_pMul se_int (sv 1)))
    (ss_cons (ss_if (st_cmp (op_pLt hu4) (sv 1) (se_callB c_len (by rfl) B.len rfl (sa_cons (sv 0) sa_nil rfl)) rfl)
    (ss_one (ss_set S.nd rfl (Or.inl rfl) (se_ix (ix_pIdx hu1) (sv 0) (sv 1) (fun _ _ => rfl))))
    ss_nil)
    (ss_cons (ss_set S.nd rfl (Or.inl rfl) (se_op op_pMod (se_callTy c_int (by rfl) B.int rfl (sa_cons (se_callB c_abs (by rfl) B.abs rfl (sa_cons (sv 2) sa_nil rfl)) sa_nil rfl)) (se_op op_pMul (se_op op_pMul (se_op op_pMul (se_op op_pPow se_int se_int) (se_op op_pPow se_int se_int)) (se_op op_pPow se_int se_int)) (se_op op_pPow se_int se_int))))
    (ss_one (ss_ret (se_lst (sa_cons (sv 2) (sa_cons (se_callTy c_int (by rfl) B.int rfl (sa_cons (se_cmp (op_pGe hu4) (sv 2) (se_op op_pPow se_int se_int) rfl) sa_nil rfl)) (sa_cons (se_op op_pMul se_int (sv 1)) sa_nil rfl) rfl) rfl)))))))
abbrev st__law_draw : Stmt := top 28
abbrev b__law_draw := C.b__law_draw
abbrev g__law_draw := C.g__law_draw
theorem sc__law_draw : FnScope ["pot", "many", "found", "mixed"] ["pot", "many"] (defScope st__law_draw) := ⟨rfl, rfl, rfl, by decide +kernel, rfl, by decide +kernel, by decide +kernel⟩
theorem ok__law_draw {P : Program} {w : World} {K : PySem.W.Frag} {mg : Str → Option Value} {base : Heap} {k : Nat} (B : Blt mg) (Df : Def K mg "_law_draw" st__law_draw ["pot", "many"]) : Does P w K mg base "_law_draw" ["pot", "many"] (k + 1) 2 g__law_draw := by
  have S := sc__law_draw
  refine Df.does S rfl rfl fun f cdv A outer s H E hr => ?_
  have hu4 := h64 hr
  have hu5 := h65 hr
  have hu1 := h1 hr
  have tk := takes_of (X := cxOf (L2.CX P w) P w K mg base ["pot", "many", "found", "mixed"] "_law_draw" (defScope st__law_draw) f cdv A outer s H E) (E := E) rfl rfl rfl rfl
  have pas := passes_of (X := cxOf (L2.CX P w) P w K mg base ["pot", "many", "found", "mixed"] "_law_draw" (defScope st__law_draw) f cdv A outer s H E) rfl
  exact (ss_cons (ss_put hu1 (se_op op_pAdd (se_ix (ix_pIdx hu1) (sv 0) se_int (fun _ _ => rfl)) se_int) (sv 0) se_int)
    (ss_cons (ss_if (PW.pt (sw_and (st_cmp (op_pEq hu4) (se_ix (ix_pIdx hu1) (sv 0) se_int (fun _ _ => rfl)) se_int rfl) (pw_and1 (st_cmp (op_pGt hu4) (se_ix (ix_pIdx hu1) (sv 0) se_int (fun _ _ => rfl)) se_int rfl))))
    (ss_cons (ss_set S.nd rfl (Or.inl rfl) (se_op op_pMod (se_callTy c_int (by rfl) B.int rfl (sa_cons (se_ix (ix_pIdx hu1) (sv 0) se_int (fun _ _ => rfl)) sa_nil rfl)) (sv 1)))
    (ss_cons (ss_put hu1 (se_op op_pDiv (se_ix (ix_pIdx hu1) (sv 0) se_int (fun _ _ => rfl)) (sv 1)) (sv 0) se_int)
    (ss_one (ss_ret (sv 2)))))
    ss_nil)
    (ss_cons (ss_set S.nd rfl (Or.inl rfl) (se_op op_pMod (se_callTy c_int (by rfl) B.int rfl (sa_cons (se_op op_pMul (se_op op_pAdd (se_op op_pAdd (se_ix (ix_pIdx hu1) (sv 0) se_int (fun _ _ => rfl)) (se_op op_pMul se_int (se_ix (ix_pIdx hu1) (sv 0) se_int (fun _ _ => rfl)))) se_int) se_int) sa_nil rfl)) se_int))
    (ss_cons (ss_set S.nd rfl (Or.inl rfl) (se_op op_pMod (se_callTy c_int (by rfl) B.int rfl (sa_cons (se_op op_pMul (sv 3) (sv 3)) sa_nil rfl)) se_int))
    (ss_cons (ss_set S.nd rfl (Or.inl rfl) (se_op op_pMod (se_callTy c_int (by rfl) B.int rfl (sa_cons (se_op op_pMul (se_op op_pAdd (sv 3) (se_op op_pMul se_int (se_ix (ix_pIdx hu1) (sv 0) se_int (fun _ _ => rfl)))) se_int) sa_nil rfl)) se_int))
    (ss_one (ss_ret (se_op op_pMod (se_callTy c_int (by rfl) B.int rfl (sa_cons (se_op op_pDiv (sv 3) se_int) sa_nil rfl)) (sv 1)))))))))
abbrev st__law_name : Stmt := top 29
abbrev b__law_name := C.b__law_name
abbrev g__law_name := C.g__law_name
theorem sc__law_name : FnScope ["pot", "letters", "most", "turn"] ["pot"] (defScope st__law_name) := ⟨rfl, rfl, rfl, by decide +kernel, rfl, by decide +kernel, by decide +kernel⟩
theorem ok__law_name {P : Program} {w : World} {K : PySem.W.Frag} {mg : Str → Option Value} {base : Heap} {k : Nat} (B : Blt mg) (Df : Def K mg "_law_name" st__law_name ["pot"]) (d__law_draw : Does P w K mg base "_law_draw" ["pot", "many"] k 2 g__law_draw) : Does P w K mg base "_law_name" ["pot"] (k + 1) 1 g__law_name := by
  have S := sc__law_name
  refine Df.does S rfl rfl fun f cdv A outer s H E hr => ?_
  have hu4 := h64 hr
  have hu5 := h65 hr
  have hu1 := h1 hr
  have tk := takes_of (X := cxOf (L2.CX P w) P w K mg base ["pot", "letters", "most", "turn"] "_law_name" (defScope st__law_name) f cdv A outer s H E) (E := E) rfl rfl rfl rfl
  have pas := passes_of (X := cxOf (L2.CX P w) P w K mg base ["pot", "letters", "most", "turn"] "_law_name" (defScope st__law_name) f cdv A outer s H E) rfl
  exact (ss_cons (ss_asg (se_tup (sa_cons se_str (sa_cons se_int sa_nil rfl) rfl)) (sg_tp rfl (sgs_cons (sg_nm S.nd rfl (Or.inr rfl)) (sgs_cons (sg_nm S.nd rfl (Or.inl rfl)) sgs_nil))))
    (ss_cons (ss_if (st_cmp (op_pEq hu4) (se_do d__law_draw tk hr (by rfl) (sa_cons (sv 0) (sa_cons se_int sa_nil rfl) rfl)) se_int rfl)
    (ss_one (ss_asg (se_tup (sa_cons se_str (sa_cons se_int sa_nil rfl) rfl)) (sg_tp rfl (sgs_cons (sg_nm S.nd rfl (Or.inr rfl)) (sgs_cons (sg_nm S.nd rfl (Or.inl rfl)) sgs_nil)))))
    ss_nil)
    (ss_one (ss_ret (se_bm (.inr (.inr rfl)) PySem.F.plainAttrs_str PySem.F.slot_str_join PySem.F.type_str_join m_join se_str (sa_cons (se_lc rfl S.nd (si_range1 (by rfl) B.range (sa_cons (se_op op_pAdd se_int (se_do d__law_draw tk hr (by rfl) (sa_cons (sv 0) (sa_cons (sv 2) sa_nil rfl) rfl))) sa_nil rfl)) (blkOk_by (own := [("turn", 3)]) (by kernel_rfl)) (by decide) (fun _ _ _ _ _ => (sg_nm S.nd rfl (Or.inl rfl))) (fun _ _ _ _ _ => sts_nil) (fun _ _ _ _ _ => (se_ix (ix_pIdx hu1) (sv 1) (se_do d__law_draw takes0 hr (by rfl) (sa_cons (sv 0) (sa_cons (se_callB c_len (by rfl) B.len rfl (sa_cons (sv 1) sa_nil rfl)) sa_nil rfl) rfl)) (fun _ _ => rfl)))) sa_nil rfl))))))
abbrev st__law_names : Stmt := top 30
abbrev b__law_names := C.b__law_names
abbrev g__law_names := C.g__law_names
theorem sc__law_names : FnScope ["pot", "many", "found", "k", "name"] ["pot", "many"] (defScope st__law_names) := ⟨rfl, rfl, rfl, by decide +kernel, rfl, by decide +kernel, by decide +kernel⟩
theorem ok__law_names {P : Program} {w : World} {K : PySem.W.Frag} {mg : Str → Option Value} {base : Heap} {k : Nat} (B : Blt mg) (Df : Def K mg "_law_names" st__law_names ["pot", "many"]) (d__law_name : Does P w K mg base "_law_name" ["pot"] k 1 g__law_name) : Does P w K mg base "_law_names" ["pot", "many"] (k + 1) 2 g__law_names := by
  have S := sc__law_names
  refine Df.does S rfl rfl fun f cdv A outer s H E hr => ?_
  have hu4 := h64 hr
  have hu5 := h65 hr
  have hu1 := h1 hr
  have tk := takes_of (X := cxOf (L2.CX P w) P w K mg base ["pot", "many", "found", "k", "name"] "_law_names" (defScope st__law_names) f cdv A outer s H E) (E := E) rfl rfl rfl rfl
  have pas := passes_of (X := cxOf (L2.CX P w) P w K mg base ["pot", "many", "found", "k", "name"] "_law_names" (defScope st__law_names) f cdv A outer s H E) rfl
  exact (ss_cons (ss_set S.nd rfl (Or.inl rfl) (se_lst sa_nil))
    (ss_cons (ss_for pas rfl (si_range1 (by rfl) B.range (sa_cons (sv 1) sa_nil rfl)) (sg_nm S.nd rfl (Or.inl rfl))
    (ss_cons (ss_set S.nd rfl (Or.inl rfl) (se_do d__law_name tk hr (by rfl) (sa_cons (sv 0) sa_nil rfl)))
    (ss_cons (ss_if (st_cmp (op_pIn hu5) (sv 4) (sv 2) rfl)
    (ss_one (ss_set S.nd rfl (Or.inl rfl) (se_op op_pAdd se_str (se_ix (ix_pIdx hu1) se_str (sv 3) (fun _ _ => rfl)))))
    ss_nil)
    (ss_one (ss_expr (se_bm (.inl rfl) PySem.F.plainAttrs_list PySem.F.slot_list_append PySem.F.type_list_append m_append (sv 2) (sa_cons (sv 4) sa_nil rfl)))))))
    (ss_one (ss_ret (sv 2)))))
abbrev st__law_rights : Stmt := top 31
abbrev b__law_rights := C.b__law_rights
abbrev g__law_rights := C.g__law_rights
theorem sc__law_rights : FnScope ["pot"] ["pot"] (defScope st__law_rights) := ⟨rfl, rfl, rfl, by decide +kernel, rfl, by decide +kernel, by decide +kernel⟩
theorem ok__law_rights {P : Program} {w : World} {K : PySem.W.Frag} {mg : Str → Option Value} {base : Heap} {k : Nat} (B : Blt mg) (Df : Def K mg "_law_rights" st__law_rights ["pot"]) (d__law_draw : Does P w K mg base "_law_draw" ["pot", "many"] k 2 g__law_draw) : Does P w K mg base "_law_rights" ["pot"] (k + 1) 1 g__law_rights := by
  have S := sc__law_rights
  refine Df.does S rfl rfl fun f cdv A outer s H E hr => ?_
  have hu4 := h64 hr
  have hu5 := h65 hr
  have hu1 := h1 hr
  have tk := takes_of (X := cxOf (L2.CX P w) P w K mg base ["pot"] "_law_rights" (defScope st__law_rights) f cdv A outer s H E) (E := E) rfl rfl rfl rfl
  have pas := passes_of (X := cxOf (L2.CX P w) P w K mg base ["pot"] "_law_rights" (defScope st__law_rights) f cdv A outer s H E) rfl
  exact (ss_one (ss_ret (se_lst (sa_cons se_str (sa_cons se_str (sa_cons se_str (sa_cons se_str (sa_cons se_str (sa_cons se_str (sa_cons (se_ix (ix_pIdx hu1) (se_lst (sa_cons se_str (sa_cons se_str (sa_cons se_str sa_nil rfl) rfl) rfl)) (se_do d__law_draw tk hr (by rfl) (sa_cons (sv 0) (sa_cons se_int sa_nil rfl) rfl)) (fun _ _ => rfl)) sa_nil rfl) rfl) rfl) rfl) rfl) rfl) rfl))))
abbrev st__law_graph : Stmt := top 32
abbrev b__law_graph := C.b__law_graph
abbrev g__law_graph := C.g__law_graph
theorem sc__law_graph : FnScope ["pot", "subjects_most", "objects_most", "holds_most", "acting", "lying", "names", "rights", "holds", "turn", "one", "other"] ["pot", "subjects_most", "objects_most", "holds_most"] (defScope st__law_graph) := ⟨rfl, rfl, rfl, by decide +kernel, rfl, by decide +kernel, by decide +kernel⟩
theorem ok__law_graph {P : Program} {w : World} {K : PySem.W.Frag} {mg : Str → Option Value} {base : Heap} {k : Nat} (B : Blt mg) (Df : Def K mg "_law_graph" st__law_graph ["pot", "subjects_most", "objects_most", "holds_most"]) (d__law_draw : Does P w K mg base "_law_draw" ["pot", "many"] k 2 g__law_draw) (d__law_names : Does P w K mg base "_law_names" ["pot", "many"] k 2 g__law_names) (d__law_rights : Does P w K mg base "_law_rights" ["pot"] k 1 g__law_rights) : Does P w K mg base "_law_graph" ["pot", "subjects_most", "objects_most", "holds_most"] (k + 1) 4 g__law_graph := by
  have S := sc__law_graph
  refine Df.does S rfl rfl fun f cdv A outer s H E hr => ?_
  have hu4 := h64 hr
  have hu5 := h65 hr
  have hu1 := h1 hr
  have tk := takes_of (X := cxOf (L2.CX P w) P w K mg base ["pot", "subjects_most", "objects_most", "holds_most", "acting", "lying", "names", "rights", "holds", "turn", "one", "other"] "_law_graph" (defScope st__law_graph) f cdv A outer s H E) (E := E) rfl rfl rfl rfl
  have pas := passes_of (X := cxOf (L2.CX P w) P w K mg base ["pot", "subjects_most", "objects_most", "holds_most", "acting", "lying", "names", "rights", "holds", "turn", "one", "other"] "_law_graph" (defScope st__law_graph) f cdv A outer s H E) rfl
  exact (ss_cons (ss_par rfl S.nd rfl rfl (by decide) rfl rfl (sa_cons (se_op op_pAdd se_int (se_do d__law_draw tk hr (by rfl) (sa_cons (sv 0) (sa_cons (sv 1) sa_nil rfl) rfl))) (sa_cons (se_do d__law_draw tk hr (by rfl) (sa_cons (sv 0) (sa_cons (se_op op_pAdd (sv 2) se_int) sa_nil rfl) rfl)) sa_nil rfl) rfl) rfl)
    (ss_cons (ss_set S.nd rfl (Or.inl rfl) (se_do d__law_names tk hr (by rfl) (sa_cons (sv 0) (sa_cons (se_op op_pAdd (sv 4) (sv 5)) sa_nil rfl) rfl)))
    (ss_cons (ss_par rfl S.nd rfl rfl (by decide) rfl rfl (sa_cons (se_do d__law_rights tk hr (by rfl) (sa_cons (sv 0) sa_nil rfl)) (sa_cons (se_lst sa_nil) sa_nil rfl) rfl) rfl)
    (ss_cons (ss_for pas rfl (si_range1 (by rfl) B.range (sa_cons (se_do d__law_draw tk hr (by rfl) (sa_cons (sv 0) (sa_cons (se_op op_pAdd (sv 3) se_int) sa_nil rfl) rfl)) sa_nil rfl)) (sg_nm S.nd rfl (Or.inl rfl))
    (ss_cons (ss_par rfl S.nd rfl rfl (by decide) rfl rfl (sa_cons (se_ix (ix_pIdx hu1) (sv 6) (se_do d__law_draw tk hr (by rfl) (sa_cons (sv 0) (sa_cons (se_callB c_len (by rfl) B.len rfl (sa_cons (sv 6) sa_nil rfl)) sa_nil rfl) rfl)) (fun _ _ => rfl)) (sa_cons (se_ix (ix_pIdx hu1) (sv 6) (se_do d__law_draw tk hr (by rfl) (sa_cons (sv 0) (sa_cons (se_callB c_len (by rfl) B.len rfl (sa_cons (sv 6) sa_nil rfl)) sa_nil rfl) rfl)) (fun _ _ => rfl)) sa_nil rfl) rfl) rfl)
    (ss_one (ss_expr (se_bm (.inl rfl) PySem.F.plainAttrs_list PySem.F.slot_list_append PySem.F.type_list_append m_append (sv 8) (sa_cons (se_tup (sa_cons (sv 10) (sa_cons (sv 11) (sa_cons (se_ix (ix_pIdx hu1) (sv 7) (se_do d__law_draw tk hr (by rfl) (sa_cons (sv 0) (sa_cons (se_callB c_len (by rfl) B.len rfl (sa_cons (sv 7) sa_nil rfl)) sa_nil rfl) rfl)) (fun _ _ => rfl)) sa_nil rfl) rfl) rfl)) sa_nil rfl))))))
    (ss_one (ss_ret (se_tup (sa_cons (se_callTy c_tuple (by rfl) B.tuple rfl (sa_cons (se_callB (c_sorted hu4) (by rfl) B.sorted rfl (sa_cons (se_cut (sv 6) so_none (so_some (sv 4))) sa_nil rfl)) sa_nil rfl)) (sa_cons (se_callTy c_tuple (by rfl) B.tuple rfl (sa_cons (se_callB (c_sorted hu4) (by rfl) B.sorted rfl (sa_cons (se_cut (sv 6) (so_some (sv 4)) so_none) sa_nil rfl)) sa_nil rfl)) (sa_cons (se_callTy c_tuple (by rfl) B.tuple rfl (sa_cons (se_sortSet rfl hu4 (by rfl) B.sorted (by rfl) B.set (sv 8)) sa_nil rfl)) sa_nil rfl) rfl) rfl))))))))
abbrev st__law_is_word : Stmt := top 33
abbrev b__law_is_word := C.b__law_is_word
abbrev g__law_is_word := C.g__law_is_word
theorem sc__law_is_word : FnScope ["value", "most", "letters", "sign"] ["value", "most"] (defScope st__law_is_word) := ⟨rfl, rfl, rfl, by decide +kernel, rfl, by decide +kernel, by decide +kernel⟩
theorem ok__law_is_word {P : Program} {w : World} {K : PySem.W.Frag} {mg : Str → Option Value} {base : Heap} {k : Nat} (B : Blt mg) (Df : Def K mg "_law_is_word" st__law_is_word ["value", "most"]) : Does P w K mg base "_law_is_word" ["value", "most"] (k + 1) 2 g__law_is_word := by
  have S := sc__law_is_word
  refine Df.does S rfl rfl fun f cdv A outer s H E hr => ?_
  have hu4 := h64 hr
  have hu5 := h65 hr
  have hu1 := h1 hr
  have tk := takes_of (X := cxOf (L2.CX P w) P w K mg base ["value", "most", "letters", "sign"] "_law_is_word" (defScope st__law_is_word) f cdv A outer s H E) (E := E) rfl rfl rfl rfl
  have pas := passes_of (X := cxOf (L2.CX P w) P w K mg base ["value", "most", "letters", "sign"] "_law_is_word" (defScope st__law_is_word) f cdv A outer s H E) rfl
  exact (ss_cons (ss_set S.nd rfl (Or.inr rfl) se_str)
    (ss_one (ss_ret (se_and (se_isi (by decide) (by rfl) B.isinstance rfl (sv 0) (by rfl) B.str rfl) (se_and (se_chain (op_pLe hu4) (op_pLe hu4) se_int (se_callB c_len (by rfl) B.len rfl (sa_cons (sv 0) sa_nil rfl)) (sv 1) rfl) (pe_one (se_callB (c_all rfl) (by rfl) B.all rfl (sa_cons (se_lc rfl S.nd (si_any (sv 0)) (blkOk_by (own := [("sign", 3)]) (by kernel_rfl)) (by decide) (fun _ _ _ _ _ => (sg_nm S.nd rfl (Or.inl rfl))) (fun _ _ _ _ _ => sts_nil) (fun _ _ _ _ _ => (se_cmp (op_pIn hu5) (sv 3) (sv 2) rfl))) sa_nil rfl))))))))
abbrev st__law_same : Stmt := top 34
abbrev b__law_same := C.b__law_same
abbrev f__law_same := C.f__law_same
abbrev g__law_same := C.g__law_same
theorem sc__law_same : FnScope ["got", "due", "k"] ["got", "due"] (defScope st__law_same) := ⟨rfl, rfl, rfl, by decide +kernel, rfl, by decide +kernel, by decide +kernel⟩
theorem ok__law_same {P : Program} {w : World} {K : PySem.W.Frag} {mg : Str → Option Value} {base : Heap} {k : Nat} (B : Blt mg) (Df : Def K mg "_law_same" st__law_same ["got", "due"]) {g__law_same : List Mini.D → M Mini.D} (d__law_same : Does P w K mg base "_law_same" ["got", "due"] k 2 g__law_same) : Does P w K mg base "_law_same" ["got", "due"] (k + 1) 2 (runF 3 2 (b__law_same g__law_same)) := by
  have S := sc__law_same
  refine Df.does S rfl rfl fun f cdv A outer s H E hr => ?_
  have hu4 := h64 hr
  have hu5 := h65 hr
  have hu1 := h1 hr
  have tk := takes_of (X := cxOf (L2.CX P w) P w K mg base ["got", "due", "k"] "_law_same" (defScope st__law_same) f cdv A outer s H E) (E := E) rfl rfl rfl rfl
  have pas := passes_of (X := cxOf (L2.CX P w) P w K mg base ["got", "due", "k"] "_law_same" (defScope st__law_same) f cdv A outer s H E) rfl
  exact (ss_cons (ss_if (PW.pt (sw_or (st_tru (se_isi (by decide) (by rfl) B.isinstance rfl (sv 1) (by rfl) B.tuple rfl) (by intro _; rfl)) (pw_or1 (st_tru (se_isi (by decide) (by rfl) B.isinstance rfl (sv 1) (by rfl) B.list rfl) (by intro _; rfl)))))
    (ss_cons (ss_if (PW.pt (sw_or (st_cmp (op_pNe hu4) (se_isi (by decide) (by rfl) B.isinstance rfl (sv 1) (by rfl) B.tuple rfl) (se_isi (by decide) (by rfl) B.isinstance rfl (sv 0) (by rfl) B.tuple rfl) rfl) (pw_or1 (st_cmp (op_pNe hu4) (se_isi (by decide) (by rfl) B.isinstance rfl (sv 1) (by rfl) B.list rfl) (se_isi (by decide) (by rfl) B.isinstance rfl (sv 0) (by rfl) B.list rfl) rfl))))
    (ss_one (ss_ret se_bl))
    ss_nil)
    (ss_one (ss_ret (se_and (se_cmp (op_pEq hu4) (se_callB c_len (by rfl) B.len rfl (sa_cons (sv 0) sa_nil rfl)) (se_callB c_len (by rfl) B.len rfl (sa_cons (sv 1) sa_nil rfl)) rfl) (pe_one (se_callB (c_all rfl) (by rfl) B.all rfl (sa_cons (se_lc rfl S.nd (si_range1 (by rfl) B.range (sa_cons (se_callB c_len (by rfl) B.len rfl (sa_cons (sv 1) sa_nil rfl)) sa_nil rfl)) (blkOk_by (own := [("k", 2)]) (by kernel_rfl)) (by decide) (fun _ _ _ _ _ => (sg_nm S.nd rfl (Or.inl rfl))) (fun _ _ _ _ _ => sts_nil) (fun _ _ _ _ _ => (se_do d__law_same takes0 hr (by rfl) (sa_cons (se_ix (ix_pIdx hu1) (sv 0) (sv 2) (fun _ _ => rfl)) (sa_cons (se_ix (ix_pIdx hu1) (sv 1) (sv 2) (fun _ _ => rfl)) sa_nil rfl) rfl)))) sa_nil rfl)))))))
    ss_nil)
    (ss_cons (ss_if (st_cmp op_pIs (sv 1) se_non rfl)
    (ss_one (ss_ret (se_cmp op_pIs (sv 0) se_non rfl)))
    ss_nil)
    (ss_cons (ss_if (st_tru (se_isi (by decide) (by rfl) B.isinstance rfl (sv 1) (by rfl) B.bool rfl) (by intro _; rfl))
    (ss_one (ss_ret (se_and (se_isi (by decide) (by rfl) B.isinstance rfl (sv 0) (by rfl) B.bool rfl) (pe_one (se_cmp (op_pEq hu4) (sv 0) (sv 1) rfl)))))
    ss_nil)
    (ss_cons (ss_if (PW.pt (sw_or (st_tru (se_isi (by decide) (by rfl) B.isinstance rfl (sv 0) (by rfl) B.bool rfl) (by intro _; rfl)) (sw_or (st_cmp (op_pNe hu4) (se_isi (by decide) (by rfl) B.isinstance rfl (sv 0) (by rfl) B.int rfl) (se_isi (by decide) (by rfl) B.isinstance rfl (sv 1) (by rfl) B.int rfl) rfl) (pw_or1 (st_cmp (op_pNe hu4) (se_isi (by decide) (by rfl) B.isinstance rfl (sv 0) (by rfl) B.str rfl) (se_isi (by decide) (by rfl) B.isinstance rfl (sv 1) (by rfl) B.str rfl) rfl)))))
    (ss_one (ss_ret se_bl))
    ss_nil)
    (ss_one (ss_ret (se_cmp (op_pEq hu4) (sv 0) (sv 1) rfl)))))))
abbrev st__law_odd : Stmt := top 35
abbrev b__law_odd := C.b__law_odd
abbrev g__law_odd := C.g__law_odd
theorem sc__law_odd : FnScope ["pot", "odd"] ["pot"] (defScope st__law_odd) := ⟨rfl, rfl, rfl, by decide +kernel, rfl, by decide +kernel, by decide +kernel⟩
theorem ok__law_odd {P : Program} {w : World} {K : PySem.W.Frag} {mg : Str → Option Value} {base : Heap} {k : Nat} (B : Blt mg) (Df : Def K mg "_law_odd" st__law_odd ["pot"]) (d__law_draw : Does P w K mg base "_law_draw" ["pot", "many"] k 2 g__law_draw) : Does P w K mg base "_law_odd" ["pot"] (k + 1) 1 g__law_odd := by
  have S := sc__law_odd
  refine Df.does S rfl rfl fun f cdv A outer s H E hr => ?_
  have hu4 := h64 hr
  have hu5 := h65 hr
  have hu1 := h1 hr
  have tk := takes_of (X := cxOf (L2.CX P w) P w K mg base ["pot", "odd"] "_law_odd" (defScope st__law_odd) f cdv A outer s H E) (E := E) rfl rfl rfl rfl
  have pas := passes_of (X := cxOf (L2.CX P w) P w K mg base ["pot", "odd"] "_law_odd" (defScope st__law_odd) f cdv A outer s H E) rfl
  exact (ss_cons (ss_set S.nd rfl (Or.inl rfl) (se_lst (sa_cons se_non (sa_cons se_bl (sa_cons se_bl (sa_cons se_int (sa_cons se_int (sa_cons (se_un un_pNeg se_int) (sa_cons (se_op op_pPow se_int se_int) (sa_cons se_str (sa_cons se_str (sa_cons se_str (sa_cons se_str (sa_cons se_str (sa_cons se_str (sa_cons (se_tup (sa_cons se_str sa_nil rfl)) (sa_cons (se_lst (sa_cons se_str sa_nil rfl)) (sa_cons (se_lst sa_nil) (sa_cons (se_tup sa_nil) (sa_cons se_str (sa_cons se_str (sa_cons se_str sa_nil rfl) rfl) rfl) rfl) rfl) rfl) rfl) rfl) rfl) rfl) rfl) rfl) rfl) rfl) rfl) rfl) rfl) rfl) rfl) rfl)))
    (ss_one (ss_ret (se_ix (ix_pIdx hu1) (sv 1) (se_do d__law_draw tk hr (by rfl) (sa_cons (sv 0) (sa_cons (se_callB c_len (by rfl) B.len rfl (sa_cons (sv 1) sa_nil rfl)) sa_nil rfl) rfl)) (fun _ _ => rfl)))))
abbrev st__law_stranger : Stmt := top 36
abbrev b__law_stranger := C.b__law_stranger
abbrev g__law_stranger := C.g__law_stranger
theorem sc__law_stranger : FnScope ["pot", "graph", "names", "near", "found", "turn", "one"] ["pot", "graph"] (defScope st__law_stranger) := ⟨rfl, rfl, rfl, by decide +kernel, rfl, by decide +kernel, by decide +kernel⟩
theorem ok__law_stranger {P : Program} {w : World} {K : PySem.W.Frag} {mg : Str → Option Value} {base : Heap} {k : Nat} (B : Blt mg) (Df : Def K mg "_law_stranger" st__law_stranger ["pot", "graph"]) (d__law_draw : Does P w K mg base "_law_draw" ["pot", "many"] k 2 g__law_draw) (d__law_is_word : Does P w K mg base "_law_is_word" ["value", "most"] k 2 g__law_is_word) : Does P w K mg base "_law_stranger" ["pot", "graph"] (k + 1) 2 g__law_stranger := by
  have S := sc__law_stranger
  refine Df.does S rfl rfl fun f cdv A outer s H E hr => ?_
  have hu4 := h64 hr
  have hu5 := h65 hr
  have hu1 := h1 hr
  have tk := takes_of (X := cxOf (L2.CX P w) P w K mg base ["pot", "graph", "names", "near", "found", "turn", "one"] "_law_stranger" (defScope st__law_stranger) f cdv A outer s H E) (E := E) rfl rfl rfl rfl
  have pas := passes_of (X := cxOf (L2.CX P w) P w K mg base ["pot", "graph", "names", "near", "found", "turn", "one"] "_law_stranger" (defScope st__law_stranger) f cdv A outer s H E) rfl
  exact (ss_cons (ss_set S.nd rfl (Or.inr rfl) (se_op op_pAdd (se_ix (ix_pIdx hu1) (sv 1) se_int (fun _ _ => rfl)) (se_ix (ix_pIdx hu1) (sv 1) se_int (fun _ _ => rfl))))
    (ss_cons (ss_set S.nd rfl (Or.inl rfl) se_str)
    (ss_cons (ss_if (st_cmp (op_pNe hu4) (sv 2) (se_tup sa_nil) rfl)
    (ss_one (ss_set S.nd rfl (Or.inl rfl) (se_ix (ix_pIdx hu1) (sv 2) (se_do d__law_draw tk hr (by rfl) (sa_cons (sv 0) (sa_cons (se_callB c_len (by rfl) B.len rfl (sa_cons (sv 2) sa_nil rfl)) sa_nil rfl) rfl)) (fun _ _ => rfl))))
    ss_nil)
    (ss_cons (ss_set S.nd rfl (Or.inl rfl) (se_lst (sa_cons (se_op op_pAdd (sv 3) se_str) (sa_cons (se_cut (sv 3) so_none (so_some (se_un un_pNeg se_int))) (sa_cons (se_op op_pAdd (sv 3) se_str) (sa_cons (se_cut (sv 3) (so_some se_int) so_none) (sa_cons se_str sa_nil rfl) rfl) rfl) rfl) rfl)))
    (ss_cons (ss_set S.nd rfl (Or.inl rfl) (se_do d__law_draw tk hr (by rfl) (sa_cons (sv 0) (sa_cons se_int sa_nil rfl) rfl)))
    (ss_cons (ss_set S.nd rfl (Or.inl rfl) (se_op op_pAdd (se_cut (sv 4) (so_some (sv 5)) so_none) (se_lst (sa_cons se_str sa_nil rfl))))
    (ss_one (ss_ret (se_ix (ix_pIdx hu1) (se_lc rfl S.nd (si_any (sv 4)) (blkOk_by (own := [("one", 6)]) (by kernel_rfl)) (by decide) (fun _ _ _ _ _ => (sg_nm S.nd rfl (Or.inl rfl))) (fun _ _ _ _ _ => (sts_one (PW.pt (sw_and (st_tru (se_do d__law_is_word takes0 hr (by rfl) (sa_cons (sv 6) (sa_cons se_int sa_nil rfl) rfl)) (by intro _; rfl)) (pw_and1 (st_cmp (op_pNotIn hu5) (sv 6) (sv 2) rfl)))))) (fun _ _ _ _ _ => (sv 6))) se_int (fun _ _ => rfl))))))))))
abbrev st__law_subset : Stmt := top 37
def b__law_subset : MS :=
    (sRet (eB nTuple (aCons (eB nSorted (aCons (eLc (iAny (eVar 1)) (.nm 2) (tBl (eOp pEq (eCall g__law_draw (aCons (eVar 0) (aCons (eC (.int 2)) aNil))) (eC (.int 0)))) (eVar 2) [2]) aNil)) aNil)))
def g__law_subset : List D → M D := runF 3 2 b__law_subset
theorem sc__law_subset : FnScope ["pot", "names", "name"] ["pot", "names"] (defScope st__law_subset) := ⟨rfl, rfl, rfl, by decide +kernel, rfl, by decide +kernel, by decide +kernel⟩
theorem ok__law_subset {P : Program} {w : World} {K : PySem.W.Frag} {mg : Str → Option Value} {base : Heap} {k : Nat} (B : Blt mg) (Df : Def K mg "_law_subset" st__law_subset ["pot", "names"]) (d__law_draw : Does P w K mg base "_law_draw" ["pot", "many"] k 2 g__law_draw) : Does P w K mg base "_law_subset" ["pot", "names"] (k + 1) 2 g__law_subset := by
  have S := sc__law_subset
  refine Df.does S rfl rfl fun f cdv A outer s H E hr => ?_
  have hu4 := h64 hr
  have hu5 := h65 hr
  have hu1 := h1 hr
  have tk := takes_of (X := cxOf (L2.CX P w) P w K mg base ["pot", "names", "name"] "_law_subset" (defScope st__law_subset) f cdv A outer s H E) (E := E) rfl rfl rfl rfl
  have pas := passes_of (X := cxOf (L2.CX P w) P w K mg base ["pot", "names", "name"] "_law_subset" (defScope st__law_subset) f cdv A outer s H E) rfl
  exact (ss_one (ss_ret (se_callTy c_tuple (by rfl) B.tuple rfl (sa_cons (se_callB (c_sorted hu4) (by rfl) B.sorted rfl (sa_cons (se_lc rfl S.nd (si_any (sv 1)) (blkOk_by (own := [("name", 2)]) (by kernel_rfl)) (by decide) (fun _ _ _ _ _ => (sg_nm S.nd rfl (Or.inl rfl))) (fun _ _ _ _ _ => (sts_one (st_cmp (op_pEq hu4) (se_do d__law_draw takes0 hr (by rfl) (sa_cons (sv 0) (sa_cons se_int sa_nil rfl) rfl)) se_int rfl))) (fun _ _ _ _ _ => (sv 2))) sa_nil rfl)) sa_nil rfl))))
abbrev st__law_bent_row : Stmt := top 38
def b__law_bent_row : MS :=
    (sSeq (sPar 3 4 (aCons (eCall g__law_draw (aCons (eVar 0) (aCons (eOp pAdd (eB nLen (aCons (eVar 1) aNil)) (eC (.int 1))) aNil))) (aCons (eCall g__law_draw (aCons (eVar 0) (aCons (eC (.int 6)) aNil))) aNil)))
    (sSeq (sIf (tAnd' (tBl (eOp pEq (eVar 4) (eC (.int 0)))) (tBl (eOp pLt (eVar 3) (eB nLen (aCons (eVar 1) aNil)))))
    (sRet (eOp pAdd (eCut (eVar 1) oNone (oSome (eOp pAdd (eVar 3) (eC (.int 1))))) (eCut (eVar 1) (oSome (eVar 3)) oNone)))
    sNil)
    (sSeq (sIf (tAnd' (tBl (eOp pEq (eVar 4) (eC (.int 1)))) (tBl (eOp pLt (eOp pAdd (eVar 3) (eC (.int 1))) (eB nLen (aCons (eVar 1) aNil)))))
    (sRet (eOp pAdd (eOp pAdd (eCut (eVar 1) oNone (oSome (eVar 3))) (eTup (aCons (eOp pIdx (eVar 1) (eOp pAdd (eVar 3) (eC (.int 1)))) (aCons (eOp pIdx (eVar 1) (eVar 3)) aNil)))) (eCut (eVar 1) (oSome (eOp pAdd (eVar 3) (eC (.int 2)))) oNone)))
    sNil)
    (sSeq (sIf (tBl (eOp pEq (eVar 4) (eC (.int 2))))
    (sRet (eB nList (aCons (eVar 1) aNil)))
    sNil)
    (sSeq (sIf (tBl (eOp pEq (eVar 4) (eC (.int 3))))
    (sRet (eOp pAdd (eOp pAdd (eCut (eVar 1) oNone (oSome (eVar 3))) (eTup (aCons (eVar 2) aNil))) (eCut (eVar 1) (oSome (eOp pAdd (eVar 3) (eC (.int 1)))) oNone)))
    sNil)
    (sRet (eOp pAdd (eOp pAdd (eCut (eVar 1) oNone (oSome (eVar 3))) (eTup (aCons (eVar 2) aNil))) (eCut (eVar 1) (oSome (eVar 3)) oNone))))))))
def g__law_bent_row : List D → M D := runF 5 3 b__law_bent_row
theorem sc__law_bent_row : FnScope ["pot", "row", "bad", "at", "kind"] ["pot", "row", "bad"] (defScope st__law_bent_row) := ⟨rfl, rfl, rfl, by decide +kernel, rfl, by decide +kernel, by decide +kernel⟩
theorem ok__law_bent_row {P : Program} {w : World} {K : PySem.W.Frag} {mg : Str → Option Value} {base : Heap} {k : Nat} (B : Blt mg) (Df : Def K mg "_law_bent_row" st__law_bent_row ["pot", "row", "bad"]) (d__law_draw : Does P w K mg base "_law_draw" ["pot", "many"] k 2 g__law_draw) : Does P w K mg base "_law_bent_row" ["pot", "row", "bad"] (k + 1) 3 g__law_bent_row := by
  have S := sc__law_bent_row
  refine Df.does S rfl rfl fun f cdv A outer s H E hr => ?_
  have hu4 := h64 hr
  have hu5 := h65 hr
  have hu1 := h1 hr
  have tk := takes_of (X := cxOf (L2.CX P w) P w K mg base ["pot", "row", "bad", "at", "kind"] "_law_bent_row" (defScope st__law_bent_row) f cdv A outer s H E) (E := E) rfl rfl rfl rfl
  have pas := passes_of (X := cxOf (L2.CX P w) P w K mg base ["pot", "row", "bad", "at", "kind"] "_law_bent_row" (defScope st__law_bent_row) f cdv A outer s H E) rfl
  exact (ss_cons (ss_par rfl S.nd rfl rfl (by decide) rfl rfl (sa_cons (se_do d__law_draw tk hr (by rfl) (sa_cons (sv 0) (sa_cons (se_op op_pAdd (se_callB c_len (by rfl) B.len rfl (sa_cons (sv 1) sa_nil rfl)) se_int) sa_nil rfl) rfl)) (sa_cons (se_do d__law_draw tk hr (by rfl) (sa_cons (sv 0) (sa_cons se_int sa_nil rfl) rfl)) sa_nil rfl) rfl) rfl)
    (ss_cons (ss_if (PW.pt (sw_and (st_cmp (op_pEq hu4) (sv 4) se_int rfl) (pw_and1 (st_cmp (op_pLt hu4) (sv 3) (se_callB c_len (by rfl) B.len rfl (sa_cons (sv 1) sa_nil rfl)) rfl))))
    (ss_one (ss_ret (se_op op_pAdd (se_cut (sv 1) so_none (so_some (se_op op_pAdd (sv 3) se_int))) (se_cut (sv 1) (so_some (sv 3)) so_none))))
    ss_nil)
    (ss_cons (ss_if (PW.pt (sw_and (st_cmp (op_pEq hu4) (sv 4) se_int rfl) (pw_and1 (st_cmp (op_pLt hu4) (se_op op_pAdd (sv 3) se_int) (se_callB c_len (by rfl) B.len rfl (sa_cons (sv 1) sa_nil rfl)) rfl))))
    (ss_one (ss_ret (se_op op_pAdd (se_op op_pAdd (se_cut (sv 1) so_none (so_some (sv 3))) (se_tup (sa_cons (se_ix (ix_pIdx hu1) (sv 1) (se_op op_pAdd (sv 3) se_int) (fun _ _ => rfl)) (sa_cons (se_ix (ix_pIdx hu1) (sv 1) (sv 3) (fun _ _ => rfl)) sa_nil rfl) rfl))) (se_cut (sv 1) (so_some (se_op op_pAdd (sv 3) se_int)) so_none))))
    ss_nil)
    (ss_cons (ss_if (st_cmp (op_pEq hu4) (sv 4) se_int rfl)
    (ss_one (ss_ret (se_callTy c_list (by rfl) B.list rfl (sa_cons (sv 1) sa_nil rfl))))
    ss_nil)
    (ss_cons (ss_if (st_cmp (op_pEq hu4) (sv 4) se_int rfl)
    (ss_one (ss_ret (se_op op_pAdd (se_op op_pAdd (se_cut (sv 1) so_none (so_some (sv 3))) (se_tup (sa_cons (sv 2) sa_nil rfl))) (se_cut (sv 1) (so_some (se_op op_pAdd (sv 3) se_int)) so_none))))
    ss_nil)
    (ss_one (ss_ret (se_op op_pAdd (se_op op_pAdd (se_cut (sv 1) so_none (so_some (sv 3))) (se_tup (sa_cons (sv 2) sa_nil rfl))) (se_cut (sv 1) (so_some (sv 3)) so_none)))))))))
abbrev st__law_told : Stmt := top 39
def b__law_told : MS :=
    (sSeq (sSet (.nm 3) (eTup (aCons (eC (.str "other")) aNil)))
    (sSeq (sTry (sIf (tTru (eVar 2))
    (sSet (.nm 3) (eTup (aCons (eC (.str "told")) (aCons (eCall g_freed (aCons (eVar 0) (aCons (eVar 1) aNil))) aNil))))
    (sSet (.nm 3) (eTup (aCons (eC (.str "told")) (aCons (eCallK 1 1 g_sealed (aCons (eVar 0) aNil) (aCons (eVar 1) aNil)) aNil)))))
    [⟨tab [("InvalidNames", true)], some 4, 3, (fun _ fs => (eTup (aCons (eC (.str "names")) (aCons (xIsi true fs) aNil))))⟩])
    (sRet (eVar 3))))
def g__law_told : List D → M D := runF 5 3 b__law_told
theorem sc__law_told : FnScope ["graph", "names", "freeing", "found", "e"] ["graph", "names", "freeing"] (defScope st__law_told) := ⟨rfl, rfl, rfl, by decide +kernel, rfl, by decide +kernel, by decide +kernel⟩
theorem ok__law_told {P : Program} {w : World} {K : PySem.W.Frag} {mg : Str → Option Value} {base : Heap} {k : Nat} (B : Blt mg) (Df : Def K mg "_law_told" st__law_told ["graph", "names", "freeing"]) {a_InvalidNames a_RightError : Addr} (Y : CF K mg a_InvalidNames a_RightError) (D_sealed : Def K mg "sealed" st_sealed ["graph", "names"]) (d_freed : Does P w K mg base "freed" ["graph", "names"] k 2 g_freed) (d_sealed : Does P w K mg base "sealed" ["graph", "names"] k 2 g_sealed) : Does P w K mg base "_law_told" ["graph", "names", "freeing"] (k + 1) 3 g__law_told := by
  have S := sc__law_told
  refine Df.does S rfl rfl fun f cdv A outer s H E hr => ?_
  have hu4 := h64 hr
  have hu5 := h65 hr
  have hu1 := h1 hr
  have tk := takes_of (X := cxOf (L2.CX P w) P w K mg base ["graph", "names", "freeing", "found", "e"] "_law_told" (defScope st__law_told) f cdv A outer s H E) (E := E) rfl rfl rfl rfl
  have pas := passes_of (X := cxOf (L2.CX P w) P w K mg base ["graph", "names", "freeing", "found", "e"] "_law_told" (defScope st__law_told) f cdv A outer s H E) rfl
  exact (ss_cons (ss_set S.nd rfl (Or.inl rfl) (se_tup (sa_cons se_str sa_nil rfl)))
    (ss_cons (ss_try rfl rfl S.nd tk (fun W' pn xe tk' pas' => (ss_one (ss_if (st_tru (sv 2) (by intro _; rfl))
    (ss_one (ss_set S.nd rfl (Or.inl rfl) (se_tup (sa_cons se_str (sa_cons (se_do d_freed tk' hr (by rfl) (sa_cons (sv 0) (sa_cons (sv 1) sa_nil rfl) rfl)) sa_nil rfl) rfl))))
    (ss_one (ss_set S.nd rfl (Or.inl rfl) (se_tup (sa_cons se_str (sa_cons (se_doK (n1 := 1) (n2 := 1) (ks := ["names"]) d_sealed D_sealed (by decide) (fun _ _ _ _ _ _ us ws h1 h2 => match us, ws, h1, h2 with | [_], [_], _, _ => rfl) tk' hr (by rfl) (sa_cons (sv 0) sa_nil rfl) (sk_cons (sv 1) sk_nil)) sa_nil rfl) rfl)))))))
    (cl_as (sub := tab [("InvalidNames", true)]) (val := (fun _ fs => (eTup (aCons (eC (.str "names")) (aCons (xIsi true fs) aNil))))) ⟨by rfl, by decide, Or.inl Y.E_InvalidNames.g⟩ (subs_cons Y.E_InvalidNames Y.E_InvalidNames Y.s_InvalidNames_InvalidNames subs_nil) rfl rfl (by decide) S.nd rfl (Or.inl rfl) (fun a oe cls dd pn m fs hz hf hm => (sx_tup (sx_cons (sx_C pe_str fun _ _ _ => .str _) (sx_cons (sx_isi hz hf rfl (Or.inl rfl) rfl (by rfl) B.isinstance (by rfl) Y.E_RightError.g (fun C hC => by obtain rfl := tab_one (x := "InvalidNames") hm rfl; cases (Y.E_InvalidNames.g.symm.trans hC); exact ⟨Y.xc_InvalidNames, Y.k_InvalidNames_RightError⟩)) sx_nil)))) .nil))
    (ss_one (ss_ret (sv 3)))))
abbrev st__law_are_names : Stmt := top 40
def b__law_are_names : MS :=
    (sSeq (sSet (.nm 2) (eOp pAdd (eOp pIdx (eVar 0) (eC (.int 0))) (eOp pIdx (eVar 0) (eC (.int 1)))))
    (sSeq (sIf (tOr' (tNot' (tTru (eIsi "tuple" (eVar 1)))) (tBl (eOp pNe (eLc (iAny (eVar 1)) (.nm 3) (tBl (eOp pNotIn (eVar 3) (eVar 2))) (eVar 3) [3]) (eLst aNil))))
    (sRet (eC (.bl false)))
    sNil)
    (sRet (eOp pEq (eB nList (aCons (eVar 1) aNil)) (eB nSortSet (aCons (eVar 1) aNil))))))
def g__law_are_names : List D → M D := runF 4 2 b__law_are_names
theorem sc__law_are_names : FnScope ["graph", "value", "known", "one"] ["graph", "value"] (defScope st__law_are_names) := ⟨rfl, rfl, rfl, by decide +kernel, rfl, by decide +kernel, by decide +kernel⟩
theorem ok__law_are_names {P : Program} {w : World} {K : PySem.W.Frag} {mg : Str → Option Value} {base : Heap} {k : Nat} (B : Blt mg) (Df : Def K mg "_law_are_names" st__law_are_names ["graph", "value"]) : Does P w K mg base "_law_are_names" ["graph", "value"] (k + 1) 2 g__law_are_names := by
  have S := sc__law_are_names
  refine Df.does S rfl rfl fun f cdv A outer s H E hr => ?_
  have hu4 := h64 hr
  have hu5 := h65 hr
  have hu1 := h1 hr
  have tk := takes_of (X := cxOf (L2.CX P w) P w K mg base ["graph", "value", "known", "one"] "_law_are_names" (defScope st__law_are_names) f cdv A outer s H E) (E := E) rfl rfl rfl rfl
  have pas := passes_of (X := cxOf (L2.CX P w) P w K mg base ["graph", "value", "known", "one"] "_law_are_names" (defScope st__law_are_names) f cdv A outer s H E) rfl
  exact (ss_cons (ss_set S.nd rfl (Or.inr rfl) (se_op op_pAdd (se_ix (ix_pIdx hu1) (sv 0) se_int (fun _ _ => rfl)) (se_ix (ix_pIdx hu1) (sv 0) se_int (fun _ _ => rfl))))
    (ss_cons (ss_if (PW.pt (sw_or (st_not (st_tru (se_isi (by decide) (by rfl) B.isinstance rfl (sv 1) (by rfl) B.tuple rfl) (by intro _; rfl))) (pw_or1 (st_cmp (op_pNe hu4) (se_lc rfl S.nd (si_any (sv 1)) (blkOk_by (own := [("one", 3)]) (by kernel_rfl)) (by decide) (fun _ _ _ _ _ => (sg_nm S.nd rfl (Or.inl rfl))) (fun _ _ _ _ _ => (sts_one (st_cmp (op_pNotIn hu5) (sv 3) (sv 2) rfl))) (fun _ _ _ _ _ => (sv 3))) (se_lst sa_nil) rfl))))
    (ss_one (ss_ret se_bl))
    ss_nil)
    (ss_one (ss_ret (se_cmp (op_pEq hu4) (se_callTy c_list (by rfl) B.list rfl (sa_cons (sv 1) sa_nil rfl)) (se_sortSet rfl hu4 (by rfl) B.sorted (by rfl) B.set (sv 1)) rfl)))))
abbrev st__law_due : Stmt := top 41
def b__law_due : MS :=
    (sSeq (sIf (tNot' (tTru (eCall g__law_are_names (aCons (eVar 0) (aCons (eVar 1) aNil)))))
    (sRet (eTup (aCons (eC (.str "names")) (aCons (eC (.bl true)) aNil))))
    sNil)
    (sSeq (sSet (.nm 3) (eB nSorted (aCons (eOp pAdd (eOp pIdx (eVar 0) (eC (.int 0))) (eOp pIdx (eVar 0) (eC (.int 1)))) aNil)))
    (sSeq (sSet (.nm 4) (eIf (tTru (eVar 2)) (eLc (iAny (eVar 3)) (.nm 5) (tBl (eOp pIn (eVar 5) (eVar 1))) (eVar 5) [5]) (eLst aNil)))
    (sSeq (sSet (.nm 4) (eOp pAdd (eVar 4) (eLc (iAny (eOp pIdx (eVar 0) (eC (.int 0)))) (.nm 5) (tBl (eOp pNotIn (eVar 5) (eVar 1))) (eVar 5) [5])))
    (sRet (eTup (aCons (eC (.str "told")) (aCons (eTup (aCons (eB nTuple (aCons (eB nSorted (aCons (eVar 4) aNil)) aNil)) (aCons (eB nTuple (aCons (eLc (iAny (eVar 3)) (.nm 5) (tBl (eOp pNotIn (eVar 5) (eVar 4))) (eVar 5) [5]) aNil)) (aCons (eOp pIdx (eVar 0) (eC (.int 2))) aNil)))) aNil))))))))
def g__law_due : List D → M D := runF 6 3 b__law_due
theorem sc__law_due : FnScope ["graph", "names", "freeing", "known", "acting", "one"] ["graph", "names", "freeing"] (defScope st__law_due) := ⟨rfl, rfl, rfl, by decide +kernel, rfl, by decide +kernel, by decide +kernel⟩
theorem ok__law_due {P : Program} {w : World} {K : PySem.W.Frag} {mg : Str → Option Value} {base : Heap} {k : Nat} (B : Blt mg) (Df : Def K mg "_law_due" st__law_due ["graph", "names", "freeing"]) (d__law_are_names : Does P w K mg base "_law_are_names" ["graph", "value"] k 2 g__law_are_names) : Does P w K mg base "_law_due" ["graph", "names", "freeing"] (k + 1) 3 g__law_due := by
  have S := sc__law_due
  refine Df.does S rfl rfl fun f cdv A outer s H E hr => ?_
  have hu4 := h64 hr
  have hu5 := h65 hr
  have hu1 := h1 hr
  have tk := takes_of (X := cxOf (L2.CX P w) P w K mg base ["graph", "names", "freeing", "known", "acting", "one"] "_law_due" (defScope st__law_due) f cdv A outer s H E) (E := E) rfl rfl rfl rfl
  have pas := passes_of (X := cxOf (L2.CX P w) P w K mg base ["graph", "names", "freeing", "known", "acting", "one"] "_law_due" (defScope st__law_due) f cdv A outer s H E) rfl
  exact (ss_cons (ss_if (st_not (st_tru (se_do d__law_are_names tk hr (by rfl) (sa_cons (sv 0) (sa_cons (sv 1) sa_nil rfl) rfl)) (by intro _; rfl)))
    (ss_one (ss_ret (se_tup (sa_cons se_str (sa_cons se_bl sa_nil rfl) rfl))))
    ss_nil)
    (ss_cons (ss_set S.nd rfl (Or.inl rfl) (se_callB (c_sorted hu4) (by rfl) B.sorted rfl (sa_cons (se_op op_pAdd (se_ix (ix_pIdx hu1) (sv 0) se_int (fun _ _ => rfl)) (se_ix (ix_pIdx hu1) (sv 0) se_int (fun _ _ => rfl))) sa_nil rfl)))
    (ss_cons (ss_set S.nd rfl (Or.inr rfl) (se_if (st_tru (sv 2) (by intro _; rfl)) (se_lc rfl S.nd (si_any (sv 3)) (blkOk_by (own := [("one", 5)]) (by kernel_rfl)) (by decide) (fun _ _ _ _ _ => (sg_nm S.nd rfl (Or.inl rfl))) (fun _ _ _ _ _ => (sts_one (st_cmp (op_pIn hu5) (sv 5) (sv 1) rfl))) (fun _ _ _ _ _ => (sv 5))) (se_lst sa_nil)))
    (ss_cons (ss_set S.nd rfl (Or.inr rfl) (se_op op_pAdd (sv 4) (se_lc rfl S.nd (si_any (se_ix (ix_pIdx hu1) (sv 0) se_int (fun _ _ => rfl))) (blkOk_by (own := [("one", 5)]) (by kernel_rfl)) (by decide) (fun _ _ _ _ _ => (sg_nm S.nd rfl (Or.inl rfl))) (fun _ _ _ _ _ => (sts_one (st_cmp (op_pNotIn hu5) (sv 5) (sv 1) rfl))) (fun _ _ _ _ _ => (sv 5)))))
    (ss_one (ss_ret (se_tup (sa_cons se_str (sa_cons (se_tup (sa_cons (se_callTy c_tuple (by rfl) B.tuple rfl (sa_cons (se_callB (c_sorted hu4) (by rfl) B.sorted rfl (sa_cons (sv 4) sa_nil rfl)) sa_nil rfl)) (sa_cons (se_callTy c_tuple (by rfl) B.tuple rfl (sa_cons (se_lc rfl S.nd (si_any (sv 3)) (blkOk_by (own := [("one", 5)]) (by kernel_rfl)) (by decide) (fun _ _ _ _ _ => (sg_nm S.nd rfl (Or.inl rfl))) (fun _ _ _ _ _ => (sts_one (st_cmp (op_pNotIn hu5) (sv 5) (sv 4) rfl))) (fun _ _ _ _ _ => (sv 5))) sa_nil rfl)) (sa_cons (se_ix (ix_pIdx hu1) (sv 0) se_int (fun _ _ => rfl)) sa_nil rfl) rfl) rfl)) sa_nil rfl) rfl))))))))
abbrev st_law : Stmt := top 42
def b_law : MS :=
    (sSeq (sFor (iArgs rng1 (aCons (eB nMax (aCons (eC (.int 4)) (aCons (eB nMin (aCons (eB nLen (aCons (eVar 0) aNil)) (aCons (eC (.int 30)) aNil))) aNil))) aNil)) (.nm 1)
    (sSeq (sSet (.nm 2) (eCall g__law_pot (aCons (eVar 0) (aCons (eVar 1) aNil))))
    (sSeq (sSet (.nm 3) (eCall g__law_graph (aCons (eVar 2) (aCons (eC (.int 8)) (aCons (eC (.int 4)) (aCons (eC (.int 20)) aNil))))))
    (sSeq (sIf (tBl (eOp pEq (eCall g__law_draw (aCons (eVar 2) (aCons (eC (.int 9)) aNil))) (eC (.int 0))))
    (sSet (.nm 3) (eTup (aCons (eTup aNil) (aCons (eTup aNil) (aCons (eTup aNil) aNil)))))
    sNil)
    (sSeq (sPar 4 5 (aCons (eCall g__law_subset (aCons (eVar 2) (aCons (eOp pAdd (eOp pIdx (eVar 3) (eC (.int 0))) (eOp pIdx (eVar 3) (eC (.int 1)))) aNil))) (aCons (eOp pEq (eCall g__law_draw (aCons (eVar 2) (aCons (eC (.int 2)) aNil))) (eC (.int 0))) aNil)))
    (sSeq (sSet (.nm 6) (eCall g__law_due (aCons (eVar 3) (aCons (eVar 4) (aCons (eVar 5) aNil)))))
    (sSeq (sIf (tNot' (tTru (eCall g__law_same (aCons (eCall g__law_told (aCons (eVar 3) (aCons (eVar 4) (aCons (eVar 5) aNil)))) (aCons (eVar 6) aNil)))))
    (sRet (eC (.bl false)))
    sNil)
    (sSeq (sSet (.nm 7) (eOp pIdx (eVar 6) (eC (.int 1))))
    (sSeq (sIf (tNot' (tTru (eCall g__law_same (aCons (eCall g__law_told (aCons (eVar 7) (aCons (eVar 4) (aCons (eNot (eVar 5)) aNil)))) (aCons (eCall g__law_due (aCons (eVar 7) (aCons (eVar 4) (aCons (eNot (eVar 5)) aNil)))) aNil)))))
    (sRet (eC (.bl false)))
    sNil)
    (sFor (iArgs rng1 (aCons (eC (.int 3)) aNil)) (.nm 8)
    (sSeq (sSet (.nm 9) (eCall g__law_bent_row (aCons (eVar 2) (aCons (eVar 4) (aCons (eOp pIdx (eLst (aCons (eCall g__law_odd (aCons (eVar 2) aNil)) (aCons (eCall g__law_stranger (aCons (eVar 2) (aCons (eVar 3) aNil))) aNil))) (eCall g__law_draw (aCons (eVar 2) (aCons (eC (.int 2)) aNil)))) aNil)))))
    (sSeq (sSet (.nm 9) (eOp pIdx (eLst (aCons (eVar 9) (aCons (eVar 9) (aCons (eVar 9) (aCons (eC .non) (aCons (eC (.str "a")) (aCons (eB nList (aCons (eVar 4) aNil)) (aCons (eC (.int 0)) (aCons (eOp pIdx (eVar 3) (eC (.int 2))) (aCons (eTup (aCons (eVar 4) aNil)) aNil)))))))))) (eCall g__law_draw (aCons (eVar 2) (aCons (eC (.int 9)) aNil)))))
    (sIf (tNot' (tTru (eCall g__law_same (aCons (eCall g__law_told (aCons (eVar 3) (aCons (eVar 9) (aCons (eVar 5) aNil)))) (aCons (eCall g__law_due (aCons (eVar 3) (aCons (eVar 9) (aCons (eVar 5) aNil)))) aNil)))))
    (sRet (eC (.bl false)))
    sNil)))))))))))))
    (sRet (eC (.bl true))))
def g_law : List D → M D := runF 10 1 b_law
theorem sc_law : FnScope ["script", "at", "pot", "graph", "names", "freeing", "due", "later", "turn", "bad"] ["script"] (defScope st_law) := ⟨rfl, rfl, rfl, by decide +kernel, rfl, by decide +kernel, by decide +kernel⟩
theorem ok_law {P : Program} {w : World} {K : PySem.W.Frag} {mg : Str → Option Value} {base : Heap} {k : Nat} (B : Blt mg) (Df : Def K mg "law" st_law ["script"]) (d__law_bent_row : Does P w K mg base "_law_bent_row" ["pot", "row", "bad"] k 3 g__law_bent_row) (d__law_draw : Does P w K mg base "_law_draw" ["pot", "many"] k 2 g__law_draw) (d__law_due : Does P w K mg base "_law_due" ["graph", "names", "freeing"] k 3 g__law_due) (d__law_graph : Does P w K mg base "_law_graph" ["pot", "subjects_most", "objects_most", "holds_most"] k 4 g__law_graph) (d__law_odd : Does P w K mg base "_law_odd" ["pot"] k 1 g__law_odd) (d__law_pot : Does P w K mg base "_law_pot" ["script", "at"] k 2 g__law_pot) (d__law_same : Does P w K mg base "_law_same" ["got", "due"] k 2 g__law_same) (d__law_stranger : Does P w K mg base "_law_stranger" ["pot", "graph"] k 2 g__law_stranger) (d__law_subset : Does P w K mg base "_law_subset" ["pot", "names"] k 2 g__law_subset) (d__law_told : Does P w K mg base "_law_told" ["graph", "names", "freeing"] k 3 g__law_told) : Does P w K mg base "law" ["script"] (k + 1) 1 g_law := by
  have S := sc_law
  refine Df.does S rfl rfl fun f cdv A outer s H E hr => ?_
  have hu4 := h64 hr
  have hu5 := h65 hr
  have hu1 := h1 hr
  have tk := takes_of (X := cxOf (L2.CX P w) P w K mg base ["script", "at", "pot", "graph", "names", "freeing", "due", "later", "turn", "bad"] "law" (defScope st_law) f cdv A outer s H E) (E := E) rfl rfl rfl rfl
  have pas := passes_of (X := cxOf (L2.CX P w) P w K mg base ["script", "at", "pot", "graph", "names", "freeing", "due", "later", "turn", "bad"] "law" (defScope st_law) f cdv A outer s H E) rfl
  exact (ss_cons (ss_for pas rfl (si_range1 (by rfl) B.range (sa_cons (se_callB (c_max rfl) (by rfl) B.max rfl (sa_cons se_int (sa_cons (se_callB (c_min rfl) (by rfl) B.min rfl (sa_cons (se_callB c_len (by rfl) B.len rfl (sa_cons (sv 0) sa_nil rfl)) (sa_cons se_int sa_nil rfl) rfl)) sa_nil rfl) rfl)) sa_nil rfl)) (sg_nm S.nd rfl (Or.inl rfl))
    (ss_cons (ss_set S.nd rfl (Or.inl rfl) (se_do d__law_pot tk hr (by rfl) (sa_cons (sv 0) (sa_cons (sv 1) sa_nil rfl) rfl)))
    (ss_cons (ss_set S.nd rfl (Or.inl rfl) (se_do d__law_graph tk hr (by rfl) (sa_cons (sv 2) (sa_cons se_int (sa_cons se_int (sa_cons se_int sa_nil rfl) rfl) rfl) rfl)))
    (ss_cons (ss_if (st_cmp (op_pEq hu4) (se_do d__law_draw tk hr (by rfl) (sa_cons (sv 2) (sa_cons se_int sa_nil rfl) rfl)) se_int rfl)
    (ss_one (ss_set S.nd rfl (Or.inl rfl) (se_tup (sa_cons (se_tup sa_nil) (sa_cons (se_tup sa_nil) (sa_cons (se_tup sa_nil) sa_nil rfl) rfl) rfl))))
    ss_nil)
    (ss_cons (ss_par rfl S.nd rfl rfl (by decide) rfl rfl (sa_cons (se_do d__law_subset tk hr (by rfl) (sa_cons (sv 2) (sa_cons (se_op op_pAdd (se_ix (ix_pIdx hu1) (sv 3) se_int (fun _ _ => rfl)) (se_ix (ix_pIdx hu1) (sv 3) se_int (fun _ _ => rfl))) sa_nil rfl) rfl)) (sa_cons (se_cmp (op_pEq hu4) (se_do d__law_draw tk hr (by rfl) (sa_cons (sv 2) (sa_cons se_int sa_nil rfl) rfl)) se_int rfl) sa_nil rfl) rfl) rfl)
    (ss_cons (ss_set S.nd rfl (Or.inl rfl) (se_do d__law_due tk hr (by rfl) (sa_cons (sv 3) (sa_cons (sv 4) (sa_cons (sv 5) sa_nil rfl) rfl) rfl)))
    (ss_cons (ss_if (st_not (st_tru (se_do d__law_same tk hr (by rfl) (sa_cons (se_do d__law_told tk hr (by rfl) (sa_cons (sv 3) (sa_cons (sv 4) (sa_cons (sv 5) sa_nil rfl) rfl) rfl)) (sa_cons (sv 6) sa_nil rfl) rfl)) (by intro _; rfl)))
    (ss_one (ss_ret se_bl))
    ss_nil)
    (ss_cons (ss_set S.nd rfl (Or.inl rfl) (se_ix (ix_pIdx hu1) (sv 6) se_int (fun _ _ => rfl)))
    (ss_cons (ss_if (st_not (st_tru (se_do d__law_same tk hr (by rfl) (sa_cons (se_do d__law_told tk hr (by rfl) (sa_cons (sv 7) (sa_cons (sv 4) (sa_cons (se_not (sv 5)) sa_nil rfl) rfl) rfl)) (sa_cons (se_do d__law_due tk hr (by rfl) (sa_cons (sv 7) (sa_cons (sv 4) (sa_cons (se_not (sv 5)) sa_nil rfl) rfl) rfl)) sa_nil rfl) rfl)) (by intro _; rfl)))
    (ss_one (ss_ret se_bl))
    ss_nil)
    (ss_one (ss_for pas rfl (si_range1 (by rfl) B.range (sa_cons se_int sa_nil rfl)) (sg_nm S.nd rfl (Or.inl rfl))
    (ss_cons (ss_set S.nd rfl (Or.inl rfl) (se_do d__law_bent_row tk hr (by rfl) (sa_cons (sv 2) (sa_cons (sv 4) (sa_cons (se_ix (ix_pIdx hu1) (se_lst (sa_cons (se_do d__law_odd tk hr (by rfl) (sa_cons (sv 2) sa_nil rfl)) (sa_cons (se_do d__law_stranger tk hr (by rfl) (sa_cons (sv 2) (sa_cons (sv 3) sa_nil rfl) rfl)) sa_nil rfl) rfl)) (se_do d__law_draw tk hr (by rfl) (sa_cons (sv 2) (sa_cons se_int sa_nil rfl) rfl)) (fun _ _ => rfl)) sa_nil rfl) rfl) rfl)))
    (ss_cons (ss_set S.nd rfl (Or.inl rfl) (se_ix (ix_pIdx hu1) (se_lst (sa_cons (sv 9) (sa_cons (sv 9) (sa_cons (sv 9) (sa_cons se_non (sa_cons se_str (sa_cons (se_callTy c_list (by rfl) B.list rfl (sa_cons (sv 4) sa_nil rfl)) (sa_cons se_int (sa_cons (se_ix (ix_pIdx hu1) (sv 3) se_int (fun _ _ => rfl)) (sa_cons (se_tup (sa_cons (sv 4) sa_nil rfl)) sa_nil rfl) rfl) rfl) rfl) rfl) rfl) rfl) rfl) rfl)) (se_do d__law_draw tk hr (by rfl) (sa_cons (sv 2) (sa_cons se_int sa_nil rfl) rfl)) (fun _ _ => rfl)))
    (ss_one (ss_if (st_not (st_tru (se_do d__law_same tk hr (by rfl) (sa_cons (se_do d__law_told tk hr (by rfl) (sa_cons (sv 3) (sa_cons (sv 9) (sa_cons (sv 5) sa_nil rfl) rfl) rfl)) (sa_cons (se_do d__law_due tk hr (by rfl) (sa_cons (sv 3) (sa_cons (sv 9) (sa_cons (sv 5) sa_nil rfl) rfl) rfl)) sa_nil rfl) rfl)) (by intro _; rfl)))
    (ss_one (ss_ret se_bl))
    ss_nil)))))))))))))))
    (ss_one (ss_ret se_bl)))
abbrev lev__law_same : Nat := 18
abbrev frOf {K : PySem.W.Frag} {h : Heap} (_ : K.In h) : PySem.W.Frag := K
theorem law_does {P : Program} {w : World} {K : PySem.W.Frag} {mg : Str → Option Value} (B : Blt mg) {a_InvalidNames a_RightError : Addr} (Y : CF K mg a_InvalidNames a_RightError) {t_LETTERS : Tok} (c_LETTERS : mg "LETTERS" = some (.str "abcdefghijklmnopqrstuvwxyz" t_LETTERS)) {t_MOST_LETTERS : Tok} (c_MOST_LETTERS : mg "MOST_LETTERS" = some (.int 8 t_MOST_LETTERS)) {t_MOST_RIGHT : Tok} (c_MOST_RIGHT : mg "MOST_RIGHT" = some (.int 3 t_MOST_RIGHT)) (D_is_tuple_of : Def K mg "is_tuple_of" st_is_tuple_of ["length", "value"]) (D_is_word : Def K mg "is_word" st_is_word ["value", "most"]) (D_is_name : Def K mg "is_name" st_is_name ["value"]) (D_is_right : Def K mg "is_right" st_is_right ["value"]) (D_is_ascending : Def K mg "is_ascending" st_is_ascending ["values"]) (D_are_names : Def K mg "are_names" st_are_names ["value"]) (D_names_fault : Def K mg "names_fault" st_names_fault ["part", "names", "others"]) (D_is_hold_of : Def K mg "is_hold_of" st_is_hold_of ["names", "value"]) (D_graph_fault : Def K mg "graph_fault" st_graph_fault ["value"]) (D_check_graph : Def K mg "check_graph" st_check_graph ["graph"]) (D_has_name : Def K mg "has_name" st_has_name ["graph", "value"]) (D_check_names : Def K mg "check_names" st_check_names ["graph", "names"]) (D_as_objects : Def K mg "as_objects" st_as_objects ["graph", "names"]) (D_as_subjects : Def K mg "as_subjects" st_as_subjects ["graph", "names"]) (D_sealed : Def K mg "sealed" st_sealed ["graph", "names"]) (D_freed : Def K mg "freed" st_freed ["graph", "names"]) (D__law_pot : Def K mg "_law_pot" st__law_pot ["script", "at"]) (D__law_draw : Def K mg "_law_draw" st__law_draw ["pot", "many"]) (D__law_name : Def K mg "_law_name" st__law_name ["pot"]) (D__law_names : Def K mg "_law_names" st__law_names ["pot", "many"]) (D__law_rights : Def K mg "_law_rights" st__law_rights ["pot"]) (D__law_graph : Def K mg "_law_graph" st__law_graph ["pot", "subjects_most", "objects_most", "holds_most"]) (D__law_is_word : Def K mg "_law_is_word" st__law_is_word ["value", "most"]) (D__law_same : Def K mg "_law_same" st__law_same ["got", "due"]) (D__law_odd : Def K mg "_law_odd" st__law_odd ["pot"]) (D__law_stranger : Def K mg "_law_stranger" st__law_stranger ["pot", "graph"]) (D__law_subset : Def K mg "_law_subset" st__law_subset ["pot", "names"]) (D__law_bent_row : Def K mg "_law_bent_row" st__law_bent_row ["pot", "row", "bad"]) (D__law_told : Def K mg "_law_told" st__law_told ["graph", "names", "freeing"]) (D__law_are_names : Def K mg "_law_are_names" st__law_are_names ["graph", "value"]) (D__law_due : Def K mg "_law_due" st__law_due ["graph", "names", "freeing"]) (D_law : Def K mg "law" st_law ["script"]) (base : Heap) : Does P w K mg base "law" ["script"] 19 1 g_law := by
  have d_is_tuple_of : Does P w K mg base "is_tuple_of" ["length", "value"] 2 2 g_is_tuple_of := ok_is_tuple_of (k := 1) B D_is_tuple_of
  have d_is_word : Does P w K mg base "is_word" ["value", "most"] 2 2 g_is_word := ok_is_word (k := 1) B D_is_word c_LETTERS
  have d_is_name : Does P w K mg base "is_name" ["value"] 3 1 g_is_name := ok_is_name (k := 2) B D_is_name c_MOST_LETTERS (d_is_word.mono (by decide))
  have d_is_right : Does P w K mg base "is_right" ["value"] 3 1 g_is_right := ok_is_right (k := 2) B D_is_right c_MOST_RIGHT (d_is_word.mono (by decide))
  have d_is_ascending : Does P w K mg base "is_ascending" ["values"] 2 1 g_is_ascending := ok_is_ascending (k := 1) B D_is_ascending
  have d_are_names : Does P w K mg base "are_names" ["value"] 4 1 g_are_names := ok_are_names (k := 3) B D_are_names (d_is_ascending.mono (by decide)) (d_is_name.mono (by decide))
  have d_names_fault : Does P w K mg base "names_fault" ["part", "names", "others"] 4 3 g_names_fault := ok_names_fault (k := 3) B D_names_fault (d_is_name.mono (by decide))
  have d_is_hold_of : Does P w K mg base "is_hold_of" ["names", "value"] 4 2 g_is_hold_of := ok_is_hold_of (k := 3) B D_is_hold_of (d_is_name.mono (by decide)) (d_is_right.mono (by decide)) (d_is_tuple_of.mono (by decide))
  have d_graph_fault : Does P w K mg base "graph_fault" ["value"] 5 1 g_graph_fault := ok_graph_fault (k := 4) B D_graph_fault (d_is_hold_of.mono (by decide)) (d_is_tuple_of.mono (by decide)) (d_names_fault.mono (by decide))
  have d_check_graph : Does P w K mg base "check_graph" ["graph"] 6 1 g_check_graph := ok_check_graph (k := 5) B D_check_graph (d_graph_fault.mono (by decide))
  have d_has_name : Does P w K mg base "has_name" ["graph", "value"] 4 2 g_has_name := ok_has_name (k := 3) B D_has_name (d_is_name.mono (by decide))
  have d_check_names : Does P w K mg base "check_names" ["graph", "names"] 5 2 g_check_names := ok_check_names (k := 4) B D_check_names Y (d_are_names.mono (by decide)) (d_has_name.mono (by decide))
  have d_as_objects : Does P w K mg base "as_objects" ["graph", "names"] 2 2 g_as_objects := ok_as_objects (k := 1) B D_as_objects
  have d_as_subjects : Does P w K mg base "as_subjects" ["graph", "names"] 2 2 g_as_subjects := ok_as_subjects (k := 1) B D_as_subjects
  have d_sealed : Does P w K mg base "sealed" ["graph", "names"] 7 2 g_sealed := ok_sealed (k := 6) B D_sealed (d_as_objects.mono (by decide)) (d_check_graph.mono (by decide)) (d_check_names.mono (by decide))
  have d_freed : Does P w K mg base "freed" ["graph", "names"] 7 2 g_freed := ok_freed (k := 6) B D_freed (d_as_subjects.mono (by decide)) (d_check_graph.mono (by decide)) (d_check_names.mono (by decide))
  have d__law_pot : Does P w K mg base "_law_pot" ["script", "at"] 2 2 g__law_pot := ok__law_pot (k := 1) B D__law_pot
  have d__law_draw : Does P w K mg base "_law_draw" ["pot", "many"] 2 2 g__law_draw := ok__law_draw (k := 1) B D__law_draw
  have d__law_name : Does P w K mg base "_law_name" ["pot"] 3 1 g__law_name := ok__law_name (k := 2) B D__law_name (d__law_draw.mono (by decide))
  have d__law_names : Does P w K mg base "_law_names" ["pot", "many"] 4 2 g__law_names := ok__law_names (k := 3) B D__law_names (d__law_name.mono (by decide))
  have d__law_rights : Does P w K mg base "_law_rights" ["pot"] 3 1 g__law_rights := ok__law_rights (k := 2) B D__law_rights (d__law_draw.mono (by decide))
  have d__law_graph : Does P w K mg base "_law_graph" ["pot", "subjects_most", "objects_most", "holds_most"] 5 4 g__law_graph := ok__law_graph (k := 4) B D__law_graph (d__law_draw.mono (by decide)) (d__law_names.mono (by decide)) (d__law_rights.mono (by decide))
  have d__law_is_word : Does P w K mg base "_law_is_word" ["value", "most"] 2 2 g__law_is_word := ok__law_is_word (k := 1) B D__law_is_word
  have d__law_same : Does P w K mg base "_law_same" ["got", "due"] (1 + 17) 2 g__law_same := by
    have recur : ∀ m, Does P w K mg base "_law_same" ["got", "due"] (1 + m) 2 (f__law_same m) := by
      intro m
      induction m with
      | zero => exact D__law_same.bad rfl
      | succ m ih => exact ok__law_same B D__law_same ih
    exact (recur 16).mono (by omega)
  have d__law_odd : Does P w K mg base "_law_odd" ["pot"] 3 1 g__law_odd := ok__law_odd (k := 2) B D__law_odd (d__law_draw.mono (by decide))
  have d__law_stranger : Does P w K mg base "_law_stranger" ["pot", "graph"] 3 2 g__law_stranger := ok__law_stranger (k := 2) B D__law_stranger (d__law_draw.mono (by decide)) (d__law_is_word.mono (by decide))
  have d__law_subset : Does P w K mg base "_law_subset" ["pot", "names"] 3 2 g__law_subset := ok__law_subset (k := 2) B D__law_subset (d__law_draw.mono (by decide))
  have d__law_bent_row : Does P w K mg base "_law_bent_row" ["pot", "row", "bad"] 3 3 g__law_bent_row := ok__law_bent_row (k := 2) B D__law_bent_row (d__law_draw.mono (by decide))
  have d__law_told : Does P w K mg base "_law_told" ["graph", "names", "freeing"] 8 3 g__law_told := ok__law_told (k := 7) B D__law_told Y D_sealed (d_freed.mono (by decide)) (d_sealed.mono (by decide))
  have d__law_are_names : Does P w K mg base "_law_are_names" ["graph", "value"] 2 2 g__law_are_names := ok__law_are_names (k := 1) B D__law_are_names
  have d__law_due : Does P w K mg base "_law_due" ["graph", "names", "freeing"] 3 3 g__law_due := ok__law_due (k := 2) B D__law_due (d__law_are_names.mono (by decide))
  have d_law : Does P w K mg base "law" ["script"] 19 1 g_law := ok_law (k := 18) B D_law (d__law_bent_row.mono (by decide)) (d__law_draw.mono (by decide)) (d__law_due.mono (by decide)) (d__law_graph.mono (by decide)) (d__law_odd.mono (by decide)) (d__law_pot.mono (by decide)) (d__law_same.mono (by decide)) (d__law_stranger.mono (by decide)) (d__law_subset.mono (by decide)) (d__law_told.mono (by decide))
  exact d_law
end R

end

/-! k05, part a: what is no name; names as the program tells them. -/
namespace Mini
open PySem L2 PySem.W
/-- what may stand in a row that is handed in -/
def Itm (S : Store) (d : D) : Prop := (Clo d ∧ (∀ x, d = .str x → x.length ≤ lim) ∧ (eP d).canLay0 = true ∧ (eP d).depth ≤ 8) ∨ ∃ h xs, d = .ref h ∧ S[h]? = some (.lst xs) ∧ (xs = [] ∨ xs = [.str "a"])
theorem Itm.kp {S S' : Store} {d : D} (i : Itm S d) (k : Kp [] S S') : Itm S' d := i.imp id fun ⟨h, xs, e, e1, e2⟩ => ⟨h, xs, e, k.get _ _ (fun z => nomatch z) e1, e2⟩
theorem clo_noref {h : Nat} (c : Clo (.ref h)) : False := by
  obtain ⟨p, e⟩ := c
  have := e (fun _ => none)
  cases this
theorem Itm.dat {S : Store} {d : D} (i : Itm S d) : Dat S d := by
  rcases i with ⟨c, s, _⟩ | ⟨h, xs, rfl, e, _⟩
  · cases d with
    | str x => exact s x rfl
    | ref h => exact (clo_noref c).elim
    | _ => trivial
  · exact ⟨xs, e⟩
theorem Itm.reads {S : Store} {d : D} (i : Itm S d) : ∃ p, toP S d = some p ∧ p.canLay0 = true ∧ p.depth ≤ 8 := by
  rcases i with ⟨c, _, s, t⟩ | ⟨h, xs, rfl, e, e2⟩
  · exact ⟨eP d, (c.enc S).2, s, t⟩
  · refine ⟨.list (xs.map eP), ?_, ?_, ?_⟩
    · show deref 8 S h = _
      unfold deref
      simp only [e]
      rcases e2 with rfl | rfl <;> rfl
    · rcases e2 with rfl | rfl
      · rfl
      · exact canAll_names (xs := ["a"]) (by decide +kernel)
    · rcases e2 with rfl | rfl
      · simp [PyData.depth, PyData.depthAll]
      · simp [PyData.depth, PyData.depthAll, eP_str]
theorem shaped8 {p : PyData} (h : p.canLay0 = true) (d : p.depth ≤ 8) : SeqAt.shaped p = true := by
  unfold SeqAt.shaped
  rw [h, decide_eq_true (by omega)]; rfl
theorem itm_str {S : Store} {x : Str} (h : x.length ≤ lim) (o : PyData.strOk x = true) : Itm S (.str x) := .inl ⟨clo_str x, (fun y e => by cases e; exact h), by rw [eP_str]; exact o, by rw [eP_str]; simp [PyData.depth]⟩
/-- a value that is handed in -/
def Val (S : Store) (v : D) : Prop := Dat S v ∧ ∀ xs, v = .tup xs → xs.length ≤ 1000 ∧ ∀ d ∈ xs, Itm S d
theorem Val.kp {S S' : Store} {v : D} (q : Val S v) (k : Kp [] S S') : Val S' v := by
  refine ⟨?_, fun xs e => ⟨(q.2 xs e).1, fun d m => ((q.2 xs e).2 d m).kp k⟩⟩
  have := q.1
  cases v with
  | ref h => obtain ⟨xs, e⟩ := this; exact ⟨xs, k.get _ _ (fun z => nomatch z) e⟩
  | _ => exact this
/-- ascending names of the graph -/
def Good (G : Gr) (v : D) (xs : List Str) : Prop := v = .tup (nD xs) ∧ asc (nD xs) ∧ ∀ x ∈ xs, x ∈ G.A ++ G.O
/-- the graph with names sealed, freed -/
def Res (G : Gr) (xs : List Str) (free : Bool) (G' : Gr) : Prop := asc (nD G'.A) ∧ asc (nD G'.O) ∧ G'.H = G.H ∧ ∀ x,
  (x ∈ G'.A ↔ if free = true then x ∈ G.A ∨ (x ∈ G.O ∧ x ∈ xs) else x ∈ G.A ∧ x ∉ xs) ∧ (x ∈ G'.O ↔ if free = true then x ∈ G.O ∧ x ∉ xs else x ∈ G.O ∨ (x ∈ G.A ∧ x ∈ xs))
theorem res_uniq {G G1 G2 : Gr} {xs : List Str} {f : Bool} (r1 : Res G xs f G1) (r2 : Res G xs f G2) : G1.d = G2.d := by
  have eA : nD G1.A = nD G2.A := asc_uniq (nD_uni _) r1.1 r2.1 fun d => by
    constructor
    · intro m
      obtain ⟨x, mx, rfl⟩ := List.mem_map.mp m
      exact nD_mem.mpr (((r2.2.2.2 x).1).mpr (((r1.2.2.2 x).1).mp mx))
    · intro m
      obtain ⟨x, mx, rfl⟩ := List.mem_map.mp m
      exact nD_mem.mpr (((r1.2.2.2 x).1).mpr (((r2.2.2.2 x).1).mp mx))
  have eO : nD G1.O = nD G2.O := asc_uniq (nD_uni _) r1.2.1 r2.2.1 fun d => by
    constructor
    · intro m
      obtain ⟨x, mx, rfl⟩ := List.mem_map.mp m
      exact nD_mem.mpr (((r2.2.2.2 x).2).mpr (((r1.2.2.2 x).2).mp mx))
    · intro m
      obtain ⟨x, mx, rfl⟩ := List.mem_map.mp m
      exact nD_mem.mpr (((r1.2.2.2 x).2).mpr (((r2.2.2.2 x).2).mp mx))
  unfold Gr.d
  rw [eA, eO, r1.2.2.1, r2.2.2.1]
theorem res_mem {G G' : Gr} {xs : List Str} {f : Bool} (o : G.Ok) (r : Res G xs f G') (x : Str) : x ∈ G'.A ++ G'.O ↔ x ∈ G.A ++ G.O := by
  rw [List.mem_append, List.mem_append, (r.2.2.2 x).1, (r.2.2.2 x).2]
  cases f with
  | true =>
    simp only [if_true]
    by_cases h : x ∈ xs <;> simp [h]
  | false =>
    simp only [Bool.false_eq_true, if_false]
    by_cases h : x ∈ xs
    · simp [h, or_comm]
    · simp [h]
theorem res_ok {G G' : Gr} {xs : List Str} {f : Bool} (o : G.Ok) (r : Res G xs f G') : G'.Ok := by
  have m := res_mem o r
  have dis : ∀ x ∈ G'.A, x ∉ G'.O := by
    intro x a b
    rw [(r.2.2.2 x).1] at a
    rw [(r.2.2.2 x).2] at b
    cases f with
    | true =>
      simp only [if_true] at a b
      rcases a with a | a
      · exact o.dis x a b.1
      · exact b.2 a.2
    | false =>
      simp only [Bool.false_eq_true, if_false] at a b
      rcases b with b | b
      · exact o.dis x a.1 b
      · exact a.2 b.2
  have nd' : (G'.A ++ G'.O).Nodup := List.nodup_append.mpr ⟨nD_nodup.mp r.1.nodup, nD_nodup.mp r.2.1.nodup, fun a ha b hb e => dis a ha (e ▸ hb)⟩
  have nd : (G.A ++ G.O).Nodup := List.nodup_append.mpr ⟨nD_nodup.mp o.ascA.nodup, nD_nodup.mp o.ascO.nodup, fun a ha b hb e => o.dis a ha (e ▸ hb)⟩
  have p : (G'.A ++ G'.O).Perm (G.A ++ G.O) := (List.perm_ext_iff_of_nodup nd' nd).mpr m
  refine ⟨r.1, r.2.1, r.2.2.1 ▸ o.ascH, dis, fun x h => o.wd x ((m x).mp h), fun h mh => ?_, by rw [p.length_eq]; exact o.len, r.2.2.1 ▸ o.lenH⟩
  rw [r.2.2.1] at mh
  have := o.of h mh
  exact ⟨(m _).mpr this.1, (m _).mpr this.2.1, this.2.2⟩
end Mini

/-! k05, part b: the program's check of names. -/
namespace Mini
open PySem L2 PySem.W PyProof.Rows
def isTup : D → Bool
  | .tup _ => true
  | _ => false
theorem isi_tup2 {S : Store} {d : D} (h : Dat S d) : pIsi "tuple" d S = some (.bl (isTup d), S) := by
  rw [isi_tup h]
  cases d <;> rfl
theorem lt_tr {a b c : PyData} (h1 : dataLt a b = true) (h2 : dataLt b c = true) : dataLt a c = true := (listOrd itemOrd).trans (keyToks a) (keyToks b) (keyToks c) h1 h2
theorem gd {ys : List Str} {i : Nat} (h : i < ys.length) : ys.getD i "" = ys[i] := by simp [List.getD, List.getElem?_eq_getElem h]
def ltAt (ys : List Str) : D → Bool
  | .int i => decide ((ys.getD i.toNat "").cps.toList < (ys.getD (i.toNat + 1) "").cps.toList)
  | _ => false
theorem asc_iff (ys : List Str) : asc (nD ys) ↔ ((List.range (ys.length - 1)).map fun i : Nat => D.int i).all (ltAt ys) = true := by
  rw [List.all_eq_true]
  constructor
  · intro a d m
    obtain ⟨i, mi, rfl⟩ := List.mem_map.mp m
    have hi := List.mem_range.mp mi
    simp only [ltAt, Int.toNat_natCast, decide_eq_true_eq]
    rw [gd (show i < ys.length by omega), gd (show i + 1 < ys.length by omega)]
    refine lt_names (asc_get a (i := i) (j := i + 1) ?_ ?_ (by omega)) <;>
    · unfold nD; rw [List.getElem?_map, List.getElem?_eq_getElem (by omega)]; rfl
  · intro h
    have step : ∀ i (l : i + 1 < ys.length), dataLt (eP (.str ys[i])) (eP (.str ys[i + 1])) = true := by
      intro i l
      have := h _ (List.mem_map.mpr ⟨i, List.mem_range.mpr (by omega), rfl⟩)
      simp only [ltAt, Int.toNat_natCast, decide_eq_true_eq] at this
      rw [gd (show i < ys.length by omega), gd (show i + 1 < ys.length by omega)] at this
      rw [eP_str, eP_str, dataLt_str]
      exact decide_eq_true this
    have far : ∀ k i (l : i + k + 1 < ys.length), dataLt (eP (.str ys[i])) (eP (.str ys[i + k + 1])) = true := by
      intro k
      induction k with
      | zero => intro i l; exact step i l
      | succ k ih =>
        intro i l
        exact lt_tr (ih i (by omega)) (step (i + k + 1) (by omega))
    unfold asc
    rw [List.pairwise_iff_getElem]
    intro i j hi hj hij
    have hj' : j < ys.length := by rw [nD_len] at hj; exact hj
    obtain ⟨k, rfl⟩ : ∃ k, j = i + k + 1 := ⟨j - i - 1, by omega⟩
    simp only [nD, List.getElem_map]
    exact far k i (by omega)
theorem idxNT {S : Store} {ys : List Str} {i : Nat} (h : i < ys.length) : pIdx (.tup (nD ys)) (.int i) S = some (.str ys[i], S) := idxT (atI_nat (by unfold nD; rw [List.getElem?_map, List.getElem?_eq_getElem h]; rfl))
theorem is_ascending_spec {S : Store} {ys : List Str} {X : XP} (hl : ys.length ≤ 1000) : ok (R.g_is_ascending [.tup (nD ys)] S) (fun r S' => ∃ b, r = .bl b ∧ (b = true ↔ asc (nD ys)) ∧ Kp [] S S') X := by
  unfold R.g_is_ascending
  rw [run1]
  unfold R.b_is_ascending
  rw [so_ret]
  refine ok_all (xs := (List.range (ys.length - 1)).map fun i : Nat => D.int i) (it := .rng 0 (ys.length - 1)) (ltAt ys) (fun Q => ?_) (by rw [List.length_map, List.length_range]; unfold lim; omega) (fun i S' _ => rng_nx i S') (fun x S1 mx k1 => ?_) fun S1 k1 => ⟨_, rfl, (asc_iff ys).symm, k1⟩
  · rw [ok_iArgs, ok_aCons, ok_eOp, ok_eB, ok_aCons, ok_eVar (d := .tup (nD ys)) (by rfl), ok_aNil]
    have e : rng1 [.int ((ys.length : Int) - 1)] = some (.rng 0 (ys.length - 1)) := by
      have z : fits62 ((ys.length : Int) - 1) = true := by
        unfold fits62
        rw [Bool.and_eq_true, decide_eq_true_eq, decide_eq_true_eq]
        omega
      simp only [rng1, z, if_true]
      congr 2
      omega
    refine propext ⟨fun ⟨p, e1, q⟩ => ?_, fun q => ?_⟩
    · rw [lenT, nD_len] at e1
      cases e1
      rw [ok_eC] at q
      obtain ⟨p, e2, q⟩ := q
      cases e2
      rw [ok_aNil] at q
      obtain ⟨it, e3, q⟩ := q
      rw [e] at e3
      cases e3
      exact q
    · refine ⟨_, lenT, ?_⟩
      rw [ok_eC]
      refine ⟨_, subI, ?_⟩
      rw [ok_aNil, nD_len]
      exact ⟨_, e, q⟩
  · obtain ⟨i, mi, rfl⟩ := List.mem_map.mp mx
    have hi := List.mem_range.mp mi
    refine ⟨_, rfl, ?_⟩
    rw [ok_eOp, ok_eOp, ok_eVar (d := .tup (nD ys)) (by rfl), ok_eVar (d := .int i) (by rfl)]
    refine ⟨_, idxNT (by omega), ?_⟩
    rw [ok_eOp, ok_eVar (d := .tup (nD ys)) (by rfl), ok_eOp, ok_eVar (d := .int i) (by rfl), ok_eC]
    refine ⟨_, addI, _, (by rw [show (i : Int) + 1 = ((i + 1 : Nat) : Int) from rfl]; exact idxNT (by omega)), _, ltS, Kp.refl, ?_⟩
    simp only [ltAt, Int.toNat_natCast]
    simp only [gd (show i < ys.length by omega), gd (show i + 1 < ys.length by omega)]
theorem all_wd {m : Nat} {xs : List D} : xs.all (isWd m) = true ↔ ∃ ys, xs = nD ys ∧ ∀ y ∈ ys, Wd m y := by
  rw [List.all_eq_true]
  constructor
  · intro h
    obtain ⟨ys, rfl⟩ := nD_inv (xs := xs) fun d md => by
      have := h d md
      cases d with
      | str x => exact ⟨x, rfl⟩
      | _ => cases this
    exact ⟨ys, rfl, fun y my => isWd_iff.mp (h _ (nD_mem.mpr my))⟩
  · rintro ⟨ys, rfl, h⟩ d md
    obtain ⟨y, my, rfl⟩ := List.mem_map.mp md
    exact isWd_iff.mpr (h y my)
theorem are_names_spec {S : Store} {v : D} {X : XP} (q : Val S v) : ok (R.g_are_names [v] S) (fun r S' => ∃ b, r = .bl b ∧ (b = true ↔ ∃ ys, v = .tup (nD ys) ∧ (∀ y ∈ ys, Wd 8 y) ∧ asc (nD ys)) ∧ Kp [] S S') X := by
  unfold R.g_are_names
  rw [run1]
  unfold R.b_are_names
  rw [so_ret, ok_eAnd, ok_eIsi, ok_eVar (d := v) (by rfl)]
  refine ⟨_, isi_tup2 q.1, _, rfl, ?_⟩
  by_cases ht : ∃ xs, v = .tup xs
  · obtain ⟨xs, rfl⟩ := ht
    obtain ⟨lx, ix⟩ := q.2 xs rfl
    rw [show isTup (.tup xs) = true from rfl, if_pos rfl, ok_eAnd]
    refine ok_all (xs := xs) (it := .tup xs) (isWd 8) (anyV (d := .tup xs) (by rfl) rfl) (by unfold lim; omega) (fun i S' _ => rfl) (fun x S1 mx k1 => ⟨_, rfl, ?_⟩) fun S1 k1 => ⟨_, rfl, ?_⟩
    · rw [ok_eCall, ok_aCons, ok_eVar (d := x) (by rfl), ok_aNil]
      exact ok_mono (is_name_spec ((ix x mx).kp k1).dat) (fun r S2 hr => ⟨hr.2, hr.1⟩) fun _ _ _ z => z
    · by_cases ha : xs.all (isWd 8) = true
      · obtain ⟨ys, rfl, wy⟩ := all_wd.mp ha
        rw [if_pos ha, ok_eCall, ok_aCons, ok_eVar (d := .tup (nD ys)) (by rfl), ok_aNil]
        refine ok_mono (is_ascending_spec (by rw [nD_len] at lx; exact lx)) (fun r S2 hr => ?_) fun _ _ _ z => z
        obtain ⟨b, rfl, hb, k2⟩ := hr
        refine ⟨b, rfl, hb.trans ⟨fun a => ⟨ys, rfl, wy, a⟩, fun ⟨zs, e, _, a⟩ => ?_⟩, k1.trans k2⟩
        rw [D.tup.inj e]; exact a
      · rw [if_neg ha, ok_pur]
        refine ⟨false, rfl, ⟨(fun z => nomatch z), fun ⟨zs, e, w, a⟩ => absurd (all_wd.mpr ⟨zs, D.tup.inj e, w⟩) ha⟩, k1⟩
  · have e : isTup v = false := by
      cases v with
      | tup xs => exact absurd ⟨xs, rfl⟩ ht
      | _ => rfl
    rw [e, if_neg (by decide), ok_pur]
    exact ⟨false, rfl, ⟨(fun z => nomatch z), fun ⟨zs, e, _⟩ => absurd ⟨_, e⟩ ht⟩, Kp.refl⟩
theorem has_name_spec {S : Store} {G : Gr} {x : Str} {X : XP} (o : G.Ok) (w : Wd 8 x) : ok (C.g_has_name [G.d, .str x] S) (fun r S' => r = .bl (decide (x ∈ G.A ++ G.O)) ∧ Kp [] S S') X := by
  unfold C.g_has_name
  rw [run2]
  unfold C.b_has_name
  rw [so_ret, ok_eAnd, ok_eCall, ok_aCons, ok_eVar (d := .str x) (by rfl), ok_aNil]
  refine ok_mono (is_name_spec (d := .str x) (w.fits (by decide))) (fun r S1 hr => ?_) fun _ _ _ z => z
  obtain ⟨rfl, k1⟩ := hr
  rw [isWd_iff.mpr w]
  refine ⟨_, rfl, ?_⟩
  rw [if_pos rfl, ok_eOr, ok_eOp, ok_eVar (d := .str x) (by rfl), ok_eOp, ok_eVar (d := G.d) (by rfl), ok_eC]
  refine ⟨(.tup (nD G.A), S1), rfl, _, inT (fun y m => o.strOk y (List.mem_append_left _ m)) (p := .str x) rfl (shaped_str w.strOk), _, rfl, ?_⟩
  by_cases hA : x ∈ G.A
  · rw [show memN G.A (.str x) = true from decide_eq_true hA, if_pos rfl, ok_pur]
    exact ⟨by rw [decide_eq_true (List.mem_append_left _ hA)], k1⟩
  · rw [show memN G.A (.str x) = false from decide_eq_false hA, if_neg (by decide), ok_eOp, ok_eVar (d := .str x) (by rfl), ok_eOp, ok_eVar (d := G.d) (by rfl), ok_eC]
    refine ⟨(.tup (nD G.O), S1), rfl, _, inT (fun y m => o.strOk y (List.mem_append_right _ m)) (p := .str x) rfl (shaped_str w.strOk), ?_, k1⟩
    show D.bl (decide (x ∈ G.O)) = _
    simp [hA]
theorem check_names_spec {S : Store} {G : Gr} {v : D} {Q : D → Store → Prop} {X : XP} (o : G.Ok) (q : Val S v) (good : ∀ xs S', Good G v xs → Kp [] S S' → Q .non S') (bad : ∀ S', (∀ xs, ¬ Good G v xs) → Kp [] S S' → X "InvalidNames" [] S') : ok (R.g_check_names [G.d, v] S) Q X := by
  unfold R.g_check_names
  rw [run2]
  unfold R.b_check_names
  rw [so_if, ok_tOr, ok_tNot, ok_tTru, ok_eCall, ok_aCons, ok_eVar (d := v) (by rfl), ok_aNil]
  refine ok_mono (are_names_spec q) (fun r S1 hr => ?_) fun _ _ _ z => z
  obtain ⟨b, rfl, hb, k1⟩ := hr
  refine ⟨b, rfl, ?_⟩
  cases b with
  | false =>
    rw [show (!false) = true from rfl, if_pos rfl, ok_pur, if_pos rfl, so_raise0]
    refine bad S1 (fun xs g => ?_) k1
    have := hb.mpr ⟨xs, g.1, fun y m => o.wd y (g.2.2 y m), g.2.1⟩
    cases this
  | true =>
    obtain ⟨ys, rfl, wy, ay⟩ := hb.mp rfl
    have ly : ys.length ≤ 1000 := by have := (q.2 _ rfl).1; rw [nD_len] at this; exact this
    rw [show (!true) = false from rfl, if_neg (by decide), ok_tNot, ok_tTru]
    refine ok_all (xs := nD ys) (it := .tup (nD ys)) (fun d => memN (G.A ++ G.O) d) (anyV (d := .tup (nD ys)) (by rfl) rfl) (by rw [nD_len]; unfold lim; omega) (fun i S' _ => rfl) (fun x S2 mx k2 => ⟨_, rfl, ?_⟩) fun S2 k2 => ⟨_, rfl, ?_⟩
    · obtain ⟨y, my, rfl⟩ := List.mem_map.mp mx
      rw [ok_eCall, ok_aCons, ok_eVar (d := G.d) (by rfl), ok_aCons, ok_eVar (d := .str y) (by rfl), ok_aNil]
      exact ok_mono (has_name_spec o (wy y my)) (fun r S3 hr => ⟨hr.2, hr.1⟩) fun _ _ _ z => z
    · by_cases h : (nD ys).all (fun d => memN (G.A ++ G.O) d) = true
      · rw [h, show (!true) = false from rfl, if_neg (by decide), so_nil]
        exact good ys S2 ⟨rfl, ay, fun x m => nD_mem.mp (memN_iff.mp (List.all_eq_true.mp h _ (nD_mem.mpr m)))⟩ (k1.trans k2)
      · rw [Bool.not_eq_true] at h
        rw [h, show (!false) = true from rfl, if_pos rfl, so_raise0]
        refine bad S2 (fun xs g => ?_) (k1.trans k2)
        have e : nD ys = nD xs := D.tup.inj g.1
        rw [e] at h
        have : (nD xs).all (fun d => memN (G.A ++ G.O) d) = true := List.all_eq_true.mpr fun d m => by
          obtain ⟨x, mx, rfl⟩ := List.mem_map.mp m
          exact memN_iff.mpr (nD_mem.mpr (g.2.2 x mx))
        rw [this] at h
        cases h
end Mini

/-! k05, part c: sealed, freed, told. -/
namespace Mini
open PySem L2 PySem.W
theorem inN {S : Store} {xs : List Str} {x : Str} (h : ∀ y ∈ xs, PyData.strOk y = true) (w : PyData.strOk x = true) : pIn (.str x) (.tup (nD xs)) S = some (.bl (decide (x ∈ xs)), S) := inT h (p := .str x) rfl (shaped_str w)
theorem ninN {S : Store} {xs : List Str} {x : Str} (h : ∀ y ∈ xs, PyData.strOk y = true) (w : PyData.strOk x = true) : pNotIn (.str x) (.tup (nD xs)) S = some (.bl (!decide (x ∈ xs)), S) := ninT h (p := .str x) rfl (shaped_str w)
theorem anyI {i : Nat} {j : Int} {ρ : Env} {S : Store} {X : XP} {xs ys : List D} (h : ρ[i]? = some (some (.tup xs))) (e : L2.atI xs j = some (.tup ys)) : ∀ Q, ok (iAny (eOp pIdx (eVar i) (eC (.int j))) ρ S) Q X = Q (.tup ys) S := fun Q => by
  rw [ok_iAny, ok_eOp, ok_eVar h, ok_eC]
  exact propext ⟨fun ⟨_, e1, it, e2, q⟩ => by rw [idxT e] at e1; cases e1; cases e2; exact q, fun q => ⟨_, idxT e, _, rfl, q⟩⟩
/-- [x for x in names if (not) x in others] -/
theorem filt {wi : Env → M MIt} {j m : Nat} {vs : List Nat} {ρ : Env} {S : Store} {P : D → Store → Prop} {X : XP} {xs os : List Str} {neg : Bool} (hw : ∀ Q, ok (wi ρ S) Q X = Q (.tup (nD xs)) S) (hl : xs.length ≤ 1000) (wx : ∀ x ∈ xs, PyData.strOk x = true) (wo : ∀ x ∈ os, PyData.strOk x = true)
    (hj : j < (wipeM ρ vs).length) (hm : ((wipeM ρ vs))[m]? = some (some (.tup (nD os)))) (hjm : j ≠ m)
    (K : ∀ S', S'[S.length]? = some (.lst (nD (xs.filter fun x => if neg then !decide (x ∈ os) else decide (x ∈ os)))) → Kp [] S S' → P (.ref S.length) S') :
    ok (eLc wi (.nm j) (tBl (eOp (if neg then pNotIn else pIn) (eVar j) (eVar m))) (eVar j) vs ρ S) P X := by
  refine ok_lc (xs := nD xs) (it := .tup (nD xs)) (fun d => match d with | .str x => (if neg then !decide (x ∈ os) else decide (x ∈ os)) | _ => false) (fun d => d) hw (by rw [nD_len]; unfold lim; omega) (fun i S' _ => rfl) (fun x S1 mx k1 => ?_) fun S1 e k1 => ?_
  · obtain ⟨y, my, rfl⟩ := List.mem_map.mp mx
    refine ⟨_, rfl, ?_⟩
    have e1 : ((wipeM ρ vs).set j (some (D.str y)))[j]? = some (some (.str y)) := List.getElem?_set_self hj
    have e2 : ((wipeM ρ vs).set j (some (D.str y)))[m]? = some (some (.tup (nD os))) := by rw [List.getElem?_set_ne hjm]; exact hm
    rw [ok_tBl, ok_eOp, ok_eVar e1, ok_eVar e2]
    cases neg with
    | true => exact ⟨_, ninN wo (wx y my), _, rfl, Kp.refl, rfl, fun _ => by rw [ok_eVar e1]; exact ⟨Kp.refl, rfl⟩⟩
    | false => exact ⟨_, inN wo (wx y my), _, rfl, Kp.refl, rfl, fun _ => by rw [ok_eVar e1]; exact ⟨Kp.refl, rfl⟩⟩
  · rw [List.map_id', nD_filter] at e
    exact K S1 e k1
theorem flt_mem {xs os : List Str} {x : Str} {neg : Bool} : (x ∈ xs.filter fun x => if neg then !decide (x ∈ os) else decide (x ∈ os)) ↔ x ∈ xs ∧ (if neg = true then x ∉ os else x ∈ os) := by
  rw [List.mem_filter]
  cases neg <;> simp
theorem as_objects_spec {S : Store} {G : Gr} {xs : List Str} {X : XP} (o : G.Ok) (a : asc (nD xs)) (m : ∀ x ∈ xs, x ∈ G.A ++ G.O) : ok (R.g_as_objects [G.d, .tup (nD xs)] S) (fun d S' => ∃ G', d = G'.d ∧ Res G xs false G' ∧ Kp [] S S') X := by
  have lA : G.A.length ≤ 30 := by have := o.len; rw [List.length_append] at this; omega
  have lO : G.O.length ≤ 30 := by have := o.len; rw [List.length_append] at this; omega
  have sA : ∀ x ∈ G.A, PyData.strOk x = true := fun x h => o.strOk x (List.mem_append_left _ h)
  have sX : ∀ x ∈ xs, PyData.strOk x = true := fun x h => o.strOk x (m x h)
  unfold R.g_as_objects
  rw [run2]
  unfold R.b_as_objects
  rw [so_seq, so_set, ok_eB, ok_aCons]
  refine filt (neg := true) (m := 1) (xs := G.A) (os := xs) (anyI (xs := [.tup (nD G.A), .tup (nD G.O), .tup (hsD G.H)]) (by rfl) rfl) (by omega) sA sX (by simp [wipeM]) (by rfl) (by decide) fun S1 e1 k1 => ?_
  rw [ok_aNil]
  refine ⟨_, tupleL e1, _, rfl, ?_⟩
  dsimp only [List.set, List.replicate]
  rw [so_ret, ok_eTup, ok_aCons, ok_eVar (d := .tup (nD (G.A.filter fun x => if true then !decide (x ∈ xs) else decide (x ∈ xs)))) (by rfl), ok_aCons, ok_eB, ok_aCons, ok_eB, ok_aCons, ok_eOp, ok_eOp, ok_eVar (d := G.d) (by rfl), ok_eC]
  refine ⟨(.tup (nD G.O), S1), rfl, ?_⟩
  rw [ok_eB, ok_aCons]
  refine filt (neg := false) (m := 1) (xs := G.A) (os := xs) (anyI (xs := [.tup (nD G.A), .tup (nD G.O), .tup (hsD G.H)]) (by rfl) rfl) (by omega) sA sX (by simp [wipeM]) (by rfl) (by decide) fun S2 e2 k2 => ?_
  rw [ok_aNil]
  generalize eF : (G.A.filter fun x => if false = true then !decide (x ∈ xs) else decide (x ∈ xs)) = F at e2
  have hF : ∀ x, x ∈ F ↔ x ∈ G.A ∧ x ∈ xs := fun x => by rw [← eF, flt_mem]; simp
  have lF : F.length ≤ 30 := by rw [← eF]; exact Nat.le_trans (List.length_filter_le _ _) lA
  have nF : F.Nodup := by rw [← eF]; exact (nD_nodup.mp o.ascA.nodup).filter _
  refine ⟨_, tupleL e2, (.tup (nD (G.O ++ F)), S2), ?_, ?_⟩
  · rw [nD_app]
    exact tupO_eq (by rw [List.length_append, nD_len, nD_len]; unfold lim; omega)
  rw [ok_aNil]
  refine ⟨_, sortedT (by rw [List.length_append]; unfold lim; omega), ?_⟩
  rw [ok_aNil]
  obtain ⟨ys, ey, py⟩ := sort_names (S := S2) (xs := G.O ++ F)
  rw [ey]
  refine ⟨_, tupleL new_get, ?_⟩
  rw [ok_aCons, ok_eOp, ok_eVar (d := G.d) (by rfl), ok_eC]
  refine ⟨(.tup (hsD G.H), S2 ++ [.lst (nD ys)]), rfl, ?_⟩
  rw [ok_aNil]
  have nd : (G.O ++ F).Nodup := List.nodup_append.mpr ⟨nD_nodup.mp o.ascO.nodup, nF, fun a ha b hb e => o.dis b ((hF b).mp hb).1 (e ▸ ha)⟩
  refine ⟨_, tupO_eq (show 3 ≤ lim by decide), ⟨_, ys, G.H⟩, rfl, ⟨?_, ?_, rfl, fun x => ⟨?_, ?_⟩⟩, (k1.trans k2).trans Kp.new⟩
  · show asc (nD _)
    have := o.ascA.filter fun d => match d with | .str x => (if true then !decide (x ∈ xs) else decide (x ∈ xs)) | _ => false
    rw [nD_filter] at this
    exact this
  · show asc (nD ys)
    rw [← ey]
    exact sort_asc (nD_uni _) (nD_nodup.mpr nd)
  · show x ∈ G.A.filter _ ↔ _
    rw [flt_mem (neg := true)]
    simp
  · show x ∈ ys ↔ _
    rw [py.mem_iff, List.mem_append, hF]
    simp
theorem as_subjects_spec {S : Store} {G : Gr} {xs : List Str} {X : XP} (o : G.Ok) (a : asc (nD xs)) (m : ∀ x ∈ xs, x ∈ G.A ++ G.O) : ok (R.g_as_subjects [G.d, .tup (nD xs)] S) (fun d S' => ∃ G', d = G'.d ∧ Res G xs true G' ∧ Kp [] S S') X := by
  have lA : G.A.length ≤ 30 := by have := o.len; rw [List.length_append] at this; omega
  have lO : G.O.length ≤ 30 := by have := o.len; rw [List.length_append] at this; omega
  have sO : ∀ x ∈ G.O, PyData.strOk x = true := fun x h => o.strOk x (List.mem_append_right _ h)
  have sX : ∀ x ∈ xs, PyData.strOk x = true := fun x h => o.strOk x (m x h)
  unfold R.g_as_subjects
  rw [run2]
  unfold R.b_as_subjects
  rw [so_seq, so_set, ok_eB, ok_aCons]
  refine filt (neg := true) (m := 1) (xs := G.O) (os := xs) (anyI (xs := [.tup (nD G.A), .tup (nD G.O), .tup (hsD G.H)]) (by rfl) rfl) (by omega) sO sX (by simp [wipeM]) (by rfl) (by decide) fun S1 e1 k1 => ?_
  rw [ok_aNil]
  refine ⟨_, tupleL e1, _, rfl, ?_⟩
  dsimp only [List.set, List.replicate]
  rw [so_ret, ok_eTup, ok_aCons, ok_eB, ok_aCons, ok_eB, ok_aCons, ok_eOp, ok_eOp, ok_eVar (d := G.d) (by rfl), ok_eC]
  refine ⟨(.tup (nD G.A), S1), rfl, ?_⟩
  rw [ok_eB, ok_aCons]
  refine filt (neg := false) (m := 1) (xs := G.O) (os := xs) (anyI (xs := [.tup (nD G.A), .tup (nD G.O), .tup (hsD G.H)]) (by rfl) rfl) (by omega) sO sX (by simp [wipeM]) (by rfl) (by decide) fun S2 e2 k2 => ?_
  rw [ok_aNil]
  generalize eF : (G.O.filter fun x => if false = true then !decide (x ∈ xs) else decide (x ∈ xs)) = F at e2
  have hF : ∀ x, x ∈ F ↔ x ∈ G.O ∧ x ∈ xs := fun x => by rw [← eF, flt_mem]; simp
  have lF : F.length ≤ 30 := by rw [← eF]; exact Nat.le_trans (List.length_filter_le _ _) lO
  have nF : F.Nodup := by rw [← eF]; exact (nD_nodup.mp o.ascO.nodup).filter _
  refine ⟨_, tupleL e2, (.tup (nD (G.A ++ F)), S2), ?_, ?_⟩
  · rw [nD_app]
    exact tupO_eq (by rw [List.length_append, nD_len, nD_len]; unfold lim; omega)
  rw [ok_aNil]
  refine ⟨_, sortedT (by rw [List.length_append]; unfold lim; omega), ?_⟩
  rw [ok_aNil]
  obtain ⟨ys, ey, py⟩ := sort_names (S := S2) (xs := G.A ++ F)
  rw [ey]
  refine ⟨_, tupleL new_get, ?_⟩
  rw [ok_aCons, ok_eVar (d := .tup (nD (G.O.filter fun x => if true then !decide (x ∈ xs) else decide (x ∈ xs)))) (by rfl), ok_aCons, ok_eOp, ok_eVar (d := G.d) (by rfl), ok_eC]
  refine ⟨(.tup (hsD G.H), S2 ++ [.lst (nD ys)]), rfl, ?_⟩
  rw [ok_aNil]
  have nd : (G.A ++ F).Nodup := List.nodup_append.mpr ⟨nD_nodup.mp o.ascA.nodup, nF, fun a ha b hb e => o.dis a ha (e ▸ ((hF b).mp hb).1)⟩
  refine ⟨_, tupO_eq (show 3 ≤ lim by decide), ⟨ys, _, G.H⟩, rfl, ⟨?_, ?_, rfl, fun x => ⟨?_, ?_⟩⟩, (k1.trans k2).trans Kp.new⟩
  · show asc (nD ys)
    rw [← ey]
    exact sort_asc (nD_uni _) (nD_nodup.mpr nd)
  · show asc (nD _)
    have := o.ascO.filter fun d => match d with | .str x => (if true then !decide (x ∈ xs) else decide (x ∈ xs)) | _ => false
    rw [nD_filter] at this
    exact this
  · show x ∈ ys ↔ _
    rw [py.mem_iff, List.mem_append, hF]
    simp
  · show x ∈ G.O.filter _ ↔ _
    rw [flt_mem (neg := true)]
    simp
def dNames : D := .tup [.str "names", .bl true]
def dTold (G : Gr) : D := .tup [.str "told", G.d]
theorem told_spec {S : Store} {G : Gr} {v : D} {free : Bool} {X : XP} (o : G.Ok) (q : Val S v) :
    ok (R.g__law_told [G.d, v, .bl free] S) (fun d S' => Kp [] S S' ∧ ((∃ xs G', Good G v xs ∧ d = dTold G' ∧ Res G xs free G') ∨ ((∀ xs, ¬ Good G v xs) ∧ d = dNames))) X := by
  unfold R.g__law_told
  rw [run3]
  unfold R.b__law_told
  rw [so_seq, so_set, ok_eTup, ok_aCons, ok_eC, ok_aNil]
  refine ⟨_, tupO_eq (show 1 ≤ lim by decide), _, rfl, ?_⟩
  dsimp only [List.set, List.replicate]
  rw [so_seq, so_try, so_if, ok_tTru, ok_eVar (d := .bl free) (by rfl)]
  refine ⟨free, rfl, ?_⟩
  have bad : ∀ S1, (∀ xs, ¬ Good G v xs) → Kp [] S S1 → so (clsM "InvalidNames" [] [some G.d, some v, some (.bl free), some (.tup [.str "other"]), none] S1 [⟨tab [("InvalidNames", true)], some 4, 3, (fun _ fs => (eTup (aCons (eC (.str "names")) (aCons (xIsi true fs) aNil))))⟩])
      (fun ρ1 S1 => so (sRet (eVar 3) ρ1 S1) (fun _ S1 => Kp [] S S1 ∧ ((∃ xs G', Good G v xs ∧ D.non = dTold G' ∧ Res G xs free G') ∨ ((∀ xs, ¬ Good G v xs) ∧ D.non = dNames))) (fun d S' => Kp [] S S' ∧ ((∃ xs G', Good G v xs ∧ d = dTold G' ∧ Res G xs free G') ∨ ((∀ xs, ¬ Good G v xs) ∧ d = dNames))) (fun m fs _ S1 => X m fs S1))
      (fun d S' => Kp [] S S' ∧ ((∃ xs G', Good G v xs ∧ d = dTold G' ∧ Res G xs free G') ∨ ((∀ xs, ¬ Good G v xs) ∧ d = dNames))) (fun m fs _ S1 => X m fs S1) := by
    intro S1 nb k1
    exact ⟨k1, .inr ⟨nb, rfl⟩⟩
  cases free with
  | true =>
    rw [if_pos rfl, so_set, ok_eTup, ok_aCons, ok_eC, ok_aCons, ok_eCall, ok_aCons, ok_eVar (d := G.d) (by rfl), ok_aCons, ok_eVar (d := v) (by rfl), ok_aNil]
    unfold R.g_freed
    rw [run2]
    unfold R.b_freed
    rw [so_seq, so_expr, ok_eCall, ok_aCons, ok_eVar (d := G.d) (by rfl), ok_aNil]
    refine ok_mono (check_graph_ok o) (fun r S1 k1 => ?_) fun _ _ _ z => z
    rw [so_seq, so_expr, ok_eCall, ok_aCons, ok_eVar (d := G.d) (by rfl), ok_aCons, ok_eVar (d := v) (by rfl), ok_aNil]
    refine check_names_spec o (q.kp k1) (fun xs S2 g k2 => ?_) fun S2 nb k2 => bad S2 nb (k1.trans k2)
    obtain ⟨rfl, ay, my⟩ := g
    rw [so_ret, ok_eCall, ok_aCons, ok_eVar (d := G.d) (by rfl), ok_aCons, ok_eVar (d := .tup (nD xs)) (by rfl), ok_aNil]
    refine ok_mono (as_subjects_spec o ay my) (fun r S3 hr => ?_) fun _ _ _ z => z
    obtain ⟨G', rfl, hr, k3⟩ := hr
    rw [ok_aNil]
    refine ⟨_, tupO_eq (show 2 ≤ lim by decide), _, rfl, ?_⟩
    dsimp only [List.set]
    rw [so_ret, ok_eVar (d := dTold G') (by rfl)]
    exact ⟨(k1.trans k2).trans k3, .inl ⟨xs, G', ⟨rfl, ay, my⟩, rfl, hr⟩⟩
  | false =>
    rw [if_neg (by decide), so_set, ok_eTup, ok_aCons, ok_eC, ok_aCons, ok_eCallK, ok_aCons, ok_eVar (d := G.d) (by rfl), ok_aNil, ok_aCons, ok_eVar (d := v) (by rfl), ok_aNil]
    refine ⟨rfl, rfl, ?_⟩
    unfold R.g_sealed
    rw [show [G.d] ++ [v] = [G.d, v] from rfl, run2]
    unfold R.b_sealed
    rw [so_seq, so_expr, ok_eCall, ok_aCons, ok_eVar (d := G.d) (by rfl), ok_aNil]
    refine ok_mono (check_graph_ok o) (fun r S1 k1 => ?_) fun _ _ _ z => z
    rw [so_seq, so_expr, ok_eCall, ok_aCons, ok_eVar (d := G.d) (by rfl), ok_aCons, ok_eVar (d := v) (by rfl), ok_aNil]
    refine check_names_spec o (q.kp k1) (fun xs S2 g k2 => ?_) fun S2 nb k2 => bad S2 nb (k1.trans k2)
    obtain ⟨rfl, ay, my⟩ := g
    rw [so_ret, ok_eCall, ok_aCons, ok_eVar (d := G.d) (by rfl), ok_aCons, ok_eVar (d := .tup (nD xs)) (by rfl), ok_aNil]
    refine ok_mono (as_objects_spec o ay my) (fun r S3 hr => ?_) fun _ _ _ z => z
    obtain ⟨G', rfl, hr, k3⟩ := hr
    rw [ok_aNil]
    refine ⟨_, tupO_eq (show 2 ≤ lim by decide), _, rfl, ?_⟩
    dsimp only [List.set]
    rw [so_ret, ok_eVar (d := dTold G') (by rfl)]
    exact ⟨(k1.trans k2).trans k3, .inl ⟨xs, G', ⟨rfl, ay, my⟩, rfl, hr⟩⟩
end Mini

/-! k05, part d: what the law holds due. -/
namespace Mini
open PySem L2 PySem.W
theorem Itm.reads1 {S : Store} {d : D} (n : Nat) (i : Itm S d) : ∃ p, dP (deref (n + 1) S) d = some p ∧ p.canLay0 = true ∧ p.depth ≤ 8 := by
  rcases i with ⟨c, _, s, t⟩ | ⟨h, xs, rfl, e, e2⟩
  · obtain ⟨p, hp⟩ := c
    have e1 : eP d = p := by unfold eP; rw [hp]; rfl
    exact ⟨p, hp _, e1 ▸ s, e1 ▸ t⟩
  · refine ⟨.list (xs.map eP), ?_, ?_, ?_⟩
    · show deref (n + 1) S h = _
      unfold deref
      simp only [e]
      rcases e2 with rfl | rfl <;> rfl
    · rcases e2 with rfl | rfl
      · rfl
      · exact canAll_names (xs := ["a"]) (by decide +kernel)
    · rcases e2 with rfl | rfl
      · simp [PyData.depth, PyData.depthAll]
      · simp [PyData.depth, PyData.depthAll, eP_str]
theorem list_reads {S : Store} (n : Nat) : ∀ {zs : List D}, (∀ d ∈ zs, Itm S d) → ∃ ps, dPs (deref (n + 1) S) zs = some ps ∧ PyData.canLayAll0 ps = true ∧ PyData.depthAll ps ≤ 8 ∧ ps.length = zs.length
  | [], _ => ⟨[], rfl, rfl, by simp [PyData.depthAll], rfl⟩
  | d :: r, h => by
    obtain ⟨p, e1, e2, e3⟩ := (h d List.mem_cons_self).reads1 n
    obtain ⟨ps, f1, f2, f3, f4⟩ := list_reads n (zs := r) fun e m => h e (List.mem_cons_of_mem _ m)
    refine ⟨p :: ps, by rw [dPs, e1, f1]; rfl, by rw [PyData.canLayAll0, e2, f2]; rfl, by rw [PyData.depthAll]; exact Nat.max_le.mpr ⟨e3, f3⟩, by rw [List.length_cons, List.length_cons, f4]⟩
theorem refP {S : Store} {h : Nat} {xs : List D} {ps : List PyData} (e : S[h]? = some (.lst xs)) (e2 : dPs (deref 7 S) xs = some ps) : toP S (.ref h) = some (.list ps) := by
  show deref 8 S h = _
  unfold deref
  simp only [e, e2]; rfl
theorem shaped_list {ps : List PyData} (h : PyData.canLayAll0 ps = true) (d : PyData.depthAll ps ≤ 8) : SeqAt.shaped (.list ps) = true := by
  unfold SeqAt.shaped
  rw [Bool.and_eq_true, decide_eq_true_eq]
  refine ⟨h, ?_⟩
  rw [PyData.depth]; omega
theorem eqvAll_names : ∀ {xs ys : List Str}, PyData.eqvAll (xs.map PyData.str) (ys.map PyData.str) = decide (xs = ys)
  | [], [] => rfl
  | [], _ :: _ => rfl
  | _ :: _, [] => rfl
  | x :: xs, y :: ys => by
    rw [List.map_cons, List.map_cons, PyData.eqvAll, eqvAll_names, eqv_str]
    by_cases h1 : x = y <;> by_cases h2 : xs = ys <;> simp [h1, h2]
theorem neNil {S : Store} {n m : Nat} {zs : List D} (e1 : S[n]? = some (.lst zs)) (e2 : S[m]? = some (.lst [])) (h : ∀ d ∈ zs, Itm S d) : pNe (.ref n) (.ref m) S = some (.bl (!zs.isEmpty), S) := by
  obtain ⟨ps, f1, f2, f3, f4⟩ := list_reads 6 h
  show (eqD S (.ref n) (.ref m)).map _ = _
  rw [eqP (refP e1 f1) (refP (ps := []) e2 rfl) (shaped_list f2 f3) (shaped_list rfl (by simp [PyData.depthAll]))]
  show some (D.bl (!PyData.eqvAll ps []), S) = _
  cases ps with
  | nil => cases zs with
    | nil => rfl
    | cons a b => cases f4
  | cons a b => cases zs with
    | nil => cases f4
    | cons a b => rfl
theorem eqLists {S : Store} {n m : Nat} {xs ys : List Str} (e1 : S[n]? = some (.lst (nD xs))) (e2 : S[m]? = some (.lst (nD ys))) (h1 : ∀ x ∈ xs, PyData.strOk x = true) (h2 : ∀ x ∈ ys, PyData.strOk x = true) : pEq (.ref n) (.ref m) S = some (.bl (decide (xs = ys)), S) := by
  show (eqD S (.ref n) (.ref m)).map _ = _
  rw [eqP (refP e1 (dPs_names _ _)) (refP e2 (dPs_names _ _)) (shaped_names h1).1 (shaped_names h2).1]
  show some (D.bl (PyData.eqvAll _ _), S) = _
  rw [eqvAll_names]
theorem sortSet_names {S : Store} {xs : List Str} (h : xs.length ≤ 1000) : ∃ ws, nSortSet [.tup (nD xs)] S = some (.ref S.length, S ++ [.lst (nD ws)]) ∧ asc (nD ws) ∧ ∀ x, x ∈ ws ↔ x ∈ xs := by
  have kd : ∀ d ∈ nD xs, Kd d := fun d m => by
    obtain ⟨x, _, rfl⟩ := List.mem_map.mp m
    exact .inl ⟨.inr x, rfl⟩
  have md := dedup_mem kd
  obtain ⟨zs, ez⟩ := nD_inv (xs := dedup (nD xs)) fun d m => by
    obtain ⟨x, _, rfl⟩ := List.mem_map.mp ((md d).mp m); exact ⟨x, rfl⟩
  have lz : zs.length ≤ 1000 := by
    have := dedup_len (nD xs)
    rw [ez, nD_len, nD_len] at this
    omega
  have so : setOk (nD xs) = true := by
    unfold setOk
    rw [Bool.or_eq_true, Bool.and_eq_true, Bool.and_eq_true, decide_eq_true_eq, decide_eq_true_eq]
    refine .inr ⟨List.all_eq_true.mpr fun d m => ?_, by rw [nD_len]; omega⟩
    obtain ⟨x, _, rfl⟩ := List.mem_map.mp m
    rfl
  obtain ⟨ws, ew, pw⟩ := sort_names (S := S) (xs := zs)
  have nz : (nD zs).Nodup := ez ▸ dedup_nodup kd
  refine ⟨ws, ?_, ?_, fun x => ?_⟩
  · simp only [nSortSet, itemsOf]
    rw [so, ez, sortOk_names (by unfold lim; omega)]
    rw [show (true && true) = true from rfl, if_pos rfl, ew, newL_eq (by rw [nD_len, pw.length_eq]; unfold lim; omega)]
  · rw [← ew]
    exact sort_asc (nD_uni _) nz
  · rw [pw.mem_iff, ← nD_mem (xs := zs), ← ez, md, nD_mem]
theorem namesOf {S : Store} {G : Gr} {ρ : Env} {i : Nat} {P : D → Store → Prop} {X : XP} (o : G.Ok) (h : ρ[i]? = some (some G.d)) (K : P (.tup (nD (G.A ++ G.O))) S) : ok (eOp pAdd (eOp pIdx (eVar i) (eC (.int 0))) (eOp pIdx (eVar i) (eC (.int 1))) ρ S) P X := by
  rw [ok_eOp, ok_eOp, ok_eVar h, ok_eC]
  refine ⟨(.tup (nD G.A), S), rfl, ?_⟩
  rw [ok_eOp, ok_eVar h, ok_eC]
  refine ⟨(.tup (nD G.O), S), rfl, (.tup (nD (G.A ++ G.O)), S), ?_, K⟩
  rw [nD_app]
  have := o.len
  rw [List.length_append] at this
  exact tupO_eq (by rw [List.length_append, nD_len, nD_len]; unfold lim; omega)
theorem law_are_names_spec {S : Store} {G : Gr} {v : D} {X : XP} (o : G.Ok) (q : Val S v) : ok (R.g__law_are_names [G.d, v] S) (fun r S' => ∃ b, r = .bl b ∧ (b = true ↔ ∃ xs, Good G v xs) ∧ Kp [] S S') X := by
  unfold R.g__law_are_names
  rw [run2]
  unfold R.b__law_are_names
  rw [so_seq, so_set]
  refine namesOf o (by rfl) ⟨_, rfl, ?_⟩
  dsimp only [List.set, List.replicate]
  rw [so_seq, so_if, ok_tOr, ok_tNot, ok_tTru, ok_eIsi, ok_eVar (d := v) (by rfl)]
  refine ⟨_, isi_tup2 q.1, isTup v, rfl, ?_⟩
  by_cases ht : ∃ xs, v = .tup xs
  · obtain ⟨xs, rfl⟩ := ht
    obtain ⟨lx, ix⟩ := q.2 xs rfl
    rw [show (!isTup (.tup xs)) = false from rfl, if_neg (by decide), ok_tBl, ok_eOp]
    refine ok_lc (xs := xs) (it := .tup xs) (fun d => !memN (G.A ++ G.O) d) (fun d => d) (anyV (d := .tup xs) (by rfl) rfl) (by unfold lim; omega) (fun i S' _ => rfl) (fun x S1 mx k1 => ?_) fun S1 e1 k1 => ?_
    · refine ⟨_, rfl, ?_⟩
      obtain ⟨p, e1, e2, e3⟩ := ((ix x mx).kp k1).reads
      dsimp only [wipeM, List.set]
      rw [ok_tBl, ok_eOp, ok_eVar (d := x) (by rfl), ok_eVar (d := .tup (nD (G.A ++ G.O))) (by rfl)]
      exact ⟨_, ninT o.strOk e1 (shaped8 e2 e3), _, rfl, Kp.refl, rfl, fun _ => by rw [ok_eVar (d := x) (by rfl)]; exact ⟨Kp.refl, rfl⟩⟩
    · rw [List.map_id'] at e1
      rw [ok_eLst, ok_aNil]
      refine ⟨_, newL_eq (show 0 ≤ lim by decide), ?_⟩
      have kn : Kp [] S1 (S1 ++ [.lst []]) := Kp.new
      have e1 := kn.get _ _ (fun z => nomatch z) e1
      refine ⟨_, neNil e1 new_get (fun d m => ((ix d (List.mem_filter.mp m).1).kp k1).kp kn), _, rfl, ?_⟩
      by_cases hz : ∀ d ∈ xs, memN (G.A ++ G.O) d = true
      · have ez : xs.filter (fun d => !memN (G.A ++ G.O) d) = [] := List.filter_eq_nil_iff.mpr fun d m => by rw [hz d m]; decide
        rw [ez, show (!([] : List D).isEmpty) = false from rfl, if_neg (by decide), so_nil]
        obtain ⟨ys, rfl⟩ := nD_inv (xs := xs) fun d m => by
          obtain ⟨x, _, rfl⟩ := List.mem_map.mp (memN_iff.mp (hz d m)); exact ⟨x, rfl⟩
        have my : ∀ y ∈ ys, y ∈ G.A ++ G.O := fun y m => nD_mem.mp (memN_iff.mp (hz _ (nD_mem.mpr m)))
        have ly : ys.length ≤ 1000 := by rw [nD_len] at lx; exact lx
        rw [so_ret, ok_eOp, ok_eB, ok_aCons, ok_eVar (d := .tup (nD ys)) (by rfl), ok_aNil]
        refine ⟨(.ref (S1 ++ [MO.lst []]).length, (S1 ++ [MO.lst []]) ++ [MO.lst (nD ys)]), rfl, ?_⟩
        rw [ok_eB, ok_aCons, ok_eVar (d := .tup (nD ys)) (by rfl), ok_aNil]
        obtain ⟨ws, e3, aw, mw⟩ := sortSet_names (S := (S1 ++ [MO.lst []]) ++ [.lst (nD ys)]) ly
        have k3 : Kp [] ((S1 ++ [MO.lst []]) ++ [.lst (nD ys)]) (((S1 ++ [MO.lst []]) ++ [.lst (nD ys)]) ++ [.lst (nD ws)]) := Kp.new
        refine ⟨_, e3, _, eqLists (k3.get _ _ (fun z => nomatch z) new_get) new_get (fun x m => o.strOk x (my x m)) (fun x m => o.strOk x (my x ((mw x).mp m))), _, rfl, ?_, ((k1.trans kn).trans Kp.new).trans k3⟩
        rw [decide_eq_true_eq]
        constructor
        · intro e
          exact ⟨ys, rfl, e ▸ aw, my⟩
        · rintro ⟨zs, e, az, _⟩
          have e : nD ys = nD zs := D.tup.inj e
          have ay : asc (nD ys) := e ▸ az
          have : nD ys = nD ws := asc_uniq (nD_uni _) ay aw fun d => by
            constructor
            · intro m
              obtain ⟨x, mx, rfl⟩ := List.mem_map.mp m
              exact nD_mem.mpr ((mw x).mpr mx)
            · intro m
              obtain ⟨x, mx, rfl⟩ := List.mem_map.mp m
              exact nD_mem.mpr ((mw x).mp mx)
          exact List.map_inj_right (fun a b e => by cases e; rfl) |>.mp this
      · have hne : (xs.filter (fun d => !memN (G.A ++ G.O) d)).isEmpty = false := by
          rw [Bool.eq_false_iff]
          intro z
          rw [List.isEmpty_iff] at z
          refine hz fun d m => ?_
          have := List.filter_eq_nil_iff.mp z d m
          simpa using this
        rw [hne, show (!false) = true from rfl, if_pos rfl, so_ret, ok_eC]
        refine ⟨false, rfl, ⟨(fun z => nomatch z), fun ⟨zs, e, _, m⟩ => ?_⟩, k1.trans kn⟩
        refine absurd (fun d md => ?_) hz
        rw [D.tup.inj e] at md
        obtain ⟨x, mx, rfl⟩ := List.mem_map.mp md
        exact memN_iff.mpr (nD_mem.mpr (m x mx))
  · have e : isTup v = false := by
      cases v with
      | tup xs => exact absurd ⟨xs, rfl⟩ ht
      | _ => rfl
    rw [e, show (!false) = true from rfl, if_pos rfl, ok_pur, if_pos rfl, so_ret, ok_eC]
    exact ⟨false, rfl, ⟨(fun z => nomatch z), fun ⟨zs, e, _⟩ => absurd ⟨_, e⟩ ht⟩, Kp.refl⟩
end Mini

/-! k05, part e: due; the same. -/
namespace Mini
open PySem L2 PySem.W
theorem filtG {wi : Env → M MIt} {tt : Env → M Bool} {j : Nat} {vs : List Nat} {ρ : Env} {S : Store} {P : D → Store → Prop} {X : XP} {it : MIt} {xs : List Str} (p : Str → Bool) (hw : ∀ Q, ok (wi ρ S) Q X = Q it S) (nx : ∀ i S', Kp [] S S' → nextI it i S' = .of (nD xs)[i]?) (hl : xs.length ≤ 1000)
    (hj : j < (wipeM ρ vs).length) (mem : ∀ x S', x ∈ xs → Kp [] S S' → ok (tt ((wipeM ρ vs).set j (some (.str x))) S') (fun b S1 => S1 = S' ∧ b = p x) X0)
    (K : ∀ S', S'[S.length]? = some (.lst (nD (xs.filter p))) → Kp [] S S' → P (.ref S.length) S') :
    ok (eLc wi (.nm j) tt (eVar j) vs ρ S) P X := by
  refine ok_lc (xs := nD xs) (it := it) (fun d => match d with | .str x => p x | _ => false) (fun d => d) hw (by rw [nD_len]; unfold lim; omega) nx (fun x S1 mx k1 => ?_) fun S1 e k1 => ?_
  · obtain ⟨y, my, rfl⟩ := List.mem_map.mp mx
    refine ⟨_, rfl, ok_mono (mem y S1 my k1) (fun b S2 hb => ?_) fun _ _ _ z => z⟩
    obtain ⟨rfl, rfl⟩ := hb
    refine ⟨Kp.refl, rfl, fun _ => ?_⟩
    rw [ok_eVar (List.getElem?_set_self hj)]
    exact ⟨Kp.refl, rfl⟩
  · rw [List.map_id', nD_filter] at e
    exact K S1 e k1
theorem seq_nx {S : Store} {h : Nat} {xs : List D} (e : S[h]? = some (.lst xs)) : ∀ i S', Kp [] S S' → nextI (.seq h) i S' = .of xs[i]? := fun i S' k => by
  simp only [nextI, k.get _ _ (fun z => nomatch z) e]
theorem tt_in {S : Store} {ρ : Env} {i m : Nat} {x : Str} {os : List Str} (h1 : ρ[i]? = some (some (.str x))) (h2 : ρ[m]? = some (some (.tup (nD os)))) (wo : ∀ y ∈ os, PyData.strOk y = true) (w : PyData.strOk x = true) : ok (tBl (eOp pIn (eVar i) (eVar m)) ρ S) (fun b S1 => S1 = S ∧ b = decide (x ∈ os)) X0 := by
  rw [ok_tBl, ok_eOp, ok_eVar h1, ok_eVar h2]
  exact ⟨_, inN wo w, _, rfl, rfl, rfl⟩
theorem tt_nin {S : Store} {ρ : Env} {i m : Nat} {x : Str} {os : List Str} (h1 : ρ[i]? = some (some (.str x))) (h2 : ρ[m]? = some (some (.tup (nD os)))) (wo : ∀ y ∈ os, PyData.strOk y = true) (w : PyData.strOk x = true) : ok (tBl (eOp pNotIn (eVar i) (eVar m)) ρ S) (fun b S1 => S1 = S ∧ b = !decide (x ∈ os)) X0 := by
  rw [ok_tBl, ok_eOp, ok_eVar h1, ok_eVar h2]
  exact ⟨_, ninN wo w, _, rfl, rfl, rfl⟩
theorem tt_ninL {S : Store} {ρ : Env} {i m k : Nat} {x : Str} {os : List Str} (h1 : ρ[i]? = some (some (.str x))) (h2 : ρ[m]? = some (some (.ref k))) (e : S[k]? = some (.lst (nD os))) (wo : ∀ y ∈ os, PyData.strOk y = true) (w : PyData.strOk x = true) : ok (tBl (eOp pNotIn (eVar i) (eVar m)) ρ S) (fun b S1 => S1 = S ∧ b = !decide (x ∈ os)) X0 := by
  rw [ok_tBl, ok_eOp, ok_eVar h1, ok_eVar h2]
  exact ⟨_, ninL e wo (p := .str x) rfl (shaped_str w), _, rfl, rfl, rfl⟩
theorem addL {S : Store} {h k : Nat} {xs ys : List Str} (e1 : S[h]? = some (.lst (nD xs))) (e2 : S[k]? = some (.lst (nD ys))) (l : xs.length + ys.length ≤ 1000) : pAdd (.ref h) (.ref k) S = some (.ref S.length, S ++ [.lst (nD (xs ++ ys))]) := by
  simp only [pAdd, e1, e2]
  rw [nD_app, newL_eq (by rw [List.length_append, nD_len, nD_len]; unfold lim; omega)]
theorem due_spec {S : Store} {G : Gr} {v : D} {free : Bool} {X : XP} (o : G.Ok) (q : Val S v) :
    ok (R.g__law_due [G.d, v, .bl free] S) (fun d S' => Kp [] S S' ∧ ((∃ xs G', Good G v xs ∧ d = dTold G' ∧ Res G xs free G') ∨ ((∀ xs, ¬ Good G v xs) ∧ d = dNames))) X := by
  unfold R.g__law_due
  rw [run3]
  unfold R.b__law_due
  rw [so_seq, so_if, ok_tNot, ok_tTru, ok_eCall, ok_aCons, ok_eVar (d := G.d) (by rfl), ok_aCons, ok_eVar (d := v) (by rfl), ok_aNil]
  refine ok_mono (law_are_names_spec o q) (fun r S1 hr => ?_) fun _ _ _ z => z
  obtain ⟨b, rfl, hb, k1⟩ := hr
  refine ⟨b, rfl, ?_⟩
  cases b with
  | false =>
    rw [show (!false) = true from rfl, if_pos rfl, so_ret, ok_eTup, ok_aCons, ok_eC, ok_aCons, ok_eC, ok_aNil]
    exact ⟨_, tupO_eq (show 2 ≤ lim by decide), k1, .inr ⟨(fun xs g => nomatch (hb.mpr ⟨xs, g⟩)), rfl⟩⟩
  | true =>
    obtain ⟨xs, g⟩ := hb.mp rfl
    have g0 := g
    obtain ⟨rfl, ax, mx⟩ := g0
    have nA := nD_nodup.mp o.ascA.nodup
    have nAll : (G.A ++ G.O).Nodup := List.nodup_append.mpr ⟨nA, nD_nodup.mp o.ascO.nodup, fun a ha b hb e => o.dis a ha (e ▸ hb)⟩
    have lAll := o.len
    have lA : G.A.length ≤ 30 := by rw [List.length_append] at lAll; omega
    have sX : ∀ x ∈ xs, PyData.strOk x = true := fun x m => o.strOk x (mx x m)
    rw [show (!true) = false from rfl, if_neg (by decide), so_nil, so_seq, so_set, ok_eB, ok_aCons]
    refine namesOf o (by rfl) ?_
    rw [ok_aNil]
    refine ⟨_, sortedT (by unfold lim; omega), _, rfl, ?_⟩
    obtain ⟨kn, ek, pk⟩ := sort_names (S := S1) (xs := G.A ++ G.O)
    rw [ek]
    have k2 : Kp [] S (S1 ++ [MO.lst (nD kn)]) := k1.trans Kp.new
    have en : (S1 ++ [MO.lst (nD kn)])[S1.length]? = some (.lst (nD kn)) := new_get
    have akn : asc (nD kn) := ek ▸ sort_asc (nD_uni _) (nD_nodup.mpr nAll)
    have nkn := nD_nodup.mp akn.nodup
    have skn : ∀ x ∈ kn, PyData.strOk x = true := fun x m => o.strOk x (pk.mem_iff.mp m)
    have lkn : kn.length ≤ 30 := by rw [pk.length_eq]; exact lAll
    generalize (S1 ++ [MO.lst (nD kn)]) = S2 at k2 en
    dsimp only [List.set, List.replicate]
    rw [so_seq, so_set, ok_eIf, ok_tTru, ok_eVar (d := .bl free) (by rfl)]
    refine ⟨free, rfl, ?_⟩
    suffices go : ∀ (ac : List Str) (h : Nat) S3, S3[h]? = some (.lst (nD ac)) → Kp [] S2 S3 → ac.length ≤ 30 → ac.Nodup → (∀ x, x ∈ ac ↔ if free = true then x ∈ G.A ++ G.O ∧ x ∈ xs else False) →
        ∃ ρ1, setT (.nm 4) (.ref h) [some G.d, some (.tup (nD xs)), some (.bl free), some (.ref S1.length), none, none] = some ρ1 ∧
        so (sSeq (sSet (.nm 4) (eOp pAdd (eVar 4) (eLc (iAny (eOp pIdx (eVar 0) (eC (.int 0)))) (.nm 5) (tBl (eOp pNotIn (eVar 5) (eVar 1))) (eVar 5) [5])))
        (sRet (eTup (aCons (eC (.str "told")) (aCons (eTup (aCons (eB nTuple (aCons (eB nSorted (aCons (eVar 4) aNil)) aNil)) (aCons (eB nTuple (aCons (eLc (iAny (eVar 3)) (.nm 5) (tBl (eOp pNotIn (eVar 5) (eVar 4))) (eVar 5) [5]) aNil)) (aCons (eOp pIdx (eVar 0) (eC (.int 2))) aNil)))) aNil)))) ρ1 S3)
          (fun _ S1 => Kp [] S S1 ∧ ((∃ ys G', Good G (.tup (nD xs)) ys ∧ D.non = dTold G' ∧ Res G ys free G') ∨ ((∀ ys, ¬ Good G (.tup (nD xs)) ys) ∧ D.non = dNames)))
          (fun d S' => Kp [] S S' ∧ ((∃ ys G', Good G (.tup (nD xs)) ys ∧ d = dTold G' ∧ Res G ys free G') ∨ ((∀ ys, ¬ Good G (.tup (nD xs)) ys) ∧ d = dNames))) (fun m fs _ S1 => X m fs S1) by
      cases free with
      | true =>
        rw [if_pos rfl]
        refine filtG (fun x => decide (x ∈ xs)) (anyV (d := .ref S1.length) (by rfl) (by simp only [itOf, en])) (seq_nx en) (by omega) (by simp [wipeM]) (fun x S' m k => tt_in (os := xs) (by rfl) (by rfl) sX (skn x m)) fun S3 e3 k3 => ?_
        refine go _ _ S3 e3 k3 (Nat.le_trans (List.length_filter_le _ _) lkn) (nkn.filter _) fun x => ?_
        rw [List.mem_filter, pk.mem_iff, decide_eq_true_eq, if_pos rfl]
      | false =>
        rw [if_neg (by decide), ok_eLst, ok_aNil]
        refine ⟨_, newL_eq (show 0 ≤ lim by decide), go [] _ _ new_get Kp.new (by simp) List.nodup_nil fun x => ?_⟩
        rw [if_neg (by decide)]
        exact ⟨(fun z => nomatch z), fun z => z.elim⟩
    intro ac h S3 e3 k3 lac nac mac
    refine ⟨_, rfl, ?_⟩
    dsimp only [List.set]
    rw [so_seq, so_set, ok_eOp, ok_eVar (d := .ref h) (by rfl)]
    refine filtG (fun x => !decide (x ∈ xs)) (anyI (xs := [.tup (nD G.A), .tup (nD G.O), .tup (hsD G.H)]) (by rfl) rfl) (fun i S' _ => rfl) (by omega) (by simp [wipeM]) (fun x S' m k => tt_nin (os := xs) (by rfl) (by rfl) sX (o.strOk x (List.mem_append_left _ m))) fun S4 e4 k4 => ?_
    generalize eF : (G.A.filter fun x => !decide (x ∈ xs)) = F at e4
    have hF : ∀ x, x ∈ F ↔ x ∈ G.A ∧ x ∉ xs := fun x => by rw [← eF, List.mem_filter]; simp
    have lF : F.length ≤ 30 := by rw [← eF]; exact Nat.le_trans (List.length_filter_le _ _) lA
    have nF : F.Nodup := by rw [← eF]; exact nA.filter _
    have nT : (ac ++ F).Nodup := List.nodup_append.mpr ⟨nac, nF, fun a ha b hb e => by
      have h1 := (mac a).mp ha
      have h2 := (hF b).mp hb
      cases free with
      | true => rw [if_pos rfl] at h1; exact h2.2 (e ▸ h1.2)
      | false => rw [if_neg (by decide)] at h1; exact h1⟩
    have sT : ∀ x ∈ ac ++ F, PyData.strOk x = true := fun x m => by
      rcases List.mem_append.mp m with m | m
      · have h1 := (mac x).mp m
        cases free with
        | true => rw [if_pos rfl] at h1; exact o.strOk x h1.1
        | false => rw [if_neg (by decide)] at h1; exact h1.elim
      · exact o.strOk x (List.mem_append_left _ ((hF x).mp m).1)
    refine ⟨_, addL (k4.get _ _ (fun z => nomatch z) e3) e4 (by omega), _, rfl, ?_⟩
    have e5 : (S4 ++ [MO.lst (nD (ac ++ F))])[S4.length]? = some (.lst (nD (ac ++ F))) := new_get
    have k5 : Kp [] S2 (S4 ++ [MO.lst (nD (ac ++ F))]) := (k3.trans k4).trans Kp.new
    generalize (S4 ++ [MO.lst (nD (ac ++ F))]) = S5 at e5 k5
    dsimp only [List.set]
    rw [so_ret, ok_eTup, ok_aCons, ok_eC, ok_aCons, ok_eTup, ok_aCons, ok_eB, ok_aCons, ok_eB, ok_aCons, ok_eVar (d := .ref S4.length) (by rfl), ok_aNil]
    refine ⟨_, sortedL e5 (by rw [List.length_append]; unfold lim; omega), ?_⟩
    obtain ⟨A', eA', pA'⟩ := sort_names (S := S5) (xs := ac ++ F)
    rw [eA', ok_aNil]
    refine ⟨_, tupleL new_get, ?_⟩
    have k6 : Kp [] S2 (S5 ++ [MO.lst (nD A')]) := k5.trans Kp.new
    have e6 := (Kp.new (M := []) (S := S5) (G := [MO.lst (nD A')])).get _ _ (fun z => nomatch z) e5
    dsimp only
    generalize (S5 ++ [MO.lst (nD A')]) = S6 at k6 e6
    have en6 := k6.get _ _ (fun z => nomatch z) en
    rw [ok_aCons, ok_eB, ok_aCons]
    refine filtG (fun x => !decide (x ∈ ac ++ F)) (anyV (d := .ref S1.length) (by rfl) (by simp only [itOf, en6])) (seq_nx en6) (by omega) (by simp [wipeM]) (fun x S' m k => tt_ninL (os := ac ++ F) (by rfl) (by rfl) (k.get _ _ (fun z => nomatch z) e6) sT (skn x m)) fun S7 e7 k7 => ?_
    rw [ok_aNil]
    refine ⟨_, tupleL e7, ?_⟩
    rw [ok_aCons, ok_eOp, ok_eVar (d := G.d) (by rfl), ok_eC]
    refine ⟨(.tup (hsD G.H), S7), rfl, ?_⟩
    rw [ok_aNil]
    refine ⟨_, tupO_eq (show 3 ≤ lim by decide), ?_⟩
    rw [ok_aNil]
    refine ⟨_, tupO_eq (show 2 ≤ lim by decide), (k2.trans k6).trans k7, .inl ⟨xs, ⟨A', kn.filter fun x => !decide (x ∈ ac ++ F), G.H⟩, ⟨rfl, ax, mx⟩, rfl, ?_, ?_, rfl, fun x => ⟨?_, ?_⟩⟩⟩
    · show asc (nD A')
      rw [← eA']
      exact sort_asc (nD_uni _) (nD_nodup.mpr nT)
    · show asc (nD _)
      have := akn.filter fun d => match d with | .str x => !decide (x ∈ ac ++ F) | _ => false
      rw [nD_filter] at this
      exact this
    · show x ∈ A' ↔ _
      rw [pA'.mem_iff, List.mem_append, mac, hF]
      cases free with
      | true =>
        simp only [if_true, List.mem_append]
        by_cases hx : x ∈ xs <;> simp [hx]
      | false => simp
    · show x ∈ kn.filter _ ↔ _
      rw [List.mem_filter, pk.mem_iff]
      simp only [Bool.not_eq_true', decide_eq_false_iff_not]
      rw [List.mem_append, List.mem_append, mac, hF]
      cases free with
      | true =>
        simp only [if_true, List.mem_append]
        by_cases hx : x ∈ xs <;> by_cases h2 : x ∈ G.A <;> by_cases h3 : x ∈ G.O <;> first | exact absurd h3 (o.dis x h2) | simp [hx, h2, h3]
      | false =>
        simp only [Bool.false_eq_true, if_false, false_or]
        by_cases hx : x ∈ xs <;> by_cases h2 : x ∈ G.A <;> by_cases h3 : x ∈ G.O <;> first | exact absurd h3 (o.dis x h2) | simp [hx, h2, h3]
end Mini

/-! k05, part f: the same, by kind and worth. -/
namespace Mini
open PySem L2 PySem.W
/-- told the same as itself, with n levels -/
def SameN (n : Nat) (d : D) : Prop := ∀ (S : Store) (X : XP), ok (C.f__law_same n [d, d] S) (fun r S' => r = .bl true ∧ Kp [] S S') X
theorem neB {a : Bool} {S : Store} : pNe (.bl a) (.bl a) S = some (.bl false, S) := by
  have e : toP S (.bl a) = some (.bool a) := rfl
  show (eqD S (.bl a) (.bl a)).map _ = _
  rw [eqP e e rfl rfl]
  cases a <;> rfl
theorem eqB {a : Bool} {S : Store} : pEq (.bl a) (.bl a) S = some (.bl true, S) := by
  have e : toP S (.bl a) = some (.bool a) := rfl
  show (eqD S (.bl a) (.bl a)).map _ = _
  rw [eqP e e rfl rfl]
  cases a <;> rfl
theorem eqS {x : Str} {S : Store} (w : PyData.strOk x = true) : pEq (.str x) (.str x) S = some (.bl true, S) := by
  have e : toP S (.str x) = some (.str x) := rfl
  show (eqD S (.str x) (.str x)).map _ = _
  rw [eqP e e (shaped_str w) (shaped_str w), eqv_str, decide_eq_true rfl]; rfl
theorem same_str {n : Nat} {x : Str} (w : PyData.strOk x = true) : SameN (n + 1) (.str x) := by
  intro S X
  show ok (runF 3 2 (C.b__law_same (C.f__law_same n)) [.str x, .str x] S) _ _
  rw [run2]
  unfold C.b__law_same
  rw [so_seq, so_if, ok_tOr, ok_tTru, ok_eIsi, ok_eVar (d := .str x) (by rfl)]
  refine ⟨(.bl false, S), rfl, _, rfl, ?_⟩
  rw [if_neg (by decide), ok_tTru, ok_eIsi, ok_eVar (d := .str x) (by rfl)]
  refine ⟨(.bl false, S), rfl, _, rfl, ?_⟩
  rw [if_neg (by decide), so_nil, so_seq, so_if, ok_tBl, ok_eOp, ok_eVar (d := .str x) (by rfl), ok_eC]
  refine ⟨(.bl false, S), rfl, _, rfl, ?_⟩
  rw [if_neg (by decide), so_nil, so_seq, so_if, ok_tTru, ok_eIsi, ok_eVar (d := .str x) (by rfl)]
  refine ⟨(.bl false, S), rfl, _, rfl, ?_⟩
  rw [if_neg (by decide), so_nil, so_seq, so_if, ok_tOr, ok_tTru, ok_eIsi, ok_eVar (d := .str x) (by rfl)]
  refine ⟨(.bl false, S), rfl, _, rfl, ?_⟩
  rw [if_neg (by decide), ok_tOr, ok_tBl, ok_eOp, ok_eIsi, ok_eVar (d := .str x) (by rfl)]
  refine ⟨(.bl false, S), rfl, ?_⟩
  rw [ok_eIsi, ok_eVar (d := .str x) (by rfl)]
  refine ⟨(.bl false, S), rfl, _, neB, _, rfl, ?_⟩
  rw [if_neg (by decide), ok_tBl, ok_eOp, ok_eIsi, ok_eVar (d := .str x) (by rfl)]
  refine ⟨(.bl true, S), rfl, ?_⟩
  rw [ok_eIsi, ok_eVar (d := .str x) (by rfl)]
  refine ⟨(.bl true, S), rfl, _, neB, _, rfl, ?_⟩
  rw [if_neg (by decide), so_nil, so_ret, ok_eOp, ok_eVar (d := .str x) (by rfl), ok_eVar (d := .str x) (by rfl)]
  exact ⟨_, eqS w, rfl, Kp.refl⟩
theorem same_bl {n : Nat} {a : Bool} : SameN (n + 1) (.bl a) := by
  intro S X
  show ok (runF 3 2 (C.b__law_same (C.f__law_same n)) [.bl a, .bl a] S) _ _
  rw [run2]
  unfold C.b__law_same
  rw [so_seq, so_if, ok_tOr, ok_tTru, ok_eIsi, ok_eVar (d := .bl a) (by rfl)]
  refine ⟨(.bl false, S), rfl, _, rfl, ?_⟩
  rw [if_neg (by decide), ok_tTru, ok_eIsi, ok_eVar (d := .bl a) (by rfl)]
  refine ⟨(.bl false, S), rfl, _, rfl, ?_⟩
  rw [if_neg (by decide), so_nil, so_seq, so_if, ok_tBl, ok_eOp, ok_eVar (d := .bl a) (by rfl), ok_eC]
  refine ⟨(.bl false, S), rfl, _, rfl, ?_⟩
  rw [if_neg (by decide), so_nil, so_seq, so_if, ok_tTru, ok_eIsi, ok_eVar (d := .bl a) (by rfl)]
  refine ⟨(.bl true, S), rfl, _, rfl, ?_⟩
  rw [if_pos rfl, so_ret, ok_eAnd, ok_eIsi, ok_eVar (d := .bl a) (by rfl)]
  refine ⟨(.bl true, S), rfl, _, rfl, ?_⟩
  rw [if_pos rfl, ok_eOp, ok_eVar (d := .bl a) (by rfl), ok_eVar (d := .bl a) (by rfl)]
  exact ⟨_, eqB, rfl, Kp.refl⟩
theorem ok_all_eq {wi : Env → M MIt} {g : Tg} {fe : ME} {vs : List Nat} {ρ : Env} {S : Store} {P : D → Store → Prop} {X : XP} {it : MIt} {xs : List D} {oo : Out D} (ho : eB nAll (aCons (eLc wi g ttYes fe vs) aNil) ρ S = oo) (q : D → Bool) (hw : ∀ Q, ok (wi ρ S) Q X = Q it S) (hx : xs.length ≤ lim) (nx : ∀ i S', Kp [] S S' → nextI it i S' = .of xs[i]?)
    (step : ∀ x S', x ∈ xs → Kp [] S S' → ∃ ρ1, setT g x (wipeM ρ vs) = some ρ1 ∧ ok (fe ρ1 S') (fun y S2 => Kp [] S' S2 ∧ y = .bl (q x)) X0)
    (K : ∀ S', Kp [] S S' → P (.bl (xs.all q)) S') : ok oo P X := by
  subst ho
  exact ok_all q hw hx nx step K
theorem same_tup {n : Nat} {xs : List D} (l : xs.length ≤ 1000) (h : ∀ d ∈ xs, SameN n d) : SameN (n + 1) (.tup xs) := by
  intro S X
  show ok (runF 3 2 (C.b__law_same (C.f__law_same n)) [.tup xs, .tup xs] S) _ _
  rw [run2]
  unfold C.b__law_same
  rw [so_seq, so_if, ok_tOr, ok_tTru, ok_eIsi, ok_eVar (d := .tup xs) (by rfl)]
  refine ⟨(.bl true, S), rfl, _, rfl, ?_⟩
  rw [if_pos rfl, ok_pur, if_pos rfl, so_seq, so_if, ok_tOr, ok_tBl, ok_eOp, ok_eIsi, ok_eVar (d := .tup xs) (by rfl)]
  refine ⟨(.bl true, S), rfl, ?_⟩
  rw [ok_eIsi, ok_eVar (d := .tup xs) (by rfl)]
  refine ⟨(.bl true, S), rfl, _, neB, _, rfl, ?_⟩
  rw [if_neg (by decide), ok_tBl, ok_eOp, ok_eIsi, ok_eVar (d := .tup xs) (by rfl)]
  refine ⟨(.bl false, S), rfl, ?_⟩
  rw [ok_eIsi, ok_eVar (d := .tup xs) (by rfl)]
  refine ⟨(.bl false, S), rfl, _, neB, _, rfl, ?_⟩
  rw [if_neg (by decide), so_nil, so_ret, ok_eAnd, ok_eOp, ok_eB, ok_aCons, ok_eVar (d := .tup xs) (by rfl), ok_aNil]
  refine ⟨_, lenT, ?_⟩
  rw [ok_eB, ok_aCons, ok_eVar (d := .tup xs) (by rfl), ok_aNil]
  refine ⟨_, lenT, (.bl true, S), ?_, _, rfl, ?_⟩
  · rw [eqI, decide_eq_true (show (xs.length : Int) = (xs.length : Int) from rfl)]
  rw [if_pos rfl]
  show ok (eB nAll (aCons (eLc (iArgs rng1 (aCons (eB nLen (aCons (eVar 1) aNil)) aNil)) (.nm 2) ttYes (eCall (C.f__law_same n) (aCons (eOp pIdx (eVar 0) (eVar 2)) (aCons (eOp pIdx (eVar 1) (eVar 2)) aNil))) [2]) aNil) [some (.tup xs), some (.tup xs), none] S) (fun r S' => r = .bl true ∧ Kp [] S S') (fun m fs S1 => X m fs S1)
  generalize ho : eB nAll _ _ S = oo
  apply ok_all_eq ho (xs := (List.range xs.length).map fun i : Nat => D.int i) (it := .rng 0 xs.length) (fun _ => true)
  case hx => rw [List.length_map, List.length_range]; unfold lim; omega
  case nx => exact fun i S' _ => rng_nx i S'
  case K => exact fun S1 k1 => ⟨by rw [List.all_eq_true.mpr fun _ _ => rfl], k1⟩
  case hw => 
    intro Q
    rw [ok_iArgs, ok_aCons, ok_eB, ok_aCons, ok_eVar (d := .tup xs) (by rfl), ok_aNil]
    refine propext ⟨fun ⟨p, e1, q⟩ => ?_, fun q => ⟨_, lenT, ?_⟩⟩
    · rw [lenT] at e1
      cases e1
      rw [ok_aNil] at q
      obtain ⟨it, e3, q⟩ := q
      rw [rng1_nat (by omega)] at e3
      cases e3
      exact q
    · rw [ok_aNil]
      exact ⟨_, rng1_nat (by omega), q⟩
  case step =>
    intro x S1 mx k1
    obtain ⟨i, mi, rfl⟩ := List.mem_map.mp mx
    have hi := List.mem_range.mp mi
    refine ⟨_, rfl, ?_⟩
    rw [ok_eCall, ok_aCons, ok_eOp, ok_eVar (d := .tup xs) (by rfl), ok_eVar (d := .int i) (by rfl)]
    refine ⟨_, idxT (atI_nat (List.getElem?_eq_getElem hi)), ?_⟩
    rw [ok_aCons, ok_eOp, ok_eVar (d := .tup xs) (by rfl), ok_eVar (d := .int i) (by rfl)]
    refine ⟨_, idxT (atI_nat (List.getElem?_eq_getElem hi)), ?_⟩
    rw [ok_aNil]
    exact ok_mono (h _ (List.getElem_mem hi) _ _) (fun r S2 hr => ⟨hr.2, hr.1⟩) fun _ _ _ z => z
theorem same_names {n : Nat} {xs : List Str} (l : xs.length ≤ 1000) (w : ∀ x ∈ xs, PyData.strOk x = true) : SameN (n + 2) (.tup (nD xs)) := same_tup (by rw [nD_len]; exact l) fun d m => by
  obtain ⟨x, mx, rfl⟩ := List.mem_map.mp m
  exact same_str (w x mx)
theorem same_gr {n : Nat} {G : Gr} (o : G.Ok) : SameN (n + 4) G.d := by
  have lA := o.len
  rw [List.length_append] at lA
  have lH := o.lenH
  refine same_tup (show 3 ≤ 1000 by decide) fun d m => ?_
  simp only [List.mem_cons, List.not_mem_nil, or_false] at m
  rcases m with rfl | rfl | rfl
  · exact same_names (n := n + 1) (by omega) fun x m => o.strOk x (List.mem_append_left _ m)
  · exact same_names (n := n + 1) (by omega) fun x m => o.strOk x (List.mem_append_right _ m)
  · refine same_tup (by rw [hsD_len]; omega) fun d m => ?_
    obtain ⟨x, mx, rfl⟩ := List.mem_map.mp m
    have ox := o.of x mx
    refine same_tup (show 3 ≤ 1000 by decide) fun d m => ?_
    simp only [List.mem_cons, List.not_mem_nil, or_false] at m
    rcases m with rfl | rfl | rfl
    · exact same_str (o.strOk _ ox.1)
    · exact same_str (o.strOk _ ox.2.1)
    · exact same_str ox.2.2.strOk
theorem same_told {G : Gr} (o : G.Ok) : SameN 16 (dTold G) := same_tup (show 2 ≤ 1000 by decide) fun d m => by
  simp only [List.mem_cons, List.not_mem_nil, or_false] at m
  rcases m with rfl | rfl
  · exact same_str (by decide +kernel)
  · exact same_gr (n := 11) o
theorem same_due : SameN 16 dNames := same_tup (show 2 ≤ 1000 by decide) fun d m => by
  simp only [List.mem_cons, List.not_mem_nil, or_false] at m
  rcases m with rfl | rfl
  · exact same_str (by decide +kernel)
  · exact same_bl
end Mini

/-! k05, part g: drawn rows and what is no row. -/
namespace Mini
open PySem L2 PySem.W
theorem subset_spec {S : Store} {h k : Nat} {ns : List Str} {X : XP} (p : PotOk S h (k + 30)) (hl : ns.length ≤ 30) (nd : ns.Nodup) : ok (R.g__law_subset [.ref h, .tup (nD ns)] S) (fun d S' => ∃ xs, d = .tup (nD xs) ∧ asc (nD xs) ∧ (∀ x ∈ xs, x ∈ ns) ∧ xs.length ≤ 30 ∧ PotOk S' h k ∧ Kp [h] S S') X := by
  unfold R.g__law_subset
  rw [run2]
  unfold R.b__law_subset
  rw [so_ret, ok_eB, ok_aCons, ok_eB, ok_aCons, ok_eLc, anyV (d := .tup (nD ns)) (it := .tup (nD ns)) (by rfl) rfl]
  have hM : S.length ∉ [h] := fun z => by
    have := p.lt
    rw [List.mem_singleton] at z
    omega
  refine ok_mono (lc_rule (M := [h]) (xs := nD ns) (fun i acc S' => ∃ ys, acc = nD ys ∧ ys.Sublist (ns.take i) ∧ PotOk S' h (k + (30 - i))) (by rw [nD_len]; unfold lim; omega) hM (fun i S' _ => rfl) ?_ ?_ ?_ ?_) ?_ fun _ _ _ z => z
  · rintro i acc S' m ⟨ys, e1, e2, e3⟩
    exact ⟨ys, e1, e2, e3.set fun z => hM (by rw [← z]; exact List.mem_singleton_self _)⟩
  · rintro i acc S' ⟨ys, rfl, e2, e3⟩
    rw [nD_len]
    have := e2.length_le
    rw [List.length_take] at this
    omega
  · rintro i x acc S' ex ⟨ys, rfl, e2, e3⟩ kk
    obtain ⟨y, ey, rfl⟩ := nD_get ex
    have li : i < ns.length := (List.getElem?_eq_some_iff.mp ey).1
    refine ⟨_, rfl, ?_⟩
    dsimp only [wipeM, List.set, List.replicate]
    have e3 : PotOk S' h (k + (30 - (i + 1)) + 1) := by
      have : k + (30 - (i + 1)) + 1 = k + (30 - i) := by omega
      rw [this]; exact e3
    have tk : ns.take (i + 1) = ns.take i ++ [y] := by rw [List.take_add_one, ey]; rfl
    rw [ok_tBl, ok_eOp]
    refine pot_draw (many := 2) e3 (vr rfl) (fun _ => rfl) (by decide) (by decide) fun r S3 r0 r3 p3 k3 => ?_
    rw [ok_eC]
    refine ⟨_, eqI, _, rfl, k3, ?_⟩
    by_cases hr : r = 0
    · rw [decide_eq_true hr, if_pos rfl, ok_eVar (d := .str y) (by rfl)]
      refine ⟨Kp.refl, ys ++ [y], by rw [nD_app]; rfl, ?_, p3⟩
      rw [tk]
      exact e2.append (List.Sublist.refl _)
    · rw [decide_eq_false hr, if_neg (by decide)]
      exact ⟨ys, rfl, by rw [tk]; exact e2.trans (List.sublist_append_left _ _), p3⟩
  · exact ⟨[], rfl, by simp, (p.kp Kp.new (M := []) (fun z => nomatch z)).mono (by omega)⟩
  · rintro d S3 ⟨rfl, acc, e1, ⟨ys, rfl, e2, e3⟩, k3⟩
    rw [nD_len, List.take_length] at e2
    rw [ok_aNil]
    have ly : ys.length ≤ 30 := Nat.le_trans e2.length_le hl
    refine ⟨_, sortedL e1 (by unfold lim; omega), ?_⟩
    obtain ⟨zs, ez, pz⟩ := sort_names (S := S3) (xs := ys)
    rw [ez, ok_aNil]
    refine ⟨_, tupleL new_get, zs, rfl, ?_, fun x m => e2.subset (pz.mem_iff.mp m), by rw [pz.length_eq]; exact ly, ?_, ?_⟩
    · rw [← ez]
      exact sort_asc (nD_uni _) (nD_nodup.mpr (nd.sublist e2))
    · exact (e3.kp Kp.new (M := []) (fun z => nomatch z)).mono (by omega)
    · exact k3.trans Kp.new
theorem itm_clo {S : Store} {d : D} (c : Clo d) (s : ∀ x, d = .str x → x.length ≤ lim) (a : (eP d).canLay0 = true) (b : (eP d).depth ≤ 8) : Itm S d := .inl ⟨c, s, a, b⟩
theorem odd_spec {S : Store} {h k : Nat} {X : XP} (p : PotOk S h (k + 1)) : ok (C.g__law_odd [.ref h] S) (fun d S' => Itm S' d ∧ PotOk S' h k ∧ Kp [h] S S') X := by
  unfold C.g__law_odd
  rw [run1]
  unfold C.b__law_odd
  have hne : h ≠ S.length := by have := p.lt; omega
  have hlt := p.lt
  simp only [so_seq, so_set, ok_eLst, ok_aCons, ok_aNil, ok_eC, ok_eUn, ok_eOp, ok_eTup]
  refine ⟨(.int (-1), S), rfl, _, powI rfl, _, tupO_eq (show 1 ≤ lim by decide), _, newL_eq (show 1 ≤ lim by decide), _, newL_eq (show 0 ≤ lim by decide), _, tupO_eq (show 0 ≤ lim by decide), _, newL_eq (show 20 ≤ lim by decide), _, rfl, ?_⟩
  have eA : ((S ++ [MO.lst [D.str "a"]]) ++ [MO.lst []])[S.length]? = some (.lst [.str "a"]) := (Kp.new (M := [])).get _ _ (fun z => nomatch z) new_get
  have eB : ((S ++ [MO.lst [D.str "a"]]) ++ [MO.lst []])[(S ++ [MO.lst [D.str "a"]]).length]? = some (.lst []) := new_get
  have k0 : Kp [] S ((S ++ [MO.lst [D.str "a"]]) ++ [MO.lst []]) := Kp.new.trans Kp.new
  have hB : (S ++ [MO.lst [D.str "a"]]).length ≠ h := by rw [List.length_append]; simp only [List.length_cons, List.length_nil]; omega
  generalize (S ++ [MO.lst [D.str "a"]]).length = nB at eB hB
  generalize ((S ++ [MO.lst [D.str "a"]]) ++ [MO.lst []]) = S1 at eA eB k0
  dsimp only
  generalize eds : ([D.non, .bl true, .bl false, .int 0, .int 7, .int (-1), .int (10 ^ (30 : Int).toNat), .str "", .str "A", .str "a b", .str "abcdefghi", .str "a1", .str "t-", .tup [.str "a"], .ref S.length, .ref nB, .tup [], .str "Zz", .str " a", .str "a\n"] : List D) = ds
  have lds : ds.length = 20 := by rw [← eds]; rfl
  have k1 : Kp [] S1 (S1 ++ [MO.lst ds]) := Kp.new
  have eD : (S1 ++ [MO.lst ds])[S1.length]? = some (.lst ds) := new_get
  have hS1 : S1.length ≠ h := by have := k0.len; omega
  generalize (S1 ++ [MO.lst ds]) = S2 at k1 eD
  dsimp only [List.set, List.replicate]
  rw [so_ret, ok_eOp, ok_eVar (d := .ref S1.length) (by rfl)]
  refine pot_draw (many := 20) ((p.kp k0 (fun z => nomatch z)).kp k1 (fun z => nomatch z)) (vr rfl) (fun Q => ?_) (by decide) (by decide) fun r S3 r0 r3 p3 k3 => ?_
  · rw [ok_eB, ok_aCons, ok_eVar (d := .ref S1.length) (by rfl), ok_aNil, lenL eD, lds]
    exact propext ⟨fun ⟨_, e, q⟩ => by cases e; exact q, fun q => ⟨_, rfl, q⟩⟩
  · obtain ⟨n, rfl⟩ := Int.eq_ofNat_of_zero_le r0
    have hn : n < ds.length := by omega
    refine ⟨_, idxL (k3.get _ _ (fun z => hS1 (List.mem_singleton.mp z)) eD) (atI_nat (List.getElem?_eq_getElem hn)), ?_, p3, ((k0.trans k1).wk (fun _ z => nomatch z)).trans k3⟩
    have m : ds[n] ∈ ds := List.getElem_mem hn
    have gA : S3[S.length]? = some (.lst [.str "a"]) := k3.get _ _ (fun z => hne (List.mem_singleton.mp z).symm) (k1.get _ _ (fun z => nomatch z) eA)
    have gB : S3[nB]? = some (.lst []) := k3.get _ _ (fun z => hB (List.mem_singleton.mp z)) (k1.get _ _ (fun z => nomatch z) eB)
    have all : ∀ d ∈ ds, Itm S3 d := by
      rw [← eds]
      have st : ∀ x : Str, x.length ≤ 20 → PyData.strOk x = true → Itm S3 (.str x) := fun x l o => itm_str (by unfold lim; omega) o
      have it : ∀ i : Int, Itm S3 (.int i) := fun i => itm_clo (clo_int i) (fun x e => nomatch e) rfl (by show PyData.depth (.int i) ≤ 8; simp [PyData.depth])
      have bt : ∀ i : Bool, Itm S3 (.bl i) := fun i => itm_clo (clo_bl i) (fun x e => nomatch e) rfl (by show PyData.depth (.bool i) ≤ 8; simp [PyData.depth])
      simp only [List.forall_mem_cons]
      refine ⟨itm_clo clo_non (fun x e => nomatch e) rfl (by show PyData.depth .none ≤ 8; simp [PyData.depth]), bt _, bt _, it _, it _, it _, it _, st _ (by decide) (by decide +kernel), st _ (by decide) (by decide +kernel), st _ (by decide) (by decide +kernel), st _ (by decide) (by decide +kernel), st _ (by decide) (by decide +kernel), st _ (by decide) (by decide +kernel), ?_, ?_, ?_, ?_, st _ (by decide) (by decide +kernel), st _ (by decide) (by decide +kernel), st _ (by decide) (by decide +kernel), (fun _ z => nomatch z)⟩
      · exact itm_clo (clo_tup fun d m => by rw [List.mem_singleton.mp m]; exact clo_str _) (fun x e => nomatch e) (canAll_names (xs := ["a"]) (by decide +kernel)) (by show PyData.depth (.tuple [.str "a"]) ≤ 8; simp [PyData.depth, PyData.depthAll])
      · exact .inr ⟨_, _, rfl, gA, .inr rfl⟩
      · exact .inr ⟨_, _, rfl, gB, .inl rfl⟩
      · exact itm_clo (clo_tup fun d m => nomatch m) (fun x e => nomatch e) rfl (by show PyData.depth (.tuple []) ≤ 8; simp [PyData.depth, PyData.depthAll])
    exact all _ m
end Mini

/-! k05, part h: strangers, bent rows. -/
namespace Mini
open PySem L2 PySem.W
theorem law_is_word_spec {S : Store} {x : Str} {m : Nat} {X : XP} (hs : x.length ≤ lim) : ok (C.g__law_is_word [.str x, .int m] S) (fun r S' => r = .bl (isWd m (.str x)) ∧ Kp [] S S') X := by
  unfold C.g__law_is_word
  rw [run2]
  unfold C.b__law_is_word
  rw [so_seq, so_set, ok_eC]
  refine ⟨_, rfl, ?_⟩
  dsimp only [List.set, List.replicate]
  rw [so_ret, ok_eAnd, ok_eIsi, ok_eVar (d := .str x) (by rfl)]
  refine ⟨(.bl true, S), rfl, _, rfl, ?_⟩
  rw [if_pos rfl, ok_eAnd, ok_eChain, ok_eC, ok_eB, ok_aCons, ok_eVar (d := .str x) (by rfl), ok_aNil]
  refine ⟨_, lenS hs, _, leI, _, rfl, ?_⟩
  by_cases h1 : 1 ≤ x.length
  · rw [show (!decide ((x.length : Int) < 1)) = true from by rw [decide_eq_false (by omega)]; rfl, if_pos rfl]
    simp only [ok_bnd, ok_var, ok_lift]
    refine ⟨_, rfl, _, leI, _, rfl, ?_⟩
    by_cases h2 : x.length ≤ m
    · rw [show (!decide ((m : Int) < (x.length : Int))) = true from by rw [decide_eq_false (by omega)]; rfl, if_pos rfl]
      refine ok_all (xs := x.cps.toList.map fun c => D.str ⟨#[c]⟩) (it := .sgn x) lowD (anyV rfl rfl) (by rw [List.length_map]; rw [show x.cps.toList.length = x.length from by simp [Str.length]]; exact hs) (fun i S' _ => sgs_nx i S') (fun y S' my k => ?_) fun S' k => ⟨?_, k⟩
      · obtain ⟨c, hc, rfl⟩ := List.mem_map.mp my
        refine ⟨_, rfl, ?_⟩
        rw [ok_eOp, ok_eVar (d := .str ⟨#[c]⟩) (by rfl), ok_eVar (d := .str "abcdefghijklmnopqrstuvwxyz") (by rfl)]
        refine ⟨_, sgIn, Kp.refl, ?_⟩
        show D.bl (low c) = .bl ([c].all low)
        simp
      · rw [List.all_map]
        simp only [isWd, decide_eq_true h1, decide_eq_true h2, Bool.true_and]
        congr 1
        have : ∀ l : List Nat, l.all (lowD ∘ fun c => D.str ⟨#[c]⟩) = l.all low := fun l => by
          congr 1; funext c; simp [lowD]
        exact this _
    · rw [show (!decide ((m : Int) < (x.length : Int))) = false from by rw [decide_eq_true (by omega)]; rfl, if_neg (by decide)]
      refine ⟨?_, Kp.refl⟩
      simp only [isWd, decide_eq_false h2, Bool.and_false, Bool.false_and]
  · rw [show (!decide ((x.length : Int) < 1)) = false from by rw [decide_eq_true (by omega)]; rfl, if_neg (by decide)]
    rw [ok_pur]
    refine ⟨_, rfl, ?_⟩
    rw [if_neg (by decide), ok_pur]
    refine ⟨?_, Kp.refl⟩
    simp only [isWd, decide_eq_false h1, Bool.false_and]
theorem neT {S : Store} {ns : List Str} (w : ∀ x ∈ ns, PyData.strOk x = true) : pNe (.tup (nD ns)) (.tup []) S = some (.bl (!ns.isEmpty), S) := by
  have e1 : toP S (.tup (nD ns)) = some (.tuple (ns.map PyData.str)) := by
    show dP (deref 8 S) (.tup (nD ns)) = _
    rw [dP, dPs_names]; rfl
  have e2 : toP S (.tup []) = some (.tuple []) := rfl
  show (eqD S _ _).map _ = _
  rw [eqP e1 e2 (shaped_names w).2 (shaped_names (xs := []) (fun _ z => nomatch z)).2]
  show some (D.bl (!PyData.eqvAll (ns.map PyData.str) (([] : List Str).map PyData.str)), S) = _
  rw [eqvAll_names]
  cases ns <;> rfl
theorem cutS_len {x : Str} {lo hi : Option Int} : (cutS x lo hi).length ≤ x.length := by
  unfold cutS
  have e : x.length = x.cps.toList.length := by simp [Str.length]
  simp only [Str.length, List.size_toArray, List.length_take, List.length_drop]
  simp only [Str.length] at e
  omega
theorem addS {x y : Str} {S : Store} (h : x.length + y.length ≤ lim) : pAdd (.str x) (.str y) S = some (.str (x ++ y), S) := strO_eq (by show (x.cps ++ y.cps).size ≤ lim; rw [Array.size_append]; exact h)
theorem appS_len {x y : Str} : (x ++ y).length = x.length + y.length := Array.size_append
theorem cutSt {x : Str} {lo hi : Option Int} {S : Store} (h : x.length ≤ lim) : pCut (.str x) lo hi S = some (.str (cutS x lo hi), S) := by
  show (if x.length ≤ lim then _ else _) = _
  rw [if_pos h]
theorem stranger_spec {S : Store} {h k : Nat} {G : Gr} {X : XP} (p : PotOk S h (k + 2)) (o : G.Ok) (w5 : ∀ x ∈ G.A ++ G.O, Wd 5 x) : ok (C.g__law_stranger [.ref h, G.d] S) (fun d S' => ∃ y, d = .str y ∧ Wd 8 y ∧ PotOk S' h k ∧ Kp [h] S S') X := by
  unfold C.g__law_stranger
  rw [run2]
  unfold C.b__law_stranger
  rw [so_seq, so_set]
  refine namesOf o (by rfl) ⟨_, rfl, ?_⟩
  dsimp only [List.set, List.replicate]
  rw [so_seq, so_set, ok_eC]
  refine ⟨_, rfl, ?_⟩
  dsimp only [List.set]
  rw [so_seq]
  have lAll := o.len
  suffices go : ∀ (near : Str) (S1 : Store), near.length ≤ 5 → PotOk S1 h (k + 1) → Kp [h] S S1 → so (sSeq (sSet (.nm 4) (eLst (aCons (eOp pAdd (eVar 3) (eC (.str "k"))) (aCons (eCut (eVar 3) oNone (oSome (eUn pNeg (eC (.int 1))))) (aCons (eOp pAdd (eVar 3) (eC (.str "kk"))) (aCons (eCut (eVar 3) (oSome (eC (.int 1))) oNone) (aCons (eC (.str "strange")) aNil)))))))
      (sSeq (sSet (.nm 5) (eCall C.g__law_draw (aCons (eVar 0) (aCons (eC (.int 4)) aNil))))
      (sSeq (sSet (.nm 4) (eOp pAdd (eCut (eVar 4) (oSome (eVar 5)) oNone) (eLst (aCons (eC (.str "strange")) aNil))))
      (sRet (eOp pIdx (eLc (iAny (eVar 4)) (.nm 6) (tAnd' (tTru (eCall C.g__law_is_word (aCons (eVar 6) (aCons (eC (.int 8)) aNil)))) (tBl (eOp pNotIn (eVar 6) (eVar 2)))) (eVar 6) [6]) (eC (.int 0)))))) [some (.ref h), some G.d, some (.tup (nD (G.A ++ G.O))), some (.str near), none, none, none] S1)
      (fun _ S1 => ∃ y, D.non = .str y ∧ Wd 8 y ∧ PotOk S1 h k ∧ Kp [h] S S1) (fun d S' => ∃ y, d = .str y ∧ Wd 8 y ∧ PotOk S' h k ∧ Kp [h] S S') (fun m fs _ S1 => X m fs S1) by
    rw [so_if, ok_tBl, ok_eOp, ok_eVar (d := .tup (nD (G.A ++ G.O))) (by rfl), ok_eTup, ok_aNil]
    refine ⟨_, tupO_eq (show 0 ≤ lim by decide), _, neT o.strOk, _, rfl, ?_⟩
    by_cases he : (G.A ++ G.O).isEmpty = true
    · rw [he, show (!true) = false from rfl, if_neg (by decide), so_nil]
      exact go "b" S (by decide) (p.mono (by omega)) Kp.refl
    · rw [Bool.not_eq_true] at he
      have ln : 1 ≤ (G.A ++ G.O).length := by
        cases e : G.A ++ G.O with
        | nil => rw [e] at he; cases he
        | cons a b => simp
      rw [he, show (!false) = true from rfl, if_pos rfl, so_set, ok_eOp, ok_eVar (d := .tup (nD (G.A ++ G.O))) (by rfl)]
      refine pot_draw (k := k + 1) (many := ((G.A ++ G.O).length : Nat)) p (vr rfl) (fun Q => ?_) (by omega) (by omega) fun r S1 r0 r3 p1 k1 => ?_
      · rw [ok_eB, ok_aCons, ok_eVar (d := .tup (nD (G.A ++ G.O))) (by rfl), ok_aNil, lenT, nD_len]
        exact propext ⟨fun ⟨_, e, q⟩ => by cases e; exact q, fun q => ⟨_, rfl, q⟩⟩
      · obtain ⟨n, rfl⟩ := Int.eq_ofNat_of_zero_le r0
        have hn : n < (G.A ++ G.O).length := by omega
        refine ⟨_, idxNT hn, _, rfl, ?_⟩
        exact go _ S1 (w5 _ (List.getElem_mem hn)).2.1 p1 k1
  intro near S1 ln p1 k1
  have nl : near.length ≤ lim := by unfold lim; omega
  rw [so_seq, so_set, ok_eLst, ok_aCons, ok_eOp, ok_eVar (d := .str near) (by rfl), ok_eC]
  refine ⟨_, addS (show near.length + 1 ≤ lim by unfold lim; omega), ?_⟩
  rw [ok_aCons, ok_eCut, ok_eVar (d := .str near) (by rfl), ok_oNone, ok_oSome, ok_eUn, ok_eC]
  refine ⟨(.int (-1), S1), rfl, _, rfl, _, cutSt nl, ?_⟩
  rw [ok_aCons, ok_eOp, ok_eVar (d := .str near) (by rfl), ok_eC]
  refine ⟨_, addS (show near.length + 2 ≤ lim by unfold lim; omega), ?_⟩
  rw [ok_aCons, ok_eCut, ok_eVar (d := .str near) (by rfl), ok_oSome, ok_eC]
  refine ⟨_, rfl, ?_⟩
  rw [ok_oNone]
  refine ⟨_, cutSt nl, ?_⟩
  rw [ok_aCons, ok_eC, ok_aNil]
  generalize efs : [near ++ "k", cutS near none (some (-1)), near ++ "kk", cutS near (some 1) none, ("strange" : Str)] = fs
  have lfs : fs.length = 5 := by rw [← efs]; rfl
  have sfs : ∀ x ∈ fs, x.length ≤ 100 := by
    rw [← efs]
    simp only [List.forall_mem_cons]
    have c1 : (cutS near none (some (-1))).length ≤ near.length := cutS_len
    have c2 : (cutS near (some 1) none).length ≤ near.length := cutS_len
    have a1 : (near ++ ("k" : Str)).length = near.length + 1 := appS_len
    have a2 : (near ++ ("kk" : Str)).length = near.length + 2 := appS_len
    refine ⟨by omega, by omega, by omega, by omega, by decide, (fun _ z => nomatch z)⟩
  have enD : [D.str (near ++ "k"), D.str (cutS near none (some (-1))), D.str (near ++ "kk"), D.str (cutS near (some 1) none), D.str "strange"] = nD fs := by rw [← efs]; rfl
  dsimp only
  rw [enD]
  refine ⟨_, newL_eq (by rw [nD_len, lfs]; decide), _, rfl, ?_⟩
  dsimp only [List.set]
  have hS1 : S1.length ≠ h := by have := p1.lt; omega
  rw [so_seq, so_set]
  refine pot_draw (k := k) (many := 4) (p1.kp Kp.new (M := []) (fun z => nomatch z)) (vr rfl) (fun _ => rfl) (by decide) (by decide) fun r S2 r0 r3 p2 k2 => ⟨_, rfl, ?_⟩
  obtain ⟨n, rfl⟩ := Int.eq_ofNat_of_zero_le r0
  have e2 : S2[S1.length]? = some (.lst (nD fs)) := k2.get _ _ (fun z => hS1 (List.mem_singleton.mp z)) new_get
  have K2 : Kp [h] S S2 := k1.trans (Kp.new.trans k2)
  dsimp only [List.set]
  rw [so_seq, so_set, ok_eOp, ok_eCut, ok_eVar (d := .ref S1.length) (by rfl), ok_oSome, ok_eVar (d := .int n) (by rfl)]
  refine ⟨_, rfl, ?_⟩
  rw [ok_oNone]
  refine ⟨_, cutL e2, ?_⟩
  rw [cut_drop, show (nD fs).drop n = nD (fs.drop n) from by unfold nD; rw [List.map_drop]]
  have e3 : (S2 ++ [MO.lst (nD (fs.drop n))])[S2.length]? = some (.lst (nD (fs.drop n))) := new_get
  have K3 : Kp [] S2 (S2 ++ [MO.lst (nD (fs.drop n))]) := Kp.new
  dsimp only
  generalize (S2 ++ [MO.lst (nD (fs.drop n))]) = S3 at e3 K3
  rw [ok_eLst, ok_aCons, ok_eC, ok_aNil]
  refine ⟨_, newL_eq (show 1 ≤ lim by decide), ?_⟩
  have e4 : (S3 ++ [MO.lst [D.str "strange"]])[S3.length]? = some (.lst (nD ["strange"])) := new_get
  have K4 : Kp [] S3 (S3 ++ [MO.lst [D.str "strange"]]) := Kp.new
  dsimp only
  generalize (S3 ++ [MO.lst [D.str "strange"]]) = S4 at e4 K4
  refine ⟨_, addL (K4.get _ _ (fun z => nomatch z) e3) e4 (by rw [List.length_drop]; simp; omega), _, rfl, ?_⟩
  have e5 : (S4 ++ [MO.lst (nD (fs.drop n ++ [("strange" : Str)]))])[S4.length]? = some (.lst (nD (fs.drop n ++ [("strange" : Str)]))) := new_get
  have K5 : Kp [] S4 (S4 ++ [MO.lst (nD (fs.drop n ++ [("strange" : Str)]))]) := Kp.new
  dsimp only
  generalize (S4 ++ [MO.lst (nD (fs.drop n ++ [("strange" : Str)]))]) = S5 at e5 K5
  have lgs : (fs.drop n ++ [("strange" : Str)]).length ≤ 6 := by rw [List.length_append, List.length_drop]; simp; omega
  have sgs : ∀ x ∈ fs.drop n ++ [("strange" : Str)], x.length ≤ 100 := fun x m => by
    rcases List.mem_append.mp m with m | m
    · exact sfs x (List.mem_of_mem_drop m)
    · rw [List.mem_singleton.mp m]; decide
  have lastg : ("strange" : Str) ∈ fs.drop n ++ [("strange" : Str)] := List.mem_append_right _ (List.mem_singleton_self _)
  generalize fs.drop n ++ [("strange" : Str)] = gs at e5 lgs sgs lastg
  dsimp only [List.set]
  rw [so_ret, ok_eOp]
  refine ok_lc (xs := nD gs) (it := .seq S4.length) (fun d => isWd 8 d && !memN (G.A ++ G.O) d) (fun d => d) (anyV (d := .ref S4.length) (by rfl) (by simp only [itOf, e5])) (by rw [nD_len]; unfold lim; omega) (seq_nx e5) (fun x S6 mx k6 => ?_) fun S6 e6 k6 => ?_
  · obtain ⟨y, my, rfl⟩ := List.mem_map.mp mx
    refine ⟨_, rfl, ?_⟩
    dsimp only [wipeM, List.set]
    rw [ok_tAnd, ok_tTru, ok_eCall, ok_aCons, ok_eVar (d := .str y) (by rfl), ok_aCons, ok_eC, ok_aNil]
    refine ok_mono (law_is_word_spec (m := 8) (x := y) (Nat.le_trans (sgs y my) (by decide))) (fun r S7 hr => ?_) fun _ _ _ z => z
    obtain ⟨rfl, k7⟩ := hr
    refine ⟨_, rfl, ?_⟩
    by_cases hw : Wd 8 y
    · rw [isWd_iff.mpr hw, if_pos rfl, ok_tBl, ok_eOp, ok_eVar (d := .str y) (by rfl), ok_eVar (d := .tup (nD (G.A ++ G.O))) (by rfl)]
      refine ⟨_, ninN o.strOk hw.strOk, _, rfl, k7, ?_, fun _ => ?_⟩
      · rfl
      · rw [ok_eVar (d := .str y) (by rfl)]
        exact ⟨Kp.refl, rfl⟩
    · have hf : isWd 8 (.str y) = false := by
        rw [Bool.eq_false_iff]
        exact fun z => hw (isWd_iff.mp z)
      rw [hf, if_neg (by decide), ok_pur]
      exact ⟨k7, rfl, fun z => nomatch z⟩
  · rw [List.map_id'] at e6
    rw [ok_eC]
    have mz : D.str "strange" ∈ (nD gs).filter fun d => isWd 8 d && !memN (G.A ++ G.O) d := by
      rw [List.mem_filter]
      refine ⟨nD_mem.mpr lastg, ?_⟩
      rw [isWd_iff.mpr ⟨by decide, by decide, by decide⟩]
      have : memN (G.A ++ G.O) (.str "strange") = false := by
        rw [Bool.eq_false_iff]
        intro z
        have := (w5 _ (nD_mem.mp (memN_iff.mp z))).2.1
        exact absurd this (by decide)
      rw [this]; rfl
    have mem0 : ∀ z zs, (nD gs).filter (fun d => isWd 8 d && !memN (G.A ++ G.O) d) = z :: zs → ∃ y, z = .str y ∧ Wd 8 y := by
      intro z zs e
      have m : z ∈ (nD gs).filter fun d => isWd 8 d && !memN (G.A ++ G.O) d := by rw [e]; exact List.mem_cons_self
      rw [List.mem_filter, Bool.and_eq_true] at m
      obtain ⟨y, my, rfl⟩ := List.mem_map.mp m.1
      exact ⟨y, rfl, isWd_iff.mp m.2.1⟩
    generalize (nD gs).filter (fun d => isWd 8 d && !memN (G.A ++ G.O) d) = zs at e6 mz mem0
    cases zs with
    | nil => cases mz
    | cons z zs =>
      obtain ⟨y, rfl, wy⟩ := mem0 _ _ rfl
      have KK : Kp [] S2 S6 := K3.trans (K4.trans (K5.trans k6))
      exact ⟨_, idxL e6 (show L2.atI (D.str y :: zs) ((0 : Nat) : Int) = some (.str y) from atI_nat rfl), y, rfl, wy, p2.kp KK (fun z => nomatch z), K2.trans (KK.wk (fun _ z => nomatch z))⟩
end Mini

/-! k05, part i: bent rows. -/
namespace Mini
open PySem L2 PySem.W
theorem Itm.kpM {M : List Nat} {S S' : Store} {d : D} (i : Itm S d) (k : Kp M S S') (hn : ∀ n, d = .ref n → n ∉ M) : Itm S' d := i.imp id fun ⟨h, xs, e, e1, e2⟩ => ⟨h, xs, e, k.get _ _ (hn h e) e1, e2⟩
theorem val_tup {S : Store} {zs : List D} (l : zs.length ≤ 1000) (h : ∀ d ∈ zs, Itm S d) : Val S (.tup zs) := ⟨trivial, fun xs e => by cases e; exact ⟨l, h⟩⟩
theorem cut_sub {xs : List D} {lo hi : Option Int} : (∀ d ∈ cutD xs lo hi, d ∈ xs) ∧ (cutD xs lo hi).length ≤ xs.length := by
  unfold cutD
  refine ⟨fun d m => List.mem_of_mem_drop (List.mem_of_mem_take m), ?_⟩
  rw [List.length_take, List.length_drop]
  omega
theorem atI_mem {xs : List D} {i : Nat} (h : i < xs.length) : ∃ d ∈ xs, L2.atI xs (i : Int) = some d := ⟨xs[i], List.getElem_mem h, atI_nat (List.getElem?_eq_getElem h)⟩
theorem bent_row_spec {S : Store} {h k : Nat} {xs : List D} {bad : D} {X : XP} (p : PotOk S h (k + 2)) (l : xs.length ≤ 30) (hx : ∀ d ∈ xs, Itm S d) (hxr : ∀ d ∈ xs, ∀ n, d ≠ .ref n) (ib : Itm S bad) (hb : ∀ n, bad = .ref n → n ≠ h) :
    ok (R.g__law_bent_row [.ref h, .tup xs, bad] S) (fun d S' => Val S' d ∧ (∀ n, d = .ref n → n ≠ h) ∧ PotOk S' h k ∧ Kp [h] S S') X := by
  unfold R.g__law_bent_row
  rw [run3]
  unfold R.b__law_bent_row
  rw [so_seq, so_par, ok_aCons]
  refine pot_draw (k := k + 1) (many := xs.length + 1) p (vr rfl) (fun Q => ?_) (by omega) (by omega) fun r S1 r0 r1 p1 k1 => ?_
  · rw [ok_eOp, ok_eB, ok_aCons, ok_eVar (d := .tup xs) (by rfl), ok_aNil]
    refine propext ⟨fun ⟨p, e1, q⟩ => ?_, fun q => ⟨_, lenT, ?_⟩⟩
    · rw [lenT] at e1
      cases e1
      rw [ok_eC] at q
      obtain ⟨_, e, q⟩ := q
      cases e
      exact q
    · rw [ok_eC]
      exact ⟨_, addI, q⟩
  rw [ok_aCons]
  refine pot_draw (k := k) (many := 6) p1 (vr rfl) (fun _ => rfl) (by decide) (by decide) fun t S2 t0 t1 p2 k2 => ?_
  rw [ok_aNil]
  refine ⟨_, _, rfl, ?_⟩
  obtain ⟨n, rfl⟩ := Int.eq_ofNat_of_zero_le r0
  have K : Kp [h] S S2 := k1.trans k2
  have ib2 : Itm S2 bad := ib.kpM K fun n e z => hb n e (List.mem_singleton.mp z)
  have hx2 : ∀ d ∈ xs, Itm S2 d := fun d m => (hx d m).kpM K fun n e => absurd e (hxr d m n)
  dsimp only [List.set, List.replicate]
  have out : ∀ zs : List D, zs.length ≤ 100 → (∀ d ∈ zs, d ∈ xs ∨ d = bad) → Val S2 (.tup zs) ∧ (∀ n, D.tup zs = .ref n → n ≠ h) ∧ PotOk S2 h k ∧ Kp [h] S S2 := fun zs lz mz => ⟨val_tup (by omega) fun d m => by
    rcases mz d m with m | rfl
    · exact hx2 d m
    · exact ib2, (fun n e => nomatch e), p2, K⟩
  have cl : ∀ lo hi, (cutD xs lo hi).length ≤ 30 := fun lo hi => Nat.le_trans cut_sub.2 l
  -- the last two rows
  have last : ∀ (c : Int) (ρ : Env), ρ[1]? = some (some (.tup xs)) → ρ[2]? = some (some bad) → ρ[3]? = some (some (.int n)) → ∀ fe : ME, (∀ Q, ok (fe ρ S2) Q X = Q (.int c) S2) →
      ok (eOp pAdd (eOp pAdd (eCut (eVar 1) oNone (oSome (eVar 3))) (eTup (aCons (eVar 2) aNil))) (eCut (eVar 1) (oSome fe) oNone) ρ S2) (fun d S' => Val S' d ∧ (∀ n, d = .ref n → n ≠ h) ∧ PotOk S' h k ∧ Kp [h] S S') X := by
    intro c ρ h1 h2 h3 fe he
    rw [ok_eOp, ok_eOp, ok_eCut, ok_eVar h1, ok_oNone, ok_oSome, ok_eVar h3]
    refine ⟨_, rfl, _, rfl, ?_⟩
    rw [ok_eTup, ok_aCons, ok_eVar h2, ok_aNil]
    refine ⟨_, tupO_eq (show 1 ≤ lim by decide), _, tupO_eq (by rw [List.length_append]; have := cl none (some (n : Int)); simp; unfold lim; omega), ?_⟩
    rw [ok_eCut, ok_eVar h1, ok_oSome, he]
    refine ⟨_, rfl, ?_⟩
    rw [ok_oNone]
    refine ⟨_, rfl, _, tupO_eq (by rw [List.length_append, List.length_append]; have := cl none (some (n : Int)); have := cl (some c) none; simp; unfold lim; omega), ?_⟩
    refine out _ (by rw [List.length_append, List.length_append]; have := cl none (some (n : Int)); have := cl (some c) none; simp; omega) fun d m => ?_
    rcases List.mem_append.mp m with m | m
    · rcases List.mem_append.mp m with m | m
      · exact .inl (cut_sub.1 d m)
      · exact .inr (List.mem_singleton.mp m)
    · exact .inl (cut_sub.1 d m)
  -- kind 0
  rw [so_seq, so_if, ok_tAnd, ok_tBl, ok_eOp, ok_eVar (d := .int t) (by rfl), ok_eC]
  refine ⟨_, eqI, _, rfl, ?_⟩
  suffices r1' : so (sSeq (sIf (tAnd' (tBl (eOp pEq (eVar 4) (eC (.int 1)))) (tBl (eOp pLt (eOp pAdd (eVar 3) (eC (.int 1))) (eB nLen (aCons (eVar 1) aNil)))))
    (sRet (eOp pAdd (eOp pAdd (eCut (eVar 1) oNone (oSome (eVar 3))) (eTup (aCons (eOp pIdx (eVar 1) (eOp pAdd (eVar 3) (eC (.int 1)))) (aCons (eOp pIdx (eVar 1) (eVar 3)) aNil)))) (eCut (eVar 1) (oSome (eOp pAdd (eVar 3) (eC (.int 2)))) oNone)))
    sNil)
    (sSeq (sIf (tBl (eOp pEq (eVar 4) (eC (.int 2))))
    (sRet (eB nList (aCons (eVar 1) aNil)))
    sNil)
    (sSeq (sIf (tBl (eOp pEq (eVar 4) (eC (.int 3))))
    (sRet (eOp pAdd (eOp pAdd (eCut (eVar 1) oNone (oSome (eVar 3))) (eTup (aCons (eVar 2) aNil))) (eCut (eVar 1) (oSome (eOp pAdd (eVar 3) (eC (.int 1)))) oNone)))
    sNil)
    (sRet (eOp pAdd (eOp pAdd (eCut (eVar 1) oNone (oSome (eVar 3))) (eTup (aCons (eVar 2) aNil))) (eCut (eVar 1) (oSome (eVar 3)) oNone)))))
    [some (.ref h), some (.tup xs), some bad, some (.int n), some (.int t)] S2) (fun _ S' => Val S' .non ∧ (∀ n, D.non = .ref n → n ≠ h) ∧ PotOk S' h k ∧ Kp [h] S S') (fun d S' => Val S' d ∧ (∀ n, d = .ref n → n ≠ h) ∧ PotOk S' h k ∧ Kp [h] S S') (fun m fs _ S1 => X m fs S1) by
    by_cases h0 : t = 0
    · rw [decide_eq_true h0, if_pos rfl, ok_tBl, ok_eOp, ok_eVar (d := .int n) (by rfl), ok_eB, ok_aCons, ok_eVar (d := .tup xs) (by rfl), ok_aNil]
      refine ⟨_, lenT, _, ltI, _, rfl, ?_⟩
      by_cases hn : n < xs.length
      · rw [decide_eq_true (by omega), if_pos rfl, so_ret, ok_eOp, ok_eCut, ok_eVar (d := .tup xs) (by rfl), ok_oNone, ok_oSome, ok_eOp, ok_eVar (d := .int n) (by rfl), ok_eC]
        refine ⟨_, addI, _, rfl, _, rfl, ?_⟩
        rw [ok_eCut, ok_eVar (d := .tup xs) (by rfl), ok_oSome, ok_eVar (d := .int n) (by rfl)]
        refine ⟨_, rfl, ?_⟩
        rw [ok_oNone]
        refine ⟨_, rfl, _, tupO_eq (by rw [List.length_append]; have := cl none (some ((n : Int) + 1)); have := cl (some (n : Int)) none; unfold lim; omega), ?_⟩
        refine out _ (by rw [List.length_append]; have := cl none (some ((n : Int) + 1)); have := cl (some (n : Int)) none; omega) fun d m => ?_
        rcases List.mem_append.mp m with m | m
        · exact .inl (cut_sub.1 d m)
        · exact .inl (cut_sub.1 d m)
      · rw [decide_eq_false (by omega), if_neg (by decide), so_nil]
        exact r1'
    · rw [decide_eq_false h0, if_neg (by decide), ok_pur, if_neg (by decide), so_nil]
      exact r1'
  rw [so_seq, so_if, ok_tAnd, ok_tBl, ok_eOp, ok_eVar (d := .int t) (by rfl), ok_eC]
  refine ⟨_, eqI, _, rfl, ?_⟩
  suffices r2' : so (sSeq (sIf (tBl (eOp pEq (eVar 4) (eC (.int 2))))
    (sRet (eB nList (aCons (eVar 1) aNil)))
    sNil)
    (sSeq (sIf (tBl (eOp pEq (eVar 4) (eC (.int 3))))
    (sRet (eOp pAdd (eOp pAdd (eCut (eVar 1) oNone (oSome (eVar 3))) (eTup (aCons (eVar 2) aNil))) (eCut (eVar 1) (oSome (eOp pAdd (eVar 3) (eC (.int 1)))) oNone)))
    sNil)
    (sRet (eOp pAdd (eOp pAdd (eCut (eVar 1) oNone (oSome (eVar 3))) (eTup (aCons (eVar 2) aNil))) (eCut (eVar 1) (oSome (eVar 3)) oNone))))
    [some (.ref h), some (.tup xs), some bad, some (.int n), some (.int t)] S2) (fun _ S' => Val S' .non ∧ (∀ n, D.non = .ref n → n ≠ h) ∧ PotOk S' h k ∧ Kp [h] S S') (fun d S' => Val S' d ∧ (∀ n, d = .ref n → n ≠ h) ∧ PotOk S' h k ∧ Kp [h] S S') (fun m fs _ S1 => X m fs S1) by
    by_cases h0 : t = 1
    · rw [decide_eq_true h0, if_pos rfl, ok_tBl, ok_eOp, ok_eOp, ok_eVar (d := .int n) (by rfl), ok_eC]
      refine ⟨_, addI, ?_⟩
      rw [ok_eB, ok_aCons, ok_eVar (d := .tup xs) (by rfl), ok_aNil]
      refine ⟨_, lenT, _, ltI, _, rfl, ?_⟩
      by_cases hn : n + 1 < xs.length
      · obtain ⟨d1, m1, a1⟩ := atI_mem hn
        obtain ⟨d2, m2, a2⟩ := atI_mem (xs := xs) (i := n) (by omega)
        rw [decide_eq_true (by omega), if_pos rfl, so_ret, ok_eOp, ok_eOp, ok_eCut, ok_eVar (d := .tup xs) (by rfl), ok_oNone, ok_oSome, ok_eVar (d := .int n) (by rfl)]
        refine ⟨_, rfl, _, rfl, ?_⟩
        rw [ok_eTup, ok_aCons, ok_eOp, ok_eVar (d := .tup xs) (by rfl), ok_eOp, ok_eVar (d := .int n) (by rfl), ok_eC]
        refine ⟨_, addI, _, idxT (by rw [show (n : Int) + 1 = ((n + 1 : Nat) : Int) from rfl]; exact a1), ?_⟩
        rw [ok_aCons, ok_eOp, ok_eVar (d := .tup xs) (by rfl), ok_eVar (d := .int n) (by rfl)]
        refine ⟨_, idxT a2, ?_⟩
        rw [ok_aNil]
        refine ⟨_, tupO_eq (show 2 ≤ lim by decide), _, tupO_eq (by rw [List.length_append]; have := cl none (some (n : Int)); simp; unfold lim; omega), ?_⟩
        rw [ok_eCut, ok_eVar (d := .tup xs) (by rfl), ok_oSome, ok_eOp, ok_eVar (d := .int n) (by rfl), ok_eC]
        refine ⟨_, addI, _, rfl, ?_⟩
        rw [ok_oNone]
        refine ⟨_, rfl, _, tupO_eq (by rw [List.length_append, List.length_append]; have := cl none (some (n : Int)); have := cl (some ((n : Int) + 2)) none; simp; unfold lim; omega), ?_⟩
        refine out _ (by rw [List.length_append, List.length_append]; have := cl none (some (n : Int)); have := cl (some ((n : Int) + 2)) none; simp; omega) fun d m => ?_
        rcases List.mem_append.mp m with m | m
        · rcases List.mem_append.mp m with m | m
          · exact .inl (cut_sub.1 d m)
          · simp only [List.mem_cons, List.not_mem_nil, or_false] at m
            rcases m with rfl | rfl
            · exact .inl m1
            · exact .inl m2
        · exact .inl (cut_sub.1 d m)
      · rw [decide_eq_false (by omega), if_neg (by decide), so_nil]
        exact r2'
    · rw [decide_eq_false h0, if_neg (by decide), ok_pur, if_neg (by decide), so_nil]
      exact r2'
  rw [so_seq, so_if, ok_tBl, ok_eOp, ok_eVar (d := .int t) (by rfl), ok_eC]
  refine ⟨_, eqI, _, rfl, ?_⟩
  by_cases h2 : t = 2
  · rw [decide_eq_true h2, if_pos rfl, so_ret, ok_eB, ok_aCons, ok_eVar (d := .tup xs) (by rfl), ok_aNil]
    have hS2 : S2.length ≠ h := by have := p2.lt; omega
    refine ⟨(.ref S2.length, S2 ++ [.lst xs]), rfl, ⟨⟨xs, new_get⟩, fun zs e => nomatch e⟩, (fun n e => by cases e; exact hS2), p2.kp Kp.new (M := []) (fun z => nomatch z), K.trans Kp.new⟩
  rw [decide_eq_false h2, if_neg (by decide), so_nil, so_seq, so_if, ok_tBl, ok_eOp, ok_eVar (d := .int t) (by rfl), ok_eC]
  refine ⟨_, eqI, _, rfl, ?_⟩
  by_cases h3 : t = 3
  · rw [decide_eq_true h3, if_pos rfl, so_ret]
    refine last ((n : Int) + 1) _ rfl rfl rfl _ fun Q => ?_
    rw [ok_eOp, ok_eVar (d := .int n) (by rfl), ok_eC]
    exact propext ⟨fun ⟨_, e, q⟩ => by cases e; exact q, fun q => ⟨_, rfl, q⟩⟩
  · rw [decide_eq_false h3, if_neg (by decide), so_nil, so_ret]
    exact last n _ rfl rfl rfl _ (vr rfl)
end Mini

/-! k05, part j: the law's body. -/
namespace Mini
open PySem L2 PySem.W
def Case (G : Gr) (v : D) (free : Bool) (d : D) : Prop := (∃ xs G', Good G v xs ∧ d = dTold G' ∧ Res G xs free G') ∨ ((∀ xs, ¬ Good G v xs) ∧ d = dNames)
theorem nD_inj {xs ys : List Str} (h : nD xs = nD ys) : xs = ys := List.map_inj_right (fun a b e => by cases e; rfl) |>.mp h
theorem agree {G : Gr} {v d1 d2 : D} {free : Bool} (o : G.Ok) (c1 : Case G v free d1) (c2 : Case G v free d2) : d1 = d2 ∧ SameN 16 d1 := by
  rcases c1 with ⟨xs, G1, g1, rfl, r1⟩ | ⟨n1, rfl⟩
  · rcases c2 with ⟨ys, G2, g2, rfl, r2⟩ | ⟨n2, rfl⟩
    · obtain rfl : xs = ys := nD_inj (D.tup.inj (g1.1.symm.trans g2.1))
      exact ⟨by unfold dTold; rw [res_uniq r1 r2], same_told (res_ok o r1)⟩
    · exact absurd g1 (n2 xs)
  · rcases c2 with ⟨ys, G2, g2, rfl, r2⟩ | ⟨n2, rfl⟩
    · exact absurd g2 (n1 ys)
    · exact ⟨rfl, same_due⟩
theorem Itm.pot {S : Store} {d : D} {h k : Nat} (i : Itm S d) (p : PotOk S h k) : ∀ n, d = .ref n → n ≠ h := by
  rintro n rfl rfl
  obtain ⟨a, b, c, e, _⟩ := p
  rcases i with ⟨c, _⟩ | ⟨h, xs, e1, e2, e3⟩
  · exact clo_noref c
  · cases e1
    rw [e] at e2
    rcases e3 with rfl | rfl <;> cases e2
theorem Val.kpM {S S' : Store} {v : D} {h k : Nat} (q : Val S v) (p : PotOk S h k) (hv : ∀ n, v = .ref n → n ≠ h) (K : Kp [h] S S') : Val S' v := by
  refine ⟨?_, fun xs e => ⟨(q.2 xs e).1, fun d m => ((q.2 xs e).2 d m).kpM K fun n e1 z => ((q.2 xs e).2 d m).pot p n e1 (List.mem_singleton.mp z)⟩⟩
  have := q.1
  cases v with
  | ref n => obtain ⟨xs, e⟩ := this; exact ⟨xs, K.get _ _ (fun z => hv n rfl (List.mem_singleton.mp z)) e⟩
  | _ => exact this
theorem names_itm {S : Store} {G : Gr} (o : G.Ok) {xs : List Str} (m : ∀ x ∈ xs, x ∈ G.A ++ G.O) : ∀ d ∈ nD xs, Itm S d := fun d md => by
  obtain ⟨x, mx, rfl⟩ := List.mem_map.mp md
  exact itm_str ((o.wd x (m x mx)).fits (by decide)) (o.strOk x (m x mx))
theorem depth_names {xs : List Str} : PyData.depth (.tuple (xs.map PyData.str)) ≤ 2 := by
  have := depthAll_names xs
  rw [PyData.depth]; omega
theorem eP_names (xs : List Str) : eP (.tup (nD xs)) = .tuple (xs.map PyData.str) := by
  unfold eP
  rw [dP, dPs_names]; rfl
theorem tup_itm {S : Store} {xs : List Str} (w : ∀ x ∈ xs, PyData.strOk x = true) : Itm S (.tup (nD xs)) := itm_clo (clo_tup (nD_uni xs).1) (fun x e => nomatch e) (by rw [eP_names]; exact canAll_names w) (by rw [eP_names]; exact Nat.le_trans depth_names (by decide))
theorem hold_itm {S : Store} {G : Gr} (o : G.Ok) {h : Ho} (m : h ∈ G.H) : Itm S (hD h) := by
  have := tup_itm (S := S) (xs := [h.1, h.2.1, h.2.2]) (by
    have z := o.of h m
    simp [o.strOk _ z.1, o.strOk _ z.2.1, z.2.2.strOk])
  exact this
/-- one comparison of the law -/
theorem compare {S : Store} {G : Gr} {v : D} {free : Bool} {ρ : Env} {fa fb fa2 fb2 fc fc2 : ME} {P : D → Store → Prop} {X : XP} (o : G.Ok) (q : Val S v)
    (h1 : ∀ S' Q, ok (fa ρ S') Q X = Q G.d S') (h2 : ∀ S' Q, ok (fb ρ S') Q X = Q v S') (h3 : ∀ S' Q, ok (fc ρ S') Q X = Q (.bl free) S')
    (h4 : ∀ S' Q, ok (fa2 ρ S') Q X = Q G.d S') (h5 : ∀ S' Q, ok (fb2 ρ S') Q X = Q v S') (h6 : ∀ S' Q, ok (fc2 ρ S') Q X = Q (.bl free) S')
    (K : ∀ S', Kp [] S S' → P (.bl true) S') : ok (eCall C.g__law_same (aCons (eCall R.g__law_told (aCons fa (aCons fb (aCons fc aNil)))) (aCons (eCall R.g__law_due (aCons fa2 (aCons fb2 (aCons fc2 aNil)))) aNil)) ρ S) P X := by
  rw [ok_eCall, ok_aCons, ok_eCall, ok_aCons, h1, ok_aCons, h2, ok_aCons, h3, ok_aNil]
  refine ok_mono (told_spec o q) (fun d1 S1 hd => ?_) fun _ _ _ z => z
  obtain ⟨k1, c1⟩ := hd
  rw [ok_aCons, ok_eCall, ok_aCons, h4, ok_aCons, h5, ok_aCons, h6, ok_aNil]
  refine ok_mono (due_spec o (q.kp k1)) (fun d2 S2 hd => ?_) fun _ _ _ z => z
  obtain ⟨k2, c2⟩ := hd
  rw [ok_aNil]
  obtain ⟨rfl, sm⟩ := agree o c1 c2
  refine ok_mono (sm S2 _) (fun r S3 hr => ?_) fun _ _ _ z => z
  obtain ⟨rfl, k3⟩ := hr
  exact K S3 ((k1.trans k2).trans k3)
theorem vr2 {i : Nat} {ρ : Env} {d : D} {X : XP} (h : ρ[i]? = some (some d)) : ∀ S Q, ok (eVar i ρ S) Q X = Q d S := fun S Q => ok_eVar h
theorem gr0 : (⟨[], [], []⟩ : Gr).Ok := ⟨List.Pairwise.nil, List.Pairwise.nil, List.Pairwise.nil, (fun _ z => nomatch z), (fun _ z => nomatch z), (fun _ z => nomatch z), by decide, by decide⟩
/-- the inner turns -/
theorem inner {S : Store} {G : Gr} {xs : List Str} {free : Bool} {h k : Nat} {a0 a1 a6 a7 a8 a9 : Option D} {N : Env → Store → Prop} {Rr : D → Store → Prop} {X : XPs} (o : G.Ok) (w5 : ∀ x ∈ G.A ++ G.O, Wd 5 x) (mx : ∀ x ∈ xs, x ∈ G.A ++ G.O) (lx : xs.length ≤ 30) (p : PotOk S h (k + 30))
    (done : ∀ b8 b9 S', Kp [h] S S' → N [a0, a1, some (.ref h), some G.d, some (.tup (nD xs)), some (.bl free), a6, a7, b8, b9] S') :
    so (sFor (iArgs rng1 (aCons (eC (.int 3)) aNil)) (.nm 8)
    (sSeq (sSet (.nm 9) (eCall R.g__law_bent_row (aCons (eVar 2) (aCons (eVar 4) (aCons (eOp pIdx (eLst (aCons (eCall C.g__law_odd (aCons (eVar 2) aNil)) (aCons (eCall C.g__law_stranger (aCons (eVar 2) (aCons (eVar 3) aNil))) aNil))) (eCall C.g__law_draw (aCons (eVar 2) (aCons (eC (.int 2)) aNil)))) aNil)))))
    (sSeq (sSet (.nm 9) (eOp pIdx (eLst (aCons (eVar 9) (aCons (eVar 9) (aCons (eVar 9) (aCons (eC .non) (aCons (eC (.str "a")) (aCons (eB nList (aCons (eVar 4) aNil)) (aCons (eC (.int 0)) (aCons (eOp pIdx (eVar 3) (eC (.int 2))) (aCons (eTup (aCons (eVar 4) aNil)) aNil)))))))))) (eCall C.g__law_draw (aCons (eVar 2) (aCons (eC (.int 9)) aNil)))))
    (sIf (tNot' (tTru (eCall C.g__law_same (aCons (eCall R.g__law_told (aCons (eVar 3) (aCons (eVar 9) (aCons (eVar 5) aNil)))) (aCons (eCall R.g__law_due (aCons (eVar 3) (aCons (eVar 9) (aCons (eVar 5) aNil)))) aNil)))))
    (sRet (eC (.bl false)))
    sNil))) [a0, a1, some (.ref h), some G.d, some (.tup (nD xs)), some (.bl free), a6, a7, a8, a9] S) N Rr X := by
  have sX : ∀ x ∈ xs, PyData.strOk x = true := fun x m => o.strOk x (mx x m)
  rw [so_for, ok_iArgs, ok_aCons, ok_eC, ok_aNil]
  refine ⟨_, rng1_nat (n := 3) (by decide), ?_⟩
  refine for_inv (xs := (List.range 3).map fun i : Nat => D.int i) (fun i ρ S' => ∃ b8 b9, ρ = [a0, a1, some (.ref h), some G.d, some (.tup (nD xs)), some (.bl free), a6, a7, b8, b9] ∧ PotOk S' h (k + 7 * (3 - i)) ∧ Kp [h] S S') (show 3 ≤ lim by decide) (fun i ρ S' _ _ => rng_nx i S') ?_ ?_ ⟨_, _, rfl, p.mono (by omega), Kp.refl⟩
  · rintro i x ρ S1 ex ⟨b8, b9, rfl, p1, k1⟩
    have hi : i < 3 := by
      have := (List.getElem?_eq_some_iff.mp ex).1
      simpa using this
    have p1 : PotOk S1 h (k + 7 * (3 - (i + 1)) + 7) := by
      have : k + 7 * (3 - (i + 1)) + 7 = k + 7 * (3 - i) := by omega
      rw [this]; exact p1
    generalize k + 7 * (3 - (i + 1)) = kk at p1
    refine ⟨_, rfl, ?_⟩
    dsimp only [List.set]
    rw [so_seq, so_set, ok_eCall, ok_aCons, ok_eVar (d := .ref h) (by rfl), ok_aCons, ok_eVar (d := .tup (nD xs)) (by rfl), ok_aCons, ok_eOp, ok_eLst, ok_aCons, ok_eCall, ok_aCons, ok_eVar (d := .ref h) (by rfl), ok_aNil]
    refine ok_mono (odd_spec (k := kk + 6) p1) (fun d2 S2 hd => ?_) fun _ _ _ z => z
    obtain ⟨i2, p2, k2⟩ := hd
    rw [ok_aCons, ok_eCall, ok_aCons, ok_eVar (d := .ref h) (by rfl), ok_aCons, ok_eVar (d := G.d) (by rfl), ok_aNil]
    refine ok_mono (stranger_spec (k := kk + 4) p2 o w5) (fun d3 S3 hd => ?_) fun _ _ _ z => z
    obtain ⟨y, rfl, wy, p3, k3⟩ := hd
    rw [ok_aNil]
    refine ⟨_, newL_eq (show 2 ≤ lim by decide), ?_⟩
    have n2 := i2.pot p2
    have i3 : Itm S3 d2 := i2.kpM k3 fun n e z => n2 n e (List.mem_singleton.mp z)
    have iy : ∀ T, Itm T (.str y) := fun T => itm_str (wy.fits (by decide)) wy.strOk
    have hS3 : S3.length ≠ h := by have := p3.lt; omega
    have k4 : Kp [] S3 (S3 ++ [MO.lst [d2, D.str y]]) := Kp.new
    have e4 : (S3 ++ [MO.lst [d2, D.str y]])[S3.length]? = some (.lst [d2, .str y]) := new_get
    dsimp only
    generalize (S3 ++ [MO.lst [d2, D.str y]]) = S4 at k4 e4
    have i4 := i3.kp k4
    have p4 := p3.kp k4 (fun z => nomatch z)
    refine pot_draw (k := kk + 3) (many := 2) p4 (vr rfl) (fun _ => rfl) (by decide) (by decide) fun r S5 r0 r1 p5 k5 => ?_
    have i5 : Itm S5 d2 := i4.kpM k5 fun n e z => n2 n e (List.mem_singleton.mp z)
    have e5 := k5.get _ _ (fun z => hS3 (List.mem_singleton.mp z)) e4
    obtain ⟨n, rfl⟩ := Int.eq_ofNat_of_zero_le r0
    obtain ⟨d5, m5, a5⟩ := atI_mem (xs := [d2, D.str y]) (i := n) (by simp; omega)
    have ib : Itm S5 d5 := by
      simp only [List.mem_cons, List.not_mem_nil, or_false] at m5
      rcases m5 with rfl | rfl
      · exact i5
      · exact iy _
    refine ⟨_, idxL e5 a5, ?_⟩
    rw [ok_aNil]
    refine ok_mono (bent_row_spec (k := kk + 1) p5 (by rw [nD_len]; exact lx) (names_itm o mx) (fun d m n e => by
      obtain ⟨x, _, rfl⟩ := List.mem_map.mp m; cases e) ib (ib.pot p5)) (fun d6 S6 hd => ?_) fun _ _ _ z => z
    obtain ⟨v6, n6, p6, k6⟩ := hd
    refine ⟨_, rfl, ?_⟩
    dsimp only [List.set]
    rw [so_seq, so_set, ok_eOp, ok_eLst, ok_aCons, ok_eVar (d := d6) (by rfl), ok_aCons, ok_eVar (d := d6) (by rfl), ok_aCons, ok_eVar (d := d6) (by rfl), ok_aCons, ok_eC, ok_aCons, ok_eC, ok_aCons, ok_eB, ok_aCons, ok_eVar (d := .tup (nD xs)) (by rfl), ok_aNil]
    refine ⟨(.ref S6.length, S6 ++ [.lst (nD xs)]), rfl, ?_⟩
    have k7 : Kp [] S6 (S6 ++ [MO.lst (nD xs)]) := Kp.new
    have e7 : (S6 ++ [MO.lst (nD xs)])[S6.length]? = some (.lst (nD xs)) := new_get
    have hS6 : S6.length ≠ h := by have := p6.lt; omega
    dsimp only
    generalize (S6 ++ [MO.lst (nD xs)]) = S7 at k7 e7
    have hS7 : S7.length ≠ h := by have := k7.len; have := p6.lt; omega
    rw [ok_aCons, ok_eC, ok_aCons, ok_eOp, ok_eVar (d := G.d) (by rfl), ok_eC]
    refine ⟨(.tup (hsD G.H), S7), rfl, ?_⟩
    rw [ok_aCons, ok_eTup, ok_aCons, ok_eVar (d := .tup (nD xs)) (by rfl), ok_aNil]
    refine ⟨_, tupO_eq (show 1 ≤ lim by decide), ?_⟩
    rw [ok_aNil]
    refine ⟨_, newL_eq (show 9 ≤ lim by decide), ?_⟩
    generalize eds : [d6, d6, d6, .non, .str "a", .ref S6.length, .int 0, .tup (hsD G.H), .tup [.tup (nD xs)]] = ds
    have lds : ds.length = 9 := by rw [← eds]; rfl
    have vds : ∀ d ∈ ds, Val S7 d ∧ ∀ n, d = .ref n → n ≠ h := by
      rw [← eds]
      have v7 := v6.kp k7
      simp only [List.forall_mem_cons]
      refine ⟨⟨v7, n6⟩, ⟨v7, n6⟩, ⟨v7, n6⟩, ⟨⟨trivial, fun _ e => nomatch e⟩, fun _ e => nomatch e⟩, ⟨⟨show (("a" : Str)).length ≤ lim by decide, fun _ e => nomatch e⟩, fun _ e => nomatch e⟩, ⟨⟨⟨_, e7⟩, fun _ e => nomatch e⟩, fun n e => by cases e; exact hS6⟩, ⟨⟨trivial, fun _ e => nomatch e⟩, fun _ e => nomatch e⟩, ⟨val_tup (by rw [hsD_len]; have := o.lenH; omega) fun d m => ?_, fun _ e => nomatch e⟩, ⟨val_tup (show 1 ≤ 1000 by decide) fun d m => ?_, fun _ e => nomatch e⟩, (fun _ z => nomatch z)⟩
      · obtain ⟨g, mg, rfl⟩ := List.mem_map.mp m
        exact hold_itm o mg
      · rw [List.mem_singleton.mp m]
        exact tup_itm sX
    have k8 : Kp [] S7 (S7 ++ [MO.lst ds]) := Kp.new
    have e8 : (S7 ++ [MO.lst ds])[S7.length]? = some (.lst ds) := new_get
    dsimp only
    generalize (S7 ++ [MO.lst ds]) = S8 at k8 e8
    have p8 : PotOk S8 h (kk + 1) := p6.kp (k7.trans k8) (fun z => nomatch z)
    refine pot_draw (k := kk) (many := 9) p8 (vr rfl) (fun _ => rfl) (by decide) (by decide) fun t S9 t0 t1 p9 k9 => ?_
    obtain ⟨m, rfl⟩ := Int.eq_ofNat_of_zero_le t0
    obtain ⟨d9, m9, a9⟩ := atI_mem (xs := ds) (i := m) (by omega)
    obtain ⟨v9, n9⟩ := vds d9 m9
    have v9 : Val S9 d9 := (v9.kp k8).kpM p8 n9 k9
    refine ⟨_, idxL (k9.get _ _ (fun z => hS7 (List.mem_singleton.mp z)) e8) a9, _, rfl, ?_⟩
    dsimp only [List.set]
    rw [so_if, ok_tNot, ok_tTru]
    refine compare o v9 (vr2 rfl) (vr2 rfl) (vr2 rfl) (vr2 rfl) (vr2 rfl) (vr2 rfl) fun S10 k10 => ⟨true, rfl, ?_⟩
    rw [show (!true) = false from rfl, if_neg (by decide), so_nil]
    refine ⟨_, _, rfl, p9.kp k10 (fun z => nomatch z), ?_⟩
    have w : ∀ {S T : Store}, Kp [] S T → Kp [h] S T := fun k => k.wk (fun _ z => nomatch z)
    exact ((((((((k1.trans k2).trans k3).trans (w k4)).trans k5).trans k6).trans (w k7)).trans (w k8)).trans k9).trans (w k10)
  · rintro ρ S1 ⟨b8, b9, rfl, p1, k1⟩
    exact done _ _ _ k1
end Mini

/-! k05, part k: the law holds in the small interpreter. -/
namespace Mini
open PySem L2 PySem.W
theorem law_true {ns : List Int} {m : MO} (hl : ns.length ≤ 63) (hm : m = .lst (ns.map D.int) ∨ m = .rol (ns.map D.int)) : ok (R.g_law [.ref 0] [m]) (fun d _ => d = .bl true) X0 := by
  have s0 : Scr [m] 0 ns := hm.imp (fun e => by rw [e]; rfl) (fun e => by rw [e]; rfl)
  unfold R.g_law
  rw [run1]
  unfold R.b_law
  rw [so_seq, so_for, ok_iArgs, ok_aCons, ok_eB, ok_aCons, ok_eC, ok_aCons, ok_eB, ok_aCons, ok_eB, ok_aCons, ok_eVar (d := .ref 0) (by rfl), ok_aNil]
  refine ⟨_, s0.len, ?_⟩
  rw [ok_aCons, ok_eC, ok_aNil]
  refine ⟨(.int (if (30 : Int) < ns.length then 30 else ns.length), [m]), rfl, ?_⟩
  rw [ok_aNil]
  obtain ⟨cnt, hc, hcl⟩ : ∃ cnt : Nat, (if (if (30 : Int) < ns.length then (30 : Int) else ns.length) > 4 then (if (30 : Int) < ns.length then (30 : Int) else ns.length) else 4) = cnt ∧ cnt ≤ 30 := by
    by_cases h1 : (30 : Int) < ns.length
    · exact ⟨30, by rw [if_pos h1]; rfl, Nat.le_refl _⟩
    · rw [if_neg h1]
      by_cases h2 : (ns.length : Int) > 4
      · exact ⟨ns.length, by rw [if_pos h2], by omega⟩
      · exact ⟨4, by rw [if_neg h2]; rfl, by decide⟩
  refine ⟨(.int cnt, [m]), by rw [← hc]; rfl, ?_⟩
  rw [ok_aNil]
  refine ⟨_, rng1_nat (by omega), ?_⟩
  refine for_inv (xs := (List.range cnt).map fun i : Nat => D.int i) (fun i ρ S' => ∃ b1 b2 b3 b4 b5 b6 b7 b8 b9, ρ = [some (.ref 0), b1, b2, b3, b4, b5, b6, b7, b8, b9] ∧ Scr S' 0 ns) (by rw [List.length_map, List.length_range]; unfold lim; omega) (fun i ρ S' _ _ => rng_nx i S') ?_ ?_ ⟨_, _, _, _, _, _, _, _, _, rfl, s0⟩
  · rintro i x ρ S ex ⟨b1, b2, b3, b4, b5, b6, b7, b8, b9, rfl, s⟩
    have hi : i < cnt := by
      have := (List.getElem?_eq_some_iff.mp ex).1
      simpa using this
    have hx : x = .int i := by
      rw [List.getElem?_map, List.getElem?_range hi] at ex
      cases ex; rfl
    subst hx
    refine ⟨_, rfl, ?_⟩
    dsimp only [List.set]
    rw [so_seq, so_set, ok_eCall, ok_aCons, ok_eVar (d := .ref 0) (by rfl), ok_aCons, ok_eVar (d := .int i) (by rfl), ok_aNil]
    refine ok_mono (pot_spec s (at' := i) (by omega)) (fun d S1 hd => ?_) fun _ _ _ z => z
    obtain ⟨rfl, p1, k1⟩ := hd
    have h0 : (0 : Nat) ∉ [S.length] := fun z => by
      have := s.lt
      rw [List.mem_singleton] at z
      omega
    have s1 := s.kp k1 (fun z => nomatch z)
    generalize S.length = h at p1 h0
    refine ⟨_, rfl, ?_⟩
    dsimp only [List.set]
    rw [so_seq, so_set, ok_eCall, ok_aCons, ok_eVar (d := .ref h) (by rfl), ok_aCons, ok_eC, ok_aCons, ok_eC, ok_aCons, ok_eC, ok_aNil]
    refine ok_mono (graph_spec (sm := 8) (om := 4) (hm := 20) (k := 99999600) p1 (by decide) (by decide) (by decide)) (fun d S2 hd => ?_) fun _ _ _ z => z
    obtain ⟨G0, rfl, o0, _, _, _, _, w0, p2, k2⟩ := hd
    have s2 := s1.kp k2 h0
    refine ⟨_, rfl, ?_⟩
    dsimp only [List.set]
    rw [so_seq]
    suffices go : ∀ (G : Gr) (S3 : Store), G.Ok → (∀ x ∈ G.A ++ G.O, Wd 5 x) → PotOk S3 h 99999599 → Scr S3 0 ns → so (sSeq (sPar 4 5 (aCons (eCall R.g__law_subset (aCons (eVar 2) (aCons (eOp pAdd (eOp pIdx (eVar 3) (eC (.int 0))) (eOp pIdx (eVar 3) (eC (.int 1)))) aNil))) (aCons (eOp pEq (eCall C.g__law_draw (aCons (eVar 2) (aCons (eC (.int 2)) aNil))) (eC (.int 0))) aNil)))
        (sSeq (sSet (.nm 6) (eCall R.g__law_due (aCons (eVar 3) (aCons (eVar 4) (aCons (eVar 5) aNil)))))
        (sSeq (sIf (tNot' (tTru (eCall C.g__law_same (aCons (eCall R.g__law_told (aCons (eVar 3) (aCons (eVar 4) (aCons (eVar 5) aNil)))) (aCons (eVar 6) aNil)))))
        (sRet (eC (.bl false)))
        sNil)
        (sSeq (sSet (.nm 7) (eOp pIdx (eVar 6) (eC (.int 1))))
        (sSeq (sIf (tNot' (tTru (eCall C.g__law_same (aCons (eCall R.g__law_told (aCons (eVar 7) (aCons (eVar 4) (aCons (eNot (eVar 5)) aNil)))) (aCons (eCall R.g__law_due (aCons (eVar 7) (aCons (eVar 4) (aCons (eNot (eVar 5)) aNil)))) aNil)))))
        (sRet (eC (.bl false)))
        sNil)
        (sFor (iArgs rng1 (aCons (eC (.int 3)) aNil)) (.nm 8)
        (sSeq (sSet (.nm 9) (eCall R.g__law_bent_row (aCons (eVar 2) (aCons (eVar 4) (aCons (eOp pIdx (eLst (aCons (eCall C.g__law_odd (aCons (eVar 2) aNil)) (aCons (eCall C.g__law_stranger (aCons (eVar 2) (aCons (eVar 3) aNil))) aNil))) (eCall C.g__law_draw (aCons (eVar 2) (aCons (eC (.int 2)) aNil)))) aNil)))))
        (sSeq (sSet (.nm 9) (eOp pIdx (eLst (aCons (eVar 9) (aCons (eVar 9) (aCons (eVar 9) (aCons (eC .non) (aCons (eC (.str "a")) (aCons (eB nList (aCons (eVar 4) aNil)) (aCons (eC (.int 0)) (aCons (eOp pIdx (eVar 3) (eC (.int 2))) (aCons (eTup (aCons (eVar 4) aNil)) aNil)))))))))) (eCall C.g__law_draw (aCons (eVar 2) (aCons (eC (.int 9)) aNil)))))
        (sIf (tNot' (tTru (eCall C.g__law_same (aCons (eCall R.g__law_told (aCons (eVar 3) (aCons (eVar 9) (aCons (eVar 5) aNil)))) (aCons (eCall R.g__law_due (aCons (eVar 3) (aCons (eVar 9) (aCons (eVar 5) aNil)))) aNil)))))
        (sRet (eC (.bl false)))
        sNil)))))))) [some (.ref 0), some (.int i), some (.ref h), some G.d, b4, b5, b6, b7, b8, b9] S3)
          (fun ρ S' => ∃ b1 b2 b3 b4 b5 b6 b7 b8 b9, ρ = [some (.ref 0), b1, b2, b3, b4, b5, b6, b7, b8, b9] ∧ Scr S' 0 ns) (fun d _ => d = .bl true) (fun m fs _ S1 => X0 m fs S1) by
      rw [so_if, ok_tBl, ok_eOp]
      refine pot_draw (k := 99999599) (many := 9) p2 (vr rfl) (fun _ => rfl) (by decide) (by decide) fun r S3 r0 r1 p3 k3 => ?_
      rw [ok_eC]
      refine ⟨_, eqI, _, rfl, ?_⟩
      have s3 := s2.kp k3 h0
      by_cases hr : r = 0
      · rw [decide_eq_true hr, if_pos rfl, so_set, ok_eTup, ok_aCons, ok_eTup, ok_aNil]
        refine ⟨_, tupO_eq (show 0 ≤ lim by decide), ?_⟩
        rw [ok_aCons, ok_eTup, ok_aNil]
        refine ⟨_, tupO_eq (show 0 ≤ lim by decide), ?_⟩
        rw [ok_aCons, ok_eTup, ok_aNil]
        refine ⟨_, tupO_eq (show 0 ≤ lim by decide), ?_⟩
        rw [ok_aNil]
        refine ⟨_, tupO_eq (show 3 ≤ lim by decide), _, rfl, ?_⟩
        exact go ⟨[], [], []⟩ S3 gr0 (fun _ z => nomatch z) p3 s3
      · rw [decide_eq_false hr, if_neg (by decide), so_nil]
        exact go G0 S3 o0 w0 p3 s3
    intro G S3 o w5 p3 s3
    have nAll : (G.A ++ G.O).Nodup := List.nodup_append.mpr ⟨nD_nodup.mp o.ascA.nodup, nD_nodup.mp o.ascO.nodup, fun a ha b hb e => o.dis a ha (e ▸ hb)⟩
    rw [so_seq, so_par, ok_aCons, ok_eCall, ok_aCons, ok_eVar (d := .ref h) (by rfl), ok_aCons]
    refine namesOf o (by rfl) ?_
    rw [ok_aNil]
    refine ok_mono (subset_spec (k := 99999569) p3 o.len nAll) (fun d S4 hd => ?_) fun _ _ _ z => z
    obtain ⟨xs, rfl, ax, mx, lx, p4, k4⟩ := hd
    rw [ok_aCons, ok_eOp]
    refine pot_draw (k := 99999568) (many := 2) p4 (vr rfl) (fun _ => rfl) (by decide) (by decide) fun r S5 r0 r1 p5 k5 => ?_
    rw [ok_eC]
    refine ⟨_, eqI, ?_⟩
    rw [ok_aNil]
    refine ⟨_, _, rfl, ?_⟩
    have s5 := (s3.kp k4 h0).kp k5 h0
    generalize decide (r = 0) = free
    have g : Good G (.tup (nD xs)) xs := ⟨rfl, ax, mx⟩
    have q : ∀ T, Val T (.tup (nD xs)) := fun T => val_tup (by rw [nD_len]; omega) (names_itm o mx)
    dsimp only [List.set]
    rw [so_seq, so_set, ok_eCall, ok_aCons, ok_eVar (d := G.d) (by rfl), ok_aCons, ok_eVar (d := .tup (nD xs)) (by rfl), ok_aCons, ok_eVar (d := .bl free) (by rfl), ok_aNil]
    refine ok_mono (due_spec o (q _)) (fun d S6 hd => ?_) fun _ _ _ z => z
    obtain ⟨k6, c6⟩ := hd
    obtain ⟨G', rfl, rs⟩ : ∃ G', d = dTold G' ∧ Res G xs free G' := by
      rcases c6 with ⟨ys, G', g', e, rs⟩ | ⟨nb, _⟩
      · obtain rfl : xs = ys := nD_inj (D.tup.inj g'.1)
        exact ⟨G', e, rs⟩
      · exact absurd g (nb xs)
    have o' := res_ok o rs
    refine ⟨_, rfl, ?_⟩
    dsimp only [List.set]
    rw [so_seq, so_if, ok_tNot, ok_tTru, ok_eCall, ok_aCons, ok_eCall, ok_aCons, ok_eVar (d := G.d) (by rfl), ok_aCons, ok_eVar (d := .tup (nD xs)) (by rfl), ok_aCons, ok_eVar (d := .bl free) (by rfl), ok_aNil]
    refine ok_mono (told_spec o (q _)) (fun d S7 hd => ?_) fun _ _ _ z => z
    obtain ⟨k7, c7⟩ := hd
    obtain ⟨rfl, sm⟩ := agree o c7 (.inl ⟨xs, G', g, rfl, rs⟩)
    rw [ok_aCons, ok_eVar (d := dTold G') (by rfl), ok_aNil]
    refine ok_mono (sm S7 _) (fun d S8 hr => ?_) fun _ _ _ z => z
    obtain ⟨rfl, k8⟩ := hr
    refine ⟨true, rfl, ?_⟩
    rw [show (!true) = false from rfl, if_neg (by decide), so_nil, so_seq, so_set, ok_eOp, ok_eVar (d := dTold G') (by rfl), ok_eC]
    refine ⟨(G'.d, S8), rfl, _, rfl, ?_⟩
    dsimp only [List.set]
    rw [so_seq, so_if, ok_tNot, ok_tTru]
    have neg : ∀ (ρ : Env), ρ[5]? = some (some (.bl free)) → ∀ S' (Q : D → Store → Prop), ok (eNot (eVar 5) ρ S') Q (fun n fs S1 => X0 n fs S1) = Q (.bl (!free)) S' := fun ρ h5 S' Q => by
      rw [ok_eNot, ok_eVar h5]
      exact propext ⟨fun ⟨b, e, z⟩ => by cases e; exact z, fun z => ⟨free, rfl, z⟩⟩
    refine compare (free := !free) o' (q _) (vr2 rfl) (vr2 rfl) (neg _ rfl) (vr2 rfl) (vr2 rfl) (neg _ rfl) fun S9 k9 => ⟨true, rfl, ?_⟩
    rw [show (!true) = false from rfl, if_neg (by decide), so_nil]
    have kk : Kp [] S5 S9 := ((k6.trans k7).trans k8).trans k9
    refine inner (k := 1000) o w5 mx lx ((p5.kp kk (fun z => nomatch z)).mono (by decide)) fun b8 b9 S10 k10 => ?_
    exact ⟨_, _, _, _, _, _, _, _, _, rfl, (s5.kp kk (fun z => nomatch z)).kp k10 h0⟩
  · rintro ρ S ⟨b1, b2, b3, b4, b5, b6, b7, b8, b9, rfl, s⟩
    rw [so_ret, ok_eC]
theorem _root_.R.law_plain : Plain R.g_law := by
  intro ns m hl hm
  have h := law_true hl hm
  generalize R.g_law [.ref 0] [m] = oo at h ⊢
  cases oo with
  | ok d S => exact ⟨S, by rw [show d = .bl true from h]⟩
  | exc n fs S => exact h.elim
  | bad => exact h.elim
end Mini

open PySem PySem.W PyProof.Rows L2
open Mini in
theorem PySem.Challenge.cw_rightspans_k05_sealed_and_freed_holds : PySem.Challenge.rw_rightspans_k05_sealed_and_freed.Holds := by
  w_on; o_law; k_head; (case hw => w_witness2)
  k_fill
  refine Mini.walk (l := PySem.Challenge.rw_rightspans_k05_sealed_and_freed) (k := 19) rfl rfl ⟨rfl, by decide, by decide⟩ (fun w h Y => PySem.W.kIn_of Y) ?F
  case F =>
    intro w mg fa h KX G hmg
    have B : Blt mg := Blt.mk' KX G (by simp only [List.forall_mem_cons]; refine ⟨?_, ?_, ?_, ?_, ?_, ?_, ?_, ?_, ?_, ?_, ?_, ?_, ?_, ?_, ?_, ?_, ?_, ?_, ?_, ?_, fun _ h => nomatch h⟩ <;> k_is)
    have D_is_tuple_of : Def (R.frOf KX) mg "is_tuple_of" R.st_is_tuple_of ["length", "value"] := by
      unfold R.frOf
      refine' def_mk KX G ?a ?l ?c ?k (fun _ _ _ _ _ _ us hl => match us, hl with | [_, _], _ => rfl)
      (case a => k_is); (case l => k_is); (case c => k_is); (case k => k_is)
    have D_is_word : Def (R.frOf KX) mg "is_word" R.st_is_word ["value", "most"] := by
      unfold R.frOf
      refine' def_mk KX G ?a ?l ?c ?k (fun _ _ _ _ _ _ us hl => match us, hl with | [_, _], _ => rfl)
      (case a => k_is); (case l => k_is); (case c => k_is); (case k => k_is)
    have D_is_name : Def (R.frOf KX) mg "is_name" R.st_is_name ["value"] := by
      unfold R.frOf
      refine' def_mk KX G ?a ?l ?c ?k (fun _ _ _ _ _ _ us hl => match us, hl with | [_], _ => rfl)
      (case a => k_is); (case l => k_is); (case c => k_is); (case k => k_is)
    have D_is_right : Def (R.frOf KX) mg "is_right" R.st_is_right ["value"] := by
      unfold R.frOf
      refine' def_mk KX G ?a ?l ?c ?k (fun _ _ _ _ _ _ us hl => match us, hl with | [_], _ => rfl)
      (case a => k_is); (case l => k_is); (case c => k_is); (case k => k_is)
    have D_is_ascending : Def (R.frOf KX) mg "is_ascending" R.st_is_ascending ["values"] := by
      unfold R.frOf
      refine' def_mk KX G ?a ?l ?c ?k (fun _ _ _ _ _ _ us hl => match us, hl with | [_], _ => rfl)
      (case a => k_is); (case l => k_is); (case c => k_is); (case k => k_is)
    have D_are_names : Def (R.frOf KX) mg "are_names" R.st_are_names ["value"] := by
      unfold R.frOf
      refine' def_mk KX G ?a ?l ?c ?k (fun _ _ _ _ _ _ us hl => match us, hl with | [_], _ => rfl)
      (case a => k_is); (case l => k_is); (case c => k_is); (case k => k_is)
    have D_names_fault : Def (R.frOf KX) mg "names_fault" R.st_names_fault ["part", "names", "others"] := by
      unfold R.frOf
      refine' def_mk KX G ?a ?l ?c ?k (fun _ _ _ _ _ _ us hl => match us, hl with | [_, _, _], _ => rfl)
      (case a => k_is); (case l => k_is); (case c => k_is); (case k => k_is)
    have D_is_hold_of : Def (R.frOf KX) mg "is_hold_of" R.st_is_hold_of ["names", "value"] := by
      unfold R.frOf
      refine' def_mk KX G ?a ?l ?c ?k (fun _ _ _ _ _ _ us hl => match us, hl with | [_, _], _ => rfl)
      (case a => k_is); (case l => k_is); (case c => k_is); (case k => k_is)
    have D_graph_fault : Def (R.frOf KX) mg "graph_fault" R.st_graph_fault ["value"] := by
      unfold R.frOf
      refine' def_mk KX G ?a ?l ?c ?k (fun _ _ _ _ _ _ us hl => match us, hl with | [_], _ => rfl)
      (case a => k_is); (case l => k_is); (case c => k_is); (case k => k_is)
    have D_check_graph : Def (R.frOf KX) mg "check_graph" R.st_check_graph ["graph"] := by
      unfold R.frOf
      refine' def_mk KX G ?a ?l ?c ?k (fun _ _ _ _ _ _ us hl => match us, hl with | [_], _ => rfl)
      (case a => k_is); (case l => k_is); (case c => k_is); (case k => k_is)
    have D_has_name : Def (R.frOf KX) mg "has_name" R.st_has_name ["graph", "value"] := by
      unfold R.frOf
      refine' def_mk KX G ?a ?l ?c ?k (fun _ _ _ _ _ _ us hl => match us, hl with | [_, _], _ => rfl)
      (case a => k_is); (case l => k_is); (case c => k_is); (case k => k_is)
    have D_check_names : Def (R.frOf KX) mg "check_names" R.st_check_names ["graph", "names"] := by
      unfold R.frOf
      refine' def_mk KX G ?a ?l ?c ?k (fun _ _ _ _ _ _ us hl => match us, hl with | [_, _], _ => rfl)
      (case a => k_is); (case l => k_is); (case c => k_is); (case k => k_is)
    have D_as_objects : Def (R.frOf KX) mg "as_objects" R.st_as_objects ["graph", "names"] := by
      unfold R.frOf
      refine' def_mk KX G ?a ?l ?c ?k (fun _ _ _ _ _ _ us hl => match us, hl with | [_, _], _ => rfl)
      (case a => k_is); (case l => k_is); (case c => k_is); (case k => k_is)
    have D_as_subjects : Def (R.frOf KX) mg "as_subjects" R.st_as_subjects ["graph", "names"] := by
      unfold R.frOf
      refine' def_mk KX G ?a ?l ?c ?k (fun _ _ _ _ _ _ us hl => match us, hl with | [_, _], _ => rfl)
      (case a => k_is); (case l => k_is); (case c => k_is); (case k => k_is)
    have D_sealed : Def (R.frOf KX) mg "sealed" R.st_sealed ["graph", "names"] := by
      unfold R.frOf
      refine' def_mk KX G ?a ?l ?c ?k (fun _ _ _ _ _ _ us hl => match us, hl with | [_, _], _ => rfl)
      (case a => k_is); (case l => k_is); (case c => k_is); (case k => k_is)
    have D_freed : Def (R.frOf KX) mg "freed" R.st_freed ["graph", "names"] := by
      unfold R.frOf
      refine' def_mk KX G ?a ?l ?c ?k (fun _ _ _ _ _ _ us hl => match us, hl with | [_, _], _ => rfl)
      (case a => k_is); (case l => k_is); (case c => k_is); (case k => k_is)
    have D__law_pot : Def (R.frOf KX) mg "_law_pot" R.st__law_pot ["script", "at"] := by
      unfold R.frOf
      refine' def_mk KX G ?a ?l ?c ?k (fun _ _ _ _ _ _ us hl => match us, hl with | [_, _], _ => rfl)
      (case a => k_is); (case l => k_is); (case c => k_is); (case k => k_is)
    have D__law_draw : Def (R.frOf KX) mg "_law_draw" R.st__law_draw ["pot", "many"] := by
      unfold R.frOf
      refine' def_mk KX G ?a ?l ?c ?k (fun _ _ _ _ _ _ us hl => match us, hl with | [_, _], _ => rfl)
      (case a => k_is); (case l => k_is); (case c => k_is); (case k => k_is)
    have D__law_name : Def (R.frOf KX) mg "_law_name" R.st__law_name ["pot"] := by
      unfold R.frOf
      refine' def_mk KX G ?a ?l ?c ?k (fun _ _ _ _ _ _ us hl => match us, hl with | [_], _ => rfl)
      (case a => k_is); (case l => k_is); (case c => k_is); (case k => k_is)
    have D__law_names : Def (R.frOf KX) mg "_law_names" R.st__law_names ["pot", "many"] := by
      unfold R.frOf
      refine' def_mk KX G ?a ?l ?c ?k (fun _ _ _ _ _ _ us hl => match us, hl with | [_, _], _ => rfl)
      (case a => k_is); (case l => k_is); (case c => k_is); (case k => k_is)
    have D__law_rights : Def (R.frOf KX) mg "_law_rights" R.st__law_rights ["pot"] := by
      unfold R.frOf
      refine' def_mk KX G ?a ?l ?c ?k (fun _ _ _ _ _ _ us hl => match us, hl with | [_], _ => rfl)
      (case a => k_is); (case l => k_is); (case c => k_is); (case k => k_is)
    have D__law_graph : Def (R.frOf KX) mg "_law_graph" R.st__law_graph ["pot", "subjects_most", "objects_most", "holds_most"] := by
      unfold R.frOf
      refine' def_mk KX G ?a ?l ?c ?k (fun _ _ _ _ _ _ us hl => match us, hl with | [_, _, _, _], _ => rfl)
      (case a => k_is); (case l => k_is); (case c => k_is); (case k => k_is)
    have D__law_is_word : Def (R.frOf KX) mg "_law_is_word" R.st__law_is_word ["value", "most"] := by
      unfold R.frOf
      refine' def_mk KX G ?a ?l ?c ?k (fun _ _ _ _ _ _ us hl => match us, hl with | [_, _], _ => rfl)
      (case a => k_is); (case l => k_is); (case c => k_is); (case k => k_is)
    have D__law_same : Def (R.frOf KX) mg "_law_same" R.st__law_same ["got", "due"] := by
      unfold R.frOf
      refine' def_mk KX G ?a ?l ?c ?k (fun _ _ _ _ _ _ us hl => match us, hl with | [_, _], _ => rfl)
      (case a => k_is); (case l => k_is); (case c => k_is); (case k => k_is)
    have D__law_odd : Def (R.frOf KX) mg "_law_odd" R.st__law_odd ["pot"] := by
      unfold R.frOf
      refine' def_mk KX G ?a ?l ?c ?k (fun _ _ _ _ _ _ us hl => match us, hl with | [_], _ => rfl)
      (case a => k_is); (case l => k_is); (case c => k_is); (case k => k_is)
    have D__law_stranger : Def (R.frOf KX) mg "_law_stranger" R.st__law_stranger ["pot", "graph"] := by
      unfold R.frOf
      refine' def_mk KX G ?a ?l ?c ?k (fun _ _ _ _ _ _ us hl => match us, hl with | [_, _], _ => rfl)
      (case a => k_is); (case l => k_is); (case c => k_is); (case k => k_is)
    have D__law_subset : Def (R.frOf KX) mg "_law_subset" R.st__law_subset ["pot", "names"] := by
      unfold R.frOf
      refine' def_mk KX G ?a ?l ?c ?k (fun _ _ _ _ _ _ us hl => match us, hl with | [_, _], _ => rfl)
      (case a => k_is); (case l => k_is); (case c => k_is); (case k => k_is)
    have D__law_bent_row : Def (R.frOf KX) mg "_law_bent_row" R.st__law_bent_row ["pot", "row", "bad"] := by
      unfold R.frOf
      refine' def_mk KX G ?a ?l ?c ?k (fun _ _ _ _ _ _ us hl => match us, hl with | [_, _, _], _ => rfl)
      (case a => k_is); (case l => k_is); (case c => k_is); (case k => k_is)
    have D__law_told : Def (R.frOf KX) mg "_law_told" R.st__law_told ["graph", "names", "freeing"] := by
      unfold R.frOf
      refine' def_mk KX G ?a ?l ?c ?k (fun _ _ _ _ _ _ us hl => match us, hl with | [_, _, _], _ => rfl)
      (case a => k_is); (case l => k_is); (case c => k_is); (case k => k_is)
    have D__law_are_names : Def (R.frOf KX) mg "_law_are_names" R.st__law_are_names ["graph", "value"] := by
      unfold R.frOf
      refine' def_mk KX G ?a ?l ?c ?k (fun _ _ _ _ _ _ us hl => match us, hl with | [_, _], _ => rfl)
      (case a => k_is); (case l => k_is); (case c => k_is); (case k => k_is)
    have D__law_due : Def (R.frOf KX) mg "_law_due" R.st__law_due ["graph", "names", "freeing"] := by
      unfold R.frOf
      refine' def_mk KX G ?a ?l ?c ?k (fun _ _ _ _ _ _ us hl => match us, hl with | [_, _, _], _ => rfl)
      (case a => k_is); (case l => k_is); (case c => k_is); (case k => k_is)
    have D_law : Def (R.frOf KX) mg "law" R.st_law ["script"] := by
      unfold R.frOf
      refine' def_mk KX G ?a ?l ?c ?k (fun _ _ _ _ _ _ us hl => match us, hl with | [_], _ => rfl)
      (case a => k_is); (case l => k_is); (case c => k_is); (case k => k_is)
    obtain ⟨v_LETTERS, r_LETTERS, c_LETTERS⟩ : ∃ v : Value, (∃ t, v = .str "abcdefghijklmnopqrstuvwxyz" t) ∧ mg "LETTERS" = some v := by
      refine' ⟨_, ?r, PySem.W.mg_of KX G ?e⟩; (case e => k_is); (case r => exact ⟨_, rfl⟩)
    obtain ⟨t_LETTERS, rfl⟩ := r_LETTERS
    obtain ⟨v_MOST_LETTERS, r_MOST_LETTERS, c_MOST_LETTERS⟩ : ∃ v : Value, (∃ t, v = .int 8 t) ∧ mg "MOST_LETTERS" = some v := by
      refine' ⟨_, ?r, PySem.W.mg_of KX G ?e⟩; (case e => k_is); (case r => exact ⟨_, rfl⟩)
    obtain ⟨t_MOST_LETTERS, rfl⟩ := r_MOST_LETTERS
    obtain ⟨v_MOST_RIGHT, r_MOST_RIGHT, c_MOST_RIGHT⟩ : ∃ v : Value, (∃ t, v = .int 3 t) ∧ mg "MOST_RIGHT" = some v := by
      refine' ⟨_, ?r, PySem.W.mg_of KX G ?e⟩; (case e => k_is); (case r => exact ⟨_, rfl⟩)
    obtain ⟨t_MOST_RIGHT, rfl⟩ := r_MOST_RIGHT
    obtain ⟨a_InvalidNames, a_RightError, Y⟩ : ∃ a_InvalidNames a_RightError : Addr, R.CF (R.frOf KX) mg a_InvalidNames a_RightError := by
      unfold R.frOf
      refine' ⟨?A_InvalidNames, ?A_RightError, ⟨ClsF.mk' KX G ?h0 ?h1 ?h2 ?h3 ?h4, ClsF.mk' KX G ?h5 ?h6 ?h7 ?h8 ?h9, ?h10, ⟨?h11, ?h12, ?h13, ?h14, ?h15, ?h16, ?h17, ?h18⟩, ?h19, ?h20⟩⟩
      (case h0 => k_is)
      (case h1 => k_is)
      (case h2 => k_is)
      (case h3 => k_is)
      (case h4 => k_is)
      (case h5 => k_is)
      (case h6 => k_is)
      (case h7 => k_is)
      (case h8 => k_is)
      (case h9 => k_is)
      (case h10 => first | k_exc | k_is)
      (case h11 => k_is)
      (case h12 => k_is)
      (case h13 => k_is)
      (case h14 => k_is)
      (case h15 => k_is)
      (case h16 => k_is)
      (case h17 => k_is)
      (case h18 => k_is)
      (case h19 => first | rfl | k_is)
      (case h20 => first | rfl | k_is)
    exact law_end D_law hmg (fun _ _ _ _ _ _ _ => rfl) (R.law_does B Y c_LETTERS c_MOST_LETTERS c_MOST_RIGHT D_is_tuple_of D_is_word D_is_name D_is_right D_is_ascending D_are_names D_names_fault D_is_hold_of D_graph_fault D_check_graph D_has_name D_check_names D_as_objects D_as_subjects D_sealed D_freed D__law_pot D__law_draw D__law_name D__law_names D__law_rights D__law_graph D__law_is_word D__law_same D__law_odd D__law_stranger D__law_subset D__law_bent_row D__law_told D__law_are_names D__law_due D_law) R.law_plain

