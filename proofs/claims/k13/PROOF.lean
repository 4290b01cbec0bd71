import PyProof.Rows.All
import Wide.All
import OpenK.AllK
import Wide.FinOn
import HandS.ForMost
import HandS.Exc
import HandS.TryOnly
import HandS.ExcOwn
import HandS.WordsExc
import HandS.TupAny
import HandS.Deep
import HandS.Wide
import HandS.TupLe
import HandS.SetKeys
import HandS.DictComp
import HandS.IsInst
import KE.SortData
import KE.DataCmp
import HandS.Text
import KE.GoesMore
import KE.GoesEnum
import PyProof.EnumMake
import HandS.Style
import HandS.Set
import HandS.TupSets
import PyProof.WalksMore
import HandS.TryMany
import HandS.ExcIs
import HandS.ForSpec
import HandS.More
import HandS.ExcInit
import KE.KExcSuper
import HandS.ExcSuper
import KE.KExcIs
import KE.KEqDict
import HandS.TupLen
import PySem.Challenge.RW_rightspans_k13_walks_over_takes
set_option Elab.async false
set_option linter.all false
set_option maxRecDepth 100000
set_option maxHeartbeats 4000000
set_option exponentiation.threshold 5000
namespace Mini
open PySem L2
inductive D where
  | non | bl (b : Bool) | int (i : Int) | str (x : Str) | tup (xs : List D) | ref (h : Nat)
  deriving Inhabited
inductive MO where
  /-- a list; a list that is only read -/
  | lst (xs : List D) | rol (xs : List D)
  /-- a dict by ints and texts; by tuples of these -/
  | dK (kvs : List (Key × D)) | dT (kvs : List (List Key × D))
  /-- these, while they are walked -/
  | fK (kvs : List (Key × D)) | fT (kvs : List (List Key × D))
  /-- an instance of the class that the module knows as c -/
  | obj (c : Str) (fs : List (Str × D))
abbrev Store := List MO
inductive Out (α : Type) where
  | ok (a : α) (S : Store)
  /-- an exception of the class c with its fields -/
  | exc (c : Str) (fs : List (Str × D)) (S : Store)
  | bad
abbrev M (α : Type) := Store → Out α
def pur {α : Type} (a : α) : M α := fun S => .ok a S
def bnd {α β : Type} (x : M α) (f : α → M β) : M β := fun S =>
  match x S with
  | .ok a S1 => f a S1
  | .exc c fs S1 => .exc c fs S1
  | .bad => .bad
def lift {α : Type} (x : Option (α × Store)) : Out α := match x with
  | some (a, S) => .ok a S
  | none => .bad
abbrev Env := List (Option D)
abbrev ME := Env → M D
abbrev P1 := D → Store → Option (D × Store)
abbrev P2 := D → D → Store → Option (D × Store)
def lim : Nat := 1000000
theorem lim_le : lim ≤ sizeLine := by rw [sizeLine_eq]; decide
theorem lim_lt : lim < sizeLine := by rw [sizeLine_eq]; decide
mutual
def dP (f : Nat → Option PyData) : D → Option PyData
  | .non => some .none
  | .bl b => some (.bool b)
  | .int i => some (.int i)
  | .str x => some (.str x)
  | .tup xs => (dPs f xs).map .tuple
  | .ref h => f h
def dPs (f : Nat → Option PyData) : List D → Option (List PyData)
  | [] => some []
  | d :: ds => (dP f d).bind fun p => (dPs f ds).map fun ps => p :: ps
end
def deref : Nat → Store → Nat → Option PyData
  | 0, _, _ => none
  | n + 1, S, h => match S[h]? with
    | some (.lst xs) => (dPs (deref n S) xs).map .list
    | some (.rol xs) => (dPs (deref n S) xs).map .list
    | _ => none
def toP (S : Store) (d : D) : Option PyData := dP (deref 8 S) d
def itemsOf (S : Store) : D → Option (List D)
  | .tup xs => some xs
  | .ref h => match S[h]? with
    | some (.lst xs) => some xs
    | some (.rol xs) => some xs
    | _ => none
  | _ => none
def alloc (m : MO) (S : Store) : Option (D × Store) := some (.ref S.length, S ++ [m])
def newL (xs : List D) (S : Store) : Option (D × Store) := if xs.length ≤ lim then alloc (.lst xs) S else none
def tupO (xs : List D) (S : Store) : Option (D × Store) := if xs.length ≤ lim then some (.tup xs, S) else none
def strO (x : Str) (S : Store) : Option (D × Store) := if x.length ≤ lim then some (.str x, S) else none
def strsD : List D → Option (List Str)
  | [] => some []
  | .str x :: r => (strsD r).map (x :: ·)
  | _ :: _ => none
def blsD : List D → Option (List Bool)
  | [] => some []
  | .bl x :: r => (blsD r).map (x :: ·)
  | _ :: _ => none
def keyOf : D → Option Key
  | .int i => some (.inl i)
  | .str x => some (.inr x)
  | _ => none
def keysOf : List D → Option (List Key)
  | [] => some []
  | d :: r => (keyOf d).bind fun k => (keysOf r).map (k :: ·)
def tkeyOf : D → Option (List Key)
  | .tup xs => keysOf xs
  | _ => none
def kD : Key → D
  | .inl i => .int i
  | .inr x => .str x
def tkD (ks : List Key) : D := .tup (ks.map kD)
def pAdd : P2 := fun a b S => match a, b with
  | .int i, .int j => some (.int (i + j), S)
  | .str x, .str y => strO (x ++ y) S
  | .tup xs, .tup ys => tupO (xs ++ ys) S
  | .ref h, .ref k => match S[h]?, S[k]? with
    | some (.lst xs), some (.lst ys) => newL (xs ++ ys) S
    | _, _ => none
  | _, _ => none
def pSub : P2 := fun a b S => match a, b with
  | .int i, .int j => some (.int (i - j), S)
  | _, _ => none
def pMul : P2 := fun a b S => match a, b with
  | .int i, .int j => if i.natAbs < 2 ^ 4000 && j.natAbs < 2 ^ 4000 then some (.int (i * j), S) else none
  | _, _ => none
def pDiv : P2 := fun a b S => match a, b with
  | .int i, .int j => if 0 < j && j < 1073741824 then some (.int (i / j), S) else none
  | _, _ => none
def pMod : P2 := fun a b S => match a, b with
  | .int i, .int j => if 0 < j then some (.int (i % j), S) else none
  | _, _ => none
def pPow : P2 := fun a b S => match a, b with
  | .int i, .int j => if 0 ≤ j && j ≤ 1000 && i.natAbs < 2 ^ 64 then some (.int (i ^ j.toNat), S) else none
  | _, _ => none
def pNeg : P1 := fun a S => match a with
  | .int i => some (.int (-i), S)
  | _ => none
def eqD (S : Store) (a b : D) : Option Bool := match toP S a, toP S b with
  | some x, some y => if SeqAt.shaped x && SeqAt.shaped y then some (PyData.eqv x y) else none
  | _, _ => none
def pEq : P2 := fun a b S => (eqD S a b).map fun k => (.bl k, S)
def pNe : P2 := fun a b S => (eqD S a b).map fun k => (.bl (!k), S)
def ltD (S : Store) (a b : D) : Option Bool := match a, b with
  | .int i, .int j => some (decide (i < j))
  | .str x, .str y => some (decide (x.cps.toList < y.cps.toList))
  | .tup xs, .tup ys => match toP S (.tup xs), toP S (.tup ys) with
    | some x, some y => if PySem.W.alike x y && SeqAt.shaped x && SeqAt.shaped y then some (PySem.W.dataLt x y) else none
    | _, _ => none
  | _, _ => none
def pLt : P2 := fun a b S => (ltD S a b).map fun k => (.bl k, S)
def pGt : P2 := fun a b S => (ltD S b a).map fun k => (.bl k, S)
def pLe : P2 := fun a b S => (ltD S b a).map fun k => (.bl (!k), S)
def pGe : P2 := fun a b S => (ltD S a b).map fun k => (.bl (!k), S)
def isD : D → D → Option Bool
  | .non, .non => some true
  | .bl a, .bl b => some (decide (a = b))
  | .ref _, .non => some false
  | .bl _, .non => some false
  | .int _, .non => some false
  | .str _, .non => some false
  | .tup _, .non => some false
  | _, _ => none
def pIs : P2 := fun a b S => (isD a b).map fun k => (.bl k, S)
def pIsNot : P2 := fun a b S => (isD a b).map fun k => (.bl (!k), S)
def getM {κ : Type} [DecidableEq κ] (kvs : List (κ × D)) (k : κ) : Option D := (kvs.find? fun kv => decide (kv.1 = k)).map (·.2)
def dLook : MO → D → Option (Option D)
  | .dK kvs, d => match keyOf d with
    | some k => some (getM kvs k)
    | none => if kvs.isEmpty then (tkeyOf d).map fun _ => none else none
  | .dT kvs, d => match tkeyOf d with
    | some k => some (getM kvs k)
    | none => if kvs.isEmpty then (keyOf d).map fun _ => none else none
  | .fK kvs, d => (keyOf d).map fun k => getM kvs k
  | .fT kvs, d => (tkeyOf d).map fun k => getM kvs k
  | _, _ => none
def anyEq (S : Store) (d : D) (xs : List D) : Option Bool := match toP S d, dPs (deref 8 S) xs with
  | some y, some ys => if SeqAt.shaped y && SeqAt.shaped (.list ys) then some (ys.any fun z => PyData.eqv z y) else none
  | _, _ => none
def inD (S : Store) (a b : D) : Option Bool := match b with
  | .str y => match a with
    | .str x => match x.cps.toList with
      | [c] => some (decide (c ∈ y.cps.toList))
      | _ => some (!(Builtin.Str.occurrences y x 0 y.length 1).isEmpty)
    | _ => none
  | .tup ys => anyEq S a ys
  | .ref h => match S[h]? with
    | some (.lst ys) => anyEq S a ys
    | some (.rol ys) => anyEq S a ys
    | some (.dK kvs) => (dLook (.dK kvs) a).map (·.isSome)
    | some (.dT kvs) => (dLook (.dT kvs) a).map (·.isSome)
    | some (.fK kvs) => (dLook (.fK kvs) a).map (·.isSome)
    | some (.fT kvs) => (dLook (.fT kvs) a).map (·.isSome)
    | _ => none
  | _ => none
def pIn : P2 := fun a b S => (inD S a b).map fun k => (.bl k, S)
def pNotIn : P2 := fun a b S => (inD S a b).map fun k => (.bl (!k), S)
def truD (S : Store) : D → Option Bool
  | .non => some false
  | .bl b => some b
  | .int i => some (i != 0)
  | .str x => if x.length ≤ lim then some (!x.cps.toList.isEmpty) else none
  | .tup xs => some (!xs.isEmpty)
  | .ref h => match S[h]? with
    | some (.lst xs) => some (!xs.isEmpty)
    | some (.rol xs) => some (!xs.isEmpty)
    | some (.dK kvs) => some (!kvs.isEmpty)
    | _ => none
def pIdx : P2 := fun a i S => match a with
  | .str x => match i with
    | .int i => if x.length ≤ lim then (atI x.cps.toList i).map fun c => (.str ⟨#[c]⟩, S) else none
    | _ => none
  | .tup xs => match i with
    | .int i => (atI xs i).map fun d => (d, S)
    | _ => none
  | .ref h => match S[h]? with
    | some (.lst xs) => match i with
      | .int i => (atI xs i).map fun d => (d, S)
      | _ => none
    | some (.rol xs) => match i with
      | .int i => (atI xs i).map fun d => (d, S)
      | _ => none
    | some (.dK kvs) => match dLook (.dK kvs) i with
      | some (some d) => some (d, S)
      | _ => none
    | some (.dT kvs) => match dLook (.dT kvs) i with
      | some (some d) => some (d, S)
      | _ => none
    | some (.fK kvs) => match dLook (.fK kvs) i with
      | some (some d) => some (d, S)
      | _ => none
    | some (.fT kvs) => match dLook (.fT kvs) i with
      | some (some d) => some (d, S)
      | _ => none
    | _ => none
  | _ => none
def putM {κ : Type} [DecidableEq κ] (kvs : List (κ × D)) (k : κ) (v : D) : List (κ × D) :=
  if (kvs.any fun kv => decide (kv.1 = k)) = true then kvs.map (fun kv => if kv.1 = k then (kv.1, v) else kv) else kvs ++ [(k, v)]
def dropM {κ : Type} [DecidableEq κ] (kvs : List (κ × D)) (k : κ) : List (κ × D) := kvs.filter fun kv => decide (kv.1 ≠ k)
def pSet (o i v : D) (S : Store) : Option Store := match o with
  | .ref h => match S[h]? with
    | some (.lst xs) => match i with
      | .int k => (ixN xs.length k).map fun j => S.set h (.lst (xs.set j v))
      | _ => none
    | some (.dK kvs) => match keyOf i with
      | some k => if kvs.length < lim then some (S.set h (.dK (putM kvs k v))) else none
      | none => match tkeyOf i with
        | some k => if kvs.isEmpty then some (S.set h (.dT (putM [] k v))) else none
        | none => none
    | some (.dT kvs) => match tkeyOf i with
      | some k => if kvs.length < lim then some (S.set h (.dT (putM kvs k v))) else none
      | none => match keyOf i with
        | some k => if kvs.isEmpty then some (S.set h (.dK (putM [] k v))) else none
        | none => none
    | _ => none
  | _ => none
def cutD (xs : List D) (lo hi : Option Int) : List D := (xs.drop (HT.sIx xs.length 0 lo)).take (HT.sIx xs.length xs.length hi - HT.sIx xs.length 0 lo)
def pCut (a : D) (lo hi : Option Int) (S : Store) : Option (D × Store) := match a with
  | .str x => if x.length ≤ lim then some (.str (cutS x lo hi), S) else none
  | .tup xs => some (.tup (cutD xs lo hi), S)
  | .ref h => match S[h]? with
    | some (.lst xs) => alloc (.lst (cutD xs lo hi)) S
    | some (.rol xs) => alloc (.lst (cutD xs lo hi)) S
    | _ => none
  | _ => none
end Mini
namespace Mini
open PySem L2
structure Cf where
  K : PySem.W.Frag
  mg : Str → Option Value
mutual
inductive Rep (c : Cf) (H : Hp) (ι : List Addr) : D → V → Prop
  | non : Rep c H ι .non .non
  | bl (b : Bool) : Rep c H ι (.bl b) (.bl b)
  | int (i : Int) : Rep c H ι (.int i) (.int i)
  | str (x : Str) : Rep c H ι (.str x) (.str x)
  | tup {xs : List D} {vs : List V} {a : Addr} : H a = some (.tup vs) → Reps c H ι xs vs → Rep c H ι (.tup xs) (.ref a)
  | ref {h : Nat} {a : Addr} : ι[h]? = some a → Rep c H ι (.ref h) (.ref a)
inductive Reps (c : Cf) (H : Hp) (ι : List Addr) : List D → List V → Prop
  | nil : Reps c H ι [] []
  | cons {d : D} {ds : List D} {v : V} {vs : List V} : Rep c H ι d v → Reps c H ι ds vs → Reps c H ι (d :: ds) (v :: vs)
end
inductive RepKV (c : Cf) (H : Hp) (ι : List Addr) {κ : Type} : List (κ × D) → List (κ × V) → Prop
  | nil : RepKV c H ι [] []
  | cons {k : κ} {d : D} {r : List (κ × D)} {v : V} {s : List (κ × V)} : Rep c H ι d v → RepKV c H ι r s → RepKV c H ι ((k, d) :: r) ((k, v) :: s)
section
variable (c : Cf) (H : Hp) (ι : List Addr)
def RoL (K : PySem.W.Frag) (H : Hp) (a : Addr) (xs : List V) : Prop :=
  (∃ o, H a = some (.frz o (.lst xs))) ∨
    ∃ (o : Obj) (its : Array Value) (n : Nat), K.lookup a = some o ∧ o.cls = .type "list" ∧ o.dict = none ∧ o.data = .seq its n ∧ its.size ≤ sizeLine ∧ Vals xs its.toList
def ObjRep (a : Addr) : MO → Prop
  | .lst xs => ∃ vs, H a = some (.lst vs) ∧ Reps c H ι xs vs
  | .rol xs => ∃ vs, RoL c.K H a vs ∧ Reps c H ι xs vs
  | .dK kvs => (∃ vs, H a = some (.dK vs) ∧ RepKV c H ι kvs vs) ∨ (kvs = [] ∧ H a = some (.dT []))
  | .dT kvs => (∃ vs, H a = some (.dT vs) ∧ RepKV c H ι kvs vs) ∨ (kvs = [] ∧ H a = some (.dK []))
  | .fK kvs => ∃ o vs, H a = some (.frz o (.dK vs)) ∧ RepKV c H ι kvs vs
  | .fT kvs => ∃ o vs, H a = some (.frz o (.dT vs)) ∧ RepKV c H ι kvs vs
  | .obj n fs => ∃ C dx vs, H a = some (.ins C dx vs) ∧ c.mg n = some (.ref C) ∧ RepKV c H ι fs vs
end
def MO.isRol : MO → Bool
  | .rol _ => true
  | _ => false
def MO.isFz : MO → Bool
  | .fK _ => true
  | .fT _ => true
  | _ => false
structure Sim (c : Cf) (ι : List Addr) (S : Store) (H : Hp) : Prop where
  len : ι.length = S.length
  inj : ∀ (h k : Nat) (a : Addr) (m n : MO), ι[h]? = some a → ι[k]? = some a → S[h]? = some m → S[k]? = some n → m.isRol = false → n.isRol = false → h = k
  obj : ∀ (h : Nat) (m : MO) (a : Addr), S[h]? = some m → ι[h]? = some a → ObjRep c H ι a m
structure Stp (ι : List Addr) (H : Hp) (ι' : List Addr) (H' : Hp) : Prop where
  pre : ∀ (h : Nat) (a : Addr), ι[h]? = some a → ι'[h]? = some a
  tup : ∀ a xs, H a = some (.tup xs) → H' a = some (.tup xs)
  /-- an exception's own dict -/
  xd : ∀ a fs, H a = some (.xd fs) → H' a = some (.xd fs)
  frz : ∀ a o u, H a = some (.frz o u) → H' a = some (.frz o u)
theorem Stp.refl {ι : List Addr} {H : Hp} : Stp ι H ι H := ⟨fun _ _ h => h, fun _ _ h => h, fun _ _ h => h, fun _ _ _ h => h⟩
theorem Stp.trans {ι ι1 ι2 : List Addr} {H H1 H2 : Hp} (a : Stp ι H ι1 H1) (b : Stp ι1 H1 ι2 H2) : Stp ι H ι2 H2 :=
  ⟨fun h x q => b.pre h x (a.pre h x q), fun x xs q => b.tup x xs (a.tup x xs q), fun x xs q => b.xd x xs (a.xd x xs q), fun x o u q => b.frz x o u (a.frz x o u q)⟩
section
variable {c : Cf} {H H' : Hp} {ι ι' : List Addr} {S S' : Store}
mutual
theorem Rep.step (p : Stp ι H ι' H') : ∀ {d : D} {v : V}, Rep c H ι d v → Rep c H' ι' d v
  | _, _, .non => .non
  | _, _, .bl b => .bl b
  | _, _, .int i => .int i
  | _, _, .str x => .str x
  | _, _, .tup a b => .tup (p.tup _ _ a) (Reps.step p b)
  | _, _, .ref h => .ref (p.pre _ _ h)
theorem Reps.step (p : Stp ι H ι' H') : ∀ {ds : List D} {vs : List V}, Reps c H ι ds vs → Reps c H' ι' ds vs
  | _, _, .nil => .nil
  | _, _, .cons a b => .cons (Rep.step p a) (Reps.step p b)
end
theorem RepKV.step (p : Stp ι H ι' H') {κ : Type} : ∀ {ds : List (κ × D)} {vs : List (κ × V)}, RepKV c H ι ds vs → RepKV c H' ι' ds vs
  | _, _, .nil => .nil
  | _, _, .cons a b => .cons (Rep.step p a) (RepKV.step p b)
theorem Reps.length : ∀ {ds : List D} {vs : List V}, Reps c H ι ds vs → vs.length = ds.length
  | _, _, .nil => rfl
  | _, _, .cons _ b => congrArg (· + 1) (Reps.length b)
theorem RepKV.length {κ : Type} : ∀ {ds : List (κ × D)} {vs : List (κ × V)}, RepKV c H ι ds vs → vs.length = ds.length
  | _, _, .nil => rfl
  | _, _, .cons _ b => congrArg (· + 1) (RepKV.length b)
theorem Reps.append : ∀ {ds es : List D} {vs us : List V}, Reps c H ι ds vs → Reps c H ι es us → Reps c H ι (ds ++ es) (vs ++ us)
  | _, _, _, _, .nil, r => r
  | _, _, _, _, .cons a b, r => .cons a (Reps.append b r)
theorem Reps.get : ∀ {ds : List D} {vs : List V} {i : Nat} {d : D}, Reps c H ι ds vs → ds[i]? = some d → ∃ v, vs[i]? = some v ∧ Rep c H ι d v
  | _, _, _, _, .nil, e => by simp at e
  | _, _, 0, _, .cons a _, e => by simp at e; subst e; exact ⟨_, rfl, a⟩
  | _, _, i + 1, _, .cons _ b, e => by
    obtain ⟨v, h1, h2⟩ := Reps.get (i := i) b (by simpa using e)
    exact ⟨v, by simpa using h1, h2⟩
theorem Reps.set {d : D} {v : V} (r : Rep c H ι d v) : ∀ {ds : List D} {vs : List V} (i : Nat), Reps c H ι ds vs → Reps c H ι (ds.set i d) (vs.set i v)
  | _, _, _, .nil => .nil
  | _, _, 0, .cons _ b => .cons r b
  | _, _, i + 1, .cons a b => .cons a (Reps.set r i b)
theorem Reps.drop : ∀ {ds : List D} {vs : List V} (i : Nat), Reps c H ι ds vs → Reps c H ι (ds.drop i) (vs.drop i)
  | _, _, 0, r => r
  | _, _, i + 1, .nil => .nil
  | _, _, i + 1, .cons _ b => Reps.drop i b
theorem Reps.take : ∀ {ds : List D} {vs : List V} (i : Nat), Reps c H ι ds vs → Reps c H ι (ds.take i) (vs.take i)
  | _, _, 0, _ => .nil
  | _, _, i + 1, .nil => .nil
  | _, _, i + 1, .cons a b => .cons a (Reps.take i b)
theorem Reps.eraseIdx : ∀ {ds : List D} {vs : List V} (i : Nat), Reps c H ι ds vs → Reps c H ι (ds.eraseIdx i) (vs.eraseIdx i)
  | _, _, 0, .nil => .nil
  | _, _, _ + 1, .nil => .nil
  | _, _, 0, .cons _ b => b
  | _, _, i + 1, .cons a b => .cons a (Reps.eraseIdx i b)
theorem Reps.atI {ds : List D} {vs : List V} {i : Int} {d : D} (r : Reps c H ι ds vs) (h : atI ds i = some d) : ∃ v, L2.atI vs i = some v ∧ Rep c H ι d v := by
  unfold L2.atI at h ⊢
  rw [r.length]
  cases e : ixN ds.length i with
  | none => rw [e] at h; cases h
  | some j =>
    rw [e] at h
    exact r.get h
theorem Reps.cut {ds : List D} {vs : List V} (r : Reps c H ι ds vs) (lo hi : Option Int) : Reps c H ι (cutD ds lo hi) (cutV vs lo hi) := by
  unfold cutD cutV
  rw [r.length]
  exact (r.drop _).take _
def NoTX (H : Hp) (a : Addr) : Prop := (∀ xs, H a ≠ some (.tup xs)) ∧ (∀ fs, H a ≠ some (.xd fs)) ∧ ∀ o u, H a ≠ some (.frz o u)
theorem Stp.set {a : Addr} {o : HO} (h : NoTX H a) : Stp ι H ι (upd H a o) := ⟨fun _ _ q => q, (fun b xs q => by
  rw [upd_ne (fun e => h.1 xs (by rw [← e]; exact q))]; exact q), (fun b xs q => by
  rw [upd_ne (fun e => h.2.1 xs (by rw [← e]; exact q))]; exact q), (fun b xs u q => by
  rw [upd_ne (fun e => h.2.2 xs u (by rw [← e]; exact q))]; exact q)⟩
theorem noTup {a : Addr} {o : HO} (h : H a = some o) (h1 : ∀ xs, o ≠ .tup xs) (h2 : ∀ fs, o ≠ .xd fs := by intro _ z; cases z) (h3 : ∀ p u, o ≠ .frz p u := by intro _ _ z; cases z) : NoTX H a := ⟨(fun xs q => by
  rw [h] at q; exact h1 xs (Option.some.inj q)), (fun xs q => by rw [h] at q; exact h2 xs (Option.some.inj q)), (fun xs u q => by rw [h] at q; exact h3 xs u (Option.some.inj q))⟩
theorem noTup_none {a : Addr} (h : H a = none) : NoTX H a := ⟨(fun xs q => by
  rw [h] at q; cases q), (fun xs q => by rw [h] at q; cases q), (fun xs u q => by rw [h] at q; cases q)⟩
theorem Stp.new {p : Addr} {o : HO} (hp : H p = none) (l : List Addr) : Stp ι H (ι ++ l) (upd H p o) := ⟨fun h a q => by
    rw [List.getElem?_append_left (by exact (List.getElem?_eq_some_iff.mp q).1)]; exact q, (Stp.set (ι := ι) (noTup_none hp)).tup, (Stp.set (ι := ι) (noTup_none hp)).xd, (Stp.set (ι := ι) (noTup_none hp)).frz⟩
structure Keep (x : Addr) (H H' : Hp) : Prop where
  obj : ∀ a o, a ≠ x → H a = some o → H' a = some o
  frz : ∀ a o u, H a = some (.frz o u) → H' a = some (.frz o u)
theorem ObjRep.step (p : Stp ι H ι' H') {x a : Addr} (k : Keep x H H') {m : MO} (hx : m.isRol = false → a ≠ x) (q : ObjRep c H ι a m) : ObjRep c H' ι' a m := by
  cases m with
  | lst xs => obtain ⟨vs, e, r⟩ := q; exact ⟨vs, k.obj _ _ (hx rfl) e, r.step p⟩
  | rol xs =>
    obtain ⟨vs, e, r⟩ := q
    refine ⟨vs, ?_, r.step p⟩
    rcases e with ⟨o, e⟩ | e
    · exact .inl ⟨o, k.frz _ _ _ e⟩
    · exact .inr e
  | dK kvs =>
    rcases q with ⟨vs, e, r⟩ | ⟨e1, e⟩
    · exact .inl ⟨vs, k.obj _ _ (hx rfl) e, r.step p⟩
    · exact .inr ⟨e1, k.obj _ _ (hx rfl) e⟩
  | dT kvs =>
    rcases q with ⟨vs, e, r⟩ | ⟨e1, e⟩
    · exact .inl ⟨vs, k.obj _ _ (hx rfl) e, r.step p⟩
    · exact .inr ⟨e1, k.obj _ _ (hx rfl) e⟩
  | fK kvs => obtain ⟨o, vs, e, r⟩ := q; exact ⟨o, vs, k.frz _ _ _ e, r.step p⟩
  | fT kvs => obtain ⟨o, vs, e, r⟩ := q; exact ⟨o, vs, k.frz _ _ _ e, r.step p⟩
  | obj n fs => obtain ⟨C, dx, vs, e, z, r⟩ := q; exact ⟨C, dx, vs, k.obj _ _ (hx rfl) e, z, r.step p⟩
theorem Keep.upd {a : Addr} {o : HO} (h : ∀ p u, H a ≠ some (.frz p u)) : Keep a H (upd H a o) :=
  ⟨fun b u hb e => by rw [upd_ne hb]; exact e, fun b p u e => by rw [upd_ne (fun z => h p u (by rw [← z]; exact e))]; exact e⟩
theorem ObjRep.some {a : Addr} {m : MO} (q : ObjRep c H ι a m) (hr : m.isRol = false) : ∃ o, H a = Option.some o ∧ (m.isFz = false → ∀ p u, o ≠ .frz p u) ∧ (∀ xs, o ≠ .tup xs) ∧ ∀ fs, o ≠ .xd fs := by
  cases m with
  | fK kvs => obtain ⟨o, vs, e, r⟩ := q; exact ⟨_, e, (fun z => nomatch z), (fun _ z => by cases z), (fun _ z => by cases z)⟩
  | fT kvs => obtain ⟨o, vs, e, r⟩ := q; exact ⟨_, e, (fun z => nomatch z), (fun _ z => by cases z), (fun _ z => by cases z)⟩
  | lst xs => obtain ⟨vs, e, r⟩ := q; exact ⟨_, e, (fun _ _ _ z => by cases z), (fun _ z => by cases z), (fun _ z => by cases z)⟩
  | rol xs => cases hr
  | dK kvs =>
    rcases q with ⟨vs, e, r⟩ | ⟨e1, e⟩
    · exact ⟨_, e, (fun _ _ _ z => by cases z), (fun _ z => by cases z), (fun _ z => by cases z)⟩
    · exact ⟨_, e, (fun _ _ _ z => by cases z), (fun _ z => by cases z), (fun _ z => by cases z)⟩
  | dT kvs =>
    rcases q with ⟨vs, e, r⟩ | ⟨e1, e⟩
    · exact ⟨_, e, (fun _ _ _ z => by cases z), (fun _ z => by cases z), (fun _ z => by cases z)⟩
    · exact ⟨_, e, (fun _ _ _ z => by cases z), (fun _ z => by cases z), (fun _ z => by cases z)⟩
  | obj n fs => obtain ⟨C, dx, vs, e, z, r⟩ := q; exact ⟨_, e, (fun _ _ _ z => by cases z), (fun _ z => by cases z), (fun _ z => by cases z)⟩
theorem Sim.at (s : Sim c ι S H) {h : Nat} {m : MO} (e : S[h]? = some m) : ∃ a, ι[h]? = some a ∧ ObjRep c H ι a m := by
  have hl : h < ι.length := by rw [s.len]; exact (List.getElem?_eq_some_iff.mp e).1
  exact ⟨ι[h], List.getElem?_eq_getElem hl, s.obj h m _ e (List.getElem?_eq_getElem hl)⟩
theorem Sim.set (s : Sim c ι S H) {h : Nat} {m m' : MO} {a : Addr} {o : HO} (e : S[h]? = some m) (ha : ι[h]? = some a) (hr : m.isRol = false) (hr' : m'.isRol = false) (q : ObjRep c (upd H a o) ι a m') (hz : m.isFz = false := by rfl) : Sim c ι (S.set h m') (upd H a o) ∧ Stp ι H ι (upd H a o) := by
  obtain ⟨u, hu, nf, nt, nx⟩ := (s.obj h m a e ha).some hr
  have nf := nf hz
  have st : Stp ι H ι (upd H a o) := Stp.set (noTup hu nt nx nf)
  have kp : Keep a H (upd H a o) := Keep.upd fun p w z => nf p w (Option.some.inj (hu.symm.trans z))
  refine ⟨⟨by rw [List.length_set]; exact s.len, fun i j b m1 m2 h1 h2 e1 e2 r1 r2 => ?_, fun i m1 b e1 h1 => ?_⟩, st⟩
  · have f : ∀ (i : Nat) (m1 : MO), (S.set h m')[i]? = some m1 → m1.isRol = false → ∃ m0 : MO, S[i]? = some m0 ∧ m0.isRol = false := fun i m1 e1 r1 => by
      by_cases hi : h = i
      · subst hi; exact ⟨m, e, hr⟩
      · rw [List.getElem?_set_ne hi] at e1; exact ⟨m1, e1, r1⟩
    obtain ⟨n1, g1, q1⟩ := f i m1 e1 r1
    obtain ⟨n2, g2, q2⟩ := f j m2 e2 r2
    exact s.inj i j b n1 n2 h1 h2 g1 g2 q1 q2
  · by_cases hi : h = i
    · subst hi
      rw [ha] at h1; cases h1
      rw [List.getElem?_set_self (List.getElem?_eq_some_iff.mp e).1] at e1; cases e1
      exact q
    · rw [List.getElem?_set_ne hi] at e1
      exact (s.obj i m1 b e1 h1).step st kp fun r z => hi (by subst z; exact s.inj h i b m m1 ha h1 e e1 hr r)
theorem Sim.new (s : Sim c ι S H) {p : Addr} {o : HO} {m : MO} (hp : H p = none) (q : ObjRep c (upd H p o) (ι ++ [p]) p m) : Sim c (ι ++ [p]) (S ++ [m]) (upd H p o) ∧ Stp ι H (ι ++ [p]) (upd H p o) := by
  have st : Stp ι H (ι ++ [p]) (upd H p o) := Stp.new hp [p]
  have kp : Keep p H (upd H p o) := Keep.upd fun p w z => by rw [hp] at z; cases z
  have hl := s.len
  have old : ∀ i (m1 : MO), (S ++ [m])[i]? = some m1 → (i < S.length ∧ S[i]? = some m1) ∨ (i = S.length ∧ m1 = m) := fun i m1 e => by
    by_cases hi : i < S.length
    · rw [List.getElem?_append_left hi] at e; exact .inl ⟨hi, e⟩
    · rw [List.getElem?_append_right (by omega)] at e
      have h2 : i - S.length < 1 := by
        have := (List.getElem?_eq_some_iff.mp e).1
        simpa using this
      have h3 : i = S.length := by omega
      subst h3
      simp at e
      exact .inr ⟨rfl, e.symm⟩
  have oldA : ∀ i (b : Addr), (ι ++ [p])[i]? = some b → i < S.length → ι[i]? = some b := fun i b e hi => by
    rw [List.getElem?_append_left (by omega)] at e; exact e
  have newA : ∀ (b : Addr), (ι ++ [p])[S.length]? = some b → b = p := fun b e => by
    rw [← hl, List.getElem?_append_right (Nat.le_refl _)] at e
    simp at e
    exact e.symm
  have ne : ∀ i (m1 : MO) (b : Addr), S[i]? = some m1 → ι[i]? = some b → m1.isRol = false → b ≠ p := fun i m1 b e1 h1 r z => by
    obtain ⟨u, hu, _⟩ := (s.obj i m1 b e1 h1).some r
    rw [z, hp] at hu; cases hu
  refine ⟨⟨by simp [hl], fun i j b m1 m2 h1 h2 e1 e2 r1 r2 => ?_, fun i m1 b e1 h1 => ?_⟩, st⟩
  · rcases old i m1 e1 with ⟨i1, e1⟩ | ⟨i1, z1⟩ <;> rcases old j m2 e2 with ⟨j1, e2⟩ | ⟨j1, z2⟩
    · exact s.inj i j b m1 m2 (oldA i b h1 i1) (oldA j b h2 j1) e1 e2 r1 r2
    · rw [j1] at h2
      exact absurd (newA b h2) (ne i m1 b e1 (oldA i b h1 i1) r1)
    · rw [i1] at h1
      exact absurd (newA b h1) (ne j m2 b e2 (oldA j b h2 j1) r2)
    · omega
  · rcases old i m1 e1 with ⟨i1, e1⟩ | ⟨i1, rfl⟩
    · exact (s.obj i m1 b e1 (oldA i b h1 i1)).step st kp (ne i m1 b e1 (oldA i b h1 i1))
    · subst i1
      rw [newA b h1]; exact q
theorem Sim.laid (s : Sim c ι S H) {p : Addr} {o : HO} (hp : H p = none) : Sim c ι S (upd H p o) ∧ Stp ι H ι (upd H p o) := by
  have st : Stp ι H ι (upd H p o) := Stp.set (noTup_none hp)
  have kp : Keep p H (upd H p o) := Keep.upd fun p w z => by rw [hp] at z; cases z
  refine ⟨⟨s.len, s.inj, fun i m1 b e1 h1 => ?_⟩, st⟩
  exact (s.obj i m1 b e1 h1).step st kp fun r z => by
    obtain ⟨u, hu, _⟩ := (s.obj i m1 b e1 h1).some r
    rw [z, hp] at hu; cases hu
theorem Sim.newRef (s : Sim c ι S H) (p : Addr) : (ι ++ [p])[S.length]? = Option.some p := by
  rw [← s.len, List.getElem?_append_right (Nat.le_refl _)]; simp
end
end Mini
namespace Mini
open PySem L2
abbrev cf (X : Cx) : Cf := ⟨X.K, X.mg⟩
structure REnv (c : Cf) (H : Hp) (ι : List Addr) (ρ : Env) (σ : St) : Prop where
  len : ρ.length = σ.length
  get : ∀ (i : Nat) (d : D), ρ[i]? = some (some d) → ∃ v, σ[i]? = some (some v) ∧ Rep c H ι d v
theorem REnv.step {c : Cf} {H H' : Hp} {ι ι' : List Addr} {ρ : Env} {σ : St} (p : Stp ι H ι' H') (r : REnv c H ι ρ σ) : REnv c H' ι' ρ σ :=
  ⟨r.len, fun i d e => let ⟨v, h, q⟩ := r.get i d e; ⟨v, h, q.step p⟩⟩
def RExc (c : Cf) (H : Hp) (ι : List Addr) (n : Str) (fs : List (Str × D)) (cls : Value) (dd : Option Addr) : Prop :=
  ∃ C, cls = .ref C ∧ c.mg n = some (.ref C) ∧ match dd with
    | none => fs = []
    | some x => ∃ vs, H x = some (.xd vs) ∧ RepKV c H ι fs vs ∧ fs ≠ []
def post {α β : Type} (R : Hp → List Addr → α → β → Prop) (c : Cf) (W : WX) (ι : List Addr) (H : Hp) (σ : St) (Q : β → Hp → Prop) (o : Out α) : Prop := match o with
  | .ok a S' => ∀ ι' H' b, Stp ι H ι' H' → Sim c ι' S' H' → R H' ι' a b → Q b H'
  | .exc n fs S' => ∀ ι' H' cls dd, Stp ι H ι' H' → Sim c ι' S' H' → RExc c H' ι' n fs cls dd → W cls dd σ H'
  | .bad => False
abbrev RD (c : Cf) : Hp → List Addr → D → V → Prop := fun H ι d v => Rep c H ι d v
abbrev RDs (c : Cf) : Hp → List Addr → List D → List V → Prop := fun H ι d v => Reps c H ι d v
abbrev RB : Hp → List Addr → Bool → Bool → Prop := fun _ _ a b => a = b
theorem post_trans {α β : Type} {R : Hp → List Addr → α → β → Prop} {c : Cf} {W : WX} {ι ι1 : List Addr} {H H1 : Hp} {σ : St} {Q : β → Hp → Prop} {o : Out α} (p : Stp ι H ι1 H1) (h : post R c W ι H σ Q o) : post R c W ι1 H1 σ Q o := by
  cases o with
  | ok a S' => exact fun ι' H' b q => h ι' H' b (p.trans q)
  | exc n fs S' => exact fun ι' H' b dd q => h ι' H' b dd (p.trans q)
  | bad => exact h
theorem post_bnd {α β γ δ : Type} {R : Hp → List Addr → α → β → Prop} {R' : Hp → List Addr → γ → δ → Prop} {c : Cf} {W : WX} {ι : List Addr} {H : Hp} {σ : St} {Q : δ → Hp → Prop} {Q1 : β → Hp → Prop} {x : M α} {k : α → M γ} {S : Store}
    (h : post R' c W ι H σ Q (bnd x k S)) (f : ∀ a S1 ι' H' b, x S = .ok a S1 → Stp ι H ι' H' → Sim c ι' S1 H' → R H' ι' a b → post R' c W ι' H' σ Q (k a S1) → Q1 b H') : post R c W ι H σ Q1 (x S) := by
  unfold bnd at h
  cases e : x S with
  | ok a S1 =>
    rw [e] at h
    exact fun ι' H' b p s r => f a S1 ι' H' b e p s r (post_trans p h)
  | exc n fs S1 =>
    rw [e] at h
    exact h
  | bad =>
    rw [e] at h
    exact h
def tE (c : Cf) (W : WX) (f : ME) : TE := fun σ H Q => ∃ ι S ρ, Sim c ι S H ∧ REnv c H ι ρ σ ∧ post (RD c) c W ι H σ Q (f ρ S)
def tT (c : Cf) (W : WX) (f : Env → M Bool) : TT := fun σ H Q => ∃ ι S ρ, Sim c ι S H ∧ REnv c H ι ρ σ ∧ post RB c W ι H σ Q (f ρ S)
def tA (c : Cf) (W : WX) (f : Env → M (List D)) : TA := fun σ H Q => ∃ ι S ρ, Sim c ι S H ∧ REnv c H ι ρ σ ∧ post (RDs c) c W ι H σ Q (f ρ S)
theorem PE.imp {X : Cx} {e : Expr} {t t' : TE} (h : PE X e t) (f : ∀ σ H Q, t' σ H Q → t σ H Q) : PE X e t' := ⟨fun pins s σ H Q I q => h.run pins s σ H Q I (f σ H Q q)⟩
theorem PT.imp {X : Cx} {e : Expr} {t t' : TT} (h : PT X e t) (f : ∀ σ H Q, t' σ H Q → t σ H Q) : PT X e t' := ⟨fun pins s σ H Q I q => h.run pins s σ H Q I (f σ H Q q)⟩
theorem PA.imp {X : Cx} {e : List Expr} {t t' : TA} (h : PA X e t) (f : ∀ σ H Q, t' σ H Q → t σ H Q) : PA X e t' := ⟨fun pos pins s σ H Q I q => h.run pos pins s σ H Q I (f σ H Q q)⟩
theorem PS.imp {X : Cx} {e : Stmt} {t t' : TS} (h : PS X e t) (f : ∀ D σ H, t' D σ H → t D σ H) : PS X e t' := ⟨fun pins s σ H D I q => h.run pins s σ H D I (f D σ H q)⟩
theorem PSs.imp {X : Cx} {e : List Stmt} {t t' : TS} (h : PSs X e t) (f : ∀ D σ H, t' D σ H → t D σ H) : PSs X e t' := ⟨fun pins s σ H D I q => h.run pins s σ H D I (f D σ H q)⟩
theorem OpR.imp {X : Cx} {f : Value → Value → Sem Value} {r r' : R2} (h : OpR X f r) (i : ∀ x y H Q, r' x y H Q → r x y H Q) : OpR X f r' := fun pins s σ H x y v u Q I rx ry q => h pins s σ H x y v u Q I rx ry (i x y H Q q)
def Fin (c : Cf) (ι : List Addr) (H : Hp) (Q : VK) (o : Option (D × Store)) : Prop := ∃ d S', o = some (d, S') ∧ ∀ ι' H' v, Stp ι H ι' H' → Sim c ι' S' H' → Rep c H' ι' d v → Q v H'
theorem fin_of {c : Cf} {W : WX} {ι : List Addr} {H : Hp} {σ : St} {Q : VK} {o : Option (D × Store)} (h : post (RD c) c W ι H σ Q (lift o)) : Fin c ι H Q o := by
  cases o with
  | none => exact False.elim h
  | some p => exact ⟨p.1, p.2, rfl, h⟩
def rP (c : Cf) (g : P2) : R2 := fun x y H Q => ∃ ι S a b, Sim c ι S H ∧ Rep c H ι a x ∧ Rep c H ι b y ∧ Fin c ι H Q (g a b S)
def rU1 (c : Cf) (g : P1) : V → Hp → VK → Prop := fun x H Q => ∃ ι S a, Sim c ι S H ∧ Rep c H ι a x ∧ Fin c ι H Q (g a S)
def eOp (g : P2) (fa fb : ME) : ME := fun ρ => bnd (fa ρ) fun a => bnd (fb ρ) fun b => fun S => lift (g a b S)
theorem tE_op {c : Cf} {W : WX} {g : P2} {fa fb : ME} {σ : St} {H : Hp} {Q : VK} (h : tE c W (eOp g fa fb) σ H Q) : tOp (rP c g) (tE c W fa) (tE c W fb) σ H Q := by
  obtain ⟨ι, S, ρ, sm, en, p⟩ := h
  refine ⟨ι, S, ρ, sm, en, post_bnd p fun a S1 ι1 H1 x e1 st1 sm1 r1 p1 => ?_⟩
  refine ⟨ι1, S1, ρ, sm1, en.step st1, post_bnd p1 fun b S2 ι2 H2 y e2 st2 sm2 r2 p2 => ?_⟩
  exact ⟨ι2, S2, a, b, sm2, r1.step st2, r2, fin_of p2⟩
section
variable {X : Cx} {c : Cf} {H : Hp} {ι : List Addr} {S : Store}
theorem Fin.mk' {Q : VK} {d : D} {v : V} {o : Option (D × Store)} (s : Sim c ι S H) (h : Fin c ι H Q o) (e : o = some (d, S)) (r : Rep c H ι d v) : Q v H := by
  obtain ⟨d', S', e', k⟩ := h
  rw [e] at e'; cases e'
  exact k ι H v .refl s r
theorem strO_some {x : Str} {S : Store} {p : D × Store} (h : strO x S = some p) : x.length ≤ lim ∧ p = (.str x, S) := by
  unfold strO at h; split at h
  · exact ⟨by assumption, (Option.some.inj h).symm⟩
  · cases h
theorem tupO_some {x : List D} {S : Store} {p : D × Store} (h : tupO x S = some p) : x.length ≤ lim ∧ p = (.tup x, S) := by
  unfold tupO at h; split at h
  · exact ⟨by assumption, (Option.some.inj h).symm⟩
  · cases h
theorem newL_some {x : List D} {S : Store} {p : D × Store} (h : newL x S = some p) : x.length ≤ lim ∧ p = (.ref S.length, S ++ [.lst x]) := by
  unfold newL at h; split at h
  · exact ⟨by assumption, (Option.some.inj h).symm⟩
  · cases h
theorem Fin.lst {Q : VK} {xs : List D} {vs : List V} (s : Sim c ι S H) (h : Fin c ι H Q (newL xs S)) (r : Reps c H ι xs vs) : vs.length ≤ sizeLine ∧ ∀ p, H p = none → Q (.ref p) (upd H p (.lst vs)) := by
  obtain ⟨d', S', e, k⟩ := h
  obtain ⟨hl, e2⟩ := newL_some e
  cases e2
  refine ⟨by rw [r.length]; exact Nat.le_trans hl lim_le, fun p hp => ?_⟩
  have st : Stp ι H (ι ++ [p]) (upd H p (.lst vs)) := Stp.new hp [p]
  obtain ⟨s2, _⟩ := s.new (m := .lst xs) (o := .lst vs) hp ⟨vs, upd_same, r.step st⟩
  exact k _ _ _ st s2 (.ref (s.newRef p))
theorem Fin.tup {Q : VK} {xs : List D} {vs : List V} (s : Sim c ι S H) (h : Fin c ι H Q (some (.tup xs, S))) (r : Reps c H ι xs vs) : ∀ p, H p = none → Q (.ref p) (upd H p (.tup vs)) := by
  obtain ⟨d', S', e, k⟩ := h
  cases e
  intro p hp
  obtain ⟨s2, st⟩ := s.laid (o := .tup vs) hp
  exact k _ _ _ st s2 (.tup upd_same (r.step st))
theorem Sim.lst (s : Sim c ι S H) {h : Nat} {a : Addr} {xs : List D} (e : S[h]? = some (.lst xs)) (ha : ι[h]? = some a) : ∃ vs, H a = some (.lst vs) ∧ Reps c H ι xs vs := s.obj h _ a e ha
theorem RoL.sq {K : PySem.W.Frag} {a : Addr} {xs : List V} (h : RoL K H a xs) : SqL K H a xs := h.elim (fun ⟨o, e⟩ => .inl (.inr ⟨o, e⟩)) .inr
theorem op_pAdd : OpR X (binaryOp .Add) (rP (cf X) pAdd) := by
  refine OpR.imp (op_add.or (op_add_str.or (op_catA.or op_cat))) ?_
  rintro x y H Q ⟨ι, S, a, b, s, ra, rb, f⟩
  have f0 := f
  obtain ⟨d, S', e, k⟩ := f
  unfold pAdd at e
  split at e
  · cases ra; cases rb
    cases e
    exact .inl ⟨_, _, rfl, rfl, k ι H _ .refl s (.int _)⟩
  · cases ra; cases rb
    obtain ⟨hl, e2⟩ := strO_some e
    cases e2
    refine .inr (.inl ⟨_, _, rfl, rfl, ?_, k ι H _ .refl s (.str _)⟩)
    refine Nat.le_trans (Nat.le_of_eq ?_) (Nat.le_trans hl lim_le)
    show _ = (_ ++ _ : Array Nat).size
    rw [Array.size_append] <;> rfl
  · rename_i xs ys
    obtain ⟨hl, e2⟩ := tupO_some e
    cases ra with
    | @tup _ vs p hp ra =>
      cases rb with
      | @tup _ us q hq rb =>
        refine .inr (.inr (.inl ⟨p, q, vs, us, rfl, rfl, .of hp, .of hq, ?_, fun hv => ?_, fun hv hu => ?_, fun hv hu => ?_⟩))
        · rw [ra.length, rb.length, ← List.length_append]; exact Nat.le_trans hl lim_le
        · subst hv
          cases ra
          refine f0.mk' s (show pAdd (.tup []) (.tup ys) S = some (.tup ys, S) from ?_) (.tup hq rb)
          exact e.trans (by rw [e2]; rfl)
        · subst hu
          cases rb
          refine f0.mk' s (show pAdd (.tup xs) (.tup []) S = some (.tup xs, S) from ?_) (.tup hp ra)
          exact e.trans (by rw [e2, List.append_nil])
        · have f2 : Fin (cf X) ι H Q (some (.tup (xs ++ ys), S)) := ⟨_, _, rfl, by cases e2; exact k⟩
          exact f2.tup s (ra.append rb)
  · rename_i h1 h2
    split at e
    · rename_i xs ys e1 e2
      cases ra with
      | @ref _ p hp =>
        cases rb with
        | @ref _ q hq =>
          obtain ⟨vs, g1, r1⟩ := s.lst e1 hp
          obtain ⟨us, g2, r2⟩ := s.lst e2 hq
          have f2 : Fin (cf X) ι H Q (newL (xs ++ ys) S) := ⟨d, S', e, k⟩
          obtain ⟨z, q2⟩ := f2.lst s (r1.append r2)
          exact .inr (.inr (.inr ⟨p, q, vs, us, rfl, rfl, g1, g2, by rw [← List.length_append]; exact z, q2⟩))
    · cases e
  · cases e
end
end Mini
namespace Mini
open PySem L2
section
variable {X : Cx} {c : Cf} {H : Hp} {ι : List Addr} {S : Store}
theorem op_pSub : OpR X (binaryOp .Sub) (rP (cf X) pSub) := by
  refine OpR.imp op_sub ?_
  rintro x y H Q ⟨ι, S, a, b, s, ra, rb, d, S', e, k⟩
  unfold pSub at e
  split at e
  · cases ra; cases rb; cases e
    exact ⟨_, _, rfl, rfl, k ι H _ .refl s (.int _)⟩
  · cases e
theorem op_pMul : OpR X (binaryOp .Mult) (rP (cf X) pMul) := by
  refine OpR.imp op_mulW ?_
  rintro x y H Q ⟨ι, S, a, b, s, ra, rb, d, S', e, k⟩
  unfold pMul at e
  split at e
  · cases ra; cases rb
    split at e
    · rename_i hb
      cases e
      rw [Bool.and_eq_true, decide_eq_true_eq, decide_eq_true_eq] at hb
      exact ⟨_, _, rfl, rfl, wide_mul hb.1 hb.2 (by decide) (by decide) (by decide), k ι H _ .refl s (.int _)⟩
    · cases e
  · cases e
theorem op_pDiv : OpR X (binaryOp .FloorDiv) (rP (cf X) pDiv) := by
  refine OpR.imp op_fdiv ?_
  rintro x y H Q ⟨ι, S, a, b, s, ra, rb, d, S', e, k⟩
  unfold pDiv at e
  split at e
  · cases ra; cases rb
    split at e
    · rename_i hb
      cases e
      rw [Bool.and_eq_true, decide_eq_true_eq, decide_eq_true_eq] at hb
      exact ⟨_, _, rfl, rfl, hb, k ι H _ .refl s (.int _)⟩
    · cases e
  · cases e
theorem op_pMod : OpR X (binaryOp .Mod) (rP (cf X) pMod) := by
  refine OpR.imp op_mod ?_
  rintro x y H Q ⟨ι, S, a, b, s, ra, rb, d, S', e, k⟩
  unfold pMod at e
  split at e
  · cases ra; cases rb
    split at e
    · rename_i hb
      cases e
      exact ⟨_, _, rfl, rfl, hb, k ι H _ .refl s (.int _)⟩
    · cases e
  · cases e
theorem op_pPow : OpR X (binaryOp .Pow) (rP (cf X) pPow) := by
  refine OpR.imp op_pow ?_
  rintro x y H Q ⟨ι, S, a, b, s, ra, rb, d, S', e, k⟩
  unfold pPow at e
  split at e
  · cases ra; cases rb
    split at e
    · rename_i hb
      cases e
      rw [Bool.and_eq_true, Bool.and_eq_true, decide_eq_true_eq, decide_eq_true_eq, decide_eq_true_eq] at hb
      exact ⟨_, _, rfl, rfl, ⟨hb.1.1, Int.le_trans hb.1.2 (by decide), hb.2⟩, k ι H _ .refl s (.int _)⟩
    · cases e
  · cases e
theorem un_pNeg : UnR X (unaryOp .USub) (rU1 (cf X) pNeg) := by
  intro pins s0 σ H x v Q I rx ⟨ι, S, a, s, ra, d, S', e, k⟩
  unfold pNeg at e
  split at e
  · cases ra; cases e
    exact un_neg pins s0 σ H _ v Q I rx ⟨_, rfl, k ι H _ .refl s (.int _)⟩
  · cases e
mutual
theorem dP_dp {f : Nat → Option PyData} (hf : ∀ h a p, ι[h]? = some a → f h = some p → Dp c.K H (.ref a) p) : ∀ {d : D} {v : V} {p : PyData}, Rep c H ι d v → dP f d = some p → Dp c.K H v p
  | _, _, p, .non, e => by rw [dP] at e; cases e; exact .non
  | _, _, p, .bl b, e => by rw [dP] at e; cases e; exact .bl b
  | _, _, p, .int i, e => by rw [dP] at e; cases e; exact .int i
  | _, _, p, .str x, e => by rw [dP] at e; cases e; exact .str x
  | _, _, p, .tup a b, e => by
    rw [dP] at e
    obtain ⟨ps, e1, e2⟩ := Option.map_eq_some_iff.mp e
    subst e2
    exact .tup (.of a) (dPs_dp hf b e1)
  | _, _, p, .ref h, e => by
    rw [dP] at e
    exact hf _ _ _ h e
theorem dPs_dp {f : Nat → Option PyData} (hf : ∀ h a p, ι[h]? = some a → f h = some p → Dp c.K H (.ref a) p) : ∀ {ds : List D} {vs : List V} {ps : List PyData}, Reps c H ι ds vs → dPs f ds = some ps → DpAll c.K H vs ps
  | _, _, ps, .nil, e => by rw [dPs] at e; cases e; exact .nil
  | _, _, ps, .cons a b, e => by
    rw [dPs] at e
    obtain ⟨p, e1, e⟩ := Option.bind_eq_some_iff.mp e
    obtain ⟨q, e2, e⟩ := Option.map_eq_some_iff.mp e
    subst e
    exact .cons (dP_dp hf a e1) (dPs_dp hf b e2)
end
theorem deref_dp (s : Sim c ι S H) : ∀ (n h : Nat) (a : Addr) (p : PyData), ι[h]? = some a → deref n S h = some p → Dp c.K H (.ref a) p
  | 0, _, _, _, _, e => by rw [deref] at e; cases e
  | n + 1, h, a, p, ha, e => by
    rw [deref] at e
    split at e
    · rename_i xs hx
      obtain ⟨ps, e1, e2⟩ := Option.map_eq_some_iff.mp e
      subst e2
      obtain ⟨vs, g, r⟩ := s.obj h _ a hx ha
      exact .lst (.inl (.inl g)) (dPs_dp (deref_dp s n) r e1)
    · rename_i xs hx
      obtain ⟨ps, e1, e2⟩ := Option.map_eq_some_iff.mp e
      subst e2
      obtain ⟨vs, g, r⟩ := s.obj h _ a hx ha
      exact .lst g.sq (dPs_dp (deref_dp s n) r e1)
    · cases e
theorem toP_dp (s : Sim c ι S H) {d : D} {v : V} {p : PyData} (r : Rep c H ι d v) (e : toP S d = some p) : Dp c.K H v p := dP_dp (deref_dp s 8) r e
theorem eqD_some {a b : D} {k : Bool} (e : eqD S a b = some k) : ∃ x y, toP S a = some x ∧ toP S b = some y ∧ SeqAt.shaped x = true ∧ SeqAt.shaped y = true ∧ k = PyData.eqv x y := by
  unfold eqD at e
  split at e
  · rename_i x y h1 h2
    split at e
    · rename_i hs
      rw [Bool.and_eq_true] at hs
      cases e
      exact ⟨x, y, h1, h2, hs.1, hs.2, rfl⟩
    · cases e
  · cases e
theorem op_pEq (hu : X.A.units + 64 < cLine) : OpR X (compareOp .Eq) (rP (cf X) pEq) := by
  refine OpR.imp (op_eqD hu) ?_
  rintro x y H Q ⟨ι, S, a, b, s, ra, rb, d, S', e, k⟩
  unfold pEq at e
  obtain ⟨b1, e1, e⟩ := Option.map_eq_some_iff.mp e
  cases e
  obtain ⟨p, q, h1, h2, s1, s2, rfl⟩ := eqD_some e1
  exact ⟨p, q, toP_dp s ra h1, toP_dp s rb h2, s1, s2, k ι H _ .refl s (.bl _)⟩
theorem op_pNe (hu : X.A.units + 64 < cLine) : OpR X (compareOp .NotEq) (rP (cf X) pNe) := by
  refine OpR.imp (op_neD hu) ?_
  rintro x y H Q ⟨ι, S, a, b, s, ra, rb, d, S', e, k⟩
  unfold pNe at e
  obtain ⟨b1, e1, e⟩ := Option.map_eq_some_iff.mp e
  cases e
  obtain ⟨p, q, h1, h2, s1, s2, rfl⟩ := eqD_some e1
  exact ⟨p, q, toP_dp s ra h1, toP_dp s rb h2, s1, s2, k ι H _ .refl s (.bl _)⟩
def rOrd (K : PySem.W.Frag) (g : PyData → PyData → Bool) : R2 := fun x y H Q => ∃ d e, Dp K H x d ∧ Dp K H y e ∧ PySem.W.alike d e = true ∧ d ≠ .none ∧ SeqAt.shaped d = true ∧ SeqAt.shaped e = true ∧ Q (.bl (g d e)) H
theorem room_min {A : Around} {d e : PyData} (hu : A.units + 64 < cLine) (h : SeqAt.shaped d = true) : A.units + min d.depth e.depth < cLine := by
  have := SeqAt.depth_of_shaped h
  have h2 : min d.depth e.depth ≤ d.depth := Nat.min_le_left _ _
  omega
theorem op_ltA (hu : X.A.units + 64 < cLine) : OpR X (compareOp .Lt) (rOrd X.K fun d e => PySem.W.dataLt d e) := by
  rintro pins s σ H x y v u Q I rx ry ⟨d, e, hd, he, al, nn, s1, s2, q⟩
  obtain ⟨as, r1⟩ := Dp.reads I d x v hd rx
  obtain ⟨bs, r2⟩ := Dp.reads I e y u he ry
  exact PySem.W.lt_data r1 r2 al nn (room_min hu s1) ⟨.bl _, H, I, rfl, q⟩
theorem op_gtA (hu : X.A.units + 64 < cLine) : OpR X (compareOp .Gt) (rOrd X.K fun d e => PySem.W.dataLt e d) := by
  rintro pins s σ H x y v u Q I rx ry ⟨d, e, hd, he, al, nn, s1, s2, q⟩
  obtain ⟨as, r1⟩ := Dp.reads I d x v hd rx
  obtain ⟨bs, r2⟩ := Dp.reads I e y u he ry
  exact PySem.W.gt_data r1 r2 al nn (room_min hu s1) ⟨.bl _, H, I, rfl, q⟩
theorem op_leA (hu : X.A.units + 64 < cLine) : OpR X (compareOp .LtE) (rOrd X.K fun d e => !PySem.W.dataLt e d) := by
  rintro pins s σ H x y v u Q I rx ry ⟨d, e, hd, he, al, nn, s1, s2, q⟩
  obtain ⟨as, r1⟩ := Dp.reads I d x v hd rx
  obtain ⟨bs, r2⟩ := Dp.reads I e y u he ry
  exact PySem.W.le_data r1 r2 al nn (room_min hu s1) ⟨.bl _, H, I, rfl, q⟩
theorem op_geA (hu : X.A.units + 64 < cLine) : OpR X (compareOp .GtE) (rOrd X.K fun d e => !PySem.W.dataLt d e) := by
  rintro pins s σ H x y v u Q I rx ry ⟨d, e, hd, he, al, nn, s1, s2, q⟩
  obtain ⟨as, r1⟩ := Dp.reads I d x v hd rx
  obtain ⟨bs, r2⟩ := Dp.reads I e y u he ry
  exact PySem.W.ge_data r1 r2 al nn (room_min hu s1) ⟨.bl _, H, I, rfl, q⟩
theorem ltD_some (s : Sim c ι S H) {a b : D} {x y : V} {k : Bool} (ra : Rep c H ι a x) (rb : Rep c H ι b y) (e : ltD S a b = some k) :
    (∃ i j, x = .int i ∧ y = .int j ∧ k = decide (i < j)) ∨ (∃ i j, x = .str i ∧ y = .str j ∧ k = decide (i.cps.toList < j.cps.toList)) ∨
    ∃ p q, Dp c.K H x p ∧ Dp c.K H y q ∧ PySem.W.alike p q = true ∧ p ≠ .none ∧ q ≠ .none ∧ SeqAt.shaped p = true ∧ SeqAt.shaped q = true ∧ k = PySem.W.dataLt p q := by
  unfold ltD at e
  split at e
  · cases ra; cases rb; cases e
    exact .inl ⟨_, _, rfl, rfl, rfl⟩
  · cases ra; cases rb; cases e
    exact .inr (.inl ⟨_, _, rfl, rfl, rfl⟩)
  · rename_i xs ys
    split at e
    · rename_i p q h1 h2
      split at e
      · rename_i hs
        rw [Bool.and_eq_true, Bool.and_eq_true] at hs
        cases e
        have g1 : ∃ l, p = .tuple l := by
          unfold toP at h1; rw [dP] at h1
          obtain ⟨ps, _, e2⟩ := Option.map_eq_some_iff.mp h1
          exact ⟨ps, e2.symm⟩
        have g2 : ∃ l, q = .tuple l := by
          unfold toP at h2; rw [dP] at h2
          obtain ⟨ps, _, e2⟩ := Option.map_eq_some_iff.mp h2
          exact ⟨ps, e2.symm⟩
        refine .inr (.inr ⟨p, q, toP_dp s ra h1, toP_dp s rb h2, hs.1.1, ?_, ?_, hs.1.2, hs.2, rfl⟩)
        · obtain ⟨l, rfl⟩ := g1; exact fun z => by cases z
        · obtain ⟨l, rfl⟩ := g2; exact fun z => by cases z
      · cases e
    · cases e
  · cases e
theorem not_lt_dec (i j : Int) : (!decide (j < i)) = decide (i ≤ j) := by
  by_cases h : i ≤ j
  · rw [decide_eq_true h, decide_eq_false (by omega)]; rfl
  · rw [decide_eq_false h, decide_eq_true (by omega)]; rfl
theorem op_pLt (hu : X.A.units + 64 < cLine) : OpR X (compareOp .Lt) (rP (cf X) pLt) := by
  refine OpR.imp (op_lt.or (op_lt_str.or (op_ltA hu))) ?_
  rintro x y H Q ⟨ι, S, a, b, s, ra, rb, d, S', e, k⟩
  unfold pLt at e
  obtain ⟨b1, e1, e⟩ := Option.map_eq_some_iff.mp e
  cases e
  have q := k ι H _ .refl s (.bl _)
  rcases ltD_some s ra rb e1 with ⟨i, j, rfl, rfl, rfl⟩ | ⟨i, j, rfl, rfl, rfl⟩ | ⟨p, q', h1, h2, h3, h4, h5, h6, h7, rfl⟩
  · exact .inl ⟨i, j, rfl, rfl, q⟩
  · exact .inr (.inl ⟨i, j, rfl, rfl, q⟩)
  · exact .inr (.inr ⟨p, q', h1, h2, h3, h4, h6, h7, q⟩)
theorem op_pGe (hu : X.A.units + 64 < cLine) : OpR X (compareOp .GtE) (rP (cf X) pGe) := by
  refine OpR.imp (op_ge.or (op_ge_str.or (op_geA hu))) ?_
  rintro x y H Q ⟨ι, S, a, b, s, ra, rb, d, S', e, k⟩
  unfold pGe at e
  obtain ⟨b1, e1, e⟩ := Option.map_eq_some_iff.mp e
  cases e
  have q := k ι H _ .refl s (.bl _)
  rcases ltD_some s ra rb e1 with ⟨i, j, rfl, rfl, rfl⟩ | ⟨i, j, rfl, rfl, rfl⟩ | ⟨p, q', h1, h2, h3, h4, h5, h6, h7, rfl⟩
  · exact .inl ⟨i, j, rfl, rfl, by rw [not_lt_dec] at q; exact q⟩
  · exact .inr (.inl ⟨i, j, rfl, rfl, q⟩)
  · exact .inr (.inr ⟨p, q', h1, h2, h3, h4, h6, h7, q⟩)
theorem alike_swap {p q : PyData} (h : PySem.W.alike p q = true) : PySem.W.alike q p = true := by rw [PySem.W.alike_comm]; exact h
theorem op_pGt (hu : X.A.units + 64 < cLine) : OpR X (compareOp .Gt) (rP (cf X) pGt) := by
  refine OpR.imp (op_gt.or (op_gt_str.or (op_gtA hu))) ?_
  rintro x y H Q ⟨ι, S, a, b, s, ra, rb, d, S', e, k⟩
  unfold pGt at e
  obtain ⟨b1, e1, e⟩ := Option.map_eq_some_iff.mp e
  cases e
  have q := k ι H _ .refl s (.bl _)
  rcases ltD_some s rb ra e1 with ⟨i, j, rfl, rfl, rfl⟩ | ⟨i, j, rfl, rfl, rfl⟩ | ⟨p, q', h1, h2, h3, h4, h5, h6, h7, rfl⟩
  · exact .inl ⟨j, i, rfl, rfl, q⟩
  · exact .inr (.inl ⟨j, i, rfl, rfl, q⟩)
  · exact .inr (.inr ⟨q', p, h2, h1, alike_swap h3, h5, h7, h6, q⟩)
theorem op_pLe (hu : X.A.units + 64 < cLine) : OpR X (compareOp .LtE) (rP (cf X) pLe) := by
  refine OpR.imp (op_le.or (op_le_str.or (op_leA hu))) ?_
  rintro x y H Q ⟨ι, S, a, b, s, ra, rb, d, S', e, k⟩
  unfold pLe at e
  obtain ⟨b1, e1, e⟩ := Option.map_eq_some_iff.mp e
  cases e
  have q := k ι H _ .refl s (.bl _)
  rcases ltD_some s rb ra e1 with ⟨i, j, rfl, rfl, rfl⟩ | ⟨i, j, rfl, rfl, rfl⟩ | ⟨p, q', h1, h2, h3, h4, h5, h6, h7, rfl⟩
  · exact .inl ⟨j, i, rfl, rfl, by rw [not_lt_dec] at q; exact q⟩
  · exact .inr (.inl ⟨j, i, rfl, rfl, q⟩)
  · exact .inr (.inr ⟨q', p, h2, h1, alike_swap h3, h5, h7, h6, q⟩)
theorem op_pIs : OpR X (compareOp .Is) (rP (cf X) pIs) := by
  refine OpR.imp (op_isN.or op_is_bl) ?_
  rintro x y H Q ⟨ι, S, a, b, s, ra, rb, d, S', e, k⟩
  unfold pIs at e
  obtain ⟨b1, e1, e⟩ := Option.map_eq_some_iff.mp e
  cases e
  have q := k ι H _ .refl s (.bl _)
  unfold isD at e1
  split at e1 <;> cases e1 <;> cases ra <;> cases rb
  · exact .inl ⟨rfl, q⟩
  · exact .inr ⟨_, _, rfl, rfl, q⟩
  all_goals exact .inl ⟨rfl, by first | exact q | (rw [decide_eq_false (by intro z; cases z)]; exact q)⟩
theorem op_pIsNot : OpR X (compareOp .IsNot) (rP (cf X) pIsNot) := by
  refine OpR.imp (op_notN.or op_isnot_bl) ?_
  rintro x y H Q ⟨ι, S, a, b, s, ra, rb, d, S', e, k⟩
  unfold pIsNot at e
  obtain ⟨b1, e1, e⟩ := Option.map_eq_some_iff.mp e
  cases e
  have q := k ι H _ .refl s (.bl _)
  unfold isD at e1
  split at e1 <;> cases e1 <;> cases ra <;> cases rb
  · exact .inl ⟨rfl, q⟩
  · exact .inr ⟨_, _, rfl, rfl, q⟩
  all_goals exact .inl ⟨rfl, by first | exact q | (rw [decide_eq_false (by intro z; cases z)]; exact q)⟩
end
end Mini
namespace Mini
open PySem L2
def Tag (H : Hp) (a : Addr) (H2 : Hp) : Prop := H2 = H ∨ (H a = some (.dK []) ∧ H2 = upd H a (.dT [])) ∨ (H a = some (.dT []) ∧ H2 = upd H a (.dK []))
section
variable {X : Cx} {pins : List (Addr × Obj)} {σ : St} {H H2 : Hp} {s : Shared} {a : Addr}
theorem kt_ok {P : Program} {w : World} {H H' : Hp} {h : Heap} (x : ObjOk P w H h a (.dK [])) : ObjOk P w H' h a (.dT []) := by
  obtain ⟨z, y, vs, r, o, es, ep, h1, h2, h3, h4, h5, h6⟩ := x
  cases r
  have e : es.toList = [] := by
    generalize es.toList = l at h5
    cases h5; rfl
  exact ⟨z, y, [], .nil, o, es, ep, h1, h2, h3, e, List.nodup_nil⟩
theorem tk_ok {P : Program} {w : World} {H H' : Hp} {h : Heap} (x : ObjOk P w H h a (.dT [])) : ObjOk P w H' h a (.dK []) := by
  obtain ⟨z, y, xs, r, o, es, ep, h1, h2, h3, h4, h5⟩ := x
  cases r
  have e : es.toList = [] := h4
  refine ⟨z, y, [], .nil, o, es, ep, h1, h2, h3, (fun x hx => ?_), ?_, List.nodup_nil⟩
  · have : x ∈ es.toList := by simpa using hx
    rw [e] at this; cases this
  · rw [e]; exact .nil
theorem Inv.tag (I : L2.Inv X pins σ H s) (t : Tag H a H2) : L2.Inv X pins σ H2 s := by
  rcases t with rfl | ⟨e, rfl⟩ | ⟨e, rfl⟩
  · exact I
  · have ok := kt_ok (H' := upd H a (.dT [])) (show ObjOk X.prog X.w H s.heap a (.dK []) from I.hok a _ e)
    obtain ⟨_, _, _, _, o, _, _, g, _⟩ := id ok
    exact I.write (x := a) (e := a) (t' := s.toks) (h' := s.heap) (by rw [e]; exact True.intro) (.inl rfl) (fun b v _ q => q) ⟨o, g⟩ ok
  · have ok := tk_ok (H' := upd H a (.dK [])) (show ObjOk X.prog X.w H s.heap a (.dT []) from I.hok a _ e)
    obtain ⟨_, _, _, _, o, _, _, g, _⟩ := id ok
    exact I.write (x := a) (e := a) (t' := s.toks) (h' := s.heap) (by rw [e]; exact True.intro) (.inl rfl) (fun b v _ q => q) ⟨o, g⟩ ok
end
section
variable {c : Cf} {H : Hp} {ι : List Addr} {S : Store}
theorem set_self {h : Nat} {m : MO} (e : S[h]? = some m) : S.set h m = S := by
  apply List.ext_getElem?
  intro i
  by_cases hi : h = i
  · subst hi; rw [List.getElem?_set_self (List.getElem?_eq_some_iff.mp e).1, e]
  · rw [List.getElem?_set_ne hi]
theorem keyOf_rep {d : D} {v : V} {k : Key} (r : Rep c H ι d v) (e : keyOf d = some k) : v = kV k := by
  cases r <;> simp only [keyOf] at e <;> cases e <;> rfl
theorem keysOf_reps : ∀ {ds : List D} {vs : List V} {ks : List Key}, Reps c H ι ds vs → keysOf ds = some ks → vs = ks.map kV
  | _, _, _, .nil, e => by rw [keysOf] at e; cases e; rfl
  | _, _, _, .cons a b, e => by
    rw [keysOf] at e
    obtain ⟨k, e1, e⟩ := Option.bind_eq_some_iff.mp e
    obtain ⟨ks, e2, e⟩ := Option.map_eq_some_iff.mp e
    subst e
    rw [keyOf_rep a e1, keysOf_reps b e2]; rfl
theorem tkeyOf_rep {d : D} {v : V} {k : List Key} (r : Rep c H ι d v) (e : tkeyOf d = some k) : ∃ b, v = .ref b ∧ H b = some (.tup (k.map kV)) := by
  cases r <;> simp only [tkeyOf] at e <;> try cases e
  rename_i vs b hb rs
  exact ⟨_, rfl, by rw [hb, keysOf_reps rs e]⟩
theorem RepKV.val {κ : Type} [DecidableEq κ] (k : κ) : ∀ {ds : List (κ × D)} {vs : List (κ × V)}, RepKV c H ι ds vs → (∀ d, getM ds k = some d → ∃ v, valV vs k = some v ∧ Rep c H ι d v) ∧ (getM ds k = none → valV vs k = none)
  | _, _, .nil => ⟨(fun d e => nomatch (show (none : Option D) = some d from e)), fun _ => rfl⟩
  | (j, d0) :: ds, (_, v0) :: vs, .cons a b => by
    by_cases h : j = k
    · have e1 : getM ((j, d0) :: ds) k = some d0 := by simp [getM, List.find?_cons, h]
      have e2 : valV ((j, v0) :: vs) k = some v0 := by simp [valV, List.find?_cons, h]
      rw [e1, e2]
      exact ⟨(fun d e => by cases e; exact ⟨v0, rfl, a⟩), (fun e => by cases e)⟩
    · have e1 : getM ((j, d0) :: ds) k = getM ds k := by simp [getM, List.find?_cons, h]
      have e2 : valV ((j, v0) :: vs) k = valV vs k := by simp [valV, List.find?_cons, h]
      rw [e1, e2]
      exact RepKV.val k b
theorem RepKV.any {κ : Type} [DecidableEq κ] (k : κ) : ∀ {ds : List (κ × D)} {vs : List (κ × V)}, RepKV c H ι ds vs → (vs.any fun kv => decide (kv.1 = k)) = (ds.any fun kv => decide (kv.1 = k))
  | _, _, .nil => rfl
  | _, _, .cons a b => by rw [List.any_cons, List.any_cons, RepKV.any k b]
theorem RepKV.repl {κ : Type} [DecidableEq κ] (k : κ) {d : D} {v : V} (r : Rep c H ι d v) : ∀ {ds : List (κ × D)} {vs : List (κ × V)}, RepKV c H ι ds vs → RepKV c H ι (ds.map fun kv => if kv.1 = k then (kv.1, d) else kv) (vs.map fun kv => if kv.1 = k then (kv.1, v) else kv)
  | _, _, .nil => .nil
  | (j, d0) :: ds, (_, v0) :: vs, .cons a b => by
    rw [List.map_cons, List.map_cons]
    by_cases h : j = k
    · simp only [h, if_true]; exact .cons r (RepKV.repl k r b)
    · simp only [h, if_false]; exact .cons a (RepKV.repl k r b)
theorem RepKV.snoc {κ : Type} (k : κ) {d : D} {v : V} (r : Rep c H ι d v) : ∀ {ds : List (κ × D)} {vs : List (κ × V)}, RepKV c H ι ds vs → RepKV c H ι (ds ++ [(k, d)]) (vs ++ [(k, v)])
  | _, _, .nil => .cons r .nil
  | _, _, .cons a b => .cons a (RepKV.snoc k r b)
theorem RepKV.put {κ : Type} [DecidableEq κ] (k : κ) {d : D} {v : V} {ds : List (κ × D)} {vs : List (κ × V)} (r : Rep c H ι d v) (q : RepKV c H ι ds vs) : RepKV c H ι (putM ds k d) (putK vs k v) := by
  unfold putM putK
  rw [q.any k]
  split
  · exact q.repl k r
  · exact q.snoc k r
theorem RepKV.drop {κ : Type} [DecidableEq κ] (k : κ) : ∀ {ds : List (κ × D)} {vs : List (κ × V)}, RepKV c H ι ds vs → RepKV c H ι (dropM ds k) (dropK vs k)
  | _, _, .nil => .nil
  | (j, d0) :: ds, (_, v0) :: vs, .cons a b => by
    unfold dropM dropK
    rw [List.filter_cons, List.filter_cons]
    by_cases h : j = k
    · simp only [h, ne_eq, not_true_eq_false, decide_false]; exact RepKV.drop k b
    · simp only [h, ne_eq, not_false_eq_true, decide_true]; exact .cons a (RepKV.drop k b)
structure DRead (c : Cf) (ι : List Addr) (S : Store) (H : Hp) (a : Addr) (y : V) (r : Option D) where
  H2 : Hp
  tag : Tag H a H2
  sim : Sim c ι S H2
  stp : Stp ι H ι H2
  get : ∃ o, DGet H2 a y o ∧ (∀ d, r = some d → ∃ v, o = some v ∧ Rep c H2 ι d v) ∧ (r = none → o = none)
theorem dRead_plain {a : Addr} {y : V} {r : Option D} (s : Sim c ι S H) (g : ∃ o, DGet H a y o ∧ (∀ d, r = some d → ∃ v, o = some v ∧ Rep c H ι d v) ∧ (r = none → o = none)) : Nonempty (DRead c ι S H a y r) :=
  ⟨⟨H, .inl rfl, s, .refl, g⟩⟩
theorem dLook_ok (s : Sim c ι S H) {h : Nat} {a : Addr} {m : MO} {d : D} {y : V} {r : Option D} (e : S[h]? = some m) (ha : ι[h]? = some a) (rd : Rep c H ι d y) (l : dLook m d = some r) : Nonempty (DRead c ι S H a y r) := by
  have ob := s.obj h m a e ha
  have re : ∀ {o : HO} {m' : MO}, m.isRol = false → m = m' → ObjRep c (upd H a o) ι a m' → (hz : m.isFz = false := by rfl) → Sim c ι S (upd H a o) ∧ Stp ι H ι (upd H a o) := fun {o m'} hr em q hz => by
    subst em
    have := s.set (m' := m) (o := o) e ha hr hr q hz
    rw [set_self e] at this
    exact this
  cases m with
  | lst xs => cases l
  | rol xs => cases l
  | obj n fs => cases l
  | fK kvs =>
    obtain ⟨k, hk, e1⟩ := Option.map_eq_some_iff.mp l
    obtain ⟨o, vs, g, q⟩ := ob
    obtain ⟨q1, q2⟩ := q.val k
    subst e1
    exact dRead_plain s ⟨valV vs k, .inl ⟨vs, k, .inr ⟨o, g⟩, keyOf_rep rd hk, rfl⟩, q1, q2⟩
  | fT kvs =>
    obtain ⟨k, hk, e1⟩ := Option.map_eq_some_iff.mp l
    obtain ⟨o, vs, g, q⟩ := ob
    obtain ⟨b, ey, hb⟩ := tkeyOf_rep rd hk
    obtain ⟨q1, q2⟩ := q.val k
    subst e1
    exact dRead_plain s ⟨valV vs k, .inr ⟨vs, k, b, .inr ⟨o, g⟩, ey, hb, rfl⟩, q1, q2⟩
  | dK kvs =>
    cases hk : keyOf d with
    | some k =>
      simp only [dLook, hk] at l; cases l
      have ey := keyOf_rep rd hk
      rcases ob with ⟨vs, g, q⟩ | ⟨rfl, g⟩
      · obtain ⟨q1, q2⟩ := q.val k
        exact dRead_plain s ⟨valV vs k, .inl ⟨vs, k, .inl g, ey, rfl⟩, q1, q2⟩
      · obtain ⟨s2, st⟩ := re (o := .dK []) rfl rfl (.inl ⟨[], upd_same, .nil⟩)
        exact ⟨⟨_, .inr (.inr ⟨g, rfl⟩), s2, st, none, .inl ⟨[], k, .inl upd_same, ey, rfl⟩, (fun d e => nomatch (show (none : Option D) = some d from e)), fun _ => rfl⟩⟩
    | none =>
      simp only [dLook, hk] at l
      split at l
      · rename_i he
        have hn : kvs = [] := List.isEmpty_iff.mp he
        subst hn
        obtain ⟨k, hk2, e2⟩ := Option.map_eq_some_iff.mp l
        subst e2
        obtain ⟨b, ey, hb⟩ := tkeyOf_rep rd hk2
        rcases ob with ⟨vs, g, q⟩ | ⟨_, g⟩
        · cases q
          obtain ⟨s2, st⟩ := re (o := .dT []) rfl rfl (.inr ⟨rfl, upd_same⟩)
          exact ⟨⟨_, .inr (.inl ⟨g, rfl⟩), s2, st, none, .inr ⟨[], k, b, .inl upd_same, ey, st.tup _ _ hb, rfl⟩, (fun d e => nomatch (show (none : Option D) = some d from e)), fun _ => rfl⟩⟩
        · exact dRead_plain s ⟨none, .inr ⟨[], k, b, .inl g, ey, hb, rfl⟩, (fun d e => nomatch (show (none : Option D) = some d from e)), fun _ => rfl⟩
      · cases l
  | dT kvs =>
    cases hk : tkeyOf d with
    | some k =>
      simp only [dLook, hk] at l; cases l
      obtain ⟨b, ey, hb⟩ := tkeyOf_rep rd hk
      rcases ob with ⟨vs, g, q⟩ | ⟨rfl, g⟩
      · obtain ⟨q1, q2⟩ := q.val k
        exact dRead_plain s ⟨valV vs k, .inr ⟨vs, k, b, .inl g, ey, hb, rfl⟩, q1, q2⟩
      · obtain ⟨s2, st⟩ := re (o := .dT []) rfl rfl (.inl ⟨[], upd_same, .nil⟩)
        exact ⟨⟨_, .inr (.inl ⟨g, rfl⟩), s2, st, none, .inr ⟨[], k, b, .inl upd_same, ey, st.tup _ _ hb, rfl⟩, (fun d e => nomatch (show (none : Option D) = some d from e)), fun _ => rfl⟩⟩
    | none =>
      simp only [dLook, hk] at l
      split at l
      · rename_i he
        have hn : kvs = [] := List.isEmpty_iff.mp he
        subst hn
        obtain ⟨k, hk2, e2⟩ := Option.map_eq_some_iff.mp l
        subst e2
        have ey := keyOf_rep rd hk2
        rcases ob with ⟨vs, g, q⟩ | ⟨_, g⟩
        · cases q
          obtain ⟨s2, st⟩ := re (o := .dK []) rfl rfl (.inr ⟨rfl, upd_same⟩)
          exact ⟨⟨_, .inr (.inr ⟨g, rfl⟩), s2, st, none, .inl ⟨[], k, .inl upd_same, ey, rfl⟩, (fun d e => nomatch (show (none : Option D) = some d from e)), fun _ => rfl⟩⟩
        · exact dRead_plain s ⟨none, .inl ⟨[], k, .inl g, ey, rfl⟩, (fun d e => nomatch (show (none : Option D) = some d from e)), fun _ => rfl⟩
      · cases l
end
theorem room_inAll {A : Around} {d : PyData} {es : List PyData} (h : SeqAt.shaped d = true) (hu : A.units + 65 < cLine) : A.units + 1 + min (PyData.depthAll es) d.depth < cLine := by
  have := SeqAt.depth_of_shaped h
  have h2 : min (PyData.depthAll es) d.depth ≤ d.depth := Nat.min_le_right _ _
  omega
section
variable {X : Cx}
def rDInT (neg : Bool) : R2 := fun x y H Q => ∃ a o H2, y = .ref a ∧ Tag H a H2 ∧ DGet H2 a x o ∧ Q (.bl (if neg then !o.isSome else o.isSome)) H2
theorem op_dIn (hu : X.A.units + 1 < cLine) : OpR X (compareOp .In) (rDInT false) := by
  rintro pins s σ H x y v u Q I rx ry ⟨a, o, H2, rfl, t, g, q⟩
  cases ry
  exact d_in hu (Inv.tag I t) g rx fun s' I' => ⟨.bl _, H2, I', rfl, q⟩
theorem op_dNotIn (hu : X.A.units + 1 < cLine) : OpR X (compareOp .NotIn) (rDInT true) := by
  rintro pins s σ H x y v u Q I rx ry ⟨a, o, H2, rfl, t, g, q⟩
  cases ry
  exact d_notIn hu (Inv.tag I t) g rx fun s' I' => ⟨.bl _, H2, I', rfl, q⟩
def rInTD (K : PySem.W.Frag) (neg : Bool) : R2 := fun x y H Q => ∃ d ds, Dp K H x d ∧ Dp K H y (.tuple ds) ∧ SeqAt.shaped d = true ∧ SeqAt.shaped (.list ds) = true ∧ Q (.bl (if neg then !(ds.any fun z => PyData.eqv z d) else ds.any fun z => PyData.eqv z d)) H
theorem op_inTD (hu : X.A.units + 65 < cLine) : OpR X (compareOp .In) (rInTD X.K false) := by
  rintro pins s σ H x y v u Q I rx ry ⟨d, ds, hd, he, sd, se, q⟩
  obtain ⟨as, r1⟩ := Dp.reads I d x v hd rx
  obtain ⟨bs, r2⟩ := Dp.reads I (.tuple ds) y u he ry
  exact SeqAt.in_tuple_reads r2 r1 (SeqAt.canLay_of_shaped se) (SeqAt.canLay_of_shaped sd) (room_inAll sd hu) ⟨.bl _, H, I, rfl, q⟩
theorem op_notInTD (hu : X.A.units + 65 < cLine) : OpR X (compareOp .NotIn) (rInTD X.K true) := by
  rintro pins s σ H x y v u Q I rx ry ⟨d, ds, hd, he, sd, se, q⟩
  obtain ⟨as, r1⟩ := Dp.reads I d x v hd rx
  obtain ⟨bs, r2⟩ := Dp.reads I (.tuple ds) y u he ry
  exact SeqAt.notIn_tuple_reads r2 r1 (SeqAt.canLay_of_shaped se) (SeqAt.canLay_of_shaped sd) (room_inAll sd hu) ⟨.bl _, H, I, rfl, q⟩
inductive InR (c : Cf) (ι : List Addr) (S : Store) (H : Hp) (x y : V) (k : Bool) : Prop
  | sign (i : Nat) (z : Str) : x = .str ⟨#[i]⟩ → y = .str z → k = decide (i ∈ z.cps.toList) → InR c ι S H x y k
  | text (i z : Str) : x = .str i → y = .str z → k = (!(Builtin.Str.occurrences z i 0 z.length 1).isEmpty) → InR c ι S H x y k
  | lst (d : PyData) (ds : List PyData) : Dp c.K H x d → Dp c.K H y (.list ds) → SeqAt.shaped d = true → SeqAt.shaped (.list ds) = true → k = (ds.any fun z => PyData.eqv z d) → InR c ι S H x y k
  | tup (d : PyData) (ds : List PyData) : Dp c.K H x d → Dp c.K H y (.tuple ds) → SeqAt.shaped d = true → SeqAt.shaped (.list ds) = true → k = (ds.any fun z => PyData.eqv z d) → InR c ι S H x y k
  | dic (a : Addr) (r : Option D) : y = .ref a → Nonempty (DRead c ι S H a x r) → k = r.isSome → InR c ι S H x y k
theorem inD_ok {c : Cf} {H : Hp} {ι : List Addr} {S : Store} (s : Sim c ι S H) {a b : D} {x y : V} {k : Bool} (ra : Rep c H ι a x) (rb : Rep c H ι b y) (e : inD S a b = some k) : InR c ι S H x y k := by
  have anyq : ∀ {ys : List D} {k}, anyEq S a ys = some k → ∃ p qs, toP S a = some p ∧ dPs (deref 8 S) ys = some qs ∧ SeqAt.shaped p = true ∧ SeqAt.shaped (.list qs) = true ∧ k = (qs.any fun z => PyData.eqv z p) := fun {ys k} e => by
    unfold anyEq at e
    split at e
    · rename_i p qs h1 h2
      split at e
      · rename_i hs
        rw [Bool.and_eq_true] at hs
        cases e
        exact ⟨p, qs, h1, h2, hs.1, hs.2, rfl⟩
      · cases e
    · cases e
  unfold inD at e
  cases rb with
  | str z =>
    simp only at e
    cases ra with
    | str i =>
      simp only at e
      split at e
      · rename_i ci hc
        cases e
        refine .sign ci z ?_ rfl rfl
        have : i.cps = #[ci] := by rw [← Array.toList_inj, hc]
        cases i
        simp only at this
        rw [this]
      · cases e
        exact .text i z rfl rfl rfl
    | _ => cases e
  | @tup ys vs p hp rs =>
    simp only at e
    obtain ⟨q, qs, h1, h2, s1, s2, e2⟩ := anyq e
    exact .tup q qs (toP_dp s ra h1) (.tup (.of hp) (dPs_dp (deref_dp s 8) rs h2)) s1 s2 e2
  | @ref h p hp =>
    simp only at e
    split at e
    · rename_i ys hy
      obtain ⟨q, qs, h1, h2, s1, s2, e2⟩ := anyq e
      obtain ⟨vs, g, rs⟩ := s.obj h _ p hy hp
      exact .lst q qs (toP_dp s ra h1) (.lst (.of g) (dPs_dp (deref_dp s 8) rs h2)) s1 s2 e2
    · rename_i ys hy
      obtain ⟨q, qs, h1, h2, s1, s2, e2⟩ := anyq e
      obtain ⟨vs, g, rs⟩ := s.obj h _ p hy hp
      exact .lst q qs (toP_dp s ra h1) (.lst g.sq (dPs_dp (deref_dp s 8) rs h2)) s1 s2 e2
    · rename_i kvs hy
      obtain ⟨r, l, e2⟩ := Option.map_eq_some_iff.mp e
      exact .dic p r rfl (dLook_ok s hy hp ra l) e2.symm
    · rename_i kvs hy
      obtain ⟨r, l, e2⟩ := Option.map_eq_some_iff.mp e
      exact .dic p r rfl (dLook_ok s hy hp ra l) e2.symm
    · rename_i kvs hy
      obtain ⟨r, l, e2⟩ := Option.map_eq_some_iff.mp e
      exact .dic p r rfl (dLook_ok s hy hp ra l) e2.symm
    · rename_i kvs hy
      obtain ⟨r, l, e2⟩ := Option.map_eq_some_iff.mp e
      exact .dic p r rfl (dLook_ok s hy hp ra l) e2.symm
    · cases e
  | _ => cases e
theorem dread_isSome {c : Cf} {H : Hp} {ι : List Addr} {S : Store} {a : Addr} {x : V} {r : Option D} (g : DRead c ι S H a x r) : ∃ o, DGet g.H2 a x o ∧ o.isSome = r.isSome := by
  obtain ⟨o, h, q1, q2⟩ := g.get
  refine ⟨o, h, ?_⟩
  cases r with
  | none => rw [q2 rfl]; rfl
  | some d => obtain ⟨v, e, _⟩ := q1 d rfl; rw [e]; rfl
theorem op_pIn (hu : X.A.units + 65 < cLine) : OpR X (compareOp .In) (rP (cf X) pIn) := by
  refine OpR.imp (op_in_sign.or (op_in_str.or ((op_inD hu).or ((op_inTD hu).or (op_dIn (by omega)))))) ?_
  rintro x y H Q ⟨ι, S, a, b, s, ra, rb, d, S', e, k⟩
  unfold pIn at e
  obtain ⟨b1, e1, e⟩ := Option.map_eq_some_iff.mp e
  cases e
  have q := k ι H _ .refl s (.bl _)
  cases inD_ok s ra rb e1 with
  | sign i z hx hy hk => subst hk; exact .inl ⟨i, z, hx, hy, q⟩
  | text i z hx hy hk => subst hk; exact .inr (.inl ⟨i, z, hx, hy, q⟩)
  | lst p ps h1 h2 h3 h4 hk => subst hk; exact .inr (.inr (.inl ⟨p, ps, h1, h2, h3, h4, q⟩))
  | tup p ps h1 h2 h3 h4 hk => subst hk; exact .inr (.inr (.inr (.inl ⟨p, ps, h1, h2, h3, h4, q⟩)))
  | dic p r hy g hk =>
    obtain ⟨g⟩ := g
    obtain ⟨o, h1, h2⟩ := dread_isSome g
    refine .inr (.inr (.inr (.inr ⟨p, o, g.H2, hy, g.tag, h1, ?_⟩)))
    show Q (.bl o.isSome) g.H2
    rw [h2, ← hk]
    exact k ι g.H2 _ g.stp g.sim (.bl _)
theorem op_pNotIn (hu : X.A.units + 65 < cLine) : OpR X (compareOp .NotIn) (rP (cf X) pNotIn) := by
  refine OpR.imp (op_notIn_sign.or (op_notin_str.or ((op_notInD hu).or ((op_notInTD hu).or (op_dNotIn (by omega)))))) ?_
  rintro x y H Q ⟨ι, S, a, b, s, ra, rb, d, S', e, k⟩
  unfold pNotIn at e
  obtain ⟨b1, e1, e⟩ := Option.map_eq_some_iff.mp e
  cases e
  have q := k ι H _ .refl s (.bl _)
  cases inD_ok s ra rb e1 with
  | sign i z hx hy hk => subst hk; exact .inl ⟨i, z, hx, hy, q⟩
  | text i z hx hy hk => subst hk; exact .inr (.inl ⟨i, z, hx, hy, q⟩)
  | lst p ps h1 h2 h3 h4 hk => subst hk; exact .inr (.inr (.inl ⟨p, ps, h1, h2, h3, h4, q⟩))
  | tup p ps h1 h2 h3 h4 hk => subst hk; exact .inr (.inr (.inr (.inl ⟨p, ps, h1, h2, h3, h4, q⟩)))
  | dic p r hy g hk =>
    obtain ⟨g⟩ := g
    obtain ⟨o, h1, h2⟩ := dread_isSome g
    refine .inr (.inr (.inr (.inr ⟨p, o, g.H2, hy, g.tag, h1, ?_⟩)))
    show Q (.bl (!o.isSome)) g.H2
    rw [h2, ← hk]
    exact k ι g.H2 _ g.stp g.sim (.bl _)
theorem truD_ok {c : Cf} {H : Hp} {ι : List Addr} {S : Store} (s : Sim c ι S H) {a : D} {x : V} {k : Bool} (ra : Rep c H ι a x) (e : truD S a = some k) : TruV c.K x H k ∨ ∃ p, x = .ref p ∧ H p = some (.dT []) ∧ k = false ∧ Sim c ι S (upd H p (.dK [])) ∧ Stp ι H ι (upd H p (.dK [])) := by
  have em : ∀ {xs : List D} {vs : List V}, Reps c H ι xs vs → (!xs.isEmpty) = !vs.isEmpty := fun r => by cases r <;> rfl
  cases ra with
  | non => cases e; exact .inl rfl
  | bl b => cases e; exact .inl rfl
  | int i => cases e; exact .inl rfl
  | str z =>
    unfold truD at e
    simp only at e
    split at e
    · rename_i hz
      cases e
      refine .inl ⟨Nat.le_trans hz lim_le, ?_⟩
      show (!z.cps.toList.isEmpty) = ((z.cps.size : Int) != 0)
      rw [← Array.length_toList]
      cases z.cps.toList with
      | nil => rfl
      | cons p q =>
        show true = _
        exact (bne_iff_ne.mpr (by show ((q.length + 1 : Nat) : Int) ≠ 0; omega)).symm
    · cases e
  | @tup xs vs p hp rs =>
    unfold truD at e
    cases e
    exact .inl (.inr (.inl ⟨vs, .of hp, em rs⟩))
  | @ref h p hp =>
    unfold truD at e
    simp only at e
    split at e
    · rename_i xs hx
      cases e
      obtain ⟨vs, g, rs⟩ := s.obj h _ p hx hp
      exact .inl (.inl ⟨vs, .of g, em rs⟩)
    · rename_i xs hx
      cases e
      obtain ⟨vs, g, rs⟩ := s.obj h _ p hx hp
      exact .inl (.inl ⟨vs, g.sq, em rs⟩)
    · rename_i kvs hx
      cases e
      rcases s.obj h _ p hx hp with ⟨vs, g, rs⟩ | ⟨rfl, g⟩
      · exact .inl (.inr (.inr ⟨vs, g, by cases rs <;> rfl⟩))
      · have q := s.set (m' := .dK []) (o := .dK []) hx hp rfl rfl (.inl ⟨[], upd_same, .nil⟩)
        rw [set_self hx] at q
        exact .inr ⟨p, rfl, g, rfl, q.1, q.2⟩
    · cases e
def rTru (c : Cf) : V → Hp → (Bool → Hp → Prop) → Prop := fun x H Q => ∃ ι S a k, Sim c ι S H ∧ Rep c H ι a x ∧ truD S a = some k ∧ ∀ ι' H', Stp ι H ι' H' → Sim c ι' S H' → Q k H'
theorem tru_D : TruR X (rTru (cf X)) := by
  rintro pins s σ H x v Q I rx ⟨ι, S, a, k, sm, ra, e, q⟩
  rcases truD_ok sm ra e with h | ⟨p, rfl, g, rfl, sm2, st⟩
  · exact tru_ok pins s σ H x v Q I rx ⟨k, h, q ι H .refl sm⟩
  · exact tru_ok pins s σ _ _ v Q (Inv.tag I (.inr (.inr ⟨g, rfl⟩))) rx ⟨false, .inr (.inr ⟨[], upd_same, rfl⟩), q ι _ st sm2⟩
end
end Mini
namespace Mini
open PySem L2
section
variable {X : Cx}
def rDIx : R2 := fun x y H Q => ∃ a v H2, x = .ref a ∧ Tag H a H2 ∧ DGet H2 a y (some v) ∧ Q v H2
theorem ix_dict (hu : X.A.units + 1 < cLine) : IxR X rDIx := by
  rintro value slice pins s σ H x y v u Q I rx ry ⟨a, z, H2, rfl, t, g, q⟩ hs
  cases rx
  have I2 := Inv.tag I t
  exact PyProof.Rows.tail_any (dict_typeIs I2 g) PySem.F.slot_dict_getitem.lookup (d_getItem hu I2 g ry fun w' s3 I3 rw' => ⟨z, H2, I3, rw', q⟩) hs
theorem IxR.imp {r r' : R2} (h : IxR X r) (i : ∀ x y H Q, r' x y H Q → r x y H Q) : IxR X r' := fun value slice pins s σ H x y v u Q I rx ry q hs => h value slice pins s σ H x y v u Q I rx ry (i x y H Q q) hs
theorem ix_pIdx (hu : X.A.units + 1 < cLine) : IxR X (rP (cf X) pIdx) := by
  refine IxR.imp (ix_seq.or (ix_dict hu)) ?_
  rintro x y H Q ⟨ι, S, a, b, s, ra, rb, d, S', e, k⟩
  unfold pIdx at e
  cases ra with
  | str z =>
    cases rb with
    | int i =>
      simp only at e
      split at e
      · rename_i hz
        obtain ⟨ci, h1, h2⟩ := Option.map_eq_some_iff.mp e
        cases h2
        exact .inl (.inr (.inr ⟨z, i, ci, rfl, rfl, Nat.le_trans hz lim_le, h1, k ι H _ .refl s (.str _)⟩))
      · cases e
    | _ => cases e
  | @tup xs vs p hp rs =>
    cases rb with
    | int i =>
      simp only at e
      obtain ⟨d1, h1, h2⟩ := Option.map_eq_some_iff.mp e
      cases h2
      obtain ⟨v, g1, g2⟩ := rs.atI h1
      exact .inl (.inr (.inl ⟨p, vs, i, v, rfl, rfl, .of hp, g1, k ι H _ .refl s g2⟩))
    | _ => cases e
  | @ref h p hp =>
    simp only at e
    split at e
    · rename_i xs hx
      obtain ⟨vs, g, rs⟩ := s.obj h _ p hx hp
      cases rb with
      | int i =>
        simp only at e
        obtain ⟨d1, h1, h2⟩ := Option.map_eq_some_iff.mp e
        cases h2
        obtain ⟨v, g1, g2⟩ := rs.atI h1
        exact .inl (.inl ⟨p, vs, i, v, rfl, rfl, .of g, g1, k ι H _ .refl s g2⟩)
      | _ => cases e
    · rename_i xs hx
      obtain ⟨vs, g, rs⟩ := s.obj h _ p hx hp
      cases rb with
      | int i =>
        simp only at e
        obtain ⟨d1, h1, h2⟩ := Option.map_eq_some_iff.mp e
        cases h2
        obtain ⟨v, g1, g2⟩ := rs.atI h1
        exact .inl (.inl ⟨p, vs, i, v, rfl, rfl, g.sq, g1, k ι H _ .refl s g2⟩)
      | _ => cases e
    · rename_i kvs hx
      split at e
      · rename_i d1 h1
        cases e
        obtain ⟨g⟩ := dLook_ok s hx hp rb h1
        obtain ⟨o, g1, g2, _⟩ := g.get
        obtain ⟨v, h3, h4⟩ := g2 _ rfl
        subst h3
        exact .inr ⟨p, v, g.H2, rfl, g.tag, g1, k ι g.H2 v g.stp g.sim h4⟩
      · cases e
    · rename_i kvs hx
      split at e
      · rename_i d1 h1
        cases e
        obtain ⟨g⟩ := dLook_ok s hx hp rb h1
        obtain ⟨o, g1, g2, _⟩ := g.get
        obtain ⟨v, h3, h4⟩ := g2 _ rfl
        subst h3
        exact .inr ⟨p, v, g.H2, rfl, g.tag, g1, k ι g.H2 v g.stp g.sim h4⟩
      · cases e
    · rename_i kvs hx
      split at e
      · rename_i d1 h1
        cases e
        obtain ⟨g⟩ := dLook_ok s hx hp rb h1
        obtain ⟨o, g1, g2, _⟩ := g.get
        obtain ⟨v, h3, h4⟩ := g2 _ rfl
        subst h3
        exact .inr ⟨p, v, g.H2, rfl, g.tag, g1, k ι g.H2 v g.stp g.sim h4⟩
      · cases e
    · rename_i kvs hx
      split at e
      · rename_i d1 h1
        cases e
        obtain ⟨g⟩ := dLook_ok s hx hp rb h1
        obtain ⟨o, g1, g2, _⟩ := g.get
        obtain ⟨v, h3, h4⟩ := g2 _ rfl
        subst h3
        exact .inr ⟨p, v, g.H2, rfl, g.tag, g1, k ι g.H2 v g.stp g.sim h4⟩
      · cases e
    · cases e
  | _ => cases e
def rCut (c : Cf) : V → Option Int → Option Int → Hp → VK → Prop := fun x lo hi H Q => ∃ ι S a, Sim c ι S H ∧ Rep c H ι a x ∧ Fin c ι H Q (pCut a lo hi S)
theorem SlR.imp {r r' : V → Option Int → Option Int → Hp → VK → Prop} (h : SlR X r) (i : ∀ x lo hi H Q, r' x lo hi H Q → r x lo hi H Q) : SlR X r' := fun pins s σ H x v vl vu lo hi sl Q I rx hs pl pu q => h pins s σ H x v vl vu lo hi sl Q I rx hs pl pu (i x lo hi H Q q)
theorem alloc_fin {c : Cf} {H : Hp} {ι : List Addr} {S : Store} {Q : VK} {xs : List D} {vs : List V} (s : Sim c ι S H) (h : Fin c ι H Q (alloc (.lst xs) S)) (r : Reps c H ι xs vs) : ∀ p, H p = none → Q (.ref p) (upd H p (.lst vs)) := by
  obtain ⟨d', S', e, k⟩ := h
  cases e
  intro p hp
  have st : Stp ι H (ι ++ [p]) (upd H p (.lst vs)) := Stp.new hp [p]
  obtain ⟨s2, _⟩ := s.new (m := .lst xs) (o := .lst vs) hp ⟨vs, upd_same, r.step st⟩
  exact k _ _ _ st s2 (.ref (s.newRef p))
theorem sl_pCut : SlR X (rCut (cf X)) := by
  refine SlR.imp (sl_list.or (sl_tupA.or sl_str)) ?_
  rintro x lo hi H Q ⟨ι, S, a, s, ra, f⟩
  have f0 := f
  obtain ⟨d, S', e, k⟩ := f
  unfold pCut at e
  cases ra with
  | str z =>
    simp only at e
    split at e
    · rename_i hz
      cases e
      exact .inr (.inr ⟨z, rfl, Nat.le_trans hz lim_le, k ι H _ .refl s (.str _)⟩)
    · cases e
  | @tup xs vs p hp rs =>
    cases e
    refine .inr (.inl ⟨p, vs, rfl, .of hp, fun hw => ?_, fun _ => ?_⟩)
    · refine k ι H _ .refl s (.tup hp ?_)
      have : cutD xs lo hi = xs := by
        rw [rs.length] at hw
        unfold cutD
        rw [hw.1, hw.2]; simp
      rw [this]; exact rs
    · have f2 : Fin (cf X) ι H Q (some (.tup (cutD xs lo hi), S)) := ⟨_, _, rfl, k⟩
      exact f2.tup s (rs.cut lo hi)
  | @ref h p hp =>
    simp only at e
    split at e
    · rename_i xs hx
      obtain ⟨vs, g, rs⟩ := s.obj h _ p hx hp
      have f2 : Fin (cf X) ι H Q (alloc (.lst (cutD xs lo hi)) S) := ⟨d, S', e, k⟩
      exact .inl ⟨p, vs, rfl, .of g, alloc_fin s f2 (rs.cut lo hi)⟩
    · rename_i xs hx
      obtain ⟨vs, g, rs⟩ := s.obj h _ p hx hp
      have f2 : Fin (cf X) ι H Q (alloc (.lst (cutD xs lo hi)) S) := ⟨d, S', e, k⟩
      exact .inl ⟨p, vs, rfl, g.sq, alloc_fin s f2 (rs.cut lo hi)⟩
    · cases e
  | _ => cases e
def rDSet : TSet := fun o i v H Q => ∃ a H2 H3, o = .ref a ∧ Tag H a H2 ∧ DPut H2 a i v H3 ∧ Q H3
theorem set_dict (hu : X.A.units + 1 < cLine) : PSet X rDSet := by
  rintro pins s σ H o i v ov iv u Q I ro ri rv ⟨a, H2, H3, rfl, t, g, q⟩
  cases ro
  exact d_setItem hu (Inv.tag I t) g ri rv fun s4 I4 => ⟨H3, I4, q⟩
theorem PSet.or {r r' : TSet} (h : PSet X r) (h' : PSet X r') : PSet X (fun o i v H Q => r o i v H Q ∨ r' o i v H Q) := by
  intro pins s σ H o i v ov iv u Q I ro ri rv q
  rcases q with q | q
  · exact h pins s σ H o i v ov iv u Q I ro ri rv q
  · exact h' pins s σ H o i v ov iv u Q I ro ri rv q
theorem PSet.imp {r r' : TSet} (h : PSet X r) (f : ∀ o i v H Q, r' o i v H Q → r o i v H Q) : PSet X r' := fun pins s σ H o i v ov iv u Q I ro ri rv q => h pins s σ H o i v ov iv u Q I ro ri rv (f o i v H Q q)
def rSet (c : Cf) : TSet := fun o i v H Q => ∃ ι S a b d S', Sim c ι S H ∧ Rep c H ι a o ∧ Rep c H ι b i ∧ Rep c H ι d v ∧ pSet a b d S = some S' ∧ ∀ ι' H', Stp ι H ι' H' → Sim c ι' S' H' → Q H'
theorem set_pSet (hu : X.A.units + 1 < cLine) : PSet X (rSet (cf X)) := by
  refine PSet.imp (PSet.or set_list (set_dict hu)) ?_
  rintro o i v H Q ⟨ι, S, a, b, d, S', s, ra, rb, rd, e, k⟩
  unfold pSet at e
  cases ra with
  | @ref h p hp =>
    simp only at e
    split at e
    · rename_i xs hx
      obtain ⟨vs, g, rs⟩ := s.obj h _ p hx hp
      cases rb with
      | int i =>
        simp only at e
        obtain ⟨j, h1, h2⟩ := Option.map_eq_some_iff.mp e
        subst h2
        have st : ∀ o', Stp ι H ι (upd H p o') := fun o' => Stp.set (noTup g fun _ z => by cases z)
        obtain ⟨s2, st2⟩ := s.set (m' := .lst (xs.set j d)) (o := .lst (vs.set j v)) hx hp rfl rfl ⟨_, upd_same, (rs.set rd j).step (st _)⟩
        exact .inl ⟨p, vs, i, j, rfl, rfl, g, by rw [rs.length]; exact h1, k ι _ st2 s2⟩
      | _ => cases e
    · rename_i kvs hx
      have ob := s.obj h _ p hx hp
      cases hk : keyOf b with
      | some kk =>
        simp only [hk] at e
        split at e
        · rename_i hl
          cases e
          have ey := keyOf_rep rb hk
          obtain ⟨vs, H2, t, g, rs, s2, st⟩ : ∃ vs H2, Tag H p H2 ∧ H2 p = some (.dK vs) ∧ RepKV (cf X) H2 ι kvs vs ∧ Sim (cf X) ι S H2 ∧ Stp ι H ι H2 := by
            rcases ob with ⟨vs, g, rs⟩ | ⟨rfl, g⟩
            · exact ⟨vs, H, .inl rfl, g, rs, s, .refl⟩
            · have q := s.set (m' := .dK []) (o := .dK []) hx hp rfl rfl (.inl ⟨[], upd_same, .nil⟩)
              rw [set_self hx] at q
              exact ⟨[], _, .inr (.inr ⟨g, rfl⟩), upd_same, .nil, q.1, q.2⟩
          have st' : ∀ o', Stp ι H2 ι (upd H2 p o') := fun o' => Stp.set (noTup g fun _ z => by cases z)
          obtain ⟨s3, st3⟩ := s2.set (m' := .dK (putM kvs kk d)) (o := .dK (putK vs kk v)) hx hp rfl rfl (.inl ⟨_, upd_same, ((rs.put kk (rd.step st))).step (st' _)⟩)
          exact .inr ⟨p, H2, _, rfl, t, .inl ⟨vs, kk, g, ey, by rw [rs.length]; exact Nat.lt_trans hl lim_lt, rfl⟩, k ι _ (st.trans st3) s3⟩
        · cases e
      | none =>
        cases hk2 : tkeyOf b with
        | none => simp only [hk, hk2] at e; cases e
        | some kk =>
          simp only [hk, hk2] at e
          split at e
          · rename_i he
            cases e
            have hn : kvs = [] := List.isEmpty_iff.mp he
            subst hn
            obtain ⟨b', ey, hb⟩ := tkeyOf_rep rb hk2
            obtain ⟨H2, t, g, s2, st⟩ : ∃ H2, Tag H p H2 ∧ H2 p = some (.dT []) ∧ Sim (cf X) ι S H2 ∧ Stp ι H ι H2 := by
              rcases ob with ⟨vs, g, rs⟩ | ⟨_, g⟩
              · cases rs
                have q := s.set (m' := .dK []) (o := .dT []) hx hp rfl rfl (.inr ⟨rfl, upd_same⟩)
                rw [set_self hx] at q
                exact ⟨_, .inr (.inl ⟨g, rfl⟩), upd_same, q.1, q.2⟩
              · exact ⟨H, .inl rfl, g, s, .refl⟩
            have st' : ∀ o', Stp ι H2 ι (upd H2 p o') := fun o' => Stp.set (noTup g fun _ z => by cases z)
            obtain ⟨s3, st3⟩ := s2.set (m' := .dT (putM [] kk d)) (o := .dT (putK [] kk v)) hx hp rfl rfl (.inl ⟨_, upd_same, ((RepKV.nil.put kk (rd.step st))).step (st' _)⟩)
            exact .inr ⟨p, H2, _, rfl, t, .inr ⟨[], kk, b', g, ey, st.tup _ _ hb, by rw [sizeLine_eq]; decide, rfl⟩, k ι _ (st.trans st3) s3⟩
          · cases e
    · rename_i kvs hx
      have ob := s.obj h _ p hx hp
      cases hk : tkeyOf b with
      | some kk =>
        simp only [hk] at e
        split at e
        · rename_i hl
          cases e
          obtain ⟨b', ey, hb⟩ := tkeyOf_rep rb hk
          obtain ⟨vs, H2, t, g, rs, s2, st⟩ : ∃ vs H2, Tag H p H2 ∧ H2 p = some (.dT vs) ∧ RepKV (cf X) H2 ι kvs vs ∧ Sim (cf X) ι S H2 ∧ Stp ι H ι H2 := by
            rcases ob with ⟨vs, g, rs⟩ | ⟨rfl, g⟩
            · exact ⟨vs, H, .inl rfl, g, rs, s, .refl⟩
            · have q := s.set (m' := .dT []) (o := .dT []) hx hp rfl rfl (.inl ⟨[], upd_same, .nil⟩)
              rw [set_self hx] at q
              exact ⟨[], _, .inr (.inl ⟨g, rfl⟩), upd_same, .nil, q.1, q.2⟩
          have st' : ∀ o', Stp ι H2 ι (upd H2 p o') := fun o' => Stp.set (noTup g fun _ z => by cases z)
          obtain ⟨s3, st3⟩ := s2.set (m' := .dT (putM kvs kk d)) (o := .dT (putK vs kk v)) hx hp rfl rfl (.inl ⟨_, upd_same, ((rs.put kk (rd.step st))).step (st' _)⟩)
          exact .inr ⟨p, H2, _, rfl, t, .inr ⟨vs, kk, b', g, ey, st.tup _ _ hb, by rw [rs.length]; exact Nat.lt_trans hl lim_lt, rfl⟩, k ι _ (st.trans st3) s3⟩
        · cases e
      | none =>
        cases hk2 : keyOf b with
        | none => simp only [hk, hk2] at e; cases e
        | some kk =>
          simp only [hk, hk2] at e
          split at e
          · rename_i he
            cases e
            have hn : kvs = [] := List.isEmpty_iff.mp he
            subst hn
            have ey := keyOf_rep rb hk2
            obtain ⟨H2, t, g, s2, st⟩ : ∃ H2, Tag H p H2 ∧ H2 p = some (.dK []) ∧ Sim (cf X) ι S H2 ∧ Stp ι H ι H2 := by
              rcases ob with ⟨vs, g, rs⟩ | ⟨_, g⟩
              · cases rs
                have q := s.set (m' := .dT []) (o := .dK []) hx hp rfl rfl (.inr ⟨rfl, upd_same⟩)
                rw [set_self hx] at q
                exact ⟨_, .inr (.inr ⟨g, rfl⟩), upd_same, q.1, q.2⟩
              · exact ⟨H, .inl rfl, g, s, .refl⟩
            have st' : ∀ o', Stp ι H2 ι (upd H2 p o') := fun o' => Stp.set (noTup g fun _ z => by cases z)
            obtain ⟨s3, st3⟩ := s2.set (m' := .dK (putM [] kk d)) (o := .dK (putK [] kk v)) hx hp rfl rfl (.inl ⟨_, upd_same, ((RepKV.nil.put kk (rd.step st))).step (st' _)⟩)
            exact .inr ⟨p, H2, _, rfl, t, .inl ⟨[], kk, g, ey, by rw [sizeLine_eq]; decide, rfl⟩, k ι _ (st.trans st3) s3⟩
          · cases e
    · cases e
  | _ => cases e
end
end Mini
namespace Mini
open PySem L2
def eVar (i : Nat) : ME := fun ρ S => match ρ[i]? with
  | some (some d) => .ok d S
  | _ => .bad
def eC (d : D) : ME := fun _ S => .ok d S
def aNil : Env → M (List D) := fun _ S => .ok [] S
def aCons (f : ME) (r : Env → M (List D)) : Env → M (List D) := fun ρ => bnd (f ρ) fun a => bnd (r ρ) fun as => pur (a :: as)
def eTup (f : Env → M (List D)) : ME := fun ρ => bnd (f ρ) fun xs => fun S => lift (tupO xs S)
def eLst (f : Env → M (List D)) : ME := fun ρ => bnd (f ρ) fun xs => fun S => lift (newL xs S)
def eUn (g : P1) (f : ME) : ME := fun ρ => bnd (f ρ) fun a => fun S => lift (g a S)
abbrev PN := List D → Store → Option (D × Store)
def eB (g : PN) (f : Env → M (List D)) : ME := fun ρ => bnd (f ρ) fun xs => fun S => lift (g xs S)
def eAnd (fa fb : ME) : ME := fun ρ => bnd (fa ρ) fun a => match a with
  | .bl b => if b = true then fb ρ else pur (.bl false)
  | _ => fun _ => .bad
def eOr (fa fb : ME) : ME := fun ρ => bnd (fa ρ) fun a => match a with
  | .bl b => if b = true then pur (.bl true) else fb ρ
  | _ => fun _ => .bad
def eNot (fa : ME) : ME := fun ρ => bnd (fa ρ) fun a => match a with
  | .bl b => pur (.bl (!b))
  | _ => fun _ => .bad
def eIf (t : Env → M Bool) (fa fb : ME) : ME := fun ρ => bnd (t ρ) fun b => if b = true then fa ρ else fb ρ
def eChain (g g' : P2) (fa fb fc : ME) : ME := fun ρ => bnd (fa ρ) fun a => bnd (fb ρ) fun b => bnd (fun S => lift (g a b S)) fun z => match z with
  | .bl k => if k = true then bnd (fc ρ) fun c => fun S => lift (g' b c S) else pur (.bl false)
  | _ => fun _ => .bad
def tBl (f : ME) : Env → M Bool := fun ρ => bnd (f ρ) fun a => match a with
  | .bl b => pur b
  | _ => fun _ => .bad
def tTru (f : ME) : Env → M Bool := fun ρ => bnd (f ρ) fun a => fun S => match truD S a with
  | some k => .ok k S
  | none => .bad
def tAnd' (a b : Env → M Bool) : Env → M Bool := fun ρ => bnd (a ρ) fun k => if k = true then b ρ else pur false
def tOr' (a b : Env → M Bool) : Env → M Bool := fun ρ => bnd (a ρ) fun k => if k = true then pur true else b ρ
def tNot' (a : Env → M Bool) : Env → M Bool := fun ρ => bnd (a ρ) fun k => pur (!k)
def eCut (f : ME) (lo hi : Env → M (Option Int)) : ME := fun ρ => bnd (f ρ) fun a => bnd (lo ρ) fun l => bnd (hi ρ) fun h => fun S => lift (pCut a l h S)
def oNone : Env → M (Option Int) := fun _ S => .ok none S
def oSome (f : ME) : Env → M (Option Int) := fun ρ => bnd (f ρ) fun a => match a with
  | .int i => pur (some i)
  | _ => fun _ => .bad
def eCall (g : List D → M D) (f : Env → M (List D)) : ME := fun ρ => bnd (f ρ) g
section
variable {X : Cx} {W : WX} {fa fb fc : ME} {a b e : Expr} {es : List Expr} {fs : Env → M (List D)} {pos : Pos}
theorem se_var {i : Nat} {x : Str} (hN : X.N[i]? = some x) (hv : Vis X.env.scope x) (hd : (x == ("__debug__" : Str)) = false) (hcd : (x == ("__classdict__" : Str)) = false) : PE X (.Name x pos) (tE (cf X) W (eVar i)) := by
  refine PE.imp (pe_var hN hv hd hcd) ?_
  rintro σ H Q ⟨ι, S, ρ, s, en, p⟩
  unfold eVar at p
  split at p
  · rename_i d hd
    obtain ⟨v, h1, h2⟩ := en.get i d hd
    exact ⟨v, h1, p ι H v .refl s h2⟩
  · exact p.elim
theorem se_C {d : D} {v : V} (h : PE X e (tC v)) (r : ∀ c H ι, Rep c H ι d v) : PE X e (tE (cf X) W (eC d)) := by
  refine PE.imp h ?_
  rintro σ H Q ⟨ι, S, ρ, s, en, p⟩
  exact p ι H v .refl s (r _ _ _)
theorem se_op {op : Operator} {g : P2} (ho : OpR X (binaryOp op) (rP (cf X) g)) (ha : PE X a (tE (cf X) W fa)) (hb : PE X b (tE (cf X) W fb)) : PE X (.BinOp a op b pos) (tE (cf X) W (eOp g fa fb)) :=
  PE.imp (pe_op ho ha hb) fun _ _ _ h => tE_op h
theorem se_cmp {op : CmpOp} {g : P2} (ho : OpR X (compareOp op) (rP (cf X) g)) (ha : PE X a (tE (cf X) W fa)) (hb : PE X b (tE (cf X) W fb)) (hm : behindInMarks op b = false) : PE X (.Compare a [op] [b] pos) (tE (cf X) W (eOp g fa fb)) :=
  PE.imp (pe_cmpR ho ha hb hm) fun _ _ _ h => tE_op h
theorem st_cmp {op : CmpOp} {g : P2} (ho : OpR X (compareOp op) (rP (cf X) g)) (ha : PE X a (tE (cf X) W fa)) (hb : PE X b (tE (cf X) W fb)) (hm : behindInMarks op b = false) : PT X (.Compare a [op] [b] pos) (tT (cf X) W (tBl (eOp g fa fb))) := by
  refine PT.imp (pt_cmpR ho ha hb hm) ?_
  rintro σ H Q ⟨ι, S, ρ, s, en, p⟩
  refine tE_op ⟨ι, S, ρ, s, en, post_bnd p fun a S1 ι1 H1 x e1 st1 sm1 r1 p1 => ?_⟩
  cases r1 with
  | bl k => exact ⟨k, rfl, p1 ι1 H1 k .refl sm1 rfl⟩
  | _ => exact p1.elim
theorem se_ix {g : P2} (ho : IxR X (rP (cf X) g)) (ha : PE X a (tE (cf X) W fa)) (hb : PE X b (tE (cf X) W fb)) (hs : PlainIx b) : PE X (.Subscript a b pos) (tE (cf X) W (eOp g fa fb)) :=
  PE.imp (pe_ix ho ha hb hs) fun _ _ _ h => tE_op h
theorem se_un {op : UnaryOp} {g : P1} (ho : UnR X (unaryOp op) (rU1 (cf X) g)) (ha : PE X a (tE (cf X) W fa)) : PE X (.UnaryOp op a pos) (tE (cf X) W (eUn g fa)) := by
  refine PE.imp (pe_un ho ha) ?_
  rintro σ H Q ⟨ι, S, ρ, s, en, p⟩
  exact ⟨ι, S, ρ, s, en, post_bnd p fun a S1 ι1 H1 x e1 st1 sm1 r1 p1 => ⟨ι1, S1, a, sm1, r1, fin_of p1⟩⟩
theorem sa_nil : PA X [] (tA (cf X) W aNil) := by
  refine PA.imp pa_nil ?_
  rintro σ H Q ⟨ι, S, ρ, s, en, p⟩
  exact p ι H [] .refl s .nil
theorem sa_cons (he : PE X e (tE (cf X) W fa)) (hr : PA X es (tA (cf X) W fs)) (hs : starEach (e :: es) X.env = (false, eval e X.env) :: starEach es X.env) : PA X (e :: es) (tA (cf X) W (aCons fa fs)) := by
  refine PA.imp (pa_cons he hr hs) ?_
  rintro σ H Q ⟨ι, S, ρ, s, en, p⟩
  refine ⟨ι, S, ρ, s, en, post_bnd p fun a S1 ι1 H1 x e1 st1 sm1 r1 p1 => ?_⟩
  refine ⟨ι1, S1, ρ, sm1, en.step st1, post_bnd p1 fun as S2 ι2 H2 xs e2 st2 sm2 r2 p2 => ?_⟩
  exact p2 ι2 H2 (x :: xs) .refl sm2 (.cons (r1.step st2) r2)
theorem se_tup {x1 : Nat} (h : PA X es (tA (cf X) W fs)) : PE X (.Tuple es x1 pos) (tE (cf X) W (eTup fs)) := by
  refine PE.imp (pe_tup h) ?_
  rintro σ H Q ⟨ι, S, ρ, s, en, p⟩
  refine ⟨ι, S, ρ, s, en, post_bnd p fun xs S1 ι1 H1 vs e1 st1 sm1 r1 p1 => ?_⟩
  have f := fin_of p1
  obtain ⟨d, S', e, k⟩ := f
  obtain ⟨hl, e2⟩ := tupO_some e
  cases e2
  have f2 : Fin (cf X) ι1 H1 Q (some (.tup xs, S1)) := ⟨_, _, rfl, k⟩
  exact ⟨by rw [r1.length]; exact Nat.le_trans hl lim_le, f2.tup sm1 r1⟩
theorem se_lst (h : PA X es (tA (cf X) W fs)) : PE X (.List es pos) (tE (cf X) W (eLst fs)) := by
  refine PE.imp (pe_lst h) ?_
  rintro σ H Q ⟨ι, S, ρ, s, en, p⟩
  exact ⟨ι, S, ρ, s, en, post_bnd p fun xs S1 ι1 H1 vs e1 st1 sm1 r1 p1 => (fin_of p1).lst sm1 r1⟩
theorem se_and {rest : List Expr} (ha : PE X a (tE (cf X) W fa)) (hb : PE X (.BoolOp .And (b :: rest) pos) (tE (cf X) W fb)) : PE X (.BoolOp .And (a :: b :: rest) pos) (tE (cf X) W (eAnd fa fb)) := by
  refine PE.imp (pe_and ha hb) ?_
  rintro σ H Q ⟨ι, S, ρ, s, en, p⟩
  refine ⟨ι, S, ρ, s, en, post_bnd p fun a S1 ι1 H1 x e1 st1 sm1 r1 p1 => ?_⟩
  cases r1 with
  | bl k =>
    refine ⟨k, rfl, ?_⟩
    cases k with
    | true => exact ⟨ι1, S1, ρ, sm1, en.step st1, p1⟩
    | false => exact p1 ι1 H1 _ .refl sm1 (.bl _)
  | _ => exact p1.elim
theorem se_or {rest : List Expr} (ha : PE X a (tE (cf X) W fa)) (hb : PE X (.BoolOp .Or (b :: rest) pos) (tE (cf X) W fb)) : PE X (.BoolOp .Or (a :: b :: rest) pos) (tE (cf X) W (eOr fa fb)) := by
  refine PE.imp (pe_or ha hb) ?_
  rintro σ H Q ⟨ι, S, ρ, s, en, p⟩
  refine ⟨ι, S, ρ, s, en, post_bnd p fun a S1 ι1 H1 x e1 st1 sm1 r1 p1 => ?_⟩
  cases r1 with
  | bl k =>
    refine ⟨k, rfl, ?_⟩
    cases k with
    | false => exact ⟨ι1, S1, ρ, sm1, en.step st1, p1⟩
    | true => exact p1 ι1 H1 _ .refl sm1 (.bl _)
  | _ => exact p1.elim
theorem se_if {c : Expr} {t : Env → M Bool} (hc : PT X c (tT (cf X) W t)) (ha : PE X a (tE (cf X) W fa)) (hb : PE X b (tE (cf X) W fb)) : PE X (.IfExp c a b pos) (tE (cf X) W (eIf t fa fb)) := by
  refine PE.imp (pe_ifExp hc ha hb) ?_
  rintro σ H Q ⟨ι, S, ρ, s, en, p⟩
  refine ⟨ι, S, ρ, s, en, post_bnd p fun k S1 ι1 H1 x e1 st1 sm1 r1 p1 => ?_⟩
  cases r1
  cases k with
  | true => exact ⟨ι1, S1, ρ, sm1, en.step st1, p1⟩
  | false => exact ⟨ι1, S1, ρ, sm1, en.step st1, p1⟩
theorem tE_chain {g g' : P2} {σ : St} {H : Hp} {Q : VK} (h : tE (cf X) W (eChain g g' fa fb fc) σ H Q) : tChain (rP (cf X) g) (rP (cf X) g') (tE (cf X) W fa) (tE (cf X) W fb) (tE (cf X) W fc) σ H Q := by
  obtain ⟨ι, S, ρ, s, en, p⟩ := h
  refine ⟨ι, S, ρ, s, en, post_bnd p fun a S1 ι1 H1 x e1 st1 sm1 r1 p1 => ?_⟩
  refine ⟨ι1, S1, ρ, sm1, en.step st1, post_bnd p1 fun b S2 ι2 H2 y e2 st2 sm2 r2 p2 => ?_⟩
  refine ⟨ι2, S2, a, b, sm2, r1.step st2, r2, fin_of (post_bnd (R := RD (cf X)) p2 fun z S3 ι3 H3 w e3 st3 sm3 r3 p3 => ?_)⟩
  cases r3 with
  | bl k =>
    refine ⟨k, rfl, ?_⟩
    cases k with
    | true =>
      refine ⟨ι3, S3, ρ, sm3, (en.step st1).step (st2.trans st3), post_bnd p3 fun c S4 ι4 H4 u e4 st4 sm4 r4 p4 => ?_⟩
      exact ⟨ι4, S4, b, c, sm4, r2.step (st3.trans st4), r4, fin_of p4⟩
    | false => exact p3 ι3 H3 _ .refl sm3 (.bl _)
  | _ => exact p3.elim
theorem se_chain {op op' : CmpOp} {g g' : P2} {c : Expr} (ho : OpR X (compareOp op) (rP (cf X) g)) (ho' : OpR X (compareOp op') (rP (cf X) g')) (ha : PE X a (tE (cf X) W fa)) (hb : PE X b (tE (cf X) W fb)) (hc : PE X c (tE (cf X) W fc))
    (hm : lastMarks [op, op'] [b, c] = false) : PE X (.Compare a [op, op'] [b, c] pos) (tE (cf X) W (eChain g g' fa fb fc)) := PE.imp (pe_chain ho ho' ha hb hc hm) fun _ _ _ h => tE_chain h
theorem st_tru (ha : PE X a (tE (cf X) W fa)) (he : ∀ whole, isTrue a X.env whole = (do let v ← whole; standAt a.pos; holding [v] (truthy v))) : PT X a (tT (cf X) W (tTru fa)) := by
  refine ⟨fun pins s σ H Q I h => ?_⟩
  obtain ⟨ι, S, ρ, sm, en, p⟩ := h
  refine PyProof.Rows.isTrue_plain (thn (ha.run pins s σ H _ I ⟨ι, S, ρ, sm, en, post_bnd (Q1 := fun x H1 => rTru (cf X) x H1 Q) p fun a S1 ι1 H1 x e1 st1 sm1 r1 p1 => ?_⟩) fun v s1 ⟨x, H1, I1, r1, q1⟩ => tru_D pins s1 σ H1 x v Q I1 r1 q1) (he _)
  have p2 : post RB (cf X) W ι1 H1 σ Q (match truD S1 a with | some k => .ok k S1 | none => .bad) := p1
  split at p2
  · rename_i k hk
    exact ⟨ι1, S1, a, k, sm1, r1, hk, fun ι' H' st' sm' => p2 ι' H' k st' sm' rfl⟩
  · exact p2.elim
theorem sw_and {t u : Env → M Bool} {rest : List Expr} (ha : PT X a (tT (cf X) W t)) (hb : PW X (.BoolOp .And (b :: rest) pos) (tT (cf X) W u)) : PW X (.BoolOp .And (a :: b :: rest) pos) (tT (cf X) W (tAnd' t u)) := by
  have h := pw_and ha hb
  refine ⟨fun wh pins s σ H Q I q => h.run wh pins s σ H Q I ?_⟩
  obtain ⟨ι, S, ρ, s, en, p⟩ := q
  refine ⟨ι, S, ρ, s, en, post_bnd p fun k S1 ι1 H1 x e1 st1 sm1 r1 p1 => ?_⟩
  cases r1
  cases k with
  | true => exact ⟨ι1, S1, ρ, sm1, en.step st1, p1⟩
  | false => exact p1 ι1 H1 _ .refl sm1 rfl
theorem sw_or {t u : Env → M Bool} {rest : List Expr} (ha : PT X a (tT (cf X) W t)) (hb : PW X (.BoolOp .Or (b :: rest) pos) (tT (cf X) W u)) : PW X (.BoolOp .Or (a :: b :: rest) pos) (tT (cf X) W (tOr' t u)) := by
  have h := pw_or ha hb
  refine ⟨fun wh pins s σ H Q I q => h.run wh pins s σ H Q I ?_⟩
  obtain ⟨ι, S, ρ, s, en, p⟩ := q
  refine ⟨ι, S, ρ, s, en, post_bnd p fun k S1 ι1 H1 x e1 st1 sm1 r1 p1 => ?_⟩
  cases r1
  cases k with
  | false => exact ⟨ι1, S1, ρ, sm1, en.step st1, p1⟩
  | true => exact p1 ι1 H1 _ .refl sm1 rfl
theorem st_not {t : Env → M Bool} (ha : PT X a (tT (cf X) W t)) : PT X (.UnaryOp .Not a pos) (tT (cf X) W (tNot' t)) := by
  refine PT.imp (pt_not ha) ?_
  rintro σ H Q ⟨ι, S, ρ, s, en, p⟩
  refine ⟨ι, S, ρ, s, en, post_bnd p fun k S1 ι1 H1 x e1 st1 sm1 r1 p1 => ?_⟩
  cases r1
  exact p1 ι1 H1 _ .refl sm1 rfl
def tO (c : Cf) (W : WX) (f : Env → M (Option Int)) : TO := fun σ H Q => ∃ ι S ρ, Sim c ι S H ∧ REnv c H ι ρ σ ∧ post (fun _ _ (a b : Option Int) => a = b) c W ι H σ Q (f ρ S)
theorem PO.imp {X : Cx} {e : Option Expr} {t t' : TO} (h : PO X e t) (f : ∀ σ H Q, t' σ H Q → t σ H Q) : PO X e t' := ⟨fun pins s σ H Q I q => h.run pins s σ H Q I (f σ H Q q)⟩
theorem so_none : PO X none (tO (cf X) W oNone) := by
  refine PO.imp po_none ?_
  rintro σ H Q ⟨ι, S, ρ, s, en, p⟩
  exact p ι H none .refl s rfl
theorem so_some (he : PE X e (tE (cf X) W fa)) : PO X (some e) (tO (cf X) W (oSome fa)) := by
  refine PO.imp (po_some he) ?_
  rintro σ H Q ⟨ι, S, ρ, s, en, p⟩
  refine ⟨ι, S, ρ, s, en, post_bnd p fun a S1 ι1 H1 x e1 st1 sm1 r1 p1 => ?_⟩
  cases r1 with
  | int i => exact ⟨i, rfl, p1 ι1 H1 _ .refl sm1 rfl⟩
  | _ => exact p1.elim
theorem se_cut {lo hi : Option Expr} {fl fh : Env → M (Option Int)} {p2 : Pos} (he : PE X e (tE (cf X) W fa)) (hl : PO X lo (tO (cf X) W fl)) (hh : PO X hi (tO (cf X) W fh)) : PE X (.Subscript e (.Slice lo hi none p2) pos) (tE (cf X) W (eCut fa fl fh)) := by
  refine PE.imp (pe_slice sl_pCut he hl hh) ?_
  rintro σ H Q ⟨ι, S, ρ, s, en, p⟩
  refine ⟨ι, S, ρ, s, en, post_bnd p fun a S1 ι1 H1 x e1 st1 sm1 r1 p1 => ?_⟩
  refine ⟨ι1, S1, ρ, sm1, en.step st1, post_bnd p1 fun l S2 ι2 H2 l' e2 st2 sm2 r2 p2 => ?_⟩
  refine ⟨ι2, S2, ρ, sm2, en.step (st1.trans st2), post_bnd p2 fun h S3 ι3 H3 h' e3 st3 sm3 r3 p3 => ?_⟩
  cases r2; cases r3
  exact ⟨ι3, S3, a, sm3, r1.step (st2.trans st3), fin_of p3⟩
def spM (c : Cf) (n : Nat) (g : List D → M D) : Sp := fun vs H Q E => vs.length = n ∧ ∃ ι S ds, Sim c ι S H ∧ Reps c H ι ds vs ∧ match g ds S with
  | .ok d S' => ∀ ι' H' v, Stp ι H ι' H' → Sim c ι' S' H' → Rep c H' ι' d v → Q v H'
  | .exc m fs S' => ∀ ι' H' cls dd, Stp ι H ι' H' → Sim c ι' S' H' → RExc c H' ι' m fs cls dd → E cls dd H'
  | .bad => False
theorem tE_call {g : List D → M D} {n : Nat} {σ : St} {H : Hp} {Q : VK} (h : tE (cf X) W (eCall g fs) σ H Q) (hn : ∀ ds S, ds.length ≠ n → g ds S = .bad) : tCallS (spM (cf X) n g) (WE W) (tA (cf X) W fs) σ H Q := by
  obtain ⟨ι, S, ρ, s, en, p⟩ := h
  refine ⟨ι, S, ρ, s, en, post_bnd p fun ds S1 ι1 H1 vs e1 st1 sm1 r1 p1 => ?_⟩
  refine ⟨?_, ι1, S1, ds, sm1, r1, ?_⟩
  · rw [r1.length]
    by_cases hl : ds.length = n
    · exact hl
    · rw [hn ds S1 hl] at p1; exact p1.elim
  · cases e2 : g ds S1 with
    | ok d S2 => rw [e2] at p1; exact p1
    | exc m fs S2 => rw [e2] at p1; exact p1
    | bad => rw [e2] at p1; exact p1
def rN (c : Cf) (g : PN) : List V → Hp → VK → Prop := fun vs H Q => ∃ ι S ds, Sim c ι S H ∧ Reps c H ι ds vs ∧ Fin c ι H Q (g ds S)
theorem tE_B {g : PN} {σ : St} {H : Hp} {Q : VK} (h : tE (cf X) W (eB g fs) σ H Q) : tCB (rN (cf X) g) (tA (cf X) W fs) σ H Q := by
  obtain ⟨ι, S, ρ, s, en, p⟩ := h
  exact ⟨ι, S, ρ, s, en, post_bnd p fun ds S1 ι1 H1 vs e1 st1 sm1 r1 p1 => ⟨ι1, S1, ds, sm1, r1, fin_of p1⟩⟩
end
end Mini
namespace Mini
open PySem L2
def lenD (S : Store) : D → Option Int
  | .str x => if x.length ≤ lim then some x.length else none
  | .tup xs => some xs.length
  | .ref h => match S[h]? with
    | some (.lst xs) => some xs.length
    | some (.rol xs) => some xs.length
    | _ => none
  | _ => none
def nLen : PN := fun xs S => match xs with
  | [d] => (lenD S d).map fun n => (.int n, S)
  | _ => none
def nInt : PN := fun xs S => match xs with
  | [.int i] => some (.int i, S)
  | [.bl b] => some (.int (if b then 1 else 0), S)
  | _ => none
def nAbs : PN := fun xs S => match xs with
  | [.int i] => some (.int (if i < 0 then -i else i), S)
  | _ => none
def nMax : PN := fun xs S => match xs with
  | [.int i, .int j] => some (.int (if j > i then j else i), S)
  | _ => none
def nMin : PN := fun xs S => match xs with
  | [.int i, .int j] => some (.int (if j < i then j else i), S)
  | _ => none
def nTuple : PN := fun xs S => match xs with
  | [.tup ys] => some (.tup ys, S)
  | [.ref h] => match S[h]? with
    | some (.lst ys) => some (.tup ys, S)
    | some (.rol ys) => some (.tup ys, S)
    | _ => none
  | _ => none
def nList : PN := fun xs S => match xs with
  | [d] => match itemsOf S d with
    | some ys => alloc (.lst ys) S
    | none => none
  | _ => none
def seqOf (S : Store) : D → Option (List D)
  | .ref h => match S[h]? with
    | some (.lst xs) => some xs
    | some (.rol xs) => some xs
    | _ => none
  | _ => none
def nAll : PN := fun xs S => match xs with
  | [d] => ((seqOf S d).bind blsD).map fun bs => (.bl (bs.all id), S)
  | _ => none
def nAny : PN := fun xs S => match xs with
  | [d] => ((seqOf S d).bind blsD).map fun bs => (.bl (bs.any id), S)
  | _ => none
section
variable {X : Cx} {c : Cf} {H : Hp} {ι : List Addr} {S : Store}
theorem CallR.imp {f : Value} {r r' : List V → Hp → VK → Prop} (h : CallR X f r) (i : ∀ vs H Q, r' vs H Q → r vs H Q) : CallR X f r' := fun pins s σ H vs us Q I rv q => h pins s σ H vs us Q I rv (i vs H Q q)
theorem CallR.orD {f : Value} {r r' : List V → Hp → VK → Prop} (h : CallR X f r) (h' : CallR X f r') : CallR X f (fun vs H Q => r vs H Q ∨ r' vs H Q) := by
  intro pins s σ H vs us Q I rv q
  rcases q with q | q
  · exact h pins s σ H vs us Q I rv q
  · exact h' pins s σ H vs us Q I rv q
theorem reps1 {d : D} {vs : List V} (r : Reps c H ι [d] vs) : ∃ v, vs = [v] ∧ Rep c H ι d v := by
  cases r with | cons a b => cases b; exact ⟨_, rfl, a⟩
theorem reps2 {d e : D} {vs : List V} (r : Reps c H ι [d, e] vs) : ∃ v u, vs = [v, u] ∧ Rep c H ι d v ∧ Rep c H ι e u := by
  cases r with | cons a b => obtain ⟨u, rfl, q⟩ := reps1 b; exact ⟨_, u, rfl, a, q⟩
theorem seqOf_ok (s : Sim c ι S H) {d : D} {v : V} {xs : List D} (r : Rep c H ι d v) (e : seqOf S d = some xs) : ∃ p vs, v = .ref p ∧ SqL c.K H p vs ∧ Reps c H ι xs vs := by
  unfold seqOf at e
  cases r with
  | @ref h p hp =>
    simp only at e
    split at e
    · rename_i ys hy
      cases e
      obtain ⟨vs, g, rs⟩ := s.obj h _ p hy hp
      exact ⟨p, vs, rfl, .of g, rs⟩
    · rename_i ys hy
      cases e
      obtain ⟨vs, g, rs⟩ := s.obj h _ p hy hp
      exact ⟨p, vs, rfl, g.sq, rs⟩
    · cases e
  | _ => cases e
theorem itemsOf_ok (s : Sim c ι S H) {d : D} {v : V} {xs : List D} (r : Rep c H ι d v) (e : itemsOf S d = some xs) : ∃ p vs, v = .ref p ∧ (SqL c.K H p vs ∨ SqT c.K H p vs) ∧ Reps c H ι xs vs := by
  unfold itemsOf at e
  cases r with
  | @tup ys vs p hp rs => cases e; exact ⟨p, vs, rfl, .inr (.of hp), rs⟩
  | @ref h p hp =>
    simp only at e
    split at e
    · rename_i ys hy
      cases e
      obtain ⟨vs, g, rs⟩ := s.obj h _ p hy hp
      exact ⟨p, vs, rfl, .inl (.of g), rs⟩
    · rename_i ys hy
      cases e
      obtain ⟨vs, g, rs⟩ := s.obj h _ p hy hp
      exact ⟨p, vs, rfl, .inl g.sq, rs⟩
    · cases e
  | _ => cases e
theorem blsD_ok : ∀ {ds : List D} {vs : List V} {bs : List Bool}, Reps c H ι ds vs → blsD ds = some bs → vs = bs.map V.bl
  | _, _, _, .nil, e => by rw [blsD] at e; cases e; rfl
  | _, _, _, .cons a b, e => by
    cases a with
    | bl x =>
      rw [blsD] at e
      obtain ⟨q, e1, e2⟩ := Option.map_eq_some_iff.mp e
      subst e2
      rw [blsD_ok b e1]; rfl
    | _ => simp [blsD] at e
theorem strsD_ok : ∀ {ds : List D} {vs : List V} {bs : List Str}, Reps c H ι ds vs → strsD ds = some bs → vs = bs.map V.str
  | _, _, _, .nil, e => by rw [strsD] at e; cases e; rfl
  | _, _, _, .cons a b, e => by
    cases a with
    | str x =>
      rw [strsD] at e
      obtain ⟨q, e1, e2⟩ := Option.map_eq_some_iff.mp e
      subst e2
      rw [strsD_ok b e1]; rfl
    | _ => simp [strsD] at e
theorem c_len : CallR X (.builtin "len") (rN (cf X) nLen) := by
  refine CallR.imp (CallR.orD call_len_str (call_len_seq)) ?_
  rintro vs H Q ⟨ι, S, ds, s, r, d, S', e, k⟩
  unfold nLen at e
  split at e
  · obtain ⟨n, e1, e2⟩ := Option.map_eq_some_iff.mp e
    cases e2
    obtain ⟨v, rfl, r1⟩ := reps1 r
    have q := k ι H _ .refl s (.int n)
    unfold lenD at e1
    cases r1 with
    | str x =>
      simp only at e1
      split at e1
      · rename_i hx
        cases e1
        exact .inl ⟨x, rfl, Nat.le_trans hx lim_le, q⟩
      · cases e1
    | @tup ys us p hp rs =>
      cases e1
      exact .inr ⟨p, us, rfl, .inr (.of hp), by rw [rs.length]; exact q⟩
    | @ref h p hp =>
      simp only at e1
      split at e1
      · rename_i ys hy
        cases e1
        obtain ⟨us, g, rs⟩ := s.obj h _ p hy hp
        exact .inr ⟨p, us, rfl, .inl (.of g), by rw [rs.length]; exact q⟩
      · rename_i ys hy
        cases e1
        obtain ⟨us, g, rs⟩ := s.obj h _ p hy hp
        exact .inr ⟨p, us, rfl, .inl g.sq, by rw [rs.length]; exact q⟩
      · cases e1
    | _ => cases e1
  · cases e
theorem c_int : CallR X (.type "int") (rN (cf X) nInt) := by
  refine CallR.imp call_int1 ?_
  rintro vs H Q ⟨ι, S, ds, s, r, d, S', e, k⟩
  unfold nInt at e
  split at e
  · cases e
    obtain ⟨v, rfl, r1⟩ := reps1 r
    cases r1
    exact .inl ⟨_, rfl, k ι H _ .refl s (.int _)⟩
  · cases e
    obtain ⟨v, rfl, r1⟩ := reps1 r
    cases r1
    exact .inr ⟨_, rfl, k ι H _ .refl s (.int _)⟩
  · cases e
theorem c_abs : CallR X (.builtin "abs") (rN (cf X) nAbs) := by
  refine CallR.imp call_abs ?_
  rintro vs H Q ⟨ι, S, ds, s, r, d, S', e, k⟩
  unfold nAbs at e
  split at e
  · cases e
    obtain ⟨v, rfl, r1⟩ := reps1 r
    cases r1
    exact ⟨_, rfl, k ι H _ .refl s (.int _)⟩
  · cases e
theorem c_max (hc : X.calm = true) : CallR X (.builtin "max") (rN (cf X) nMax) := by
  refine CallR.imp (call_max2 hc) ?_
  rintro vs H Q ⟨ι, S, ds, s, r, d, S', e, k⟩
  unfold nMax at e
  split at e
  · cases e
    obtain ⟨v, u, rfl, r1, r2⟩ := reps2 r
    cases r1; cases r2
    exact ⟨_, _, rfl, k ι H _ .refl s (.int _)⟩
  · cases e
theorem c_min (hc : X.calm = true) : CallR X (.builtin "min") (rN (cf X) nMin) := by
  refine CallR.imp (call_min2 hc) ?_
  rintro vs H Q ⟨ι, S, ds, s, r, d, S', e, k⟩
  unfold nMin at e
  split at e
  · cases e
    obtain ⟨v, u, rfl, r1, r2⟩ := reps2 r
    cases r1; cases r2
    exact ⟨_, _, rfl, k ι H _ .refl s (.int _)⟩
  · cases e
theorem c_tuple : CallR X (.type "tuple") (rN (cf X) nTuple) := by
  refine CallR.imp call_tuple_of ?_
  rintro vs H Q ⟨ι, S, ds, s, r, d, S', e, k⟩
  unfold nTuple at e
  split at e
  · cases e
    obtain ⟨v, rfl, r1⟩ := reps1 r
    cases r1 with
    | @tup ys us p hp rs => exact ⟨p, us, rfl, .inr ⟨.of hp, k ι H _ .refl s (.tup hp rs)⟩⟩
  · obtain ⟨v, rfl, r1⟩ := reps1 r
    cases r1 with
    | @ref h p hp =>
      split at e
      · rename_i ys hy
        cases e
        obtain ⟨us, g, rs⟩ := s.obj _ _ p hy hp
        have f2 : Fin (cf X) ι H Q (some (.tup ys, S)) := ⟨_, _, rfl, k⟩
        exact ⟨p, us, rfl, .inl ⟨.of g, f2.tup s rs⟩⟩
      · rename_i ys hy
        cases e
        obtain ⟨us, g, rs⟩ := s.obj _ _ p hy hp
        have f2 : Fin (cf X) ι H Q (some (.tup ys, S)) := ⟨_, _, rfl, k⟩
        exact ⟨p, us, rfl, .inl ⟨g.sq, f2.tup s rs⟩⟩
      · cases e
  · cases e
theorem c_list : CallR X (.type "list") (rN (cf X) nList) := by
  refine CallR.imp call_list_of ?_
  rintro vs H Q ⟨ι, S, ds, s, r, d, S', e, k⟩
  unfold nList at e
  split at e
  · split at e
    · rename_i ys hy
      obtain ⟨v, rfl, r1⟩ := reps1 r
      obtain ⟨p, us, rfl, hq, rs⟩ := itemsOf_ok s r1 hy
      have f2 : Fin (cf X) ι H Q (alloc (.lst ys) S) := ⟨d, S', e, k⟩
      exact ⟨p, us, rfl, hq, alloc_fin s f2 rs⟩
    · cases e
  · cases e
theorem c_all (hc : X.calm = true) : CallR X (.builtin "all") (rN (cf X) nAll) := by
  refine CallR.imp (cr_all hc) ?_
  rintro vs H Q ⟨ι, S, ds, s, r, d, S', e, k⟩
  unfold nAll at e
  split at e
  · obtain ⟨bs, e1, e2⟩ := Option.map_eq_some_iff.mp e
    obtain ⟨ys, e3, e4⟩ := Option.bind_eq_some_iff.mp e1
    cases e2
    obtain ⟨v, rfl, r1⟩ := reps1 r
    obtain ⟨p, us, rfl, hq, rs⟩ := seqOf_ok s r1 e3
    rw [blsD_ok rs e4] at hq
    exact ⟨p, bs, rfl, hq, k ι H _ .refl s (.bl _)⟩
  · cases e
end
def tyD (S : Store) : D → Option String
  | .non => some "NoneType"
  | .bl _ => some "bool"
  | .int _ => some "int"
  | .str _ => some "str"
  | .tup _ => some "tuple"
  | .ref h => match S[h]? with
    | some (.lst _) => some "list"
    | some (.dK _) => some "dict"
    | some (.dT _) => some "dict"
    | _ => none
def isiT (t u : String) : Bool := t == u || (t == "bool" && u == "int")
def pIsi (u : String) : P1 := fun d S => (tyD S d).map fun t => (.bl (isiT t u), S)
def askT : List String := ["str", "int", "bool", "tuple", "list", "dict"]
theorem tyD_ok {c : Cf} {H : Hp} {ι : List Addr} {S : Store} (s : Sim c ι S H) {d : D} {v : V} {t : String} (r : Rep c H ι d v) (e : tyD S d = some t) : TyX c.K H v (.type t) ∧ t ∈ ["NoneType", "bool", "int", "str", "tuple", "list", "dict"] := by
  unfold tyD at e
  cases r with
  | non => cases e; exact ⟨.base .non, by decide⟩
  | bl b => cases e; exact ⟨.base (.bl b), by decide⟩
  | int b => cases e; exact ⟨.base (.int b), by decide⟩
  | str b => cases e; exact ⟨.base (.str b), by decide⟩
  | @tup xs vs p hp rs => cases e; exact ⟨.base (.tup hp), by decide⟩
  | @ref h p hp =>
    simp only at e
    split at e
    · rename_i ys hy
      cases e
      obtain ⟨us, g, rs⟩ := s.obj h _ p hy hp
      exact ⟨.base (.lst g), by decide⟩
    · rename_i ys hy
      cases e
      rcases s.obj h _ p hy hp with ⟨us, g, rs⟩ | ⟨_, g⟩
      · exact ⟨.base (.dK g), by decide⟩
      · exact ⟨.base (.dT g), by decide⟩
    · rename_i ys hy
      cases e
      rcases s.obj h _ p hy hp with ⟨us, g, rs⟩ | ⟨_, g⟩
      · exact ⟨.base (.dT g), by decide⟩
      · exact ⟨.base (.dK g), by decide⟩
    · cases e
theorem kit_all (K : PySem.W.Frag) : ∀ t ∈ ["NoneType", "bool", "int", "str", "tuple", "list", "dict"], ∀ u ∈ askT, PySem.W.kitOne K (.type t) (.type u) = some (isiT t u) := by
  intro t ht u hu
  simp only [askT, List.mem_cons, List.not_mem_nil, or_false] at ht hu
  rcases ht with rfl | rfl | rfl | rfl | rfl | rfl | rfl <;> rcases hu with rfl | rfl | rfl | rfl | rfl | rfl <;> first | rfl | exact kit_ty (by decide +kernel)
def eIsi (u : String) (f : ME) : ME := eUn (pIsi u) f
end Mini
namespace Mini
open PySem L2
abbrev PM := D → List D → Store → Option (D × Store)
def eMt (T : String) (g : PM) (fo : ME) (fs : Env → M (List D)) : ME := fun ρ => bnd (fo ρ) fun o => fun S => if tyD S o = some T then bnd (fs ρ) (fun xs => fun S => lift (g o xs S)) S else .bad
def qAppend : PM := fun o xs S => match o, xs with
  | .ref h, [d] => match S[h]? with
    | some (.lst ys) => if ys.length < lim then some (.non, S.set h (.lst (ys ++ [d]))) else none
    | _ => none
  | _, _ => none
def qJoin : PM := fun o xs S => match o, xs with
  | .str a, [d] => match itemsOf S d with
    | some ys => match strsD ys with
      | some zs => if (zs.map (·.length)).sum + zs.length * a.length ≤ lim then some (.str (Txt.join a zs), S) else none
      | none => none
    | none => none
  | _, _ => none
def rM (c : Cf) (g : PM) : V → List V → Hp → VK → Prop := fun x xs H Q => ∃ ι S d ds, Sim c ι S H ∧ Rep c H ι d x ∧ Reps c H ι ds xs ∧ Fin c ι H Q (g d ds S)
section
variable {X : Cx} {W : WX} {fa fb fc : ME} {a b e o : Expr} {es : List Expr} {fs : Env → M (List D)} {pos p apos : Pos} {x : Str}
theorem se_callB {id : String} {g : PN} (hc : CallR X (.builtin id) (rN (cf X) g)) (hg : Gl X x) (hm : X.mg x = none) (hv : bootBuiltins x = some (.builtin id)) (ha : PA X (e :: es) (tA (cf X) W fs)) (hn : x ≠ "__name__" := by decide) (hdb : (x == ("__debug__" : Str)) = false := by decide)
    (he : starEach (e :: es) X.env = (false, eval e X.env) :: starEach es X.env := by rfl) (hpl : (backTo pos (starEach es X.env)).any (·.1) = false := by rfl) : PE X (.Call (.Name x p) (e :: es) [] pos) (tE (cf X) W (eB g fs)) :=
  PE.imp (pe_callB hc hg hm hv ha hn hdb he hpl) fun _ _ _ h => tE_B h
theorem se_callTy {T : String} {g : PN} (hc : CallR X (.type T) (rN (cf X) g)) (hg : Gl X x) (hm : X.mg x = none) (hv : bootBuiltins x = some (.type T)) (ha : PA X (e :: es) (tA (cf X) W fs)) (hn : x ≠ "__name__" := by decide) (hdb : (x == ("__debug__" : Str)) = false := by decide)
    (he : starEach (e :: es) X.env = (false, eval e X.env) :: starEach es X.env := by rfl) (hpl : (backTo pos (starEach es X.env)).any (·.1) = false := by rfl) : PE X (.Call (.Name x p) (e :: es) [] pos) (tE (cf X) W (eB g fs)) :=
  PE.imp (pe_callTy hc hg hm hv ha hn hdb he hpl) fun _ _ _ h => tE_B h
theorem se_isi {u : String} {y : Str} {p2 : Pos} (hu : u ∈ askT) (hg : Gl X x) (hm : X.mg x = none) (hv : bootBuiltins x = some (.builtin "isinstance")) (ha : PE X a (tE (cf X) W fa)) (hg2 : Gl X y) (hm2 : X.mg y = none) (hv2 : bootBuiltins y = some (.type u))
    (hn : x ≠ "__name__" := by decide) (hdb : (x == ("__debug__" : Str)) = false := by decide) (hn2 : y ≠ "__name__" := by decide) (hdb2 : (y == ("__debug__" : Str)) = false := by decide)
    (he : starEach [a, .Name y p2] X.env = (false, eval a X.env) :: starEach [.Name y p2] X.env := by rfl) (he2 : starEach [.Name y p2] X.env = (false, eval (.Name y p2) X.env) :: starEach [] X.env := by rfl) (hpl : (backTo pos (starEach [.Name y p2] X.env)).any (·.1) = false := by rfl) :
    PE X (.Call (.Name x p) [a, .Name y p2] [] pos) (tE (cf X) W (eIsi u fa)) := by
  refine PE.imp (pe_callB call_isi hg hm hv (pa_cons ha (pa_cons (pe_bltn (v := .ty u) hg2 hm2 hv2 rfl hn2 hdb2) pa_nil he2) he) hn hdb he hpl) ?_
  rintro σ H Q ⟨ι, S, ρ, s, en, q⟩
  refine ⟨ι, S, ρ, s, en, post_bnd q fun d S1 ι1 H1 v e1 st1 sm1 r1 p1 => ?_⟩
  obtain ⟨d2, S2, e2, k⟩ := fin_of p1
  unfold pIsi at e2
  obtain ⟨t, e3, e4⟩ := Option.map_eq_some_iff.mp e2
  cases e4
  obtain ⟨ty, hm⟩ := tyD_ok sm1 r1 e3
  exact ⟨_, _, _, _, _, rfl, .ty u, ty, kit_all _ t hm u hu, k ι1 H1 _ .refl sm1 (.bl _)⟩
section
variable {CX : CXT} {k n : Nat} {f : Addr} {fd : FuncData} {ps ks : List Str} {g : List D → M D}
theorem se_call (F : FnOk X.prog X.w X.K X.mg X.base (L2.CX X.prog X.w) k f fd ps (spM (cf X) n g)) (hn : ∀ ds S, ds.length ≠ n → g ds S = .bad) (tk : Takes X W) (hr : Room k X.A) (hg : Gl X x) (hm : X.mg x = some (.ref f)) (hk : PySem.W.keepIn X.K (.ref f) = true) (hb : Binds X.K fd ps [])
    (ha : PA X (e :: es) (tA (cf X) W fs)) (hdb : (x == ("__debug__" : Str)) = false := by decide) (he : starEach (e :: es) X.env = (false, eval e X.env) :: starEach es X.env := by rfl) (hpl : (backTo pos (starEach es X.env)).any (·.1) = false := by rfl) :
    PE X (.Call (.Name x p) (e :: es) [] pos) (tE (cf X) W (eCall g fs)) :=
  PE.imp (pe_callS F hr hg hm hk hb (passAt tk) ha hdb he hpl) fun _ _ _ h => tE_call h hn
end
theorem tyV_of {c : Cf} {H : Hp} {ι : List Addr} {S : Store} (s : Sim c ι S H) {d : D} {v : V} {T : String} (r : Rep c H ι d v) (e : tyD S d = some T) (hT : T = "list" ∨ T = "dict" ∨ T = "str") : tyV c.K T v H := by
  unfold tyD at e
  cases r with
  | non => cases e; rcases hT with h | h | h <;> exact absurd h (by decide)
  | bl b => cases e; rcases hT with h | h | h <;> exact absurd h (by decide)
  | int b => cases e; rcases hT with h | h | h <;> exact absurd h (by decide)
  | str b => cases e; rfl
  | @tup xs vs p hp rs => cases e; rcases hT with h | h | h <;> exact absurd h (by decide)
  | @ref h p hp =>
    simp only at e
    split at e
    · rename_i ys hy
      cases e
      obtain ⟨us, g, rs⟩ := s.obj h _ p hy hp
      exact .inl ⟨rfl, us, .of g⟩
    · rename_i ys hy
      cases e
      rcases s.obj h _ p hy hp with ⟨us, g, rs⟩ | ⟨_, g⟩
      · exact .inr (.inr (.inl ⟨rfl, .inl ⟨us, g⟩⟩))
      · exact .inr (.inr (.inl ⟨rfl, .inr ⟨_, g⟩⟩))
    · rename_i ys hy
      cases e
      rcases s.obj h _ p hy hp with ⟨us, g, rs⟩ | ⟨_, g⟩
      · exact .inr (.inr (.inl ⟨rfl, .inr ⟨us, g⟩⟩))
      · exact .inr (.inr (.inl ⟨rfl, .inl ⟨_, g⟩⟩))
    · cases e
theorem tE_bm {T : String} {g : PM} {fo : ME} {σ : St} {H : Hp} {Q : VK} (hT : T = "list" ∨ T = "dict" ∨ T = "str") (h : tE (cf X) W (eMt T g fo fs) σ H Q) : tBM X.K T (rM (cf X) g) (tE (cf X) W fo) (tA (cf X) W fs) σ H Q := by
  obtain ⟨ι, S, ρ, s, en, q⟩ := h
  refine ⟨ι, S, ρ, s, en, post_bnd q fun d S1 ι1 H1 v e1 st1 sm1 r1 p1 => ?_⟩
  by_cases ht : tyD S1 d = some T
  · simp only [if_pos ht] at p1
    refine ⟨tyV_of sm1 r1 ht hT, ι1, S1, ρ, sm1, en.step st1, post_bnd p1 fun ds S2 ι2 H2 vs e2 st2 sm2 r2 p2 => ?_⟩
    exact ⟨ι2, S2, d, ds, sm2, r1.step st2, r2, fin_of p2⟩
  · simp only [if_neg ht] at p1
    exact p1.elim
theorem MtR.imp {id : String} {r r' : V → List V → Hp → VK → Prop} (h : MtR X id r) (i : ∀ x xs H Q, r' x xs H Q → r x xs H Q) : MtR X id r' := fun pins s σ H x xs v us Q I rx rs q => h pins s σ H x xs v us Q I rx rs (i x xs H Q q)
theorem m_append : MtR X "list.append" (rM (cf X) qAppend) := by
  refine MtR.imp (show MtR X "list.append" rAppend from mt_append) ?_
  rintro x xs H Q ⟨ι, S, d, ds, s, r, rs, d', S', e, k⟩
  unfold qAppend at e
  split at e
  · split at e
    · rename_i h dd _ ys hy
      split at e
      · rename_i hl
        cases e
        cases r with
        | @ref _ p hp =>
          obtain ⟨v, rfl, r1⟩ := reps1 rs
          obtain ⟨vs, g, rv⟩ := s.lst hy hp
          have st : ∀ o', Stp ι H ι (upd H p o') := fun o' => Stp.set (noTup g fun _ z => by cases z)
          obtain ⟨s2, st2⟩ := s.set (m' := .lst (ys ++ [dd])) (o := .lst (vs ++ [v])) hy hp rfl rfl ⟨_, upd_same, (rv.append (.cons r1 .nil)).step (st _)⟩
          exact ⟨p, vs, v, rfl, rfl, g, by rw [rv.length]; exact Nat.lt_trans hl lim_lt, k ι _ _ st2 s2 .non⟩
      · cases e
    · cases e
  · cases e
theorem m_join : MtR X "str.join" (rM (cf X) qJoin) := by
  refine MtR.imp mt_join ?_
  rintro x xs H Q ⟨ι, S, d, ds, s, r, rs, d', S', e, k⟩
  unfold qJoin at e
  split at e
  · split at e
    · rename_i ys hy
      split at e
      · rename_i zs hz
        split at e
        · rename_i hl
          cases e
          cases r
          obtain ⟨v, rfl, r1⟩ := reps1 rs
          obtain ⟨p, vs, rfl, hq, rv⟩ := itemsOf_ok s r1 hy
          rw [strsD_ok rv hz] at hq
          exact ⟨_, p, zs, rfl, rfl, hq, Nat.le_trans hl (by decide), k ι _ _ .refl s (.str _)⟩
        · cases e
      · cases e
    · cases e
  · cases e
variable {to : ME} {name : Str} {cpos : Pos} {T id : String} {g : PM}
theorem se_bm (hT : T = "list" ∨ T = "dict" ∨ T = "str") (pa : PlainAttrs T) (slot : Slot T name id) (hty : typeOf (.builtin id) = pure (.type "method_descriptor")) (hm : MtR X id (rM (cf X) g)) (ho : PE X o (tE (cf X) W to)) (ha : PA X (e :: es) (tA (cf X) W fs))
    (hbase : attributeBase o name X.env (eval o X.env) = eval o X.env := by rfl)
    (hfew : ((backTo cpos (starEach (e :: es) X.env)).all (fun x => !x.1) && (backToKw cpos (keywordEach [] X.env)).all (fun x => x.1.isSome)
      && decide ((e :: es).length + ([] : List Keyword).length + (if ([] : List Keyword).isEmpty then 0 else 1) < 30)) = true := by rfl)
    (hline : (apos.endLine == cpos.line) = true := by rfl) (hs : starEach (e :: es) X.env = (false, eval e X.env) :: starEach es X.env := by rfl) (hplain : (backTo cpos (starEach es X.env)).any (·.1) = false := by rfl) :
    PE X (.Call (.Attribute o name apos) (e :: es) [] cpos) (tE (cf X) W (eMt T g to fs)) :=
  PE.imp (pe_bm pa slot hty hm ho ha hbase hfew hline hs hplain) fun _ _ _ h => tE_bm hT h
end
end Mini
namespace Mini
open PySem L2
inductive Tg where
  | nm (i : Nat) | tp (ts : List Tg)
mutual
def setT : Tg → D → Env → Option Env
  | .nm i, d, ρ => some (ρ.set i (some d))
  | .tp ts, .tup xs, ρ => setTs ts xs ρ
  | .tp _, _, _ => none
def setTs : List Tg → List D → Env → Option Env
  | [], [], ρ => some ρ
  | t :: ts, d :: ds, ρ => (setT t d ρ).bind fun ρ' => setTs ts ds ρ'
  | _, _, _ => none
end
mutual
def Tg.slots : Tg → List Nat
  | .nm i => [i]
  | .tp ts => slotsL ts
def slotsL : List Tg → List Nat
  | [] => []
  | t :: ts => t.slots ++ slotsL ts
end
structure Off (js : List Nat) (σ σ' : St) : Prop where
  len : σ'.length = σ.length
  get : ∀ j, j ∉ js → σ'[j]? = σ[j]?
theorem Off.refl {js : List Nat} {σ : St} : Off js σ σ := ⟨rfl, fun _ _ => rfl⟩
def mG (c : Cf) (t : Tg) : TG := fun v σ H Q => ∃ ι S ρ d ρ', Sim c ι S H ∧ REnv c H ι ρ σ ∧ Rep c H ι d v ∧ setT t d ρ = some ρ' ∧ ∀ σ', REnv c H ι ρ' σ' → Off t.slots σ σ' → Q σ' H
def mGs (c : Cf) (ts : List Tg) : TGs := fun vs σ H Q => ∃ ι S ρ ds ρ', Sim c ι S H ∧ REnv c H ι ρ σ ∧ Reps c H ι ds vs ∧ setTs ts ds ρ = some ρ' ∧ ∀ σ', REnv c H ι ρ' σ' → Off (slotsL ts) σ σ' → Q σ' H
theorem REnv.set {c : Cf} {H : Hp} {ι : List Addr} {ρ : Env} {σ : St} (en : REnv c H ι ρ σ) {d : D} {v : V} (r : Rep c H ι d v) (i : Nat) : REnv c H ι (ρ.set i (some d)) (σ.set i (some v)) := by
  refine ⟨by rw [List.length_set, List.length_set]; exact en.len, fun j e h => ?_⟩
  by_cases hj : i = j
  · subst hj
    have hl : i < ρ.length := by
      have := (List.getElem?_eq_some_iff.mp h).1
      rwa [List.length_set] at this
    rw [List.getElem?_set_self hl] at h
    cases h
    exact ⟨v, by rw [List.getElem?_set_self (by rw [← en.len]; exact hl)], r⟩
  · rw [List.getElem?_set_ne hj] at h ⊢
    exact en.get j e h
section
variable {X : Cx} {pos : Pos}
theorem PG.imp {e : Expr} {t t' : TG} (h : PG X e t) (f : ∀ v σ H Q, t' v σ H Q → t v σ H Q) : PG X e t' := ⟨fun pins s σ H v u Q I r q => h.run pins s σ H v u Q I r (f v σ H Q q)⟩
theorem PGs.imp {e : List Expr} {t t' : TGs} (h : PGs X e t) (f : ∀ v σ H Q, t' v σ H Q → t v σ H Q) : PGs X e t' := ⟨fun pins s σ H v u Q I r q => h.run pins s σ H v u Q I r (f v σ H Q q)⟩
theorem sg_nm {i : Nat} {x : Str} (hN : X.N.Nodup) (hi : X.N[i]? = some x) (hx : Loc X.env.scope x) (hf : X.fn x = true ∨ X.env.scope.names.lookup x = some .local := by first | exact .inl rfl | exact .inr rfl | assumption) : PG X (.Name x pos) (mG (cf X) (.nm i)) := by
  refine PG.imp (pg_name hN hi hx hf) ?_
  rintro v σ H Q ⟨ι, S, ρ, d, ρ', s, en, r, e, k⟩
  simp only [setT] at e
  cases e
  refine k _ (en.set r i) ⟨List.length_set .., fun j hj => ?_⟩
  rw [List.getElem?_set_ne (fun z => hj (by simp [Tg.slots, z]))]
theorem sgs_nil : PGs X [] (mGs (cf X) []) := by
  refine PGs.imp pgs_nil ?_
  rintro v σ H Q ⟨ι, S, ρ, ds, ρ', s, en, r, e, k⟩
  cases r with
  | nil => simp only [setTs] at e; cases e; exact ⟨rfl, k σ en .refl⟩
  | cons a b => simp [setTs] at e
theorem sgs_cons {e : Expr} {es : List Expr} {t : Tg} {ts : List Tg} (h1 : PG X e (mG (cf X) t)) (h2 : PGs X es (mGs (cf X) ts))
    (hs : (assignEach (e :: es) X.env).map (·.2) = assign e X.env :: (assignEach es X.env).map (·.2) := by rfl) : PGs X (e :: es) (mGs (cf X) (t :: ts)) := by
  refine PGs.imp (pgs_cons h1 h2 hs) ?_
  rintro v σ H Q ⟨ι, S, ρ, ds, ρ', s, en, r, e, k⟩
  cases r with
  | nil => simp [setTs] at e
  | @cons d ds v vs a b =>
    simp only [setTs] at e
    obtain ⟨ρ1, e1, e2⟩ := Option.bind_eq_some_iff.mp e
    refine ⟨v, vs, rfl, ι, S, ρ, d, ρ1, s, en, a, e1, fun σ1 en1 of1 => ?_⟩
    refine ⟨ι, S, ρ1, ds, ρ', s, en1, b, e2, fun σ2 en2 of2 => k σ2 en2 ⟨of2.len.trans of1.len, fun j hj => ?_⟩⟩
    simp only [slotsL, List.mem_append, not_or] at hj
    rw [of2.get j hj.2, of1.get j hj.1]
theorem setTs_len : ∀ {ts : List Tg} {xs : List D} {ρ ρ' : Env}, setTs ts xs ρ = some ρ' → xs.length = ts.length
  | [], [], _, _, _ => rfl
  | _ :: ts, _ :: xs, _, _, e => by
    simp only [setTs] at e
    obtain ⟨ρ1, e1, e2⟩ := Option.bind_eq_some_iff.mp e
    exact congrArg (· + 1) (setTs_len e2)
  | [], _ :: _, _, _, e => by simp [setTs] at e
  | _ :: _, [], _, _, e => by simp [setTs] at e
theorem sg_tp {es : List Expr} {k : Nat} {ts : List Tg} {n : Nat} (hc : X.calm = true) (h : PGs X es (mGs (cf X) ts))
    (hn : (assignEach es X.env).length = n := by rfl) (hl : ts.length = n := by rfl) (hst : (assignEach es X.env).findIdx? (·.1) = none := by rfl) : PG X (.Tuple es k pos) (mG (cf X) (.tp ts)) := by
  refine PG.imp (pg_tup hc h hn hst) ?_
  rintro v σ H Q ⟨ι, S, ρ, d, ρ', s, en, r, e, k⟩
  cases r with
  | @tup xs vs p hp rs =>
    simp only [setT] at e
    exact ⟨p, vs, rfl, .of hp, by rw [rs.length, setTs_len e, hl], ι, S, ρ, xs, ρ', s, en, rs, e, k⟩
  | _ => simp [setT] at e
end
inductive MIt where
  | seq (h : Nat) | tup (xs : List D) | rng (lo : Int) (n : Nat) | sgn (x : Str)
  /-- each with its number -/
  | enuL (h : Nat) | enuT (xs : List D)
  /-- a dict's keys, while it is walked -/
  | dk (h : Nat)
inductive Nxt where
  | stop | go (d : D) | bad
def Nxt.of : Option D → Nxt
  | some d => .go d
  | none => .stop
def nextI : MIt → Nat → Store → Nxt
  | .seq h, i, S => match S[h]? with
    | some (.lst xs) => .of xs[i]?
    | some (.rol xs) => .of xs[i]?
    | _ => .bad
  | .tup xs, i, _ => .of xs[i]?
  | .rng lo n, i, _ => if i < n then .go (.int (lo + i)) else .stop
  | .sgn x, i, _ => match x.cps.toList[i]? with
    | some c => .go (.str ⟨#[c]⟩)
    | none => .stop
  | .enuL h, i, S => match S[h]? with
    | some (.lst xs) => .of (xs[i]?.map fun d => .tup [.int i, d])
    | some (.rol xs) => .of (xs[i]?.map fun d => .tup [.int i, d])
    | _ => .bad
  | .enuT xs, i, _ => .of (xs[i]?.map fun d => .tup [.int i, d])
  | .dk h, i, S => match S[h]? with
    | some (.fK kvs) => .of (kvs[i]?.map fun p => kD p.1)
    | some (.fT kvs) => .of (kvs[i]?.map fun p => tkD p.1)
    | _ => .bad
def ItOk (c : Cf) (H : Hp) (ι : List Addr) (it : MIt) (J : It) : Prop := ∀ i ι' S' H', Stp ι H ι' H' → Sim c ι' S' H' →
  (nextI it i S' = .stop → J.stop i H') ∧ ∀ d, nextI it i S' = .go d → J.go i H' ∧ ∀ x H2, J.yld i H' x H2 → Stp ι' H' ι' H2 ∧ Sim c ι' S' H2 ∧ Rep c H2 ι' d x
theorem ItOk.step {c : Cf} {H H' : Hp} {ι ι' : List Addr} {it : MIt} {J : It} (p : Stp ι H ι' H') (k : ItOk c H ι it J) : ItOk c H' ι' it J := fun i ι2 S2 H2 q => k i ι2 S2 H2 (p.trans q)
theorem of_stop {o : Option D} (h : Nxt.of o = .stop) : o = none := by cases o <;> first | rfl | cases h
theorem of_go {o : Option D} {d : D} (h : Nxt.of o = .go d) : o = some d := by
  cases o with
  | none => cases h
  | some x => cases h; rfl
section
variable {c : Cf} {H : Hp} {ι : List Addr} {S : Store}
theorem Reps.none {ds : List D} {vs : List V} {i : Nat} (r : Reps c H ι ds vs) (h : ds[i]? = Option.none) : vs.length ≤ i := by
  rw [r.length]; exact List.getElem?_eq_none_iff.mp h
theorem it_seq {h : Nat} {a : Addr} (ha : ι[h]? = some a) : ItOk c H ι (.seq h) (Itl c.K a) := by
  intro i ι' S' H' p s
  have ha' := p.pre _ _ ha
  have key : ∀ {xs : List D}, (∃ vs, SqL c.K H' a vs ∧ Reps c H' ι' xs vs) → (Nxt.of xs[i]? = .stop → (Itl c.K a).stop i H') ∧ ∀ d, Nxt.of xs[i]? = .go d → (Itl c.K a).go i H' ∧ ∀ x H2, (Itl c.K a).yld i H' x H2 → Stp ι' H' ι' H2 ∧ Sim c ι' S' H2 ∧ Rep c H2 ι' d x := by
    rintro xs ⟨vs, hq, r⟩
    refine ⟨fun e => ⟨vs, hq, r.none (of_stop e)⟩, fun d e => ?_⟩
    obtain ⟨v, hv, rv⟩ := r.get (of_go e)
    refine ⟨⟨vs, v, hq, hv⟩, ?_⟩
    rintro x H2 ⟨rfl, y⟩
    have := (y vs hq).symm.trans hv
    cases this
    exact ⟨.refl, s, rv⟩
  simp only [nextI]
  split
  · rename_i xs hx
    obtain ⟨vs, g, r⟩ := s.obj h _ a hx ha'
    exact key ⟨vs, .of g, r⟩
  · rename_i xs hx
    obtain ⟨vs, g, r⟩ := s.obj h _ a hx ha'
    exact key ⟨vs, g.sq, r⟩
  · exact ⟨fun e => (nomatch e), fun d e => (nomatch e)⟩
theorem it_tup {xs : List D} {vs : List V} {a : Addr} (ha : H a = some (.tup vs)) (rs : Reps c H ι xs vs) : ItOk c H ι (.tup xs) (Itt c.K a) := by
  intro i ι' S' H' p s
  have hq : SqT c.K H' a vs := .of (p.tup _ _ ha)
  have r := rs.step p
  refine ⟨fun e => ⟨vs, hq, r.none (of_stop e)⟩, fun d e => ?_⟩
  obtain ⟨v, hv, rv⟩ := r.get (of_go e)
  refine ⟨⟨vs, v, hq, hv⟩, ?_⟩
  rintro x H2 ⟨rfl, y⟩
  have := (y vs hq).symm.trans hv
  cases this
  exact ⟨.refl, s, rv⟩
theorem it_rng {lo : Int} {n : Nat} : ItOk c H ι (.rng lo n) (Itr lo n) := by
  intro i ι' S' H' p s
  by_cases hi : i < n
  · simp only [nextI, if_pos hi]
    refine ⟨fun e => (nomatch e), fun d e => ⟨hi, ?_⟩⟩
    rintro x H2 ⟨rfl, rfl⟩
    cases e
    exact ⟨.refl, s, .int _⟩
  · simp only [nextI, if_neg hi]
    exact ⟨fun e => (show n ≤ i by omega), fun d e => (nomatch e)⟩
theorem it_sgn {x : Str} : ItOk c H ι (.sgn x) (Its x) := by
  intro i ι' S' H' p s
  simp only [nextI]
  split
  · rename_i ci hc
    refine ⟨fun e => (nomatch e), fun d e => ?_⟩
    cases e
    have hc2 : x.cps[i]? = some ci := by rw [← Array.getElem?_toList]; exact hc
    refine ⟨?_, ?_⟩
    · show i < x.cps.size
      exact (Array.getElem?_eq_some_iff.mp hc2).1
    · rintro v H2 ⟨rfl, c', h1, rfl⟩
      rw [hc2] at h1; cases h1
      exact ⟨.refl, s, .str _⟩
  · rename_i hc
    refine ⟨fun _ => ?_, fun d e => (nomatch e)⟩
    show x.cps.size ≤ i
    rw [← Array.length_toList]
    exact List.getElem?_eq_none_iff.mp hc
theorem RepKV.at {κ : Type} : ∀ {ds : List (κ × D)} {vs : List (κ × V)} {i : Nat}, RepKV c H ι ds vs → (ds[i]?.map (·.1)) = vs[i]?.map (·.1)
  | _, _, _, .nil => rfl
  | _, _, 0, .cons _ _ => rfl
  | _, _, i + 1, .cons _ b => by
    rw [List.getElem?_cons_succ, List.getElem?_cons_succ]
    exact RepKV.at (i := i) b
theorem pair_out {i : Nat} {d : D} {v : V} {T : Addr} (s : Sim c ι S H) (hT : H T = Option.none) (r : Rep c H ι d v) : Stp ι H ι (upd H T (.tup [.int (i : Nat), v])) ∧ Sim c ι S (upd H T (.tup [.int (i : Nat), v])) ∧ Rep c (upd H T (.tup [.int (i : Nat), v])) ι (.tup [.int i, d]) (.ref T) := by
  obtain ⟨s2, st⟩ := s.laid (o := .tup [.int (i : Nat), v]) hT
  exact ⟨st, s2, .tup upd_same (.cons (.int _) (.cons (r.step st) .nil))⟩
theorem it_enuL {h : Nat} {a : Addr} (ha : ι[h]? = some a) : ItOk c H ι (.enuL h) (Ite c.K a) := by
  intro i ι' S' H' p s
  have ha' := p.pre _ _ ha
  have key : ∀ {xs : List D}, (∃ vs, SqL c.K H' a vs ∧ Reps c H' ι' xs vs) → (Nxt.of (xs[i]?.map fun d => D.tup [.int i, d]) = .stop → (Ite c.K a).stop i H') ∧ ∀ d, Nxt.of (xs[i]?.map fun d => D.tup [.int i, d]) = .go d → (Ite c.K a).go i H' ∧ ∀ x H2, (Ite c.K a).yld i H' x H2 → Stp ι' H' ι' H2 ∧ Sim c ι' S' H2 ∧ Rep c H2 ι' d x := by
    rintro xs ⟨vs, hq, r⟩
    refine ⟨fun e => ⟨vs, hq, r.none (Option.map_eq_none_iff.mp (of_stop e))⟩, fun d e => ?_⟩
    obtain ⟨d0, e0, e1⟩ := Option.map_eq_some_iff.mp (of_go e)
    subst e1
    obtain ⟨v, hv, rv⟩ := r.get e0
    refine ⟨⟨vs, v, hq, hv⟩, ?_⟩
    rintro x H2 ⟨T, z, rfl, hT, rfl, y⟩
    have := (y vs hq).symm.trans hv
    cases this
    exact pair_out s hT rv
  simp only [nextI]
  split
  · rename_i xs hx
    obtain ⟨vs, g, r⟩ := s.obj h _ a hx ha'
    exact key ⟨vs, .of g, r⟩
  · rename_i xs hx
    obtain ⟨vs, g, r⟩ := s.obj h _ a hx ha'
    exact key ⟨vs, g.sq, r⟩
  · exact ⟨fun e => (nomatch e), fun d e => (nomatch e)⟩
def IteT (K : PySem.W.Frag) (a : Addr) : It :=
  ⟨fun i H => ∃ (ys : List V) (y : V), SqT K H a ys ∧ ys[i]? = some y, fun i H v H' => ∃ T y, v = .ref T ∧ H T = Option.none ∧ H' = upd H T (.tup [.int (i : Nat), y]) ∧ ∀ ys, SqT K H a ys → ys[i]? = some y, fun i H => ∃ ys : List V, SqT K H a ys ∧ ys.length ≤ i⟩
theorem it_enuT {xs : List D} {vs : List V} {a : Addr} (ha : H a = some (.tup vs)) (rs : Reps c H ι xs vs) : ItOk c H ι (.enuT xs) (IteT c.K a) := by
  intro i ι' S' H' p s
  have hq : SqT c.K H' a vs := .of (p.tup _ _ ha)
  have r := rs.step p
  refine ⟨fun e => ⟨vs, hq, r.none (Option.map_eq_none_iff.mp (of_stop e))⟩, fun d e => ?_⟩
  obtain ⟨d0, e0, e1⟩ := Option.map_eq_some_iff.mp (of_go e)
  subst e1
  obtain ⟨v, hv, rv⟩ := r.get e0
  refine ⟨⟨vs, v, hq, hv⟩, ?_⟩
  rintro x H2 ⟨T, z, rfl, hT, rfl, y⟩
  have := (y vs hq).symm.trans hv
  cases this
  exact pair_out s hT rv
end
end Mini
namespace Mini
open PySem L2
abbrev RI (c : Cf) : Hp → List Addr → MIt → It → Prop := fun H ι it J => ItOk c H ι it J
def tI (c : Cf) (W : WX) (f : Env → M MIt) : TI := fun σ H R => ∃ ι S ρ, Sim c ι S H ∧ REnv c H ι ρ σ ∧ post (RI c) c W ι H σ R (f ρ S)
def itOf (S : Store) : D → Option MIt
  | .ref h => match S[h]? with
    | some (.lst _) => some (.seq h)
    | some (.rol _) => some (.seq h)
    | _ => none
  | .tup xs => some (.tup xs)
  | .str x => some (.sgn x)
  | _ => none
def liftI {α : Type} (S : Store) : Option α → Out α
  | some a => .ok a S
  | none => .bad
def iAny (f : ME) : Env → M MIt := fun ρ => bnd (f ρ) fun d => fun S => liftI S (itOf S d)
@[irreducible] def fits62 (j : Int) : Bool := decide (-(2 ^ 62) ≤ j) && decide (j < 2 ^ 62)
def rng1 : List D → Option MIt
  | [.int j] => if fits62 j then some (.rng 0 j.toNat) else none
  | _ => none
def iArgs (g : List D → Option MIt) (f : Env → M (List D)) : Env → M MIt := fun ρ => bnd (f ρ) fun ds => fun S => liftI S (g ds)
def enuOf (S : Store) : D → Option MIt
  | .ref h => match S[h]? with
    | some (.lst _) => some (.enuL h)
    | some (.rol _) => some (.enuL h)
    | _ => none
  | .tup xs => some (.enuT xs)
  | _ => none
def iEnu (f : ME) : Env → M MIt := fun ρ => bnd (f ρ) fun d => fun S => liftI S (enuOf S d)
theorem fits62_iff {j : Int} (h : fits62 j = true) : -(2 ^ 62) ≤ j ∧ j < 2 ^ 62 := by
  unfold fits62 at h
  rw [Bool.and_eq_true, decide_eq_true_eq, decide_eq_true_eq] at h
  exact h
def ItV (X : Cx) (tg : Expr) (r : V → Hp → (It → Hp → Prop) → Prop) : Prop :=
  ∀ (pins : List (Addr × Obj)) (s : Shared) (σ : St) (H : Hp) (x : V) (v : Value) (R : It → Hp → Prop), Inv X pins σ H s → RelV x v → r x H R → wpAny (model X.prog X.w) X.A (pyIter v) (PIE X pins σ tg R) X.xe s
section
variable {X : Cx} {tg : Expr}
theorem fp_new {pins : List (Addr × Obj)} {σ : St} {H : Hp} {s : Shared} (I : Inv X pins σ H s) : ∀ b ∈ [s.heap.objs.size], FpOk X pins H b := by
  intro b m
  rw [List.mem_singleton] at m
  rw [m]
  exact Inv.fpOk I (Nat.le_refl s.heap.objs.size) (I.hok.fresh (Nat.le_refl s.heap.objs.size))
theorem iv_list : ItV X tg (fun x H R => ∃ p vs, x = .ref p ∧ SqL X.K H p vs ∧ R (Itl X.K p) H) := by
  rintro pins s σ H x v R I rx ⟨p, vs, rfl, hq, k⟩
  cases rx
  obtain ⟨us, _, pl, _⟩ := I.list hq
  refine wpAny_pyIter_list pl.isList ⟨_, [s.heap.objs.size], _, _, H, rfl, ?_, turn_list p _, ?_, fp_new I, k⟩
  · exact Inv.kept I (t' := s.toks) fun b ob z => Heap.get?_push_of_some _ z
  · exact ⟨_, Heap.get?_push_size _ rfl, rfl, rfl⟩
theorem iv_tup : ItV X tg (fun x H R => ∃ p vs, x = .ref p ∧ SqT X.K H p vs ∧ R (Itt X.K p) H) := by
  rintro pins s σ H x v R I rx ⟨p, vs, rfl, hq, k⟩
  cases rx
  obtain ⟨us, _, pl, _⟩ := I.tuple hq
  refine wpAny_pyIter_tuple (show Heap.IsTuple s.heap p us.toArray from pl) ⟨_, [s.heap.objs.size], _, _, H, rfl, ?_, turn_tuple p _, ?_, fp_new I, k⟩
  · exact Inv.kept I (t' := s.toks) fun b ob z => Heap.get?_push_of_some _ z
  · exact ⟨_, Heap.get?_push_size _ rfl, rfl, rfl⟩
theorem iv_str : ItV X tg (fun x H R => ∃ z, x = .str z ∧ R (Its z) H) := by
  rintro pins s σ H x v R I rx ⟨z, rfl, k⟩
  obtain ⟨t, rfl⟩ := rx
  by_cases hz : z.cps.all (· < 128) = true
  · refine wpAny_pyIter_ascii hz (pi_one I _ (turn_str _ z t _ (.inl rfl)) ?_ k)
    exact ⟨_, Heap.get?_push_size _ rfl, rfl, rfl⟩
  · refine wpAny_pyIter_wide (Bool.eq_false_iff.mpr hz) (pi_one I _ (turn_str _ z t _ (.inr rfl)) ?_ k)
    exact ⟨_, Heap.get?_push_size _ rfl, rfl, rfl⟩
variable {W : WX} {fe : ME} {e : Expr} {es : List Expr} {fs : Env → M (List D)} {pos p : Pos}
theorem si_any (he : PE X e (tE (cf X) W fe)) : PI X tg e (tI (cf X) W (iAny fe)) := by
  refine ⟨fun pins s σ H R I ⟨ι, S, ρ, sm, en, q⟩ => ?_⟩
  refine thn (he.run pins s σ H (fun x H1 => (∃ p vs, x = .ref p ∧ SqL X.K H1 p vs ∧ R (Itl X.K p) H1) ∨ (∃ p vs, x = .ref p ∧ SqT X.K H1 p vs ∧ R (Itt X.K p) H1) ∨ ∃ z, x = .str z ∧ R (Its z) H1) I ⟨ι, S, ρ, sm, en, post_bnd q fun d S1 ι1 H1 x e1 st1 sm1 r1 p1 => ?_⟩) fun v s1 ⟨x, H1, I1, r1, q1⟩ => ?_
  · cases r1 with
    | str z => exact .inr (.inr ⟨z, rfl, p1 ι1 H1 _ .refl sm1 it_sgn⟩)
    | @tup xs vs a ha rs => exact .inr (.inl ⟨a, vs, rfl, .of ha, p1 ι1 H1 _ .refl sm1 (it_tup ha rs)⟩)
    | @ref h a ha =>
      simp only [itOf] at p1
      split at p1
      · rename_i zs xs hx
        obtain ⟨vs, g, _⟩ := sm1.obj h _ a hx ha
        exact .inl ⟨a, vs, rfl, .of g, p1 ι1 H1 _ .refl sm1 (it_seq ha)⟩
      · rename_i zs xs hx
        obtain ⟨vs, g, _⟩ := sm1.obj h _ a hx ha
        exact .inl ⟨a, vs, rfl, g.sq, p1 ι1 H1 _ .refl sm1 (it_seq ha)⟩
      · exact p1.elim
    | _ => exact p1.elim
  · rcases q1 with q1 | q1 | q1
    · exact iv_list pins s1 σ H1 x v R I1 r1 q1
    · exact iv_tup pins s1 σ H1 x v R I1 r1 q1
    · exact iv_str pins s1 σ H1 x v R I1 r1 q1
theorem si_range1 (hg : Gl X "range") (hm : X.mg "range" = none) (ha : PA X [e] (tA (cf X) W fs)) (hs : starEach [e] X.env = [(false, eval e X.env)] := by rfl) : PI X tg (.Call (.Name "range" p) [e] [] pos) (tI (cf X) W (iArgs rng1 fs)) := by
  refine ⟨fun pins s σ H R I ⟨ι, S, ρ, sm, en, q⟩ => (pi_range1 hg hm ha hs).run pins s σ H R I ⟨ι, S, ρ, sm, en, post_bnd q fun ds S1 ι1 H1 vs e1 st1 sm1 r1 p1 => ?_⟩⟩
  unfold rng1 at p1
  split at p1
  · rename_i j
    obtain ⟨v, rfl, r⟩ := reps1 r1
    cases r
    split at p1
    · rename_i hj
      exact ⟨j, rfl, (fits62_iff hj).1, (fits62_iff hj).2, p1 ι1 H1 _ .refl sm1 it_rng⟩
    · exact p1.elim
  · exact p1.elim
end
theorem turn_enuT {P : Program} {w : World} {K : PySem.W.Frag} {elts : List Expr} {kk : Nat} {tpos : Pos} (t en it : Addr) :
    Turn P w K (.Tuple elts kk tpos) (IteT K t) [en, it] en (fun i h => (∃ o, IsEnum h en it ((i : Nat) : Int) o) ∧ h.IsTupleIter it t i ∧ en ≠ it) where
  mem := List.mem_cons_self
  obj := by
    rintro i h ⟨⟨o, h1⟩, ⟨ob, h2, _, h3⟩, _⟩ b m
    rcases List.mem_cons.mp m with rfl | m
    · exact ⟨_, h1, fun v z => nomatch z⟩
    · rw [List.mem_singleton] at m
      subst m
      exact ⟨ob, h2, fun v z => by rw [h3] at z; cases z⟩
  keep := by
    rintro i h h' ⟨⟨o, h1⟩, h2, h3⟩ k
    exact ⟨⟨o, k en List.mem_cons_self _ h1⟩, h2.at fun ob z => k it (by simp) ob z, h3⟩
  item := by
    intro X hP hw hK hc i pins s σ H E I hf st hg
    subst hP hw hK
    obtain ⟨⟨o, h1⟩, h2, h3⟩ := st
    obtain ⟨ys, y, hq, hy⟩ := hg
    obtain ⟨us, rv, tp, _⟩ := I.tuple hq
    obtain ⟨u, hu, ru⟩ := rv.get hy
    have lt1 : en < s.heap.objs.size := Heap.lt_size h1
    have lt2 : it < s.heap.objs.size := by obtain ⟨ob, q, _⟩ := id h2; exact Heap.lt_size q
    have net : t ≠ en := fun z => by
      obtain ⟨ob, e1, c1, _⟩ := id tp
      rw [z] at e1
      have := h1.symm.trans e1
      cases this
      have c1 : Value.type "enumerate" = Value.type "tuple" := c1
      exact absurd c1 (by decide)
    have neti : t ≠ it := fun z => by
      obtain ⟨ob, e1, c1, _⟩ := id tp
      obtain ⟨ob2, e2, c2, _⟩ := id h2
      rw [z, e2] at e1
      cases e1
      rw [c2] at c1
      exact absurd c1 (by decide)
    have il : i < us.toArray.size := by
      have := (List.getElem?_eq_some_iff.mp hu).1
      simpa using this
    refine wpAny_pyNext_enum_itemC (c := (i : Int)) (Draws.tuple (prog := X.prog) (w := X.w) (A := X.A.in1) (I.ok.hd hc) it t neti us.toArray) h1 ⟨h2, tp⟩ il h3 (fun m => by simp only [List.mem_cons, List.not_mem_nil, or_false] at m; exact m.elim h3 (Ne.symm net)) fun x h' tk hx oE st1 hT hz hk => ?_
    have ex : x = u := by
      have q : us.toArray[i]? = some x := hx
      rw [List.getElem?_toArray, hu] at q
      exact (Option.some.inj q).symm
    subst ex
    refine ⟨_, rfl, wpAny_letOwnedTupleGo_enum (s := { s with heap := h', toks := tk + 1 }) oE fun h'' nE same => ?_⟩
    have pos2 : s.heap.objs.size ≠ en := Nat.ne_of_gt lt1
    have laid : h''.get? s.heap.objs.size = some { cls := .type "tuple", data := .seq #[.int i tk, x] } := (same.2 _ pos2).trans hT
    have new : ObjOk X.prog X.w (upd H s.heap.objs.size (.tup [.int (i : Nat), y])) h'' s.heap.objs.size (.tup [.int (i : Nat), y]) :=
      ⟨(by decide : 2 ≤ sizeLine), [.int i tk, x], .cons ⟨_, rfl⟩ (.cons ru .nil), ⟨_, laid, rfl, 0, rfl⟩⟩
    have J : Inv X pins σ (upd H s.heap.objs.size (.tup [.int (i : Nat), y])) { s with heap := h'', toks := tk + 1 } := by
      refine I.turnedNew (ch := [en, it]) (fun b ob nb q => ?_) hf (Nat.le_refl _) new
      simp only [List.mem_cons, List.not_mem_nil, or_false, not_or] at nb
      exact (same.2 b nb.1).trans (hk b ob nb.1 nb.2 q)
    refine ⟨.ref s.heap.objs.size, _, J, rfl, ⟨_, y, rfl, I.hok.fresh (Nat.le_refl _), rfl, fun zs hz2 => ?_⟩, ⟨⟨x, ?_⟩, st1.1.at fun ob q => (same.2 it (Ne.symm h3)).trans q, h3⟩, fun b m => ?_⟩
    · rw [I.tuple_inj hz2 hq]; exact hy
    · have e1 : ((i : Nat) : Int) + 1 = ((i + 1 : Nat) : Int) := by omega
      rw [← e1]; exact nE
    · have lb : b < s.heap.objs.size := by
        rcases List.mem_cons.mp m with rfl | m
        · exact lt1
        · rw [List.mem_singleton] at m; rw [m]; exact lt2
      rw [upd_ne (Nat.ne_of_lt lb)]
      exact (hf b m).1
  done := by
    intro X hP hw hK hc i pins s σ H E I hf st hg
    subst hP hw hK
    obtain ⟨⟨o, h1⟩, h2, h3⟩ := st
    obtain ⟨ys, hq, hl⟩ := hg
    obtain ⟨us, rv, tp, _⟩ := I.tuple hq
    obtain ⟨f0, f1, f2, f3, f4, f5⟩ := hf it (by simp)
    have neti : t ≠ it := fun z => by
      obtain ⟨ob, e1, c1, _⟩ := id tp
      obtain ⟨ob2, e2, c2, _⟩ := id h2
      rw [z, e2] at e1
      cases e1
      rw [c2] at c1
      exact absurd c1 (by decide)
    have D : Draws X.prog X.w X.A.in1 it [it, t] i (fun _ _ => True) (fun j h => j = i ∧ h.IsTupleIter it t j ∧ h.IsTuple t us.toArray) :=
      { live := fun j h st => let ⟨ob, q, _⟩ := st.2.1; ⟨ob, q⟩
        frame := fun j h h' st k => ⟨st.1, st.2.1.at fun ob q => k it (by simp) ob q, st.2.2.at fun ob q => k t (by simp) ob q⟩
        item := fun j s Q E lt st _ => absurd st.1 (Nat.ne_of_lt lt)
        done := fun s Q E st k => wpAny_nextOf_tuple_end (I.ok.hd hc) st.2.1 st.2.2 (by rw [List.getElem?_toArray]; exact List.getElem?_eq_none_iff.mpr (by rw [← rv.length]; exact hl)) k }
    exact wpAny_pyNext_enum_endD D h1 ⟨rfl, h2, tp⟩ fun h' eb => ⟨rfl, I.turned (t' := s.toks) (fun b ob nb q => eb b ob nb q) f0 f1 f3 f4 f5⟩
  self := fun A i s Q E ⟨⟨o, h1⟩, _⟩ k => wpAny_pyIter_enum h1 k
end Mini
namespace PySem
set_option maxHeartbeats 4000000 in
theorem meets_enuT (t : Addr) (items : Array Value) (n : Nat) (dct : Option Addr) (sl : Array (Option Value)) :
    Meets (Builtin.«enumerate.__new__» ⟨[.type "enumerate", .ref t], []⟩) (fun _ R s => s.heap.get? t = some { cls := .type "tuple", dict := dct, data := .seq items n, slots := sl } ∧
      R (.ok (.ret (.ref (s.heap.objs.size + 1)))) { s with heap := (s.heap.push { cls := .type "tuple_iterator", data := .fields #[.ref t, .int 0 0] }).push { cls := .type "enumerate", data := .fields #[.none, .bool false, .ref s.heap.objs.size, rawInt 0, .none, .none] } }) := by
  refine Meets.of_wp fun prog w A R s h => ?_
  obtain ⟨hp, g, d, tk, os⟩ := s
  obtain ⟨ht, h⟩ := h
  dsimp only at h
  have sz : (hp.push { cls := .type "tuple_iterator", data := .fields #[.ref t, .int 0 0] }).objs.size = hp.objs.size + 1 := Heap.size_push ..
  rw [← sz] at h
  have hsub := sub_enumerate
  have hT : Heap.IsTuple (Shared.heap ⟨hp, g, d, tk, os⟩) t items := ⟨_, ht, rfl, n, rfl⟩
  wp_walk using AutoSeq1.wpAny_loadPart' ht
  refine wpAny_stack_any (fun z => wpAny_pure ?_)
  split
  · rename_i c _ _ _ _ _
    cases (c == Value.type "enumerate") <;> (wp_walk using AutoSeq1.wpAny_loadPart' ht, wpAny_pyIter_tuple hT) <;> exact ⟨_, rfl, h⟩
  · wp_walk using AutoSeq1.wpAny_loadPart' ht, wpAny_pyIter_tuple hT
    exact ⟨_, rfl, h⟩
section
variable {prog : Program} {w : World} {A : Around} {E : Value → Shared → Prop} {s : Shared}
theorem call_enuT {t : Addr} {items : Array Value} {Q : Value → Shared → Prop} (hT : s.heap.IsTuple t items)
    (h : ∀ h', IsEnum h' (s.heap.objs.size + 1) s.heap.objs.size 0 .none → h'.IsTupleIter s.heap.objs.size t 0 → (∀ b ob, s.heap.get? b = some ob → h'.get? b = some ob) → Q (.ref (s.heap.objs.size + 1)) { s with heap := h' }) :
    wpAny (model prog w) A (call (.type "enumerate") [.ref t]) Q E s := by
  obtain ⟨⟨cl, dct, dt, sl⟩, ht, hc, n, hd⟩ := hT
  obtain rfl : cl = .type "tuple" := hc
  obtain rfl : dt = .seq items n := hd
  refine callType_new
    F.called_enumerate (by decide)
    (F.typeCall_enumerate_1 _)
    (F.newCall_enumerate_1 _)
    (fun z => F.args_object_init_2 z _)
    F.entry_enumerate_new
    (meets_enuT t items n dct sl) ⟨ht, ?_⟩
  have sz : (s.heap.push { cls := .type "tuple_iterator", data := .fields #[.ref t, .int 0 0] }).objs.size = s.heap.objs.size + 1 := Heap.size_push ..
  have top : IsEnum ((s.heap.push { cls := .type "tuple_iterator", data := .fields #[.ref t, .int 0 0] }).push { cls := .type "enumerate", data := .fields #[.none, .bool false, .ref s.heap.objs.size, rawInt 0, .none, .none] }) (s.heap.objs.size + 1) s.heap.objs.size 0 .none := by
    show Heap.get? _ _ = _
    rw [← sz]
    exact Heap.get?_push_size _ rfl
  refine ⟨⟨_, top, rfl⟩, h _ top ?_ ?_⟩
  · exact ⟨_, Heap.get?_push_of_some _ (Heap.get?_push_size _ rfl), rfl, rfl⟩
  · exact fun b ob z => Heap.get?_push_of_some _ (Heap.get?_push_of_some _ z)
end
end PySem
namespace Mini
open PySem L2
section
variable {X : Cx} {W : WX} {fe : ME} {e : Expr} {pos p tpos : Pos} {elts : List Expr} {kk : Nat}
theorem si_enu (hg : Gl X "enumerate") (hm : X.mg "enumerate" = none) (he : PE X e (tE (cf X) W fe)) (hs : starEach [e] X.env = [(false, eval e X.env)] := by rfl) :
    PI X (.Tuple elts kk tpos) (.Call (.Name "enumerate" p) [e] [] pos) (tI (cf X) W (iEnu fe)) := by
  have ha : PA X [e] (tCons (tE (cf X) W fe) tNil) := pa_cons he pa_nil hs
  refine ⟨fun pins s σ H R I ⟨ι, S, ρ, sm, en, q⟩ => ?_⟩
  refine PyProof.Rows.Call_ (ld_blt I hg hm PyProof.Rows.boot_enumerate (PyProof.Rows.callWith_type1 (thn (ha.run pos pins s σ H (fun vs H1 => (∃ a us, vs = [.ref a] ∧ SqL X.K H1 a us ∧ R (Ite X.K a) H1) ∨ ∃ a us, vs = [.ref a] ∧ SqT X.K H1 a us ∧ R (IteT X.K a) H1) I
    ⟨ι, S, ρ, sm, en, post_bnd q fun d S1 ι1 H1 x e1 st1 sm1 r1 p1 => ?_⟩) fun us s1 ⟨vs, H1, I1, r1, q1⟩ => ?_) hs rfl))
  · cases r1 with
    | @tup xs vs a ha rs => exact .inr ⟨a, vs, rfl, .of ha, p1 ι1 H1 _ .refl sm1 (it_enuT ha rs)⟩
    | @ref h a ha =>
      simp only [enuOf] at p1
      split at p1
      · rename_i zs xs hx
        obtain ⟨vs, g, _⟩ := sm1.obj h _ a hx ha
        exact .inl ⟨a, vs, rfl, .of g, p1 ι1 H1 _ .refl sm1 (it_enuL ha)⟩
      · rename_i zs xs hx
        obtain ⟨vs, g, _⟩ := sm1.obj h _ a hx ha
        exact .inl ⟨a, vs, rfl, g.sq, p1 ι1 H1 _ .refl sm1 (it_enuL ha)⟩
      · exact p1.elim
    | _ => exact p1.elim
  · rcases q1 with ⟨a, ys, rfl, hq, k⟩ | ⟨a, ys, rfl, hq, k⟩
    · obtain ⟨u, rfl, ru⟩ := r1.one
      cases ru
      obtain ⟨zs, _, pl, _⟩ := I1.list hq
      refine call_enumerate_list pl.isList fun h' nE nI _ kp => wpAny_pyIter_enum nE ?_
      have J := Inv.kept I1 (h' := h') (t' := s1.toks) kp
      refine ⟨_, [s1.heap.objs.size + 1, s1.heap.objs.size], _, _, H1, rfl, J, turn_enum a _ s1.heap.objs.size, ⟨⟨_, nE⟩, nI, Nat.succ_ne_self _⟩, fun b m => ?_, k⟩
      have hb : s1.heap.objs.size ≤ b := by
        simp only [List.mem_cons, List.not_mem_nil, or_false] at m
        rcases m with rfl | rfl
        · exact Nat.le_succ _
        · exact Nat.le_refl _
      exact Inv.fpOk I1 hb (I1.hok.fresh hb)
    · obtain ⟨u, rfl, ru⟩ := r1.one
      cases ru
      obtain ⟨zs, _, pl, _⟩ := I1.tuple hq
      refine call_enuT (show Heap.IsTuple s1.heap a zs.toArray from pl) fun h' nE nI kp => wpAny_pyIter_enum nE ?_
      have J := Inv.kept I1 (h' := h') (t' := s1.toks) kp
      refine ⟨_, [s1.heap.objs.size + 1, s1.heap.objs.size], _, _, H1, rfl, J, turn_enuT a _ s1.heap.objs.size, ⟨⟨_, nE⟩, nI, Nat.succ_ne_self _⟩, fun b m => ?_, k⟩
      have hb : s1.heap.objs.size ≤ b := by
        simp only [List.mem_cons, List.not_mem_nil, or_false] at m
        rcases m with rfl | rfl
        · exact Nat.le_succ _
        · exact Nat.le_refl _
      exact Inv.fpOk I1 hb (I1.hok.fresh hb)
end
end Mini
namespace Mini
open PySem L2
def wipeM (ρ : Env) : List Nat → Env
  | [] => ρ
  | v :: vs => (wipeM ρ vs).set v none
def nox {α : Type} (x : M α) : M α := fun S => match x S with
  | .ok a S1 => .ok a S1
  | _ => .bad
@[irreducible] def turns : Nat := 1000002
def lcM (g : Tg) (tt : Env → M Bool) (fe : ME) (it : MIt) (h : Nat) (ρ : Env) : Nat → Nat → M D
  | 0, _ => fun _ => .bad
  | n + 1, i => fun S => match nextI it i S with
    | .stop => .ok (.ref h) S
    | .bad => .bad
    | .go d => match setT g d ρ with
      | none => .bad
      | some ρ1 => bnd (nox (tt ρ1)) (fun b => if b = true then bnd (nox (fe ρ1)) (fun y => fun S => match S[h]? with
          | some (.lst acc) => if acc.length < lim then lcM g tt fe it h ρ n (i + 1) (S.set h (.lst (acc ++ [y]))) else .bad
          | _ => .bad) else lcM g tt fe it h ρ n (i + 1)) S
def eLc (wi : Env → M MIt) (g : Tg) (tt : Env → M Bool) (fe : ME) (vs : List Nat) : ME := fun ρ => bnd (wi ρ) fun it => fun S => lcM g tt fe it S.length (wipeM ρ vs) turns 0 (S ++ [.lst []])
def dcM (g : Tg) (tt : Env → M Bool) (fk fv : ME) (it : MIt) (h : Nat) (ρ : Env) : Nat → Nat → M D
  | 0, _ => fun _ => .bad
  | n + 1, i => fun S => match nextI it i S with
    | .stop => .ok (.ref h) S
    | .bad => .bad
    | .go d => match setT g d ρ with
      | none => .bad
      | some ρ1 => bnd (nox (tt ρ1)) (fun b => if b = true then bnd (nox (fk ρ1)) (fun y => bnd (nox (fv ρ1)) fun z => fun S => match S[h]?, keyOf y with
          | some (.dK kvs), some k => if kvs.length < lim then dcM g tt fk fv it h ρ n (i + 1) (S.set h (.dK (putM kvs k z))) else .bad
          | _, _ => .bad) else dcM g tt fk fv it h ρ n (i + 1)) S
def eDc (wi : Env → M MIt) (g : Tg) (tt : Env → M Bool) (fk fv : ME) (vs : List Nat) : ME := fun ρ => bnd (wi ρ) fun it => fun S => dcM g tt fk fv it S.length (wipeM ρ vs) turns 0 (S ++ [.dK []])
def ttYes : Env → M Bool := fun _ => pur true
theorem post_nox {α β γ δ : Type} {R : Hp → List Addr → α → β → Prop} {R' : Hp → List Addr → γ → δ → Prop} {c : Cf} {W W' : WX} {ι : List Addr} {H : Hp} {σ σ' : St} {Q : δ → Hp → Prop} {Q1 : β → Hp → Prop} {x : M α} {k : α → M γ} {S : Store}
    (h : post R' c W ι H σ Q (bnd (nox x) k S)) (f : ∀ a S1 ι' H' b, x S = .ok a S1 → Stp ι H ι' H' → Sim c ι' S1 H' → R H' ι' a b → post R' c W ι' H' σ Q (k a S1) → Q1 b H') : post R c W' ι H σ' Q1 (x S) := by
  unfold bnd nox at h
  cases e : x S with
  | ok a S1 =>
    rw [e] at h
    exact fun ι' H' b p s r => f a S1 ι' H' b e p s r (post_trans p h)
  | exc n fs S1 => rw [e] at h; exact h.elim
  | bad => rw [e] at h; exact h.elim
theorem wipe_get : ∀ (σ : St) (vs : List Nat) (j : Nat), (wipe σ vs)[j]? = if j ∈ vs ∧ j < σ.length then some none else σ[j]?
  | σ, [], j => by simp [wipe]
  | σ, v :: vs, j => by
    unfold wipe
    by_cases hv : v = j
    · subst hv
      by_cases hl : v < σ.length
      · rw [List.getElem?_set_self (by rw [wipe_length]; exact hl), if_pos ⟨List.mem_cons_self, hl⟩]
      · rw [List.getElem?_eq_none (by rw [List.length_set, wipe_length]; omega), if_neg (fun z => hl z.2), List.getElem?_eq_none (by omega)]
    · rw [List.getElem?_set_ne hv, wipe_get σ vs j]
      have : (j ∈ v :: vs) ↔ j ∈ vs := by simp [Ne.symm hv]
      simp only [this]
theorem wipe_off {σ σ2 : St} {js vs : List Nat} (o : Off js (wipe σ vs) σ2) (hj : ∀ j ∈ js, j ∈ vs) : wipe σ2 vs = wipe σ vs := by
  apply List.ext_getElem?
  intro j
  have hl : σ2.length = σ.length := o.len.trans (wipe_length σ vs)
  rw [wipe_get σ2, hl]
  by_cases hm : j ∈ vs
  · by_cases hlt : j < σ.length
    · rw [if_pos ⟨hm, hlt⟩, wipe_get, if_pos ⟨hm, hlt⟩]
    · rw [if_neg (fun z => hlt z.2), List.getElem?_eq_none (by omega), List.getElem?_eq_none (by rw [wipe_length]; omega)]
  · rw [if_neg (fun z => hm z.1)]
    exact o.get j fun z => hm (hj j z)
section
variable {c : Cf} {H : Hp} {ι : List Addr} {S : Store} {ρ : Env} {σ : St}
theorem REnv.wipe (en : REnv c H ι ρ σ) : ∀ vs : List Nat, REnv c H ι (wipeM ρ vs) (L2.wipe σ vs)
  | [] => en
  | v :: vs => by
    have ih := REnv.wipe en vs
    refine ⟨by unfold wipeM L2.wipe; rw [List.length_set, List.length_set]; exact ih.len, fun j d h => ?_⟩
    unfold wipeM at h
    unfold L2.wipe
    by_cases hj : v = j
    · subst hj
      by_cases hl : v < (wipeM ρ vs).length
      · rw [List.getElem?_set_self hl] at h; cases h
      · rw [List.getElem?_eq_none (by rw [List.length_set]; omega)] at h; cases h
    · rw [List.getElem?_set_ne hj] at h ⊢
      exact ih.get j d h
theorem turn_tg {g : Tg} {ρ1 : Env} {d : D} {x : V} {vs : List Nat} {P : St → Hp → Prop} (s : Sim c ι S H) (en : REnv c H ι ρ (L2.wipe σ vs)) (r : Rep c H ι d x) (e : setT g d ρ = some ρ1) (hs : ∀ j ∈ g.slots, j ∈ vs)
    (k : ∀ σ2, REnv c H ι ρ1 σ2 → P σ2 H) : mG c g x (L2.wipe σ vs) H fun σ2 H2 => L2.wipe σ2 vs = L2.wipe σ vs ∧ P σ2 H2 :=
  ⟨ι, S, ρ, d, ρ1, s, en, r, e, fun σ2 en2 of2 => ⟨wipe_off of2 hs, k σ2 en2⟩⟩
abbrev W0 : WX := fun _ _ _ _ => False
theorem tE_lc {W : WX} {wi : Env → M MIt} {g : Tg} {tt : Env → M Bool} {fe : ME} {vs : List Nat} {Q : VK} (hs : ∀ j ∈ g.slots, j ∈ vs) (h : tE c W (eLc wi g tt fe vs) σ H Q) : tLc (tI c W wi) (mG c g) (tT c W0 tt) (tE c W0 fe) vs σ H Q := by
  obtain ⟨ι, S, ρ, s, en, q⟩ := h
  refine ⟨ι, S, ρ, s, en, post_bnd q fun it S1 ι1 H1 J e1 st1 s1 r1 p1 => fun Dp hD => ?_⟩
  obtain ⟨s2, st2⟩ := s1.new (m := .lst []) (o := .lst []) hD ⟨[], upd_same, .nil⟩
  have hh : (ι1 ++ [Dp])[S1.length]? = some Dp := s1.newRef Dp
  have en2 := ((en.step st1).step st2).wipe vs
  refine ⟨fun i m H => ∃ ι S, Sim c ι S H ∧ ι[S1.length]? = some Dp ∧ REnv c H ι (wipeM ρ vs) (L2.wipe σ vs) ∧ ItOk c H ι it J ∧ post (RD c) c W ι H σ Q (lcM g tt fe it S1.length (wipeM ρ vs) m i S), ⟨turns, _, _, s2, hh, en2, ItOk.step st2 r1, post_trans st2 p1⟩, ?_⟩
  rintro i m H3 ⟨ι3, S3, s3, hD3, en3, it3, q3⟩
  cases m with
  | zero => exact q3.elim
  | succ m =>
    unfold lcM at q3
    obtain ⟨kS, kG⟩ := it3 i ι3 S3 H3 .refl s3
    cases en' : nextI it i S3 with
    | stop =>
      rw [en'] at q3
      exact .inl ⟨kS en', q3 ι3 H3 _ .refl s3 (.ref hD3)⟩
    | bad => rw [en'] at q3; exact q3.elim
    | go d =>
      rw [en'] at q3
      dsimp only at q3
      obtain ⟨go, yl⟩ := kG d en'
      refine .inr ⟨go, fun H => ∃ ι S, Sim c ι S H ∧ ι[S1.length]? = some Dp ∧ REnv c H ι (wipeM ρ vs) (L2.wipe σ vs) ∧ ItOk c H ι it J ∧ post (RD c) c W ι H σ Q (lcM g tt fe it S1.length (wipeM ρ vs) m (i + 1) S), fun H' z => ⟨m, Nat.lt_succ_self m, z⟩, fun x H4 y => ?_⟩
      obtain ⟨st4, s4, r4⟩ := yl x H4 y
      split at q3
      · exact q3.elim
      · rename_i ρ1 eρ
        have q4 := post_trans st4 q3
        refine turn_tg s4 (en3.step st4) r4 eρ hs fun σ2 enb => ?_
        refine ⟨ι3, S3, ρ1, s4, enb, post_nox q4 fun b S5 ι5 H5 b' e5 st5 s5 r5 p5 => ?_⟩
        cases r5
        have stt := st4.trans st5
        have hD5 := stt.pre _ _ hD3
        cases b with
        | false =>
          simp only [Bool.false_eq_true, if_false] at p5 ⊢
          exact ⟨ι5, S5, s5, hD5, en3.step stt, it3.step stt, p5⟩
        | true =>
          simp only [if_true] at p5 ⊢
          refine ⟨ι5, S5, ρ1, s5, enb.step st5, post_nox p5 fun yv S6 ι6 H6 v e6 st6 s6 r6 p6 => ?_⟩
          split at p6
          · rename_i acc hacc
            split at p6
            · rename_i hl
              have hD6 := st6.pre _ _ hD5
              obtain ⟨us, g6, ru⟩ := s6.lst hacc hD6
              have st : Stp ι6 H6 ι6 (upd H6 Dp (.lst (us ++ [v]))) := Stp.set (noTup g6 fun _ z => by cases z)
              obtain ⟨s7, st7⟩ := s6.set (m' := .lst (acc ++ [yv])) (o := .lst (us ++ [v])) hacc hD6 rfl rfl ⟨_, upd_same, (ru.append (.cons r6 .nil)).step st⟩
              have all := (stt.trans st6).trans st7
              exact ⟨us, g6, by rw [ru.length]; exact Nat.lt_trans hl lim_lt, ι6, _, s7, hD6, en3.step all, it3.step all, post_trans st7 p6⟩
            · exact p6.elim
          · exact p6.elim
def tTag (t : TE) : TE := fun σ H Q => t σ H fun z H5 => ∃ a H6, Tag H5 a H6 ∧ Q z H6
theorem PE.tag {X : Cx} {e : Expr} {t : TE} (h : PE X e t) : PE X e (tTag t) := ⟨fun pins s σ H Q I q => thn (h.run pins s σ H _ I q) fun v s1 ⟨x, H1, I1, r1, a, H6, tg, q6⟩ => ⟨x, H6, Inv.tag I1 tg, r1, q6⟩⟩
theorem tE_dc {W : WX} {wi : Env → M MIt} {g : Tg} {tt : Env → M Bool} {fk fv : ME} {vs : List Nat} {Q : VK} (hs : ∀ j ∈ g.slots, j ∈ vs) (h : tE c W (eDc wi g tt fk fv vs) σ H Q) : tDc (tI c W wi) (mG c g) (tT c W0 tt) (tE c W0 fk) (tTag (tE c W0 fv)) vs σ H Q := by
  obtain ⟨ι, S, ρ, s, en, q⟩ := h
  refine ⟨ι, S, ρ, s, en, post_bnd q fun it S1 ι1 H1 J e1 st1 s1 r1 p1 => fun Dp hD => ?_⟩
  obtain ⟨s2, st2⟩ := s1.new (m := .dK []) (o := .dK []) hD (.inl ⟨[], upd_same, .nil⟩)
  have hh : (ι1 ++ [Dp])[S1.length]? = some Dp := s1.newRef Dp
  have en2 := ((en.step st1).step st2).wipe vs
  refine ⟨fun i m H => ∃ ι S, Sim c ι S H ∧ ι[S1.length]? = some Dp ∧ REnv c H ι (wipeM ρ vs) (L2.wipe σ vs) ∧ ItOk c H ι it J ∧ post (RD c) c W ι H σ Q (dcM g tt fk fv it S1.length (wipeM ρ vs) m i S), ⟨turns, _, _, s2, hh, en2, ItOk.step st2 r1, post_trans st2 p1⟩, ?_⟩
  rintro i m H3 ⟨ι3, S3, s3, hD3, en3, it3, q3⟩
  cases m with
  | zero => exact q3.elim
  | succ m =>
    unfold dcM at q3
    obtain ⟨kS, kG⟩ := it3 i ι3 S3 H3 .refl s3
    cases en' : nextI it i S3 with
    | stop =>
      rw [en'] at q3
      exact .inl ⟨kS en', q3 ι3 H3 _ .refl s3 (.ref hD3)⟩
    | bad => rw [en'] at q3; exact q3.elim
    | go d =>
      rw [en'] at q3
      dsimp only at q3
      obtain ⟨go, yl⟩ := kG d en'
      refine .inr ⟨go, fun H => ∃ ι S, Sim c ι S H ∧ ι[S1.length]? = some Dp ∧ REnv c H ι (wipeM ρ vs) (L2.wipe σ vs) ∧ ItOk c H ι it J ∧ post (RD c) c W ι H σ Q (dcM g tt fk fv it S1.length (wipeM ρ vs) m (i + 1) S), fun H' z => ⟨m, Nat.lt_succ_self m, z⟩, fun x H4 y => ?_⟩
      obtain ⟨st4, s4, r4⟩ := yl x H4 y
      split at q3
      · exact q3.elim
      · rename_i ρ1 eρ
        have q4 := post_trans st4 q3
        refine turn_tg s4 (en3.step st4) r4 eρ hs fun σ2 enb => ?_
        refine ⟨ι3, S3, ρ1, s4, enb, post_nox q4 fun b S5 ι5 H5 b' e5 st5 s5 r5 p5 => ?_⟩
        cases r5
        have stt := st4.trans st5
        have hD5 := stt.pre _ _ hD3
        cases b with
        | false =>
          simp only [Bool.false_eq_true, if_false] at p5 ⊢
          exact ⟨ι5, S5, s5, hD5, en3.step stt, it3.step stt, p5⟩
        | true =>
          simp only [if_true] at p5 ⊢
          refine ⟨ι5, S5, ρ1, s5, enb.step st5, post_nox p5 fun kd S6 ι6 H6 kv e6 st6 s6 r6 p6 => ?_⟩
          refine ⟨ι6, S6, ρ1, s6, (enb.step st5).step st6, post_nox p6 fun zd S7 ι7 H7 zv e7 st7 s7 r7 p7 => ?_⟩
          split at p7
          · rename_i kvs k hkv hk
            split at p7
            · rename_i hl
              have hD7 := st7.pre _ _ (st6.pre _ _ hD5)
              have ek := keyOf_rep r6 hk
              obtain ⟨us, H8, tg, g8, r8, s8, st8⟩ : ∃ us H8, Tag H7 Dp H8 ∧ H8 Dp = some (.dK us) ∧ RepKV c H8 ι7 kvs us ∧ Sim c ι7 S7 H8 ∧ Stp ι7 H7 ι7 H8 := by
                rcases s7.obj _ _ Dp hkv hD7 with ⟨us, g, rs⟩ | ⟨rfl, g⟩
                · exact ⟨us, H7, .inl rfl, g, rs, s7, .refl⟩
                · have z := s7.set (m' := .dK []) (o := .dK []) hkv hD7 rfl rfl (.inl ⟨[], upd_same, .nil⟩)
                  rw [set_self hkv] at z
                  exact ⟨[], _, .inr (.inr ⟨g, rfl⟩), upd_same, .nil, z.1, z.2⟩
              have st : Stp ι7 H8 ι7 (upd H8 Dp (.dK (putK us k zv))) := Stp.set (noTup g8 fun _ z => by cases z)
              obtain ⟨s9, st9⟩ := s8.set (m' := .dK (putM kvs k zd)) (o := .dK (putK us k zv)) hkv hD7 rfl rfl (.inl ⟨_, upd_same, ((r8.put k (r7.step st8))).step st⟩)
              have all := (((stt.trans st6).trans st7).trans st8).trans st9
              exact ⟨Dp, H8, tg, us, k, ek, g8, by rw [r8.length]; exact Nat.lt_trans hl lim_lt, ι7, _, s9, hD7, en3.step all, it3.step all, post_trans (st8.trans st9) p7⟩
            · exact p7.elim
          · exact p7.elim
end
section
variable {X : Cx} {W : WX} {wi : Env → M MIt} {g : Tg} {tt : Env → M Bool} {fe fk fv : ME} {elt kx vx tg iter : Expr} {ifs : List Expr} {scope : Scope} {own : List (Str × Nat)} {pos : Pos}
theorem PTs.imp {X : Cx} {e : List Expr} {t t' : TT} (h : PTs X e t) (f : ∀ σ H Q, t' σ H Q → t σ H Q) : PTs X e t' := ⟨fun pins s σ H Q I q => h.run pins s σ H Q I (f σ H Q q)⟩
theorem sts_nil : PTs X [] (tT (cf X) W ttYes) := PTs.imp pts_nil fun σ H Q ⟨ι, S, ρ, s, en, q⟩ => q ι H true .refl s rfl
theorem sts_one {t : Env → M Bool} {e : Expr} (h : PT X e (tT (cf X) W t)) : PTs X [e] (tT (cf X) W t) := pts_one h
abbrev Blk (X : Cx) (scope : Scope) (P : Cx → Prop) : Prop := ∀ (s : Shared) (H : Hp) (C : Addr) (cl : List (Str × Addr)) (fp : List Addr), P (X.blk s H scope (compEnvC scope cl C X.env) fp)
theorem se_lc (hc : X.calm = true) (hN : X.N.Nodup) (hi : PI X tg iter (tI (cf X) W wi)) (ok : BlkOk X.N X.env.scope scope own) (hsl : ∀ j ∈ g.slots, j ∈ own.map (·.2))
    (hg : Blk X scope fun Y => PG Y tg (mG (cf X) g)) (ht : Blk X scope fun Y => PTs Y ifs (tT (cf X) W0 tt)) (he : Blk X scope fun Y => PE Y elt (tE (cf X) W0 fe)) (hs : ∀ x, foldedSetIterable iter X.env x = pure x := by intro _; rfl) :
    PE X (.ListComp elt [⟨tg, iter, ifs, 0⟩] scope pos) (tE (cf X) W (eLc wi g tt fe (own.map (·.2)))) := PE.imp (pe_lc hc hN hi ok hg ht he hs) fun _ _ _ h => tE_lc hsl h
end
end Mini
namespace Mini
open PySem L2
inductive SO where
  | nx (ρ : Env) (S : Store) | ret (d : D) (S : Store) | brk (ρ : Env) (S : Store) | ct (ρ : Env) (S : Store)
  | exc (c : Str) (fs : List (Str × D)) (ρ : Env) (S : Store) | bad
abbrev MS := Env → Store → SO
def ev {α : Type} (x : M α) (ρ : Env) (k : α → Store → SO) : Store → SO := fun S => match x S with
  | .ok a S1 => k a S1
  | .exc n fs S1 => .exc n fs ρ S1
  | .bad => .bad
def sNil : MS := fun ρ S => .nx ρ S
def sSeq (f g : MS) : MS := fun ρ S => match f ρ S with
  | .nx ρ1 S1 => g ρ1 S1
  | o => o
def sExpr (f : ME) : MS := fun ρ => ev (f ρ) ρ fun _ S => .nx ρ S
def sRet (f : ME) : MS := fun ρ => ev (f ρ) ρ fun d S => .ret d S
def sIf (t : Env → M Bool) (f g : MS) : MS := fun ρ => ev (t ρ) ρ fun b S => if b = true then f ρ S else g ρ S
def sSet (t : Tg) (f : ME) : MS := fun ρ => ev (f ρ) ρ fun d S => match setT t d ρ with
  | some ρ1 => .nx ρ1 S
  | none => .bad
def sPar (i j : Nat) (f : Env → M (List D)) : MS := fun ρ => ev (f ρ) ρ fun ds S => match ds with
  | [a, b] => .nx ((ρ.set i (some a)).set j (some b)) S
  | _ => .bad
def sPut (fe fo fi : ME) : MS := fun ρ => ev (fe ρ) ρ fun d => ev (fo ρ) ρ fun o => ev (fi ρ) ρ fun i S => match pSet o i d S with
  | some S1 => .nx ρ S1
  | none => .bad
def forM (g : Tg) (b : MS) (it : MIt) : Nat → Nat → MS
  | 0, _ => fun _ _ => .bad
  | n + 1, i => fun ρ S => match nextI it i S with
    | .stop => .nx ρ S
    | .bad => .bad
    | .go d => match setT g d ρ with
      | none => .bad
      | some ρ1 => match b ρ1 S with
        | .nx ρ2 S2 => forM g b it n (i + 1) ρ2 S2
        | .ct ρ2 S2 => forM g b it n (i + 1) ρ2 S2
        | .brk ρ2 S2 => .nx ρ2 S2
        | .ret d S2 => .ret d S2
        | .exc c fs ρ2 S2 => .exc c fs ρ2 S2
        | .bad => .bad
def sFor (wi : Env → M MIt) (g : Tg) (b : MS) : MS := fun ρ => ev (wi ρ) ρ fun it S => forM g b it turns 0 ρ S
def whM (t : Env → M Bool) (b : MS) : Nat → MS
  | 0 => fun _ _ => .bad
  | n + 1 => fun ρ => ev (t ρ) ρ fun k S => if k = true then (match b ρ S with
        | .nx ρ2 S2 => whM t b n ρ2 S2
        | .ct ρ2 S2 => whM t b n ρ2 S2
        | .brk ρ2 S2 => .nx ρ2 S2
        | .ret d S2 => .ret d S2
        | .exc c fs ρ2 S2 => .exc c fs ρ2 S2
        | .bad => .bad) else .nx ρ S
def sWh (t : Env → M Bool) (b : MS) : MS := whM t b turns
def postS (c : Cf) (W : WX) (ι : List Addr) (H : Hp) (E : Ends) : SO → Prop
  | .nx ρ S => ∀ ι' H' σ', Stp ι H ι' H' → Sim c ι' S H' → REnv c H' ι' ρ σ' → E.nx σ' H'
  | .ret d S => ∀ ι' H' v, Stp ι H ι' H' → Sim c ι' S H' → Rep c H' ι' d v → E.rt v H'
  | .brk ρ S => ∀ ι' H' σ', Stp ι H ι' H' → Sim c ι' S H' → REnv c H' ι' ρ σ' → E.bk σ' H'
  | .ct ρ S => ∀ ι' H' σ', Stp ι H ι' H' → Sim c ι' S H' → REnv c H' ι' ρ σ' → E.ct σ' H'
  | .exc n fs ρ S => ∀ ι' H' σ' cls dd, Stp ι H ι' H' → Sim c ι' S H' → REnv c H' ι' ρ σ' → RExc c H' ι' n fs cls dd → W cls dd σ' H'
  | .bad => False
def tS (c : Cf) (W : WX) (f : MS) : TS := fun E σ H => ∃ ι S ρ, Sim c ι S H ∧ REnv c H ι ρ σ ∧ postS c W ι H E (f ρ S)
section
variable {c : Cf} {W : WX} {ι ι1 : List Addr} {H H1 : Hp} {E : Ends} {σ : St}
theorem postS_trans {o : SO} (p : Stp ι H ι1 H1) (h : postS c W ι H E o) : postS c W ι1 H1 E o := by
  cases o with
  | nx ρ S => exact fun ι' H' b q => h ι' H' b (p.trans q)
  | ret ρ S => exact fun ι' H' b q => h ι' H' b (p.trans q)
  | brk ρ S => exact fun ι' H' b q => h ι' H' b (p.trans q)
  | ct ρ S => exact fun ι' H' b q => h ι' H' b (p.trans q)
  | exc n fs ρ S => exact fun ι' H' b cls dd q => h ι' H' b cls dd (p.trans q)
  | bad => exact h
theorem post_ev {α β : Type} {R : Hp → List Addr → α → β → Prop} {Q1 : β → Hp → Prop} {x : M α} {ρ : Env} {k : α → Store → SO} {S : Store} (en : REnv c H ι ρ σ)
    (h : postS c W ι H E (ev x ρ k S)) (f : ∀ a S1 ι' H' b, x S = .ok a S1 → Stp ι H ι' H' → Sim c ι' S1 H' → R H' ι' a b → postS c W ι' H' E (k a S1) → Q1 b H') : post R c W ι H σ Q1 (x S) := by
  unfold ev at h
  cases e : x S with
  | ok a S1 =>
    rw [e] at h
    exact fun ι' H' b p s r => f a S1 ι' H' b e p s r (postS_trans p h)
  | exc n fs S1 =>
    rw [e] at h
    exact fun ι' H' cls dd p s r => h ι' H' σ cls dd p s (en.step p) r
  | bad =>
    rw [e] at h
    exact h
end
section
variable {X : Cx} {W : WX} {f g : MS} {fe fo fi : ME} {t : Env → M Bool} {e o i a b : Expr} {st : Stmt} {sts p q : List Stmt} {pos : Pos}
theorem ss_nil : PSs X [] (tS (cf X) W sNil) := PSs.imp pss_nil fun E σ H ⟨ι, S, ρ, s, en, k⟩ => k ι H σ .refl s en
theorem tS_seq {E : Ends} {σ : St} {H : Hp} (h : tS (cf X) W (sSeq f g) E σ H) : tSeq (tS (cf X) W f) (tS (cf X) W g) E σ H := by
  obtain ⟨ι, S, ρ, s, en, k⟩ := h
  refine ⟨ι, S, ρ, s, en, ?_⟩
  unfold sSeq at k
  cases e : f ρ S with
  | nx ρ1 S1 =>
    rw [e] at k
    exact fun ι' H' σ' p s' en' => ⟨ι', S1, ρ1, s', en', postS_trans p k⟩
  | _ => rw [e] at k; exact k
theorem ss_cons (h1 : PS X st (tS (cf X) W f)) (h2 : PSs X sts (tS (cf X) W g)) : PSs X (st :: sts) (tS (cf X) W (sSeq f g)) := PSs.imp (pss_cons h1 h2) fun _ _ _ h => tS_seq h
theorem ss_one (h1 : PS X st (tS (cf X) W f)) : PSs X [st] (tS (cf X) W f) := pss_one h1
theorem ss_expr (he : PE X e (tE (cf X) W fe)) (hs : swapsWith e none pos.line X.env = pure false := by rfl) : PS X (.Expr e pos) (tS (cf X) W (sExpr fe)) :=
  PS.imp (ps_expr he hs) fun E σ H ⟨ι, S, ρ, s, en, k⟩ => ⟨ι, S, ρ, s, en, post_ev en k fun d S1 ι1 H1 v e1 st1 s1 r1 k1 => k1 ι1 H1 σ .refl s1 (en.step st1)⟩
theorem ss_ret (he : PE X e (tE (cf X) W fe)) : PS X (.Return (some e) pos) (tS (cf X) W (sRet fe)) :=
  PS.imp (ps_ret he) fun E σ H ⟨ι, S, ρ, s, en, k⟩ => ⟨ι, S, ρ, s, en, post_ev en k fun d S1 ι1 H1 v e1 st1 s1 r1 k1 => k1 ι1 H1 v .refl s1 r1⟩
theorem ss_if (hc : PT X e (tT (cf X) W t)) (ha : PSs X p (tS (cf X) W f)) (hb : PSs X q (tS (cf X) W g)) : PS X (.If e p q pos) (tS (cf X) W (sIf t f g)) := by
  refine PS.imp (ps_if hc ha hb) ?_
  rintro E σ H ⟨ι, S, ρ, s, en, k⟩
  refine ⟨ι, S, ρ, s, en, post_ev en k fun d S1 ι1 H1 v e1 st1 s1 r1 k1 => ?_⟩
  cases r1
  cases d with
  | true => exact ⟨ι1, S1, ρ, s1, en.step st1, k1⟩
  | false => exact ⟨ι1, S1, ρ, s1, en.step st1, k1⟩
theorem tS_set {tg : Tg} {E : Ends} {σ : St} {H : Hp} (h : tS (cf X) W (sSet tg fe) E σ H) : tAsg (tE (cf X) W fe) (mG (cf X) tg) E σ H := by
  obtain ⟨ι, S, ρ, s, en, k⟩ := h
  refine ⟨ι, S, ρ, s, en, post_ev en k fun d S1 ι1 H1 v e1 st1 s1 r1 k1 => ?_⟩
  split at k1
  · rename_i ρ1 e2
    exact ⟨ι1, S1, ρ, d, ρ1, s1, en.step st1, r1, e2, fun σ2 en2 _ => k1 ι1 H1 σ2 .refl s1 en2⟩
  · exact k1.elim
theorem ss_asg {tx : Expr} {tg : Tg} (he : PE X e (tE (cf X) W fe)) (hg : PG X tx (mG (cf X) tg)) (hs : swapsWithSole [tx] e pos.line X.env = pure false := by rfl) (hw : swappedStores [tx] e X.env = pure none := by rfl)
    (h1 : (assignEach [tx] X.env).map (·.2) = [assign tx X.env] := by rfl) : PS X (.Assign [tx] e pos) (tS (cf X) W (sSet tg fe)) := PS.imp (ps_asg he hg hs hw h1) fun _ _ _ h => tS_set h
theorem ss_set {j : Nat} {x : Str} {pos' : Pos} (hN : X.N.Nodup) (hi : X.N[j]? = some x) (hx : Loc X.env.scope x) (he : PE X e (tE (cf X) W fe)) (hs : swapsWith e (some (.Name x pos')) pos.line X.env = pure false := by rfl) (hf : X.fn x = true ∨ X.env.scope.names.lookup x = some .local := by first | exact .inl rfl | exact .inr rfl | assumption) :
    PS X (.Assign [.Name x pos'] e pos) (tS (cf X) W (sSet (.nm j) fe)) := by
  refine PS.imp (ps_set hN hi hx he hs hf) fun E σ H h => ?_
  obtain ⟨ι, S, ρ, s, en, k⟩ := h
  refine ⟨ι, S, ρ, s, en, post_ev en k fun d S1 ι1 H1 v e1 st1 s1 r1 k1 => ?_⟩
  exact k1 ι1 H1 _ .refl s1 ((en.step st1).set r1 j)
theorem ss_setLc {j : Nat} {y : Str} {py : Pos} {wi : Env → M MIt} {g : Tg} {tt : Env → M Bool} {fe : ME} {elt tg iter : Expr} {ifs : List Expr} {scope : Scope} {own : List (Str × Nat)} {lpos : Pos}
    (hc : X.calm = true) (hN : X.N.Nodup) (hy : X.N[j]? = some y) (hyl : X.env.scope.names.lookup y = some .local) (hsw : swapsWith (.ListComp elt [⟨tg, iter, ifs, 0⟩] scope lpos) (some (.Name y py)) pos.line X.env = pure true)
    (hi : PI X tg iter (tI (cf X) W wi)) (ok : BlkOk X.N X.env.scope scope own) (hsl : ∀ j ∈ g.slots, j ∈ own.map (·.2))
    (hg : Blk X scope fun Y => PG Y tg (mG (cf X) g)) (ht : Blk X scope fun Y => PTs Y ifs (tT (cf X) W0 tt)) (he : Blk X scope fun Y => PE Y elt (tE (cf X) W0 fe)) (hs : ∀ x, foldedSetIterable iter X.env x = pure x := by intro _; rfl) :
    PS X (.Assign [.Name y py] (.ListComp elt [⟨tg, iter, ifs, 0⟩] scope lpos) pos) (tS (cf X) W (sSet (.nm j) (eLc wi g tt fe (own.map (·.2))))) := by
  refine PS.imp (ps_setLc hc hN hy hyl hsw hi ok hg ht he hs) fun E σ H h => ?_
  obtain ⟨ι, S, ρ, s, en, k⟩ := h
  refine tE_lc (c := cf X) (W := W) hsl ⟨ι, S, ρ, s, en, post_ev en k fun d S1 ι1 H1 v e1 st1 s1 r1 k1 => ?_⟩
  exact k1 ι1 H1 _ .refl s1 ((en.step st1).set r1 j)
theorem ss_par {i j : Nat} {x y : Str} {fs : Env → M (List D)} {px py pt : Pos} {kt k2 : Nat} {pt2 : Pos} (hc : X.calm = true) (hN : X.N.Nodup) (hi : X.N[i]? = some x) (hj : X.N[j]? = some y) (hij : i ≠ j)
    (hx : X.env.scope.names.lookup x = some .local) (hy : X.env.scope.names.lookup y = some .local) (ha : PA X [a, b] (tA (cf X) W fs))
    (hw : swappedStores [.Tuple [.Name x px, .Name y py] kt pt] (.Tuple [a, b] k2 pt2) X.env = pure (some [x, y]))
    (hs : swapsWithSole [.Tuple [.Name x px, .Name y py] kt pt] (.Tuple [a, b] k2 pt2) pos.line X.env = pure false := by rfl) :
    PS X (.Assign [.Tuple [.Name x px, .Name y py] kt pt] (.Tuple [a, b] k2 pt2) pos) (tS (cf X) W (sPar i j fs)) := by
  refine PS.imp (ps_par hc hN hi hj hij hx hy ha hw hs) ?_
  rintro E σ H ⟨ι, S, ρ, s, en, k⟩
  refine ⟨ι, S, ρ, s, en, post_ev en k fun ds S1 ι1 H1 vs e1 st1 s1 r1 k1 => ?_⟩
  split at k1
  · obtain ⟨v, u, rfl, r, r'⟩ := reps2 r1
    exact ⟨v, u, rfl, k1 ι1 H1 _ .refl s1 (((en.step st1).set r i).set r' j)⟩
  · exact k1.elim
theorem ss_put {tpos : Pos} (hu : X.A.units + 1 < cLine) (he : PE X e (tE (cf X) W fe)) (ho : PE X o (tE (cf X) W fo)) (hi : PE X i (tE (cf X) W fi))
    (ha : ∀ v, assign (.Subscript o i tpos) X.env v = (do
      let ov ← holding [v] (eval o X.env)
      let iv ← holding [v, ov] (eval i X.env)
      standAt tpos
      holding [v, ov, iv] (setItem ov iv v)
      release [v, ov, iv] []) := by intro _; rfl)
    (hs : swapsWithSole [.Subscript o i tpos] e pos.line X.env = pure false := by rfl) (hw : swappedStores [.Subscript o i tpos] e X.env = pure none := by rfl)
    (h1 : (assignEach [.Subscript o i tpos] X.env).map (·.2) = [assign (.Subscript o i tpos) X.env] := by rfl) : PS X (.Assign [.Subscript o i tpos] e pos) (tS (cf X) W (sPut fe fo fi)) := by
  refine PS.imp (ps_asg he (pg_sub ho hi (set_pSet hu) ha) hs hw h1) ?_
  rintro E σ H ⟨ι, S, ρ, s, en, k⟩
  refine ⟨ι, S, ρ, s, en, post_ev en k fun d S1 ι1 H1 v e1 st1 s1 r1 k1 => ?_⟩
  refine ⟨ι1, S1, ρ, s1, en.step st1, post_ev (en.step st1) k1 fun o S2 ι2 H2 ov e2 st2 s2 r2 k2 => ?_⟩
  have en2 := (en.step st1).step st2
  refine ⟨ι2, S2, ρ, s2, en2, post_ev en2 k2 fun i S3 ι3 H3 iv e3 st3 s3 r3 k3 => ?_⟩
  split at k3
  · rename_i S4 e4
    exact ⟨ι3, S3, o, i, d, S4, s3, r2.step st3, r3, r1.step (st2.trans st3), e4, fun ι' H' p' s' => k3 ι' H' σ p' s' ((en2.step st3).step p')⟩
  · exact k3.elim
theorem ss_for {tg iter : Expr} {g : Tg} {wi : Env → M MIt} (hp : PassesOwn (model X.prog X.w) X.A X.env X.xe) (hc : X.calm = true) (hi : PI X tg iter (tI (cf X) W wi)) (hg : PG X tg (mG (cf X) g)) (hb : PSs X sts (tS (cf X) W f))
    (hs : ∀ x, foldedSetIterable iter X.env x = pure x := by intro _; rfl) : PS X (.For tg iter sts [] pos) (tS (cf X) W (sFor wi g f)) := by
  refine PS.imp (ps_for hp hc hi hg hb hs) ?_
  rintro E σ H ⟨ι, S, ρ, s, en, k⟩
  refine ⟨ι, S, ρ, s, en, post_ev en k fun it S1 ι1 H1 J e1 st1 s1 r1 k1 => ?_⟩
  refine ⟨fun i m σ H => ∃ ι S ρ, Sim (cf X) ι S H ∧ REnv (cf X) H ι ρ σ ∧ ItOk (cf X) H ι it J ∧ postS (cf X) W ι H E (forM g f it m i ρ S), ⟨turns, ι1, S1, ρ, s1, en.step st1, r1, k1⟩, ?_⟩
  rintro i m σ3 H3 ⟨ι3, S3, ρ3, s3, en3, it3, k3⟩
  cases m with
  | zero => exact k3.elim
  | succ m =>
    unfold forM at k3
    obtain ⟨kS, kG⟩ := it3 i ι3 S3 H3 .refl s3
    cases en' : nextI it i S3 with
    | stop =>
      rw [en'] at k3
      exact .inl ⟨kS en', k3 ι3 H3 σ3 .refl s3 en3⟩
    | bad => rw [en'] at k3; exact k3.elim
    | go d =>
      rw [en'] at k3
      dsimp only at k3
      obtain ⟨go, yl⟩ := kG d en'
      refine .inr ⟨go, fun σ H => ∃ ι S ρ, Sim (cf X) ι S H ∧ REnv (cf X) H ι ρ σ ∧ ItOk (cf X) H ι it J ∧ postS (cf X) W ι H E (forM g f it m (i + 1) ρ S), fun σ' H' z => ⟨m, Nat.lt_succ_self m, z⟩, fun x H4 y => ?_⟩
      obtain ⟨st4, s4, r4⟩ := yl x H4 y
      split at k3
      · exact k3.elim
      · rename_i ρ1 eρ
        refine ⟨ι3, S3, ρ3, d, ρ1, s4, en3.step st4, r4, eρ, fun σ5 en5 _ => ?_⟩
        refine ⟨ι3, S3, ρ1, s4, en5, ?_⟩
        have k4 := postS_trans st4 k3
        clear k3
        cases eb : f ρ1 S3 with
        | nx ρ2 S2 => rw [eb] at k4; exact fun ι' H' σ' p' s' en' => ⟨ι', S2, ρ2, s', en', it3.step (st4.trans p'), postS_trans p' k4⟩
        | ct ρ2 S2 => rw [eb] at k4; exact fun ι' H' σ' p' s' en' => ⟨ι', S2, ρ2, s', en', it3.step (st4.trans p'), postS_trans p' k4⟩
        | brk ρ2 S2 => rw [eb] at k4; exact k4
        | ret d S2 => rw [eb] at k4; exact k4
        | exc n fs ρ2 S2 => rw [eb] at k4; exact k4
        | bad => rw [eb] at k4; exact k4
theorem ss_wh (hp : PassesOwn (model X.prog X.w) X.A X.env X.xe) (hc : PT X e (tT (cf X) W t)) (hb : PSs X sts (tS (cf X) W f)) : PS X (.While e sts [] pos) (tS (cf X) W (sWh t f)) := by
  refine PS.imp (ps_while hp hc hb) ?_
  rintro E σ H ⟨ι, S, ρ, s, en, k⟩
  refine ⟨fun m σ H => ∃ ι S ρ, Sim (cf X) ι S H ∧ REnv (cf X) H ι ρ σ ∧ postS (cf X) W ι H E (whM t f m ρ S), ⟨turns, ι, S, ρ, s, en, k⟩, ?_⟩
  rintro m σ3 H3 ⟨ι3, S3, ρ3, s3, en3, k3⟩
  cases m with
  | zero => exact k3.elim
  | succ m =>
    unfold whM at k3
    refine ⟨ι3, S3, ρ3, s3, en3, post_ev en3 k3 fun b S4 ι4 H4 b' e4 st4 s4 r4 k4 => ?_⟩
    cases r4
    cases b with
    | false => exact k4 ι4 H4 σ3 .refl s4 (en3.step st4)
    | true =>
      simp only [if_true] at k4 ⊢
      refine ⟨fun σ H => ∃ ι S ρ, Sim (cf X) ι S H ∧ REnv (cf X) H ι ρ σ ∧ postS (cf X) W ι H E (whM t f m ρ S), fun σ' H' z => ⟨m, Nat.lt_succ_self m, z⟩, ι4, S4, ρ3, s4, en3.step st4, ?_⟩
      cases eb : f ρ3 S4 with
      | nx ρ2 S2 => rw [eb] at k4; exact fun ι' H' σ' p' s' en' => ⟨ι', S2, ρ2, s', en', postS_trans p' k4⟩
      | ct ρ2 S2 => rw [eb] at k4; exact fun ι' H' σ' p' s' en' => ⟨ι', S2, ρ2, s', en', postS_trans p' k4⟩
      | brk ρ2 S2 => rw [eb] at k4; exact k4
      | ret d S2 => rw [eb] at k4; exact k4
      | exc n fs ρ2 S2 => rw [eb] at k4; exact k4
      | bad => rw [eb] at k4; exact k4
end
end Mini
namespace Mini
open PySem L2
@[irreducible] def runF (N n : Nat) (b : MS) : List D → M D := fun ds S => if ds.length = n then (match b (ds.map some ++ List.replicate (N - n) none) S with
    | .nx _ S1 => .ok .non S1
    | .ret d S1 => .ok d S1
    | .exc c fs _ S1 => .exc c fs S1
    | _ => .bad) else .bad
theorem runF_bad {N n : Nat} {b : MS} {ds : List D} {S : Store} (h : ds.length ≠ n) : runF N n b ds S = .bad := by
  unfold runF
  rw [if_neg h]
def badF : List D → M D := fun _ _ => .bad
section
variable {P : Program} {w : World} {K : PySem.W.Frag} {mg : Str → Option Value} {base : Heap}
theorem fn_bad {f : Addr} {fd : FuncData} {ps : List Str} {n k : Nat} (hn : ps.length = n) : FnOk P w K mg base (L2.CX P w) k f fd ps (spM ⟨K, mg⟩ n badF) :=
  ⟨fun vs H Q E h => h.1.trans hn.symm, fun A outer s H args us vs Q E _ _ _ _ ⟨_, ι, S, ds, _, _, q⟩ => q.elim⟩
theorem reps_slots {c : Cf} {H : Hp} {ι : List Addr} {m : Nat} : ∀ {ds : List D} {vs : List V}, Reps c H ι ds vs → ∀ (i : Nat) (d : D), (ds.map some ++ List.replicate m none)[i]? = some (some d) → ∃ v, (vs.map some ++ List.replicate m none)[i]? = some (some v) ∧ Rep c H ι d v
  | _, _, .nil, i, d, e => by
    simp only [List.map_nil, List.nil_append] at e
    have := (List.getElem?_eq_some_iff.mp e)
    obtain ⟨h1, h2⟩ := this
    rw [List.getElem_replicate] at h2
    cases h2
  | _, _, .cons a b, 0, d, e => by
    simp at e; subst e
    exact ⟨_, rfl, a⟩
  | _, _, .cons a b, i + 1, d, e => by
    simp only [List.map_cons, List.cons_append, List.getElem?_cons_succ] at e ⊢
    exact reps_slots b i d e
theorem fn_ok {x qual : Str} {st : Stmt} {f : Addr} {fd : FuncData} {N ps : List Str} {k m n : Nat} {b : MS} (F : Fun K x qual st f fd) (S : FnScope N ps (defScope st)) (hN : N.length = m) (hn : ps.length = n)
    (hb : ∀ (cdv : Value) (A : Around) (outer : List PySem.Env) (s : Shared) (H : Hp) (E : XK), Room k (A.deeper (PyProof.Rows.envOfC qual (defScope st) s.heap.objs.size f cdv)) →
      PSs (cxOf (L2.CX P w) P w K mg base N qual (defScope st) f cdv A outer s H E) (defBody st) (tS ⟨K, mg⟩ (fun cls d _ H => E cls d H) b)) :
    FnOk P w K mg base (L2.CX P w) (k + 1) f fd ps (spM ⟨K, mg⟩ n (runF m n b)) := by
  refine F.okX S (fun vs H Q E h => h.1.trans hn.symm) fun cdv A outer s H vs Q E hr sp => ⟨_, hb cdv A outer s H E hr, ?_⟩
  obtain ⟨hl, ι, S0, ds, sm, rs, q⟩ := sp
  refine ⟨ι, S0, ds.map some ++ List.replicate (m - n) none, sm, ⟨?_, ?_⟩, ?_⟩
  · unfold L2.start
    have := rs.length
    simp only [List.length_append, List.length_map, List.length_replicate]
    omega
  · unfold L2.start
    rw [hN, hl]
    exact reps_slots rs
  · have hd : ds.length = n := by rw [← rs.length]; exact hl
    unfold runF at q
    rw [if_pos hd] at q
    cases e : b (ds.map some ++ List.replicate (m - n) none) S0 with
    | nx ρ S1 => rw [e] at q; exact fun ι' H' σ' p s' en => q ι' H' .non p s' .non
    | ret d S1 => rw [e] at q; exact fun ι' H' v p s' r => q ι' H' v p s' r
    | exc c fs ρ S1 => rw [e] at q; exact fun ι' H' σ' cls dd p s' en r => q ι' H' cls dd p s' r
    | brk ρ S1 => rw [e] at q; exact q.elim
    | ct ρ S1 => rw [e] at q; exact q.elim
    | bad => rw [e] at q; exact q.elim
structure Does (P : Program) (w : World) (K : PySem.W.Frag) (mg : Str → Option Value) (base : Heap) (x : Str) (ps : List Str) (k n : Nat) (g : List D → M D) : Prop where
  ex : ∃ (f : Addr) (fd : FuncData) (st : Stmt), mg x = some (.ref f) ∧ Fun K x x st f fd ∧ Binds K fd ps [] ∧ FnOk P w K mg base (L2.CX P w) k f fd ps (spM ⟨K, mg⟩ n g)
  bad : ∀ ds S, ds.length ≠ n → g ds S = .bad
structure Def (K : PySem.W.Frag) (mg : Str → Option Value) (x : Str) (st : Stmt) (ps : List Str) : Prop where
  ex : ∃ (f : Addr) (fd : FuncData), Fun K x x st f fd ∧ mg x = some (.ref f) ∧ Binds K fd ps []
theorem Does.mono {x : Str} {ps : List Str} {j k n : Nat} {g : List D → M D} (h : Does P w K mg base x ps j n g) (hk : j ≤ k) : Does P w K mg base x ps k n g :=
  ⟨let ⟨f, fd, st, h1, h2, h3, h4⟩ := h.ex; ⟨f, fd, st, h1, h2, h3, h4.mono hk⟩, h.bad⟩
theorem Def.does {x : Str} {st : Stmt} {N ps : List Str} {k m n : Nat} {b : MS} (d : Def K mg x st ps) (S : FnScope N ps (defScope st)) (hN : N.length = m) (hn : ps.length = n)
    (hb : ∀ (f : Addr) (cdv : Value) (A : Around) (outer : List PySem.Env) (s : Shared) (H : Hp) (E : XK), Room k (A.deeper (PyProof.Rows.envOfC x (defScope st) s.heap.objs.size f cdv)) →
      PSs (cxOf (L2.CX P w) P w K mg base N x (defScope st) f cdv A outer s H E) (defBody st) (tS ⟨K, mg⟩ (fun cls d _ H => E cls d H) b)) : Does P w K mg base x ps (k + 1) n (runF m n b) :=
  ⟨let ⟨f, fd, F, h1, h2⟩ := d.ex; ⟨f, fd, st, h1, F, h2, fn_ok F S hN hn (hb f)⟩, fun _ _ h => runF_bad h⟩
theorem Def.bad {x : Str} {st : Stmt} {ps : List Str} {k n : Nat} (d : Def K mg x st ps) (hn : ps.length = n) : Does P w K mg base x ps k n badF :=
  ⟨let ⟨f, fd, F, h1, h2⟩ := d.ex; ⟨f, fd, st, h1, F, h2, fn_bad hn⟩, fun _ _ _ => rfl⟩
theorem def_mk {h : Heap} {x : Str} {st : Stmt} {ps : List Str} {f : Addr} {oc : Value} {od an : Option Addr} {osl : Array (Option Value)} {kV doc pm cdv ct : Value} (X : K.In h) (G : h.Ns mainGlobals mg) (a : PySem.W.nsIn K mainGlobals x = some (some (.ref f)))
    (l : K.lookup f = some ⟨oc, od, .func (PySem.W.fnOf x x (defArgs st) (defBody st) (defScope st) .none kV doc pm an cdv ct), osl⟩) (c : PySem.W.codeIn K cdv x = true) (kp : PySem.W.keepIn K (.ref f) = true)
    (hb : ∀ (kV doc pm : Value) (an : Option Addr) (cdv ct : Value) (us : List Value), us.length = ps.length → bindArgs (PySem.W.fnOf x x (defArgs st) (defBody st) (defScope st) .none kV doc pm an cdv ct) ⟨us, []⟩ = pure (ps.zip us)) : Def K mg x st ps :=
  ⟨f, _, fun_mk l c kp, PySem.W.mg_of X G a, (fun_mk (st := st) l c kp).binds hb⟩
end
section
variable {X : Cx} {W : WX} {e : Expr} {es : List Expr} {fs : Env → M (List D)} {pos p : Pos} {x : Str}
theorem se_do {ps : List Str} {k n : Nat} {g : List D → M D} (d : Does X.prog X.w X.K X.mg X.base x ps k n g) (tk : Takes X W) (hr : Room k X.A) (hg : Gl X x)
    (ha : PA X (e :: es) (tA (cf X) W fs)) (hdb : (x == ("__debug__" : Str)) = false := by decide) (he : starEach (e :: es) X.env = (false, eval e X.env) :: starEach es X.env := by rfl) (hpl : (backTo pos (starEach es X.env)).any (·.1) = false := by rfl) :
    PE X (.Call (.Name x p) (e :: es) [] pos) (tE (cf X) W (eCall g fs)) := by
  obtain ⟨f, fd, st, h1, h2, h3, h4⟩ := d.ex
  exact se_call h4 d.bad tk hr hg h1 h2.kp h3 ha hdb he hpl
theorem se_int {i : Int} {j : Nat} : PE X (.Constant (.int i) j pos) (tE (cf X) W (eC (.int i))) := se_C pe_int fun _ _ _ => .int _
theorem se_bl {b : Bool} {j : Nat} : PE X (.Constant (.bool b) j pos) (tE (cf X) W (eC (.bl b))) := se_C pe_bl fun _ _ _ => .bl _
theorem se_non {j : Nat} : PE X (.Constant .none j pos) (tE (cf X) W (eC .non)) := se_C pe_non fun _ _ _ => .non
theorem se_str {z : Str} {j : Nat} : PE X (.Constant (.str z) j pos) (tE (cf X) W (eC (.str z))) := se_C pe_str fun _ _ _ => .str _
theorem se_glS {z : Str} {t : Tok} (hg : Gl X x) (hm : X.mg x = some (.str z t)) (hd : (x == ("__debug__" : Str)) = false := by decide) : PE X (.Name x pos) (tE (cf X) W (eC (.str z))) := se_C (pe_glob hg hm (v := .str z) ⟨_, rfl⟩ hd) fun _ _ _ => .str _
theorem se_glI {z : Int} {t : Tok} (hg : Gl X x) (hm : X.mg x = some (.int z t)) (hd : (x == ("__debug__" : Str)) = false := by decide) : PE X (.Name x pos) (tE (cf X) W (eC (.int z))) := se_C (pe_glob hg hm (v := .int z) ⟨_, rfl⟩ hd) fun _ _ _ => .int _
theorem sv (i : Nat) {x : Str} {pos : Pos} (hN : X.N[i]? = some x := by rfl) (hv : Vis X.env.scope x := by first | exact Or.inl rfl | exact Or.inr (Or.inl rfl) | exact Or.inr (Or.inr rfl)) (hd : (x == ("__debug__" : Str)) = false := by decide)
    (hcd : (x == ("__classdict__" : Str)) = false := by decide) : PE X (.Name x pos) (tE (cf X) W (eVar i)) := se_var hN hv hd hcd
end
end Mini
namespace Mini
open PySem L2 PyProof.Rows
theorem h64 {k : Nat} {A : Around} (r : Room k A) : A.units + 64 < cLine := r.units
theorem h65 {k : Nat} {A : Around} (r : Room k A) : A.units + 65 < cLine := by have := r.un; omega
theorem h1 {k : Nat} {A : Around} (r : Room k A) : A.units + 1 < cLine := by have := r.un; omega
def sPar3 (i j l : Nat) (f : Env → M (List D)) : MS := fun ρ => ev (f ρ) ρ fun ds S => match ds with
  | [a, b, c] => .nx (((ρ.set i (some a)).set j (some b)).set l (some c)) S
  | _ => .bad
section
variable {X : Cx} {W : WX} {e : Expr} {pos : Pos}
theorem reps3 {c : Cf} {H : Hp} {ι : List Addr} {d e f : D} {vs : List V} (r : Reps c H ι [d, e, f] vs) : ∃ v u z, vs = [v, u, z] ∧ Rep c H ι d v ∧ Rep c H ι e u ∧ Rep c H ι f z := by
  cases r with | cons a b => obtain ⟨u, z, rfl, q, q'⟩ := reps2 b; exact ⟨_, u, z, rfl, a, q, q'⟩
theorem ps_setDc1 {j : Nat} {y : Str} {py : Pos} {wi : TI} {g : TG} {tt : TT} {tk tv : TE} {kx vx tg iter : Expr} {ifs : List Expr} {scope : Scope} {own : List (Str × Nat)} {lpos : Pos}
    (hc : X.calm = true) (hN : X.N.Nodup) (hy : X.N[j]? = some y) (hyl : X.env.scope.names.lookup y = some .local) (hsw : swapsWith (.DictComp kx vx [⟨tg, iter, ifs, 0⟩] scope lpos) (some (.Name y py)) pos.line X.env = pure true)
    (hi : PI X tg iter wi) (ok : BlkOk X.N X.env.scope scope own)
    (hg : Blk X scope fun Y => PG Y tg g) (ht : Blk X scope fun Y => PTs Y ifs tt) (hk : Blk X scope fun Y => PE Y kx tk) (he : Blk X scope fun Y => PE Y vx tv) (hs : ∀ x, foldedSetIterable iter X.env x = pure x := by intro _; rfl) :
    PS X (.Assign [.Name y py] (.DictComp kx vx [⟨tg, iter, ifs, 0⟩] scope lpos) pos) (tAsg (tDc wi g tt tk tv (own.map (·.2))) (gName j)) := by
  constructor
  intro pins s σ H E I q
  rw [exec_Assign_Name_used _ _ _ _ hsw]
  have q : tDc wi g tt tk tv (own.map (·.2)) σ H (fun v H1 => gName j v σ H1 E.nx) := q
  refine wpAny_bind (wpAny_standAt (wpAny_bind ?_))
  refine wpAny_bind (m := comprehension (.DictComp kx vx [⟨tg, iter, ifs, 0⟩] scope lpos) scope X.env (firstIterPos [⟨tg, iter, ifs, 0⟩] lpos) newDict false (eval iter X.env) (some (assign (.Name y py) X.env)))
    (thn (dc_core (Qf := fun _ z => SP X pins E .next z) hc hN I hi ok hg ht hk he hs q ?core) fun _ z hz => wpAny_pure (wpAny_pure hz))
  case core =>
    intro L C z m H1 J hQ hns fp
    show wpAny (model X.prog X.w) X.A (assign (.Name y py) X.env (.ref L)) _ _ z
    apply wpAny_assign_Name
    refine store_ok2 (v := .ref L) J hN hy (.inl hyl) rfl ?_ (.inr hyl)
    rintro z2 J2 ⟨a, same, ha⟩
    have ne : C ≠ a := by
      rcases ha with rfl | ha
      · exact fp.2.1
      · exact Ne.symm (fp.2.2.2.2.1 y a ha)
    refine ⟨m, hns.sameBut same ne, fun h3 same3 => ⟨_, H1, ?_, hQ⟩⟩
    exact J2.turned (t' := z2.toks) (fun b o nb hb => (same3.2 b nb).trans hb) fp.1 fp.2.1 fp.2.2.2.1 fp.2.2.2.2.1 fp.2.2.2.2.2
theorem ss_setDc {j : Nat} {y : Str} {py : Pos} {wi : Env → M MIt} {g : Tg} {tt : Env → M Bool} {fk fv : ME} {kx vx tg iter : Expr} {ifs : List Expr} {scope : Scope} {own : List (Str × Nat)} {lpos : Pos}
    (hc : X.calm = true) (hN : X.N.Nodup) (hy : X.N[j]? = some y) (hyl : X.env.scope.names.lookup y = some .local) (hsw : swapsWith (.DictComp kx vx [⟨tg, iter, ifs, 0⟩] scope lpos) (some (.Name y py)) pos.line X.env = pure true)
    (hi : PI X tg iter (tI (cf X) W wi)) (ok : BlkOk X.N X.env.scope scope own) (hsl : ∀ j ∈ g.slots, j ∈ own.map (·.2))
    (hg : Blk X scope fun Y => PG Y tg (mG (cf X) g)) (ht : Blk X scope fun Y => PTs Y ifs (tT (cf X) W0 tt)) (hk : Blk X scope fun Y => PE Y kx (tE (cf X) W0 fk)) (he : Blk X scope fun Y => PE Y vx (tE (cf X) W0 fv)) (hs : ∀ x, foldedSetIterable iter X.env x = pure x := by intro _; rfl) :
    PS X (.Assign [.Name y py] (.DictComp kx vx [⟨tg, iter, ifs, 0⟩] scope lpos) pos) (tS (cf X) W (sSet (.nm j) (eDc wi g tt fk fv (own.map (·.2))))) := by
  refine PS.imp (ps_setDc1 hc hN hy hyl hsw hi ok hg ht hk (fun s H C cl fp => PE.tag (he s H C cl fp)) hs) fun E σ H h => ?_
  obtain ⟨ι, S, ρ, s, en, k⟩ := h
  refine tE_dc (c := cf X) (W := W) hsl ⟨ι, S, ρ, s, en, post_ev en k fun d S1 ι1 H1 v e1 st1 s1 r1 k1 => ?_⟩
  exact k1 ι1 H1 _ .refl s1 ((en.step st1).set r1 j)
theorem ss_par3 {i j l : Nat} {x y z : Str} {a b c : Expr} {fs : Env → M (List D)} {px py pz pt : Pos} {kt k2 : Nat} {pt2 : Pos} (hc : X.calm = true) (hN : X.N.Nodup) (hi : X.N[i]? = some x) (hj : X.N[j]? = some y) (hl : X.N[l]? = some z) (hij : i ≠ j) (hil : i ≠ l) (hjl : j ≠ l)
    (hx : X.env.scope.names.lookup x = some .local) (hy : X.env.scope.names.lookup y = some .local) (hz : X.env.scope.names.lookup z = some .local) (ha : PA X [a, b, c] (tA (cf X) W fs))
    (hw : swappedStores [.Tuple [.Name x px, .Name y py, .Name z pz] kt pt] (.Tuple [a, b, c] k2 pt2) X.env = pure (some [x, y, z]))
    (hs : swapsWithSole [.Tuple [.Name x px, .Name y py, .Name z pz] kt pt] (.Tuple [a, b, c] k2 pt2) pos.line X.env = pure false := by rfl) :
    PS X (.Assign [.Tuple [.Name x px, .Name y py, .Name z pz] kt pt] (.Tuple [a, b, c] k2 pt2) pos) (tS (cf X) W (sPar3 i j l fs)) := by
  refine PS.imp (ps_par3 hc hN hi hj hl hij hil hjl hx hy hz ha hw hs) ?_
  rintro E σ H ⟨ι, S, ρ, s, en, k⟩
  refine ⟨ι, S, ρ, s, en, post_ev en k fun ds S1 ι1 H1 vs e1 st1 s1 r1 k1 => ?_⟩
  split at k1
  · obtain ⟨v, u, z, rfl, r, r', r''⟩ := reps3 r1
    exact ⟨v, u, z, rfl, k1 ι1 H1 _ .refl s1 ((((en.step st1).set r i).set r' j).set r'' l)⟩
  · exact k1.elim
end
end Mini
namespace Mini
open PySem
structure Blt (mg : Str → Option Value) : Prop where
  len : mg "len" = none
  range : mg "range" = none
  isinstance : mg "isinstance" = none
  str : mg "str" = none
  int : mg "int" = none
  bool : mg "bool" = none
  tuple : mg "tuple" = none
  list : mg "list" = none
  dict : mg "dict" = none
  set : mg "set" = none
  all : mg "all" = none
  any : mg "any" = none
  sum : mg "sum" = none
  abs : mg "abs" = none
  max : mg "max" = none
  min : mg "min" = none
  sorted : mg "sorted" = none
  enumerate : mg "enumerate" = none
  zip : mg "zip" = none
  reversed : mg "reversed" = none
end Mini
namespace Mini
open PySem L2 PyProof.Rows PySem.W
def encD (S : Store) (d : D) : PyData := (toP S d).getD .none
theorem encD_of {S : Store} {d : D} {p : PyData} (e : toP S d = some p) : encD S d = p := by unfold encD; rw [e]; rfl
def tupNe : PyData → Bool
  | .tuple (_ :: _) => true
  | _ => false
def notTN : PyData → Bool
  | .none => false
  | .tuple _ => false
  | _ => true
def sortOk (S : Store) (ys : List D) : Bool :=
  ys.all (fun d => (toP S d).isSome && decide ((encD S d).depth ≤ 32)) && (ys.all fun d => ys.all fun e => alike (encD S d) (encD S e)) && ((ys.all fun d => tupNe (encD S d)) || ys.all fun d => notTN (encD S d)) && decide (ys.length ≤ lim)
def sortD (S : Store) (ys : List D) : List D := ys.mergeSort (dataLe false (encD S))
def nSorted : PN := fun xs S => match xs with
  | [d] => match itemsOf S d with
    | some ys => if sortOk S ys then newL (sortD S ys) S else none
    | none => none
  | _ => none
theorem sortOk_iff {S : Store} {ys : List D} (h : sortOk S ys = true) : (∀ d ∈ ys, (∃ p, toP S d = some p) ∧ (encD S d).depth ≤ 32) ∧ AllAlike (ys.map (encD S)) ∧ Sortable (ys.map (encD S)) ∧ ys.length ≤ lim := by
  unfold sortOk at h
  simp only [Bool.and_eq_true, decide_eq_true_eq, List.all_eq_true, Bool.or_eq_true] at h
  obtain ⟨⟨⟨h1, h2⟩, h3⟩, h4⟩ := h
  refine ⟨fun d hd => ⟨Option.isSome_iff_exists.mp (h1 d hd).1, (h1 d hd).2⟩, ?_, ?_, h4⟩
  · intro a ha b hb
    obtain ⟨d, hd, rfl⟩ := List.mem_map.mp ha
    obtain ⟨e, he, rfl⟩ := List.mem_map.mp hb
    exact h2 d hd e he
  · rcases h3 with h3 | h3
    · refine .inl fun a ha => ?_
      obtain ⟨d, hd, rfl⟩ := List.mem_map.mp ha
      have := h3 d hd
      cases hz : encD S d with
      | tuple xs =>
        cases xs with
        | nil => rw [hz] at this; cases this
        | cons x r => exact ⟨x, r, rfl⟩
      | _ => rw [hz] at this; cases this
    · refine .inr fun a ha => ?_
      obtain ⟨d, hd, rfl⟩ := List.mem_map.mp ha
      have := h3 d hd
      refine ⟨(fun z => by rw [z] at this; cases this), (fun xs z => by rw [z] at this; cases this)⟩
section
variable {X : Cx} {pins : List (Addr × Obj)} {σ : L2.St} {H : Hp} {s : Shared} {ι : List Addr} {S : Store}
theorem reps_each {c : Cf} : ∀ {ys : List D} {vs : List V} {us : List Value}, Reps c H ι ys vs → Vals vs us → EachIs (fun u d => ∃ v, RelV v u ∧ Rep c H ι d v) us ys
  | _, _, _, .nil, .nil => .nil
  | _, _, _, .cons a b, .cons r t => .cons ⟨_, r, a⟩ (reps_each b t)
theorem each_reps {c : Cf} : ∀ {ys : List D} {us : List Value}, EachIs (fun u d => ∃ v, RelV v u ∧ Rep c H ι d v) us ys → ∃ vs, Reps c H ι ys vs ∧ Vals vs us
  | _, _, .nil => ⟨[], .nil, .nil⟩
  | _, _, .cons ⟨v, r, a⟩ t => let ⟨vs, b, q⟩ := each_reps t; ⟨v :: vs, .cons a b, .cons r q⟩
theorem each_reads (I : L2.Inv X pins σ H s) (sm : Sim (cf X) ι S H) : ∀ {ys : List D} {us : List Value}, (∀ d ∈ ys, ∃ p, toP S d = some p) → EachIs (fun u d => ∃ v, RelV v u ∧ Rep (cf X) H ι d v) us ys → EachIs (fun u d => ∃ as, Reads s.heap u (encD S d) as) us ys
  | _, _, _, .nil => .nil
  | _, _, hp, .cons ⟨v, r, a⟩ t => by
    refine .cons ?_ (each_reads I sm (fun d hd => hp d (List.mem_cons_of_mem _ hd)) t)
    obtain ⟨p, e⟩ := hp _ List.mem_cons_self
    rw [encD_of e]
    exact Dp.reads I p v _ (toP_dp sm a e) r
theorem sorted_core {u : Value} {zs : List D} {Q : VK} {Ok : List D → Prop} (sm : Sim (cf X) ι S H) (hu : X.A.units + 64 < cLine)
    (hcol : ∀ (Q' : List Value → Shared → Prop) (E' : Value → Shared → Prop), (∀ s' us ys, L2.Inv X pins σ H s' → Ok ys → EachIs (fun u d => ∃ v, RelV v u ∧ Rep (cf X) H ι d v) us ys → Q' us s') → wpAny (model X.prog X.w) X.A.in1 (collect u) Q' E' s)
    (hz : ∀ ys, Ok ys → sortOk S ys = true ∧ sortD S ys = zs)
    (q : ∀ vs p, Reps (cf X) H ι zs vs → H p = none → Q (.ref p) (upd H p (.lst vs))) : wpAny (model X.prog X.w) X.A (call (.builtin "sorted") [u]) (EP X pins σ Q) X.xe s := by
  refine call_function_entry_kw kind_sorted plain_sorted entry_sorted (args_sorted1 _) ?_
  unfold Builtin.«sorted»
  refine wpAny_bind (m := checkCount "sorted" 1 1 _) (wpAny_pure (wpAny_bind (hcol _ _ fun s1 us ys I1 ok each => ?_)))
  obtain ⟨sok, sz⟩ := hz ys ok
  obtain ⟨h1, h2, h3, h4⟩ := sortOk_iff sok
  have len : us.length ≤ sizeLine := by rw [each.length]; exact Nat.le_trans h4 lim_le
  refine wpAny_bind (wpAny_newList ?_ len)
  have at1 : (s1.heap.push (seqObj "list" us.toArray 0)).get? s1.heap.objs.size = some (seqObj "list" us.toArray 0) := Heap.get?_push_size _ rfl
  have kp : ∀ b o, s1.heap.get? b = some o → (sortingHeap (s1.heap.push (seqObj "list" us.toArray 0)) s1.heap.objs.size us).get? b = some o := fun b o e =>
    sortingHeap_old (Nat.ne_of_lt (Heap.lt_size e)) (Heap.get?_push_of_some _ e)
  have er := (each_reads I1 sm (fun d hd => (h1 d hd).1) each).mono fun _ _ ⟨as, r⟩ => (⟨as, Reads.keeps kp r⟩ : ∃ as, Reads (sortingHeap (s1.heap.push (seqObj "list" us.toArray 0)) s1.heap.objs.size us) _ _ as)
  have sa : SortsAt X.prog X.w X.A.in1.in1 { s1 with heap := sortingHeap (s1.heap.push (seqObj "list" us.toArray 0)) s1.heap.objs.size us } (dataKind (sortingHeap (s1.heap.push (seqObj "list" us.toArray 0)) s1.heap.objs.size us) (ys.map (encD S))) us :=
    SortsAt.data (s := { s1 with heap := sortingHeap (s1.heap.push (seqObj "list" us.toArray 0)) s1.heap.objs.size us }) (each_map (R := fun v d => ∃ as, Reads _ v d as) (encD S) er) h2 h3 fun d hd => by
      obtain ⟨b, hb, rfl⟩ := List.mem_map.mp hd
      have := (h1 b hb).2
      show X.A.units + 1 + 1 + _ < cLine
      omega
  have out := sortVals_data (R := fun u d => ∃ v, RelV v u ∧ Rep (cf X) H ι d v) false each er h2
  refine wpAny_bind (wpAny_holding (wpAny_call_entry_kw slot_list_sort ⟨_, at1, rfl⟩ entry_list_sort (wpAny_mono (list_sort_vals (P := fun f s' => f = .done (.ret .none) ∧ EP X pins σ Q (.ref s1.heap.objs.size) s') (s := { s1 with heap := s1.heap.push (seqObj "list" us.toArray 0) }) at1 sa len ⟨rfl, ?_⟩) (fun f s' hf => ?_) fun _ _ e => e) (args_list_sort _)))
  · obtain ⟨vs, rv, va⟩ := each_reps out
    have fresh := I1.hok.fresh (Nat.le_refl s1.heap.objs.size)
    have e1 : ys.mergeSort (dataLe false (encD S)) = zs := sz
    rw [e1] at rv
    have ho2 := sortedHeap_at (out := (sortVals (dataKind (sortingHeap (s1.heap.push (seqObj "list" us.toArray 0)) s1.heap.objs.size us) (ys.map (encD S))) false us us).toArray) at1
    have lenO : vs.length ≤ sizeLine := by
      rw [va.length, sortVals_length false rfl]
      exact len
    refine ⟨.ref s1.heap.objs.size, upd H s1.heap.objs.size (.lst vs), ?_, rfl, q vs _ rv fresh⟩
    refine I1.laid (t' := s1.toks) (fun b o e => ?_) (Nat.le_refl _) ?_
    · have lt := Heap.lt_size e
      show (sortedHeap (s1.heap.push (seqObj "list" us.toArray 0)) s1.heap.objs.size us _).get? b = some o
      rw [sortedHeap_old (Nat.ne_of_lt lt) (by rw [Heap.size_push]; exact Nat.lt_succ_of_lt lt)]
      exact Heap.get?_push_of_some _ e
    · obtain ⟨n2, g2⟩ := ho2
      exact ⟨lenO, _, n2, va, g2⟩
  · obtain ⟨rfl, hq⟩ := hf
    exact ⟨_, rfl, wpAny_pure ⟨_, rfl, hq⟩⟩
theorem grow_keeps {h : Heap} {us : List Value} {b : Addr} {o : Obj} (e : h.get? b = some o) : ((h.push (seqObj "list" #[] 0)).update h.objs.size (Obj.mapSeq (· ++ us.toArray))).get? b = some o := by
  have lt : b < h.objs.size := Heap.lt_size e
  rw [Heap.get?_update_ne _ _ _ _ (Nat.ne_of_lt lt)]
  exact Heap.get?_push_of_some _ e
theorem collect_tup {prog : Program} {w : World} {A : Around} {E : Value → Shared → Prop} {s : Shared} {t : Addr} {us : List Value} {Q : List Value → Shared → Prop} (ht : s.heap.IsTuple t us.toArray) (len : us.length ≤ sizeLine)
    (k : Q us { s with heap := (s.heap.push (seqObj "list" #[] 0)).update s.heap.objs.size (Obj.mapSeq (· ++ us.toArray)) }) : wpAny (model prog w) A (collect (.ref t)) Q E s := by
  obtain ⟨o, g, c, n, d⟩ := id ht
  have g1 : (s.heap.push (seqObj "list" #[] 0)).get? t = some o := Heap.get?_push_of_some _ g
  have gn : (s.heap.push (seqObj "list" #[] 0)).get? s.heap.objs.size = some (seqObj "list" #[] 0) := Heap.get?_push_size _ rfl
  have same : (Value.type "tuple" == Value.type "tuple") = true := rfl
  unfold collect
  refine wpAny_bind (wpAny_runValue (codeAny_builtin
    entry_proto_collect' ?_))
  show wpAny _ _ (newList [] >>= fun l => again (.builtin "list.__iadd__" ⟨[l, .ref t], []⟩)) _ _ s
  refine wpAny_bind (wpAny_newList (wpAny_pure ⟨Code.quiet_builtin _ (by decide +kernel),
    codeAny_builtin entry_list_iadd' ?_⟩))
  show wpAny _ _ (Builtin.List.listExtendWith (.ref s.heap.objs.size)
    (.ref t) (.ref s.heap.objs.size)) _ _ { s with heap := s.heap.push (seqObj "list" #[] 0) }
  unfold Builtin.List.listExtendWith
  refine wpAny_bind (wpAny_typeOf (T := "tuple") ⟨o, g1, c⟩ ?_)
  rw [if_pos (by rw [same]; simp)]
  refine wpAny_bind (listItems_at g1 d (wpAny_bind (listItems_at (xs := #[]) (n := 0) gn rfl ?_)))
  rw [if_neg (by simp)]
  refine wpAny_bind (listUpdate_at (xs := #[]) (n := 0) gn rfl (wpAny_pure ?_) (Nat.zero_le _) ?_)
  · show wpAny (model prog w) A (load s.heap.objs.size >>= fun o => match o.data with
      | .seq xs _ => pure xs.toList
      | _ => unsupported "internal:collect") Q E { s with heap := (s.heap.push (seqObj "list" #[] 0)).update s.heap.objs.size (Obj.mapSeq (· ++ us.toArray)) }
    refine wpAny_bind (wpAny_load (get?_update_seq gn _) ?_)
    have e : ((#[] : Array Value) ++ us.toArray).toList = us := by simp
    show wpAny _ _ (pure ((#[] : Array Value) ++ us.toArray).toList) Q E _
    rw [e]
    exact wpAny_pure k
  · simp only [Array.size_append, List.size_toArray, List.length_nil]
    omega
theorem c_sorted (hu : X.A.units + 64 < cLine) : CallR X (.builtin "sorted") (rN (cf X) nSorted) := by
  rintro pins s σ H vs us Q I rv ⟨ι, S, ds, sm, r, d, S', e, k⟩
  unfold nSorted at e
  split at e
  · rename_i d0
    split at e
    · rename_i ys hy
      split at e
      · rename_i hs
        obtain ⟨v, rfl, r1⟩ := reps1 r
        obtain ⟨p, xs, rfl, hq, rs⟩ := itemsOf_ok sm r1 hy
        obtain ⟨u, rfl, ru⟩ := rv.one
        cases ru
        have f2 : Fin (cf X) ι H Q (newL (sortD S ys) S) := ⟨d, S', e, k⟩
        have fin : ∀ vs p, Reps (cf X) H ι (sortD S ys) vs → H p = none → Q (.ref p) (upd H p (.lst vs)) := fun vs p rz hp => (f2.lst sm rz).2 p hp
        refine sorted_core (Ok := fun zs => zs = ys) sm hu (fun Q' E' go => ?_) (fun zs hz => by subst hz; exact ⟨hs, rfl⟩) fin
        rcases hq with hq | hq
        · obtain ⟨its, va, pl, len⟩ := I.list hq
          refine PyProof.Rows.collect_list pl.isList (go _ _ _ (I.kept (t' := s.toks) fun b o e => grow_keeps e) rfl (reps_each rs va)) ?_
          rw [← va.length]; exact len
        · obtain ⟨its, va, pl, len⟩ := I.tuple hq
          refine collect_tup (show Heap.IsTuple s.heap p its.toArray from pl) (by rw [← va.length]; exact len) (go _ _ _ (I.kept (t' := s.toks) fun b o e => grow_keeps e) rfl (reps_each rs va))
      · cases e
    · cases e
  · cases e
end
end Mini
namespace Mini
open PySem L2 PyProof.Rows
structure SetEl (P : Program) (w : World) (β : Type) [DecidableEq β] where
  kd : HeapKind P w β
  grow : ∀ {h h' : Heap} {b : β} {x : Addr}, kd.is h b x → (∀ c o, h.get? c = some o → h'.get? c = some o) → kd.is h' b x
  cls : ∀ {A : Around} {E : Value → Shared → Prop} {s : Shared} {b : β} {x : Addr} {Q : Bool → Shared → Prop}, kd.is s.heap b x → Q false s → wpAny (model P w) A (ofAClassStatement 8 (.ref x)) Q E s
  hbv : ∀ {A : Around} {E : Value → Shared → Prop} {s : Shared} {b : β} {x : Addr} {Q : Bool → Shared → Prop}, kd.is s.heap b x → (∀ r, Q r s) → wpAny (model P w) A (hashByValue 8 (.ref x)) Q E s
section
variable {P : Program} {w : World} {β : Type} [DecidableEq β] (Z : SetEl P w β)
abbrev SetEl.row (p : Addr × β) : Int × Value := (Z.kd.hash p.2, .ref p.1)
abbrev SetEl.hs (L : List (Addr × β)) : List Int := L.map fun p => Z.kd.hash p.2
structure TSet (h : Heap) (a : Addr) (L : List (Addr × β)) (es : Array (Int × Value)) (ep : Nat) (t : SetTable) : Prop where
  ob : ∃ o, h.get? a = some o ∧ o.ExactSet ∧ o.data = .set es ep t
  rows : es.toList = L.map Z.row
  tab : TabOk t (Z.hs L)
  nd : (L.map (·.2)).Nodup
  led : w.params.followText "set-order" = true ∨ t.led = true
  room : L.length * 5 < t.mask * 3
  few : L.length < 64
variable {Z}
variable {A : Around} {E : Value → Shared → Prop} {s : Shared} {a x : Addr} {L : List (Addr × β)} {es : Array (Int × Value)} {ep : Nat} {t : SetTable} {k : β}
theorem TSet.len {h : Heap} (R : TSet Z h a L es ep t) : es.size = L.length := by
  rw [← Array.length_toList, R.rows, List.length_map]
theorem TSet.places {h : Heap} (R : TSet Z h a L es ep t) : t.place.size = L.length := by
  have := R.tab.sz
  rwa [List.length_map] at this
theorem TSet.fit {h : Heap} (R : TSet Z h a L es ep t) : t.fits es.size = true := by
  have h1 := R.places
  have h2 := R.len
  have h3 := R.room
  simp only [SetTable.fits, SetTable.fill, R.tab.dm, Bool.and_eq_true, beq_iff_eq, decide_eq_true_eq]
  refine ⟨h1.trans h2.symm, ?_⟩
  show t.place.size + 0 ≤ t.mask
  omega
theorem TSet.row_at {h : Heap} (R : TSet Z h a L es ep t) {i : Nat} {p : Addr × β} (e : L[i]? = some p) : es[i]? = some (Z.row p) := by
  rw [← Array.getElem?_toList, R.rows, List.getElem?_map, e]
  rfl
theorem TSet.odd {h : Heap} (R : TSet Z h a L es ep t) : ¬ t.gaveWay = true := by
  simp [SetTable.gaveWay, mask_odd R.tab.mok]
abbrev stepAt (t : SetTable) (h : Int) (c : Nat) : SetTable.Probe := nth t.mask (runAt t.mask (SetTable.bits h % (t.mask + 1)) (SetTable.bits h)) c
theorem stepAt_add (t : SetTable) (h : Int) (c q : Nat) : nth t.mask (stepAt t h c) q = stepAt t h (c + q) := (nth_add t.mask c _ q).symm
theorem stepAt_clean (t : SetTable) (h : Int) (c : Nat) : (stepAt t h c).dummy = none := by
  have gen : ∀ (n : Nat) (p : SetTable.Probe), p.dummy = none → (nth t.mask p n).dummy = none := by
    intro n
    induction n with
    | zero => exact fun p e => e
    | succ n ih => exact fun p e => ih _ (by unfold adv; split <;> exact e)
  exact gen c _ rfl
theorem unseen {b : β} (hx : Z.kd.is s.heap b x) {ys : List Value} (hy : ∀ y ∈ ys, ∃ b' c, y = Value.ref c ∧ Z.kd.is s.heap b' c) {Q : Bool → Shared → Prop} (q : Q false s) :
    wpAny (model P w) A (searchCouldBeSeen (.ref x) ys) Q E s := by
  unfold searchCouldBeSeen
  refine wpAny_bind (wpAny_forIn_list _ (fun l z s' => z.1 = none ∧ s' = s ∧ ∀ y ∈ l, ∃ b' c, y = Value.ref c ∧ Z.kd.is s.heap b' c) _ ?_ ?_ _ _ ⟨rfl, rfl, hy⟩)
  · rintro y l z s' ⟨z0, rfl, all⟩
    obtain ⟨b', c, rfl, hc⟩ := all y List.mem_cons_self
    have more := fun u hu => all u (List.mem_cons_of_mem _ hu)
    dsimp only
    by_cases same : (x == c || (carriedByValue (.ref x) && carriedByValue (.ref c))) = true
    · exact wp_if_pos same (wpAny_pure ⟨rfl, rfl, more⟩)
    · refine wp_if_neg same (wpAny_bind (Z.kd.quiet hx ?_))
      simp only [Bool.not_true, Bool.false_eq_true, if_false]
      refine wpAny_bind (Z.kd.quiet hc ?_)
      simp only [Bool.not_true, Bool.false_eq_true, if_false]
      refine wpAny_bind (Z.cls hx ?_)
      simp only [Bool.false_eq_true, if_false]
      refine wpAny_bind (Z.cls hc ?_)
      simp only [Bool.false_eq_true, if_false]
      exact wpAny_pure ⟨rfl, rfl, more⟩
  · rintro ⟨z1, z2⟩ s' ⟨z0, rfl, _⟩
    obtain rfl : z1 = none := z0
    exact wpAny_pure q
theorem seek (R : TSet Z s.heap a L es ep t) (el : ∀ p ∈ L, Z.kd.is s.heap p.2 p.1) (hx : Z.kd.is s.heap k x) (hr : Z.kd.room A) {K : Nat} (hKf : K < 10 * SetTable.turns t.mask)
    (hK : way t.mask (Z.kd.hash k) K ∉ t.place.toList) (hKb : ∀ c, c < K → way t.mask (Z.kd.hash k) c ∈ t.place.toList) {Q : SetFound → Shared → Prop}
    (yes : k ∈ L.map (·.2) → Q (.there none) s) (no : k ∉ L.map (·.2) → Q (.free (way t.mask (Z.kd.hash k) K) false) s) :
    ∀ (f c : Nat) (stand : Option SetTable.Probe), stand.getD (t.probeStart (Z.kd.hash k)) = stepAt t (Z.kd.hash k) c → c ≤ K → K - c < f →
      (∀ (i : Nat) p, L[i]? = some p → p.2 = k → ∃ c', c ≤ c' ∧ c' < K ∧ t.place.toList[i]? = some (way t.mask (Z.kd.hash k) c')) →
      wpAny (model P w) A (setSearchFrom a (.ref x) (Z.kd.hash k) true f stand) Q E s := by
  intro f
  induction f with
  | zero => exact fun c st _ _ h => absurd h (Nat.not_lt_zero _)
  | succ f ih =>
    intro c st hst hc hf still
    obtain ⟨o, ho, hex, hd⟩ := R.ob
    have hv : ∀ (i : Nat) p, L[i]? = some p → (es[i]?.map (·.1)).getD 0 = Z.kd.hash p.2 := fun i p e => by rw [R.row_at e]; rfl
    have jq : ∀ q, (nth t.mask (stepAt t (Z.kd.hash k) c) q).j = way t.mask (Z.kd.hash k) (c + q) := fun q => congrArg SetTable.Probe.j (stepAt_add t _ c q)
    have spec := go_spec t R.tab.ris R.tab.dm (fun i => (es[i]?.map (·.1)).getD 0) (Z.kd.hash k) (10 * SetTable.turns t.mask) (K - c) (stepAt t (Z.kd.hash k) c) (stepAt_clean t _ c) (by omega)
      (fun q hq => by rw [jq]; exact hKb _ (by omega)) (by rw [jq]; rw [Nat.add_sub_cancel' hc]; exact hK)
    rw [setSearchFrom_succ]
    refine wpAny_bind (wpAny_setState_of ho hd R.fit ?_)
    refine wp_if_neg R.odd ?_
    rw [hst]
    rcases spec with ⟨q, i, hq, hi, hh, hno, pr⟩ | ⟨hno, pr⟩
    · -- one of equal hash
      have pr' : t.probe (fun i => (es[i]?.map (·.1)).getD 0) (Z.kd.hash k) (stepAt t (Z.kd.hash k) c) = some (.candidate (way t.mask (Z.kd.hash k) (c + q)) i (stepAt t (Z.kd.hash k) (c + (q + 1)))) := by
        rw [← jq, ← stepAt_add]
        exact pr
      rw [pr']
      rw [jq] at hi
      have il : i < L.length := by
        rw [← R.places, ← Array.length_toList]
        exact (List.getElem?_eq_some_iff.mp hi).1
      obtain ⟨p, ep'⟩ : ∃ p, L[i]? = some p := ⟨_, List.getElem?_eq_getElem il⟩
      have pm : p ∈ L := List.mem_of_getElem? ep'
      have slot := slot_live R.tab.ris hi
      have body : wpAny (model P w) A (searchRest a (.ref x) (Z.kd.hash k) true f es t (way t.mask (Z.kd.hash k) (c + q)) i (stepAt t (Z.kd.hash k) (c + (q + 1)))) Q E s := by
        unfold searchRest
        rw [R.row_at ep']
        refine wpAny_bind (wpAny_holding (Z.kd.eqBool hr (el p pm) hx (wpAny_bind (wpAny_setState_of ho hd R.fit ?_))))
        by_cases eq : p.2 = k
        · exact wp_if_pos (by simp [eq]) (wpAny_pure (yes (List.mem_map.mpr ⟨p, pm, eq⟩)))
        · refine wp_if_neg (by simp [eq]) ?_
          rw [sameMem]
          simp only [if_true, slot, R.row_at ep']
          refine wpAny_bind (wpAny_isSame_ref_self (wpAny_bind (wpAny_pure ?_)))
          simp only [if_true]
          refine wp_if_neg (by simp [eq]) (ih (c + (q + 1)) _ rfl (by omega) (by omega) fun i0 p0 e0 k0 => ?_)
          obtain ⟨c', l1, l2, l3⟩ := still i0 p0 e0 k0
          refine ⟨c', ?_, l2, l3⟩
          apply Decidable.byContradiction
          intro hlt
          rcases Nat.lt_or_ge c' (c + q) with lt | ge
          · refine hno (c' - c) i0 (by omega) (by rw [jq, Nat.add_sub_cancel' l1]; exact l3) ((hv i0 p0 e0).trans (by rw [k0]))
          · obtain rfl : c' = c + q := by omega
            have s2 := slot_live R.tab.ris l3
            rw [slot] at s2
            injection s2 with s2
            rw [← s2, ep'] at e0
            cases e0
            exact eq k0
      by_cases led : t.led = true
      · exact wp_if_neg (by simp [led]) body
      · refine wp_if_pos (by simp [led]) (wpAny_bind (unseen hx (fun y hy => ?_) (wp_if_neg (by decide) body)))
        obtain ⟨r, hr', rfl⟩ := List.mem_map.mp hy
        have : r ∈ es.toList := by
          have := (by simpa using hr' : r ∈ es ∧ r.1 = Z.kd.hash k).1
          simpa using this
        rw [R.rows] at this
        obtain ⟨p2, m2, rfl⟩ := List.mem_map.mp this
        exact ⟨p2.2, p2.1, rfl, el p2 m2⟩
    · -- a free slot
      have pr' : t.probe (fun i => (es[i]?.map (·.1)).getD 0) (Z.kd.hash k) (stepAt t (Z.kd.hash k) c) = some (.empty (way t.mask (Z.kd.hash k) K) none) := by
        have : way t.mask (Z.kd.hash k) K = (nth t.mask (stepAt t (Z.kd.hash k) c) (K - c)).j := by rw [jq, Nat.add_sub_cancel' hc]
        rw [this]
        exact pr
      rw [pr']
      refine wpAny_pure (no fun m => ?_)
      obtain ⟨p0, m0, k0⟩ := List.mem_map.mp m
      obtain ⟨i0, l0, e0⟩ := List.getElem_of_mem m0
      have e1 : L[i0]? = some p0 := by rw [List.getElem?_eq_getElem l0, e0]
      obtain ⟨c', l1, l2, l3⟩ := still i0 p0 e1 k0
      exact hno (c' - c) i0 (by omega) (by rw [jq, Nat.add_sub_cancel' l1]; exact l3) ((hv i0 p0 e1).trans (by rw [k0]))
theorem seek0 (R : TSet Z s.heap a L es ep t) (el : ∀ p ∈ L, Z.kd.is s.heap p.2 p.1) (hx : Z.kd.is s.heap k x) (hr : Z.kd.room A) {Q : SetFound → Shared → Prop} (yes : k ∈ L.map (·.2) → Q (.there none) s)
    (no : ∀ K, k ∉ L.map (·.2) → way t.mask (Z.kd.hash k) K ∉ t.place.toList → (∀ c, c < K → way t.mask (Z.kd.hash k) c ∈ t.place.toList) → Q (.free (way t.mask (Z.kd.hash k) K) false) s) :
    wpAny (model P w) A (setSearch a (.ref x) (Z.kd.hash k) true) Q E s := by
  have rm := R.room
  obtain ⟨K, b1, b2, b3⟩ := R.tab.first (by rw [List.length_map]; omega) (Z.kd.hash k)
  have small : K < 100000 := by
    have : SetTable.turns t.mask ≤ 142 := by
      unfold SetTable.turns
      rcases R.tab.mok with e | e | e <;> omega
    omega
  refine seek R el hx hr b1 b2 b3 yes (fun m => no K m b2 b3) 100000 0 none rfl (Nat.zero_le _) (by omega) fun i p e ek => ?_
  have li : i < L.length := (List.getElem?_eq_some_iff.mp e).1
  have lp : i < t.place.toList.length := by rw [Array.length_toList, R.places]; exact li
  obtain ⟨c, hc, ec⟩ := R.tab.before (h := Z.kd.hash k) b2 (by rw [List.getElem?_map, e, ← ek]; rfl) (List.getElem?_eq_getElem lp)
  exact ⟨c, Nat.zero_le _, hc, by rw [List.getElem?_eq_getElem lp, ec]⟩
theorem map_range_get {α : Type} (l : List α) : ∀ n, n ≤ l.length → (List.range n).filterMap (fun i => l[i]?) = l.take n
  | 0, _ => rfl
  | n + 1, hn => by
    have lt : n < l.length := hn
    rw [List.range_succ, List.filterMap_append, map_range_get l n (by omega), List.filterMap_cons_some (List.getElem?_eq_getElem lt), List.take_succ, List.getElem?_eq_getElem lt]
    rfl
theorem rows_order {order : Array Nat} (hr : es.toList = L.map Z.row) (hp : order.toList.Perm (List.range L.length)) :
    ∃ L2, (order.filterMap (es[·]?)).toList = L2.map Z.row ∧ L2.Perm L ∧ Z.hs L2 = order.toList.map fun i => (es.map (·.1)).getD i 0 := by
  have at' : ∀ i : Nat, es[i]? = L[i]?.map Z.row := fun i => by rw [← Array.getElem?_toList, hr, List.getElem?_map]
  refine ⟨order.toList.filterMap fun i => L[i]?, ?_, ?_, ?_⟩
  · rw [Array.toList_filterMap, List.map_filterMap]
    exact congrArg (fun f => List.filterMap f order.toList) (funext at')
  · refine (hp.filterMap _).trans ?_
    rw [map_range_get L _ (Nat.le_refl _), List.take_length]
  · have lt : ∀ i ∈ order.toList, i < L.length := fun i hi => List.mem_range.mp (hp.mem_iff.mp hi)
    generalize order.toList = l at lt
    induction l with
    | nil => rfl
    | cons i l ih =>
      have hi := lt i List.mem_cons_self
      rw [List.filterMap_cons_some (List.getElem?_eq_getElem hi), List.map_cons]
      show _ :: Z.hs _ = _
      rw [ih fun j hj => lt j (List.mem_cons_of_mem _ hj)]
      congr 1
      have e : (es.map (·.1))[i]? = some (Z.kd.hash L[i].2) := by rw [Array.getElem?_map, at', List.getElem?_eq_getElem hi]; rfl
      simp [Array.getD_eq_getD_getElem?, e]
theorem relay {o : Obj} (ho : s.heap.get? a = some o) (hex : o.ExactSet) (hd : o.data = .set es ep t) (rows : es.toList = L.map Z.row) (hsz : t.place.size = es.size) (hdm : t.dummies = #[]) (hfl : es.size ≤ t.mask)
    (nd : (L.map (·.2)).Nodup) (ld : w.params.followText "set-order" = true ∨ t.led = true) (few : L.length < 64) {wanted M : Nat} (hw : SetTable.sizeAbove wanted - 1 = M) (hM : MaskOk M) (hw2 : SetTable.sizeAbove wanted ≤ 128) (hn : L.length * 5 < M * 3) {Q : Unit → Shared → Prop}
    (q : ∀ h' L' es' ep' t', Heap.SameBut a s.heap h' → TSet Z h' a L' es' ep' t' → L'.Perm L → Q () { s with heap := h' }) : wpAny (model P w) A (setRelay a wanted) Q E s := by
  have len : es.size = L.length := by rw [← Array.length_toList, rows, List.length_map]
  have fits : t.fits es.size = true := by
    simp only [SetTable.fits, SetTable.fill, hdm, Bool.and_eq_true, beq_iff_eq, decide_eq_true_eq]
    exact ⟨hsz, by show t.place.size + 0 ≤ t.mask; omega⟩
  obtain ⟨t2, order, e, hp, T, em, el, _, _⟩ := relaid_ok t (hs := es.map (·.1)) (wanted := wanted) hw hM (by rw [Array.size_map, len]; omega)
  rw [Array.size_map, len] at hp
  obtain ⟨L2, r1, r2, r3⟩ := rows_order rows hp
  rw [← r3] at T
  have len2 : (order.filterMap (es[·]?)).size = es.size := by rw [← Array.length_toList, r1, List.length_map, r2.length_eq, len]
  rw [setRelay_eq]
  refine wpAny_bind (wpAny_setState_of ho hd fits (wp_if_neg (by rw [sizeLine_eq]; omega) ?_))
  rw [e]
  refine wpAny_bind (wp_if_neg (by rw [len2]; simp) (wpAny_pure ?_))
  refine wpAny_storeSet_of ho hd (q _ L2 _ (ep + 1) t2 (Heap.SameBut.update _ a _) ⟨⟨_, store_at ho hd, hex, rfl⟩, r1, T, (r2.map (·.2)).nodup_iff.mpr nd, by rw [el]; exact ld, ?_, by rw [r2.length_eq]; exact few⟩ r2) (by rw [len2, len, sizeLine_eq]; omega)
  rw [r2.length_eq, em]
  exact hn
theorem put_at {α : Type} (l : List α) (n : Nat) (y : α) : (l.take n ++ y :: l.drop n).Perm (y :: l) := by
  have := List.perm_middle (a := y) (l₁ := l.take n) (l₂ := l.drop n)
  rwa [List.take_append_drop] at this
theorem put_in (R : TSet Z s.heap a L es ep t) (el : ∀ p ∈ L, Z.kd.is s.heap p.2 p.1) (hx : Z.kd.is s.heap k x) (hr : Z.kd.room A) (few : L.length + 1 < 64) {Q : Bool → Shared → Prop}
    (q : ∀ b h' L' es' ep' t', Heap.SameBut a s.heap h' → TSet Z h' a L' es' ep' t' → (k ∈ L.map (·.2) → L' = L) → (k ∉ L.map (·.2) → L'.Perm ((x, k) :: L)) → Q b { s with heap := h' }) :
    wpAny (model P w) A (setAddHashed a (.ref x) (Z.kd.hash k)) Q E s := by
  obtain ⟨o, ho, hex, hd⟩ := R.ob
  have len := R.len
  have rm := R.room
  unfold setAddHashed
  rw [show (100000 : Nat) = 99999 + 1 from rfl, setAddHashedIn_succ]
  refine wpAny_holding (wpAny_bind (wpAny_setState_of ho hd R.fit (wp_if_neg (by simp [byScan, Value.scannable]) ?_)))
  refine wpAny_bind (seek0 R el hx hr (fun m => wpAny_pure (q false s.heap L es ep t (Heap.SameBut.refl a s.heap) R (fun _ => rfl) fun z => absurd m z)) fun K m hK hb => ?_)
  refine wpAny_bind (wpAny_setState_of ho hd R.fit ?_)
  obtain ⟨q1, q2, q3, q4, q5, _, _, _, q9⟩ := R.tab.put hK hb
  dsimp only
  generalize hput : t.put (way t.mask (Z.kd.hash k) K) = pt at q1 q3 q4 q5 q9 ⊢
  obtain ⟨t1, pl⟩ := pt
  dsimp only at q1 q3 q4 q5 q9 ⊢
  subst q1
  generalize SetTable.below t.place (way t.mask (Z.kd.hash k) K) = n at q2 q3 ⊢
  have pm := put_at L n (x, k)
  have hrows : (SetTable.insertAt es n (Z.kd.hash k, Value.ref x)).toList = (L.take n ++ (x, k) :: L.drop n).map Z.row := by
    rw [SetTable.toList_insertAt, R.rows, List.map_append, List.map_cons, List.map_take, List.map_drop]
  have htab : TabOk t1 (Z.hs (L.take n ++ (x, k) :: L.drop n)) := by
    have : Z.hs (L.take n ++ (x, k) :: L.drop n) = (Z.hs L).take n ++ Z.kd.hash k :: (Z.hs L).drop n := by
      show List.map _ _ = _
      rw [List.map_append, List.map_cons, List.map_take, List.map_drop]
    rw [this]
    exact q3
  have hnd : ((L.take n ++ (x, k) :: L.drop n).map (·.2)).Nodup := (pm.map (·.2)).nodup_iff.mpr (List.nodup_cons.mpr ⟨m, R.nd⟩)
  have len1 : (SetTable.insertAt es n (Z.kd.hash k, Value.ref x)).size = L.length + 1 := by
    rw [← Array.length_toList, hrows, List.length_map]
    exact pm.length_eq
  have pl1 : (L.take n ++ (x, k) :: L.drop n).length = L.length + 1 := pm.length_eq
  generalize SetTable.insertAt es n (Z.kd.hash k, Value.ref x) = es1 at hrows len1 ⊢
  generalize L.take n ++ (x, k) :: L.drop n = L1 at pm hrows htab hnd pl1
  have q9' : t1.fill = L.length + 1 := by rw [q9, List.length_map]
  have rest : ∀ t3 : SetTable, t3.place = t1.place → t3.dummies = t1.dummies → t3.mask = t1.mask → t3.led = t1.led →
      wpAny (model P w) A (do
        storeSet a es1 t3
        if (!false && t3.tooFull) = true then setRelay a (SetTable.grown (es.size + 1))
        return true) Q E s := fun t3 e1 e2 e3 e4 => by
    have tab3 : TabOk t3 (Z.hs L1) := ⟨by rw [e1]; exact htab.ris, by rw [e2]; exact htab.dm, by rw [e1]; exact htab.sz, by rw [e3]; exact htab.mok, by rw [e1, e3]; exact htab.bd, by rw [e1, e3]; exact htab.reach⟩
    have led3 : w.params.followText "set-order" = true ∨ t3.led = true := by rw [e4, q5]; exact R.led
    have sz3 : t3.place.size = es1.size := by
      have := tab3.sz
      rw [List.length_map] at this
      rw [this, pl1, len1]
    have full : t3.tooFull = decide ((L.length + 1) * 5 ≥ t.mask * 3) := by
      have f3 : t3.fill = t1.fill := by unfold SetTable.fill; rw [e1, e2]
      unfold SetTable.tooFull
      rw [f3, q9', e3, q4]
    refine wpAny_bind (wpAny_storeSet_of ho hd ?_ (by rw [len1, sizeLine_eq]; omega))
    have ho1 := store_at (es' := es1) (t' := t3) ho hd
    have sb : Heap.SameBut a s.heap (s.heap.update a (Obj.putSet es1 t3)) := Heap.SameBut.update _ a _
    by_cases hf : (L.length + 1) * 5 ≥ t.mask * 3
    · have hcase : (t.mask = 7 ∧ L.length = 4) ∨ (t.mask = 31 ∧ L.length = 18) := by
        rcases R.tab.mok with e | e | e <;> rw [e] at hf rm <;> omega
      refine wp_if_pos (by rw [full]; simp [hf]) (wpAny_bind ?_)
      have go : ∀ M, SetTable.sizeAbove (SetTable.grown (L.length + 1)) - 1 = M → MaskOk M → SetTable.sizeAbove (SetTable.grown (L.length + 1)) ≤ 128 → (L.length + 1) * 5 < M * 3 →
          wpAny (model P w) A (setRelay a (SetTable.grown (es.size + 1))) (fun _ s' => wpAny (model P w) A (pure true) Q E s') E { s with heap := s.heap.update a (Obj.putSet es1 t3) } := fun M g1 g2 g3 g4 => by
        rw [len]
        refine relay (s := { s with heap := s.heap.update a (Obj.putSet es1 t3) }) ho1 hex rfl hrows sz3 tab3.dm ?_ hnd led3 (by rw [pl1]; exact few) g1 g2 g3 (by rw [pl1]; exact g4) fun h2 L2 es2 ep2 t2 sb2 R2 pm2 => ?_
        · rw [len1, e3, q4]
          rcases hcase with ⟨c1, c2⟩ | ⟨c1, c2⟩ <;> omega
        · exact wpAny_pure (q true h2 L2 es2 ep2 t2 (sb.trans sb2) R2 (fun z => absurd z m) fun _ => pm2.trans pm)
      rcases hcase with ⟨_, c⟩ | ⟨_, c⟩
      · exact go 31 (by rw [c, size_20]) (.inr (.inl rfl)) (by rw [c, size_20]; decide) (by omega)
      · exact go 127 (by rw [c, size_76]) (.inr (.inr rfl)) (by rw [c, size_76]; decide) (by omega)
    · have nf : ¬ (!false && t3.tooFull) = true := by rw [full]; simp [hf]
      show wpAny _ _ (if (!false && t3.tooFull) = true then _ else pure true) _ _ _
      rw [if_neg nf]
      refine wpAny_pure (q true _ L1 es1 (ep + 1) t3 sb ⟨⟨_, ho1, hex, rfl⟩, hrows, tab3, hnd, led3, ?_, by rw [pl1]; exact few⟩ (fun z => absurd z m) fun _ => pm)
      rw [pl1, e3, q4]
      omega
  split
  · refine wpAny_bind (Z.hbv hx fun r => ?_)
    cases r with
    | true => exact rest t1 rfl rfl rfl rfl
    | false => exact rest { t1 with plain := false } rfl rfl rfl rfl
  · exact wpAny_bind (wpAny_pure (rest t1 rfl rfl rfl rfl))
end
end Mini
namespace Mini
open PySem L2 PyProof.Rows
abbrev newSetO (w : World) : Obj := { cls := .type "set", dict := none, data := .set #[] 0 (.fresh 0 0 (!w.params.followText "set-order")) }
structure Fills (P : Program) (w : World) (h0 : Heap) (a : Addr) (γ κ : Type) (val : γ → Value) (key : γ → κ) (its : List γ) (S : Heap → List γ → Prop) : Prop where
  keep : ∀ {h h' : Heap} {L : List γ}, S h L → (∀ o, h.get? a = some o → h'.get? a = some o) → S h' L
  fresh : ∀ {h : Heap}, h.get? a = some (newSetO w) → S h []
  add : ∀ {A : Around} {E : Value → Shared → Prop} {s : Shared} {L : List γ} {g : γ} {Q : Bool → Shared → Prop}, A.units < cLine → (∀ b o, h0.get? b = some o → s.heap.get? b = some o) → S s.heap L → (∀ p ∈ L, p ∈ its) → L.length < its.length → g ∈ its →
    (∀ r h' tk L', Heap.SameBut a s.heap h' → s.toks ≤ tk → S h' L' → (key g ∈ L.map key → L' = L) → (key g ∉ L.map key → L'.Perm (g :: L)) → Q r { s with heap := h', toks := tk }) → wpAny (model P w) A (setAdd a (val g)) Q E s
structure Has {γ κ : Type} (key : γ → κ) (its : List γ) (i : Nat) (L : List γ) : Prop where
  sub : ∀ p ∈ L, p ∈ its.take i
  all : ∀ p ∈ its.take i, key p ∈ L.map key
  nd : (L.map key).Nodup
theorem nodup_le {α : Type} : ∀ (l m : List α), l.Nodup → (∀ x ∈ l, x ∈ m) → l.length ≤ m.length
  | [], _, _, _ => Nat.zero_le _
  | x :: l, m, nd, sub => by
    obtain ⟨u, v, rfl⟩ := List.append_of_mem (sub x List.mem_cons_self)
    obtain ⟨nx, nd'⟩ := List.nodup_cons.mp nd
    have := nodup_le l (u ++ v) nd' fun y hy => by
      have hm := sub y (List.mem_cons_of_mem _ hy)
      rw [List.mem_append, List.mem_cons] at hm
      rw [List.mem_append]
      rcases hm with hm | rfl | hm
      · exact .inl hm
      · exact absurd hy nx
      · exact .inr hm
    simp only [List.length_append, List.length_cons] at this ⊢
    omega
theorem Has.len {γ κ : Type} {key : γ → κ} {its : List γ} {i : Nat} {L : List γ} (g : Has key its i L) : L.length ≤ i := by
  have nd : L.Nodup := List.Pairwise.of_map key (fun _ _ ne e => ne (congrArg key e)) g.nd
  have := nodup_le L _ nd g.sub
  rw [List.length_take] at this
  omega
theorem Has.zero {γ κ : Type} {key : γ → κ} {its : List γ} : Has key its 0 [] := ⟨(fun _ h => nomatch h), (fun _ h => by simp at h), List.nodup_nil⟩
theorem Has.next {γ κ : Type} {key : γ → κ} {its : List γ} {i : Nat} {L L' : List γ} {x : γ} (g : Has key its i L) (hx : its[i]? = some x) (h1 : key x ∈ L.map key → L' = L) (h2 : key x ∉ L.map key → L'.Perm (x :: L)) : Has key its (i + 1) L' := by
  have tk : its.take (i + 1) = its.take i ++ [x] := by rw [List.take_succ, hx]; rfl
  by_cases hm : key x ∈ L.map key
  · rw [h1 hm]
    refine ⟨fun p hp => by rw [tk]; exact List.mem_append_left _ (g.sub p hp), fun p hp => ?_, g.nd⟩
    rw [tk] at hp
    rcases List.mem_append.mp hp with hp | hp
    · exact g.all p hp
    · rw [List.mem_singleton.mp hp]; exact hm
  · have pm := h2 hm
    refine ⟨fun p hp => ?_, fun p hp => ?_, (pm.map key).nodup_iff.mpr (List.nodup_cons.mpr ⟨hm, g.nd⟩)⟩
    · rw [tk]
      rcases List.mem_cons.mp (pm.mem_iff.mp hp) with rfl | hp
      · exact List.mem_append_right _ (List.mem_singleton.mpr rfl)
      · exact List.mem_append_left _ (g.sub p hp)
    · rw [tk] at hp
      rw [(pm.map key).mem_iff, List.map_cons, List.mem_cons]
      rcases List.mem_append.mp hp with hp | hp
      · exact .inr (g.all p hp)
      · rw [List.mem_singleton.mp hp]; exact .inl rfl
section
variable {P : Program} {w : World} {A : Around} {E : Value → Shared → Prop} {a : Addr} {γ κ : Type} {val : γ → Value} {key : γ → κ} {its : List γ} {S : Heap → List γ → Prop} {h0 : Heap}
theorem fill_loop {I : Addr} {fp wr : List Addr} {G : Array GenState → Array GenState → Prop} {n : Nat} {Pv : Nat → Value → Prop} {St : Nat → Shared → Prop} {R : Result → Shared → Prop}
    (W : WalksS P w A.in1 I fp wr G n Pv St) (Z : Fills P w h0 a γ κ val key its S) (hn : n = its.length) (hv : ∀ i v, Pv i v → ∃ p, its[i]? = some p ∧ v = val p) (ha : a ∉ fp) (ha0 : h0.get? a = none) (hw0 : ∀ b ∈ wr, h0.get? b = none) (hu : A.in1.units < cLine) :
    ∀ (j i : Nat) (s : Shared), n - i = j → i ≤ n → St i s → (∀ b o, h0.get? b = some o → s.heap.get? b = some o) → (∃ L, S s.heap L ∧ Has key its i L) →
      (∀ s' L, Moved (a :: wr) G s s' → S s'.heap L → Has key its n L → (∀ b o, h0.get? b = some o → s'.heap.get? b = some o) → R (.ok (.ret .none)) s') → codeAny (model P w) A (.builtin "set.update.loop" ⟨[.ref a, .ref I], []⟩) R s := by
  have aw : a ∉ wr := fun z => ha (W.sub _ z)
  have up : ∀ {s s' : Shared}, Moved wr G s s' → (∀ b o, h0.get? b = some o → s.heap.get? b = some o) → ∀ b o, h0.get? b = some o → s'.heap.get? b = some o := fun mv kp b o e =>
    mv.heap b o (fun z => by rw [hw0 b z] at e; cases e) (kp b o e)
  intro j
  induction j with
  | zero =>
    rintro i s hj hi st kp ⟨L, hS, g⟩ q
    obtain rfl : i = n := by omega
    refine codeAny_builtin PyProof.Rows.F.entry_set_update_loop ?_
    rw [Around.under_plainId F.plain_set_update_loop _]
    refine wpAny_bind (W.done s _ _ st fun s' mv => ?_)
    exact wpAny_pure (q s' L (mv.mono fun b hb => List.mem_cons_of_mem _ hb) (Z.keep hS fun o e => mv.heap a o aw e) g (up mv kp))
  | succ j ih =>
    rintro i s hj hi st kp ⟨L, hS, g⟩ q
    have lt : i < n := by omega
    refine codeAny_builtin PyProof.Rows.F.entry_set_update_loop ?_
    rw [Around.under_plainId F.plain_set_update_loop _]
    refine wpAny_bind (W.item i s _ _ lt st fun v s' pv st' mv => ?_)
    obtain ⟨p, hp, rfl⟩ := hv i v pv
    have kp' := up mv kp
    have hl := g.len
    refine wpAny_bind (wpAny_holding (Z.add hu kp' (Z.keep hS fun o e => mv.heap a o aw e) (fun p hp => List.mem_of_mem_take (g.sub p hp)) (by omega) (List.mem_of_getElem? hp) fun r h' tk L' sb htk hS' c1 c2 => ?_))
    have kp2 : ∀ b o, h0.get? b = some o → h'.get? b = some o := fun b o e => (sb.2 b (fun z => by rw [z, ha0] at e; cases e)).trans (kp' b o e)
    refine wpAny_pure ⟨plainId_quiet F.plain_set_update_loop _, ih (i + 1) _ (by omega) lt (W.frame _ s' _ _ st' htk fun b hb o e => ?_) kp2 ⟨L', hS', g.next hp c1 c2⟩ fun s'' L2 mv2 hS2 g2 kp3 => ?_⟩
    · exact (sb.2 b (fun z : b = a => ha (by rw [← z]; exact hb))).trans e
    · refine q s'' L2 (Moved.trans W.gtrans ((mv.mono fun b hb => List.mem_cons_of_mem _ hb).then_heap htk fun b o hb e => ?_) mv2) hS2 g2 kp3
      exact (sb.2 b (fun z : b = a => hb (by rw [z]; exact List.mem_cons_self))).trans e
theorem none_above {h : Heap} {b : Addr} (hb : h.objs.size ≤ b) : h.get? b = none := by
  cases e : h.get? b with
  | none => rfl
  | some o => exact absurd (Nat.lt_of_lt_of_le (Heap.lt_size e) hb) (Nat.lt_irrefl _)
structure Src (P : Program) (w : World) (h0 : Heap) (l : Addr) (items : Array Value) (T : String) (itO : Obj) (St : Addr → Nat → Heap → Prop) : Prop where
  ob : ∃ o : Obj, h0.get? l = some o ∧ o.cls = .type T
  sub1 : isSubtype (.type T) (.type "set") = pure false
  sub2 : isSubtype (.type T) (.type "frozenset") = pure false
  dic : (Value.type T == Value.type "dict") = false
  iter : ∀ {A : Around} {E : Value → Shared → Prop} {s : Shared} {Q : Value → Shared → Prop}, (∀ o, h0.get? l = some o → s.heap.get? l = some o) → Q (.ref s.heap.objs.size) { s with heap := s.heap.push itO } → wpAny (model P w) A (pyIter (.ref l)) Q E s
  free : itO.isFreed = false
  start : ∀ {h : Heap} {I : Addr}, (∀ o, h0.get? l = some o → h.get? l = some o) → h.get? I = some itO → St I 0 h
  walk : ∀ {A : Around} {I : Addr}, A.handled = none → l ≠ I → Walks P w A I [I, l] [I] items.size (fun i v => items[i]? = some v) (St I)
set_option maxRecDepth 100000 in
set_option maxHeartbeats 6400000 in
theorem set_made {s : Shared} {l : Addr} {items : Array Value} {T : String} {itO : Obj} {St : Addr → Nat → Heap → Prop} {Q : Value → Shared → Prop} (X : Src P w s.heap l items T itO St) (Z : Fills P w s.heap s.heap.objs.size γ κ val key its S) (hit : items.toList = its.map val)
    (hh : A.handled = none) (hu : A.units + 3 < cLine)
    (q : ∀ (h' : Heap) (tk : Nat) L, S h' L → Has key its its.length L → (∀ b o, s.heap.get? b = some o → h'.get? b = some o) → Q (.ref s.heap.objs.size) { s with heap := h', toks := tk }) :
    wpAny (model P w) A (call (.type "set") [.ref l]) Q E s := by
  have isz : items.size = its.length := by rw [← Array.length_toList, hit, List.length_map]
  obtain ⟨c, tl, hmro⟩ := F.called_set.mro
  have hmade := F.called_set.made
  have hsub := F.called_set.sub
  refine wpAny_call (codeAny_of_tree ?_)
  show wpAny _ _ (callAny (.type "set") _) _ _ _
  refine wpAny_pure ⟨Code.quiet_builtin _ (by decide +kernel),
    codeAny_builtin F.entry_type_call ?_⟩
  rw [Around.under_plain (weight_type_call_type "set" [.ref l] []) rfl]
  have h1 := F.called_set.notType
  have h2 := F.called_set.canCreate
  have hct := F.typeCall_set_1 (.ref l)
  repeat (any_goals (first | assumption | wp_step))
  refine codeAny_mono (code_set_led1 (.ref l) (E := E) (Q₁ := fun ob s1 => ob = .ref s.heap.objs.size ∧ s1 = { s with heap := s.heap.push (newSetO w) }) ⟨rfl, rfl⟩) fun r s1 hr => ?_
  match r, hr with
  | .error e, hr => exact hr
  | .ok .next, hr => exact hr.elim
  | .ok .brk, hr => exact hr.elim
  | .ok .cont, hr => exact hr.elim
  | .ok (.ret ob), hr =>
    obtain ⟨rfl, rfl⟩ := hr
    have at1 : (s.heap.push (newSetO w)).get? s.heap.objs.size = some (newSetO w) := Heap.get?_push_size _ rfl
    have hT : Shared.TypeIs { s with heap := s.heap.push (newSetO w) } (.ref s.heap.objs.size) "set" := ⟨_, at1, rfl⟩
    have hli := F.called_set.init.lookup
    have hbi := F.called_set.init.bind (.ref s.heap.objs.size)
    repeat (any_goals (first | assumption | wp_step))
    refine codeAny_mono (codeAny_call_builtin (R := wants (fun r s2 => r = .none ∧ ∃ h' tk L, s2 = { s with heap := h', toks := tk } ∧ S h' L ∧ Has key its its.length L ∧ ∀ b o, s.heap.get? b = some o → h'.get? b = some o) E)
      F.called_set.init.plain F.entry_set_init (check_set_init_1 hT ?_)) fun r2 s2 hr2 => ?_
    · obtain ⟨⟨oc, od, ox, os⟩, ho, hoc⟩ := X.ob
      obtain rfl : oc = .type T := hoc
      have hol : (s.heap.push (newSetO w)).get? l = some ⟨.type T, od, ox, os⟩ := Heap.get?_push_of_some _ ho
      have e1 := X.sub1
      have e2 := X.sub2
      have e3 := X.dic
      unfold Builtin.«set.__init__» noKeywords Builtin.Frozenset.updateFrom
      generalize hPI : pyIter = PI
      wp_walk
      subst hPI
      have keepL : ∀ o, s.heap.get? l = some o → (s.heap.push (newSetO w)).get? l = some o := fun o e => Heap.get?_push_of_some _ e
      refine X.iter keepL (wpAny_bind (wpAny_runValue ?_))
      have lt : l < s.heap.objs.size := Heap.lt_size ho
      have sz : (s.heap.push (newSetO w)).objs.size = s.heap.objs.size + 1 := Heap.size_push ..
      have up : ∀ b o, s.heap.get? b = some o → ((s.heap.push (newSetO w)).push itO).get? b = some o := fun b o e => Heap.get?_push_of_some _ (Heap.get?_push_of_some _ e)
      refine fill_loop ((X.walk (A := _) (by simp [hh]) (by rw [sz]; exact Nat.ne_of_lt (Nat.lt_succ_of_lt lt))).toS) Z isz (fun i v hv => ?_) ?_ (none_above (Nat.le_refl _)) (fun b hb => none_above ?_) hu (items.size - 0) 0 _ (by omega) (Nat.zero_le _)
        (X.start (fun o e => up l o e) (Heap.get?_push_size _ X.free)) up ⟨[], Z.fresh (Heap.get?_push_of_some _ at1), .zero⟩ fun s3 L mv hS g kp => ?_
      · have z : items.toList[i]? = some v := by rw [Array.getElem?_toList]; exact hv
        rw [hit, List.getElem?_map] at z
        obtain ⟨p, z1, z2⟩ := Option.map_eq_some_iff.mp z
        exact ⟨p, z1, z2.symm⟩
      · rw [sz]
        simp only [List.mem_cons, List.not_mem_nil, or_false, not_or]
        exact ⟨Nat.ne_of_lt (Nat.lt_succ_self _), Nat.ne_of_gt lt⟩
      · rw [List.mem_singleton.mp hb, sz]
        exact Nat.le_succ _
      · obtain ⟨h3, g3, d3, t3, o3⟩ := s3
        obtain rfl : g3 = s.gens := mv.gens
        obtain rfl : d3 = s.drawn := mv.drawn
        obtain rfl : o3 = s.os := mv.os
        rw [isz] at g
        exact wpAny_pure (wpAny_pure ⟨rfl, h3, t3, L, rfl, hS, g, kp⟩)
    · match r2, hr2 with
      | .error e, hr2 => exact hr2
      | .ok .next, hr2 => exact hr2.elim
      | .ok .brk, hr2 => exact hr2.elim
      | .ok .cont, hr2 => exact hr2.elim
      | .ok (.ret r), hr2 =>
        obtain ⟨rfl, h', tk, L, rfl, hS, g, kp⟩ := hr2
        repeat (any_goals (first | assumption | wp_step))
        exact q _ _ _ hS g kp
end
end Mini
namespace Mini
open PySem L2 PyProof.Rows PySem.W
section
variable {P : Program} {w : World} {h0 : Heap} {l : Addr} {items : Array Value}
theorem sub_tup_set : isSubtype (.type "tuple") (.type "set") = pure false := by rw [isSubtype_type]; kernel_rfl
theorem sub_tup_fz : isSubtype (.type "tuple") (.type "frozenset") = pure false := by rw [isSubtype_type]; kernel_rfl
theorem src_list (hl : h0.IsList l items) : Src P w h0 l items "list" { cls := .type "list_iterator", data := .fields #[.ref l, .int 0 0] } (fun I i h => h.IsListIter I l i ∧ h.IsList l items) where
  ob := let ⟨o, e, c, _⟩ := hl; ⟨o, e, c⟩
  sub1 := F.sub_list_set
  sub2 := F.sub_list_frozenset
  dic := rfl
  iter := fun k q => wpAny_pyIter_list (hl.at fun o e => k o e) q
  free := rfl
  start := fun k e => ⟨⟨_, e, rfl, rfl⟩, hl.at fun o z => k o z⟩
  walk := fun hh ne => Walks.list hh _ l ne items
theorem src_tup (hl : h0.IsTuple l items) : Src P w h0 l items "tuple" { cls := .type "tuple_iterator", data := .fields #[.ref l, .int 0 0] } (fun I i h => h.IsTupleIter I l i ∧ h.IsTuple l items) where
  ob := let ⟨o, e, c, _⟩ := hl; ⟨o, e, c⟩
  sub1 := sub_tup_set
  sub2 := sub_tup_fz
  dic := rfl
  iter := fun k q => wpAny_pyIter_tuple (hl.at fun o e => k o e) q
  free := rfl
  start := fun k e => ⟨⟨_, e, rfl, rfl⟩, hl.at fun o z => k o z⟩
  walk := fun hh ne => Walks.tuple hh _ l ne items
theorem keyed {k : List Key} {vs : List Value} (h : ItemsAre (mixKind P w) k vs) : ∀ v ∈ vs, (∃ i t, v = Value.int i t) ∨ ∃ x t, v = Value.str x t := by
  induction h with
  | nil => exact fun v m => nomatch m
  | @cons k0 u ks us e _ ih =>
    intro v m
    rcases List.mem_cons.mp m with rfl | m
    · rcases keyIs_shape e with ⟨i, t, _, z⟩ | ⟨x, t, _, z⟩
      · exact .inl ⟨i, t, z⟩
      · exact .inr ⟨x, t, z⟩
    · exact ih v m
def tupEl (P : Program) (w : World) : SetEl P w (List Key) where
  kd := tupleKind (mixKind P w)
  grow := fun h k => let ⟨o, its, n, e, r⟩ := h; ⟨o, its, n, k _ o e, r⟩
  cls := by
    intro A E s b x Q hb q
    have ty := IsTupleKey.typeIs (knd := mixKind P w) hb
    obtain ⟨o, its, n, ho, _, hd, hi⟩ := hb
    unfold ofAClassStatement
    refine wpAny_bind (wpAny_typeOf ty ?_)
    dsimp only
    have e : (("tuple" : String) == "tuple") = true := rfl
    simp only [e, if_true, Bool.not_true, Bool.false_eq_true, if_false]
    try refine wpAny_bind (wpAny_pure ?_)
    try simp only [Bool.not_true, Bool.false_eq_true, if_false]
    show wpAny _ _ (seqItems? (.ref x) >>= _) _ _ s
    refine wpAny_bind (wpAny_seqItems ho hd (wpAny_bind ?_))
    show wpAny _ _ (forIn its _ _) _ _ s
    rw [← Array.forIn_toList]
    refine wpAny_forIn_list _ (fun l z s' => z.1 = none ∧ s' = s ∧ ∀ v ∈ l, (∃ i t, v = Value.int i t) ∨ ∃ x t, v = Value.str x t) _ ?_ ?_ _ _ ⟨rfl, rfl, keyed hi⟩
    · rintro v l z s' ⟨z0, rfl, all⟩
      have no : ofAClassStatement 7 v = pure false := by
        rcases all v List.mem_cons_self with ⟨i, t, rfl⟩ | ⟨y, t, rfl⟩ <;> rfl
      rw [no]
      refine wpAny_bind (wpAny_pure ?_)
      simp only [Bool.false_eq_true, if_false]
      exact wpAny_pure ⟨rfl, rfl, fun u hu => all u (List.mem_cons_of_mem _ hu)⟩
    · rintro ⟨z1, z2⟩ s' ⟨z0, rfl, _⟩
      obtain rfl : z1 = none := z0
      exact wpAny_pure q
  hbv := by
    intro A E s b x Q hb q
    have ty := IsTupleKey.typeIs (knd := mixKind P w) hb
    obtain ⟨o, its, n, ho, _, hd, hi⟩ := hb
    unfold hashByValue
    refine wpAny_bind (wpAny_specialOf ty PySem.F.slot_tuple_hash.lookup ?_)
    show wpAny _ _ (seqItems? (.ref x) >>= _) _ _ s
    refine wpAny_bind (wpAny_seqItems ho hd (wpAny_bind ?_))
    show wpAny _ _ (forIn its _ _) _ _ s
    rw [← Array.forIn_toList]
    refine wpAny_forIn_list _ (fun l z s' => s' = s ∧ z.1 = none ∧ ∀ v ∈ l, (∃ i t, v = Value.int i t) ∨ ∃ x t, v = Value.str x t) _ ?_ ?_ _ _ ⟨rfl, rfl, keyed hi⟩
    · rintro v l z s' ⟨rfl, z0, all⟩
      have more := fun u hu => all u (List.mem_cons_of_mem _ hu)
      rcases all v List.mem_cons_self with ⟨i, t, rfl⟩ | ⟨y, t, rfl⟩
      · rw [show hashByValue 7 (.int i t) = pure true from rfl]
        refine wpAny_bind (wpAny_pure ?_)
        simp only [Bool.not_true, Bool.false_eq_true, if_false]
        exact wpAny_pure ⟨rfl, rfl, more⟩
      · rw [show hashByValue 7 (.str y t) = pure false from rfl]
        refine wpAny_bind (wpAny_pure ?_)
        simp only [Bool.not_false, if_true]
        exact wpAny_pure (wpAny_pure (q _))
    · rintro ⟨z1, z2⟩ s' ⟨rfl, z0, _⟩
      obtain rfl : z1 = none := z0
      exact wpAny_pure (q _)
theorem led_new (w : World) : w.params.followText "set-order" = true ∨ (SetTable.fresh 0 0 (!w.params.followText "set-order")).led = true := by
  cases e : w.params.followText "set-order" with
  | true => exact .inl rfl
  | false => exact .inr rfl
abbrev tupS (P : Program) (w : World) (a : Addr) : Heap → List (Addr × List Key) → Prop := fun h L => ∃ es ep t, TSet (tupEl P w) h a L es ep t
theorem fills_tup {a : Addr} {its : List (Addr × List Key)} (hel : ∀ p ∈ its, (tupEl P w).kd.is h0 p.2 p.1) (few : its.length < 64) : Fills P w h0 a (Addr × List Key) (List Key) (fun p => .ref p.1) (·.2) its (tupS P w a) where
  keep := by
    rintro h h' L ⟨es, ep, t, R⟩ k
    obtain ⟨o, ho, r⟩ := R.ob
    exact ⟨es, ep, t, ⟨o, k o ho, r⟩, R.rows, R.tab, R.nd, R.led, R.room, R.few⟩
  fresh := fun e => ⟨#[], 0, _, ⟨_, e, ⟨rfl, rfl, rfl⟩, rfl⟩, rfl, ⟨List.Pairwise.nil, rfl, rfl, .inl rfl, (fun x m => nomatch m), (fun i h j z => by simp at z)⟩, List.nodup_nil, led_new w, (by show 0 * 5 < 7 * 3; decide), (by show 0 < 64; decide)⟩
  add := by
    rintro A E s L g Q hu kp ⟨es, ep, t, R⟩ sub lt hg q
    have up : ∀ p ∈ its, (tupEl P w).kd.is s.heap p.2 p.1 := fun p hp => (tupEl P w).grow (hel p hp) kp
    unfold setAdd
    refine wpAny_holding (wpAny_bind ((tupEl P w).kd.pyHash hu (up g hg) ?_))
    refine put_in (Z := tupEl P w) (s := { s with toks := s.toks + (tupEl P w).kd.draws g.2 }) R (fun p hp => up p (sub p hp)) (up g hg) hu (by omega) fun b h' L' es' ep' t' sb R' c1 c2 => ?_
    exact q b h' _ L' sb (Nat.le_add_right _ _) ⟨es', ep', t', R'⟩ c1 c2
def keyVal : Value → Key
  | .int i _ => .inl i
  | .str x _ => .inr x
  | _ => .inl 0
theorem keyVal_is {k : Key} {v : Value} (h : keyIs k v = true) : keyVal v = k ∧ v.scannable = true := by
  rcases keyIs_shape h with ⟨i, t, rfl, rfl⟩ | ⟨x, t, rfl, rfl⟩
  · exact ⟨rfl, rfl⟩
  · exact ⟨rfl, rfl⟩
def rowGood (w : World) (e : Int × Value) : Prop := keyIs (keyVal e.2) e.2 = true ∧ e.1 = keyH w (keyVal e.2)
def scanS (P : Program) (w : World) (a : Addr) : Heap → List (Value × Key) → Prop := fun h L => ∃ o es ep t, h.get? a = some o ∧ o.ExactSet ∧ o.data = .set es ep t ∧ L = es.toList.map (fun e => (e.2, keyVal e.2)) ∧ (∀ e ∈ es.toList, rowGood w e) ∧
  (L.map (·.2)).Nodup ∧ es.size < scanBound ∧ t.fits es.size = true ∧ Ris t.place.toList ∧ (w.params.followText "set-order" = true ∨ t.led = true)
theorem good_elemsOf {es : List (Int × Value)} (g : ∀ e ∈ es, rowGood w e) : ElemsOf (mixKind P w) es := fun e he => ⟨⟨_, (g e he).1, (g e he).2⟩, (keyVal_is (g e he).1).2⟩
theorem scan_tail {A : Around} {E : Value → Shared → Prop} {s : Shared} {a : Addr} {g : Bool → Sem Unit} (hg : ∀ (b : Bool) (s1 : Shared) (Q' : Unit → Shared → Prop), Q' () s1 → wpAny (model P w) A (g b) Q' E s1)
    {o : Obj} {es : Array (Int × Value)} {ep : Nat} {t : SetTable} (ho : s.heap.get? a = some o) (hex : o.ExactSet) (hd : o.data = .set es ep t)
    {es1 : Array (Int × Value)} {t2 : SetTable} {M : List (Value × Key)} (gd : ∀ e ∈ es1.toList, rowGood w e) (nd : (es1.toList.map fun e => keyVal e.2).Nodup) (pm : (es1.toList.map fun e => (e.2, keyVal e.2)).Perm M)
    (hb : es1.size < scanBound) (hf : t2.fits es1.size = true) (hr : Ris t2.place.toList) (hl : w.params.followText "set-order" = true ∨ t2.led = true) {wasDummy : Bool} {R : Option Bool → Shared → Prop}
    (q : ∀ h' L, Heap.SameBut a s.heap h' → scanS P w a h' L → L.Perm M → R (some true) { s with heap := h' }) :
    wpAny (model P w) A (do
        storeSet a es1 t2
        if (!wasDummy && t2.tooFull) = true then do
            g (relayAll t2 es1 (SetTable.grown es1.size)).2.2
            storeSet a (relayAll t2 es1 (SetTable.grown es1.size)).1 (relayAll t2 es1 (SetTable.grown es1.size)).2.1
            pure (some true)
          else pure (some true)) R E s := by
  have mk : ∀ {h' : Heap} {ob : Obj} {es2 : Array (Int × Value)} {e2 : Nat} {t3 : SetTable}, h'.get? a = some ob → ob.ExactSet → ob.data = .set es2 e2 t3 → es2.toList.Perm es1.toList → t3.fits es2.size = true → Ris t3.place.toList → t3.led = t2.led → scanS P w a h' (es2.toList.map fun e => (e.2, keyVal e.2)) :=
    fun {h' ob es2 e2 t3} h1 h2 h3 p f r l => by
      refine ⟨ob, es2, e2, t3, h1, h2, h3, rfl, fun e he => gd e (p.mem_iff.mp he), ?_, ?_, f, r, by rw [l]; exact hl⟩
      · rw [List.map_map]
        exact (p.map fun e => keyVal e.2).nodup_iff.mpr nd
      · rw [← Array.length_toList, p.length_eq, Array.length_toList]; exact hb
  have ho1 := store_at (es' := es1) (t' := t2) ho hd
  have sb1 := Heap.SameBut.update s.heap a (Obj.putSet es1 t2)
  refine wpAny_bind (wpAny_storeSet_of ho hd ?_ (fits_of_scanBound hb))
  split
  · have p2 := relayAll_perm t2 es1 (SetTable.grown es1.size)
    have f2 := relayAll_fits t2 es1 (SetTable.grown es1.size)
    have r2 := relayAll_ris t2 es1 (SetTable.grown es1.size)
    have l2 := relayAll_led t2 es1 (SetTable.grown es1.size)
    revert p2 f2 r2 l2
    generalize relayAll t2 es1 (SetTable.grown es1.size) = Y
    obtain ⟨es2, t3, gv⟩ := Y
    intro p2 f2 r2 l2
    dsimp only at p2 f2 r2 l2 ⊢
    have hb2 : es2.size < scanBound := by rw [← Array.length_toList, p2.length_eq, Array.length_toList]; exact hb
    refine wpAny_bind (hg _ _ _ (wpAny_bind (wpAny_storeSet_of ho1 rfl (wpAny_pure ?_) (fits_of_scanBound hb2))))
    exact q _ _ (sb1.trans (Heap.SameBut.update _ a _)) (mk (store_at (es' := es2) (t' := t3) ho1 rfl) hex rfl p2 f2 r2 l2) ((p2.map _).trans pm)
  · exact wpAny_pure (q _ _ sb1 (mk ho1 hex rfl .rfl hf hr rfl) pm)
theorem fills_txt {a : Addr} {its : List (Value × Key)} (hel : ∀ p ∈ its, keyIs p.2 p.1 = true) (few : its.length < scanBound) : Fills P w h0 a (Value × Key) Key (·.1) (·.2) its (scanS P w a) where
  keep := by
    rintro h h' L ⟨o, es, ep, t, ho, r⟩ k
    exact ⟨o, es, ep, t, k o ho, r⟩
  fresh := fun e => ⟨_, #[], 0, _, e, ⟨rfl, rfl, rfl⟩, rfl, rfl, (fun x m => nomatch m), List.nodup_nil, (by decide), (by rfl), List.Pairwise.nil, led_new w⟩
  add := by
    rintro A E s L g Q hu kp ⟨o, es, ep, t, ho, hex, hd, rfl, gd, nd, hb, hf, hr, hl⟩ sub lt hg q
    have hk := hel g hg
    obtain ⟨kv, sc⟩ := keyVal_is hk
    rw [List.map_map] at nd
    rw [List.length_map, Array.length_toList] at lt
    have eo := good_elemsOf (P := P) gd
    unfold setAdd
    refine wpAny_holding (wpAny_bind ((mixKind P w).pyHash hk ?_))
    unfold setAddHashed
    rw [show (100000 : Nat) = 99999 + 1 from rfl, setAddHashedIn_succ]
    refine wpAny_holding (wpAny_bind (wpAny_setState_of ho hd hf (wp_if_pos (byScan_of sc hb eo) ?_)))
    unfold setAddByScan
    refine wpAny_bind (wpAny_bind (wpAny_rule (wpAny_bind (wpAny_setScan_of hk ho hd hf eo ?_))))
    have isk : ∀ e ∈ es.toList, ((mixKind P w).is g.2 e.2 = true ↔ keyVal e.2 = g.2) := fun e he => by
      constructor
      · intro z; exact (keyVal_is z).1
      · intro z; rw [← z]; exact (gd e he).1
    cases hfi : List.findIdx? (fun e => (mixKind P w).is g.2 e.2) es.toList with
    | some j =>
      obtain ⟨hj, pj, _⟩ := List.findIdx?_eq_some_iff_getElem.mp hfi
      have hm : g.2 ∈ (es.toList.map fun e => (e.2, keyVal e.2)).map (·.2) := by
        rw [List.map_map]
        exact List.mem_map.mpr ⟨es.toList[j], List.getElem_mem hj, (isk _ (List.getElem_mem hj)).mp pj⟩
      refine wpAny_pure (wpAny_pure (q false s.heap (s.toks + 1) _ (Heap.SameBut.refl a s.heap) (Nat.le_succ _) ⟨o, es, ep, t, ho, hex, hd, rfl, gd, by rw [List.map_map]; exact nd, hb, hf, hr, hl⟩ (fun _ => rfl) fun z => absurd hm z))
    | none =>
      have hm : g.2 ∉ (es.toList.map fun e => (e.2, keyVal e.2)).map (·.2) := fun z => by
        rw [List.map_map] at z
        obtain ⟨e, he, ek⟩ := List.mem_map.mp z
        have c := List.findIdx?_eq_none_iff.mp hfi e he
        rw [(isk e he).mpr ek] at c
        cases c
      have pm := layNew_perm t es ((mixKind P w).hash g.2) g.1
      have f1 := layNew_fits t es ((mixKind P w).hash g.2) g.1
      have r1 := layNew_ris t es ((mixKind P w).hash g.2) g.1 hr
      have l1 := layNew_led t es ((mixKind P w).hash g.2) g.1
      dsimp only
      revert pm f1 r1 l1
      generalize layNew t es ((mixKind P w).hash g.2) g.1 = Y
      obtain ⟨es1, t1, wd, gv⟩ := Y
      intro pm f1 r1 l1
      dsimp only at pm f1 r1 l1 ⊢
      rw [Array.toList_push] at pm
      have pc : es1.toList.Perm (((mixKind P w).hash g.2, g.1) :: es.toList) := pm.trans (List.perm_append_singleton _ _)
      have gd1 : ∀ e ∈ es1.toList, rowGood w e := fun e he => by
        rcases List.mem_cons.mp (pc.mem_iff.mp he) with rfl | z
        · exact ⟨by rw [kv]; exact hk, by rw [kv]; rfl⟩
        · exact gd e z
      have pk : (es1.toList.map fun e => (e.2, keyVal e.2)).Perm (g :: es.toList.map fun e => (e.2, keyVal e.2)) := by
        have := pc.map fun e => (e.2, keyVal e.2)
        rw [List.map_cons, kv] at this
        exact this
      have nd1 : (es1.toList.map fun e => keyVal e.2).Nodup := by
        have z := (pk.map (·.2)).nodup_iff.mpr (List.nodup_cons.mpr ⟨hm, by rw [List.map_map]; exact nd⟩)
        rw [List.map_map] at z
        exact z
      have sz1 : es1.size = es.size + 1 := by rw [← Array.length_toList, pc.length_eq, List.length_cons, Array.length_toList]
      have hb1 : es1.size < scanBound := by omega
      have ld1 : w.params.followText "set-order" = true ∨ t1.led = true := by rw [l1]; exact hl
      have gw : ∀ (b : Bool) (s1 : Shared) (Q' : Unit → Shared → Prop), Q' () s1 → wpAny (model P w) A (match b with | true => rule "set.scan.the-table-gave-way" | false => pure ()) Q' E s1 := fun b s1 Q' z => by
        cases b
        · exact wpAny_pure z
        · exact wpAny_rule z
      have fin : ∀ h' L, Heap.SameBut a s.heap h' → scanS P w a h' L → L.Perm (g :: es.toList.map fun e => (e.2, keyVal e.2)) → Q true { s with heap := h', toks := s.toks + 1 } := fun h' L sb hS p =>
        q true h' _ L sb (Nat.le_succ _) hS (fun z => absurd z hm) fun _ => p
      refine wpAny_bind (gw _ _ _ ?_)
      split
      · rw [hashByValue_scannable 8 sc]
        refine wpAny_bind (wpAny_pure ?_)
        refine scan_tail (s := { s with toks := s.toks + 1 }) gw ho hex hd gd1 nd1 pk hb1 ?_ ?_ ?_ fun h' L sb hS p => wpAny_pure (fin h' L sb hS p)
        · split
          · exact f1
          · exact SetTable.fits_plain_off f1
        · split <;> exact r1
        · split <;> exact ld1
      · refine wpAny_bind (wpAny_pure ?_)
        exact scan_tail (s := { s with toks := s.toks + 1 }) gw ho hex hd gd1 nd1 pk hb1 f1 r1 ld1 fun h' L sb hS p => wpAny_pure (fin h' L sb hS p)
end
end Mini
namespace Mini
open PySem L2 PyProof.Rows PySem.W
theorem leD_trans (f : D → PyData) (a b c : D) (h1 : dataLe false f a b = true) (h2 : dataLe false f b c = true) : dataLe false f a c = true := by
  have h1 : (!dataLt (f b) (f a)) = true := h1
  have h2 : (!dataLt (f c) (f b)) = true := h2
  show (!dataLt (f c) (f a)) = true
  unfold dataLt at *
  simp only [Bool.not_eq_true'] at h1 h2 ⊢
  apply Bool.eq_false_iff.mpr
  intro h
  rcases lex_negTrans _ (keyToks (f b)) _ h with z | z
  · rw [z] at h2; cases h2
  · rw [z] at h1; cases h1
theorem leD_total (f : D → PyData) (a b : D) : (dataLe false f a b || dataLe false f b a) = true := by
  show ((!dataLt (f b) (f a)) || !dataLt (f a) (f b)) = true
  unfold dataLt
  cases h : PyProof.Rows.lexLt itemOrd (keyToks (f b)) (keyToks (f a)) with
  | false => rfl
  | true =>
    cases h2 : PyProof.Rows.lexLt itemOrd (keyToks (f a)) (keyToks (f b)) with
    | false => rfl
    | true =>
      have := lex_trans _ _ _ h h2
      rw [lex_irrefl] at this
      cases this
theorem leD_anti (f : D → PyData) {a b : D} (h1 : dataLe false f a b = true) (h2 : dataLe false f b a = true) : keyToks (f a) = keyToks (f b) := by
  have h1 : (!dataLt (f b) (f a)) = true := h1
  have h2 : (!dataLt (f a) (f b)) = true := h2
  unfold dataLt at *
  simp only [Bool.not_eq_true'] at h1 h2
  exact lex_total _ _ h2 h1
theorem sort_perm (f : D → PyData) {xs ys : List D} (p : xs.Perm ys) (inj : ∀ a ∈ xs, ∀ b ∈ xs, keyToks (f a) = keyToks (f b) → a = b) : xs.mergeSort (dataLe false f) = ys.mergeSort (dataLe false f) := by
  have p1 := List.mergeSort_perm xs (dataLe false f)
  have p2 := List.mergeSort_perm ys (dataLe false f)
  refine List.Perm.eq_of_pairwise (le := fun a b => dataLe false f a b = true) (fun a b ha hb h1 h2 => ?_) (List.pairwise_mergeSort (leD_trans f) (leD_total f) xs) (List.pairwise_mergeSort (leD_trans f) (leD_total f) ys) (p1.trans (p.trans p2.symm))
  exact inj a (p1.mem_iff.mp ha) b (p.symm.mem_iff.mp (p2.mem_iff.mp hb)) (leD_anti f h1 h2)
theorem keyOf_eq {d : D} {k : Key} (e : keyOf d = some k) : d = kD k := by
  cases d <;> simp only [keyOf] at e <;> cases e <;> rfl
theorem keysOf_eq : ∀ {ds : List D} {ks : List Key}, keysOf ds = some ks → ds = ks.map kD
  | [], _, e => by rw [keysOf] at e; cases e; rfl
  | d :: ds, _, e => by
    rw [keysOf] at e
    obtain ⟨k, e1, e⟩ := Option.bind_eq_some_iff.mp e
    obtain ⟨ks, e2, e⟩ := Option.map_eq_some_iff.mp e
    subst e
    rw [keyOf_eq e1, keysOf_eq e2]; rfl
theorem tkeyOf_eq {d : D} {k : List Key} (e : tkeyOf d = some k) : d = tkD k := by
  cases d <;> simp only [tkeyOf] at e <;> try cases e
  rw [keysOf_eq e]; rfl
theorem keyOf_kD (k : Key) : keyOf (kD k) = some k := by cases k <;> rfl
theorem keysOf_map : ∀ ks : List Key, keysOf (ks.map kD) = some ks
  | [] => rfl
  | k :: ks => by rw [List.map_cons, keysOf, keyOf_kD, keysOf_map ks]; rfl
theorem tkeyOf_tkD (ks : List Key) : tkeyOf (tkD ks) = some ks := keysOf_map ks
def kP : Key → PyData
  | .inl i => .int i
  | .inr x => .str x
theorem dP_kD (g : Nat → Option PyData) (k : Key) : dP g (kD k) = some (kP k) := by cases k <;> rfl
theorem dPs_kD (g : Nat → Option PyData) : ∀ ks : List Key, dPs g (ks.map kD) = some (ks.map kP)
  | [] => rfl
  | k :: ks => by rw [List.map_cons, dPs, dP_kD, dPs_kD g ks]; rfl
theorem enc_kD (S : Store) (k : Key) : encD S (kD k) = kP k := encD_of (dP_kD _ k)
theorem enc_tkD (S : Store) (ks : List Key) : encD S (tkD ks) = .tuple (ks.map kP) := encD_of (by unfold toP tkD; rw [dP, dPs_kD]; rfl)
theorem str_toks {x y : Str} (h : x.cps.toList = y.cps.toList) : x = y := by
  cases x; cases y
  simp only at h
  rw [Array.toList_inj.mp h]
theorem toks_kP {k j : Key} (h : keyToks (kP k) = keyToks (kP j)) : k = j := by
  cases k <;> cases j <;> simp only [kP, keyToks, List.cons.injEq, Sum.inl.injEq, Sum.inr.injEq, and_true, reduceCtorEq] at h
  · rw [h]
  · rw [str_toks h]
theorem toks_kPs : ∀ {ks js : List Key}, keyToksAll (ks.map kP) = keyToksAll (js.map kP) → ks = js
  | [], [], _ => rfl
  | [], _ :: _, h => by simp [keyToksAll] at h
  | _ :: _, [], h => by simp [keyToksAll] at h
  | k :: ks, j :: js, h => by
    have one : ∀ k : Key, ∃ t, keyToks (kP k) = [t] := fun k => by cases k <;> exact ⟨_, rfl⟩
    obtain ⟨t, et⟩ := one k
    obtain ⟨u, eu⟩ := one j
    simp only [List.map_cons, keyToksAll, et, eu, List.cons_append, List.nil_append, List.cons.injEq, true_and] at h
    obtain ⟨h1, h2⟩ := h
    rw [toks_kP (k := k) (j := j) (by rw [et, eu, h1]), toks_kPs h2]
def sameK (d e : D) : Bool := decide (keyOf d = keyOf e) && decide (tkeyOf d = tkeyOf e)
def dedup : List D → List D
  | [] => []
  | d :: r => if r.any (sameK d) then dedup r else d :: dedup r
def setOk (ys : List D) : Bool := (ys.all (fun d => (tkeyOf d).isSome) && decide (ys.length < 64)) || (ys.all (fun d => (keyOf d).isSome) && decide (ys.length < 4096))
def nSortSet : PN := fun xs S => match xs with
  | [d] => match itemsOf S d with
    | some ys => if setOk ys && sortOk S (dedup ys) then newL (sortD S (dedup ys)) S else none
    | none => none
  | _ => none
def Kd (d : D) : Prop := (∃ k, d = kD k) ∨ ∃ ks, d = tkD ks
theorem sameK_eq {d e : D} (hd : Kd d) (he : Kd e) (h : sameK d e = true) : d = e := by
  simp only [sameK, Bool.and_eq_true, decide_eq_true_eq] at h
  rcases hd with ⟨k, rfl⟩ | ⟨k, rfl⟩
  · rw [keyOf_kD] at h
    exact (keyOf_eq h.1.symm).symm
  · rw [tkeyOf_tkD] at h
    exact (tkeyOf_eq h.2.symm).symm
theorem sameK_refl (d : D) : sameK d d = true := by simp [sameK]
theorem dedup_mem : ∀ {ys : List D}, (∀ d ∈ ys, Kd d) → ∀ d, d ∈ dedup ys ↔ d ∈ ys
  | [], _, d => by simp [dedup]
  | y :: ys, h, d => by
    have ih := dedup_mem (ys := ys) (fun e he => h e (List.mem_cons_of_mem _ he)) d
    unfold dedup
    split
    · rename_i hy
      obtain ⟨e, he, hs⟩ := List.any_eq_true.mp hy
      obtain rfl := sameK_eq (h y List.mem_cons_self) (h e (List.mem_cons_of_mem _ he)) hs
      rw [ih, List.mem_cons]
      exact ⟨.inr, fun z => z.elim (fun z => by rw [z]; exact he) id⟩
    · rw [List.mem_cons, List.mem_cons, ih]
theorem dedup_nodup : ∀ {ys : List D}, (∀ d ∈ ys, Kd d) → (dedup ys).Nodup
  | [], _ => List.nodup_nil
  | y :: ys, h => by
    have h' : ∀ d ∈ ys, Kd d := fun e he => h e (List.mem_cons_of_mem _ he)
    unfold dedup
    split
    · exact dedup_nodup h'
    · rename_i hy
      refine List.nodup_cons.mpr ⟨fun z => hy ?_, dedup_nodup h'⟩
      exact List.any_eq_true.mpr ⟨y, (dedup_mem h' y).mp z, sameK_refl y⟩
theorem perm_of_map {α β : Type} (f : α → β) {out rows : List β} (p : rows.Perm out) : ∀ {L : List α}, rows = L.map f → ∃ L' : List α, out = L'.map f ∧ L'.Perm L := by
  induction p with
  | nil => intro L e; exact ⟨[], rfl, by cases L with
    | nil => exact .nil
    | cons => cases e⟩
  | cons x _ ih =>
    intro L e
    cases L with
    | nil => cases e
    | cons a L =>
      rw [List.map_cons] at e
      injection e with e1 e2
      obtain ⟨L', h1, h2⟩ := ih e2
      exact ⟨a :: L', by rw [List.map_cons, ← e1, h1], h2.cons a⟩
  | swap x y l =>
    intro L e
    match L, e with
    | a :: b :: L, e =>
      simp only [List.map_cons, List.cons.injEq] at e
      obtain ⟨e1, e2, e3⟩ := e
      exact ⟨b :: a :: L, (by rw [e1, e2, e3]; rfl), .swap a b L⟩
  | trans _ _ ih1 ih2 =>
    intro L e
    obtain ⟨L1, h1, p1⟩ := ih1 e
    obtain ⟨L2, h2, p2⟩ := ih2 h1
    exact ⟨L2, h2, p2.trans p1⟩
theorem sortOk_perm {S : Store} {xs ys : List D} (p : xs.Perm ys) (h : sortOk S ys = true) : sortOk S xs = true := by
  have al : ∀ (q : D → Bool), xs.all q = ys.all q := fun q => by
    rw [Bool.eq_iff_iff, List.all_eq_true, List.all_eq_true]
    exact ⟨fun z d hd => z d (p.mem_iff.mpr hd), fun z d hd => z d (p.mem_iff.mp hd)⟩
  unfold sortOk at h ⊢
  rw [p.length_eq]
  simp only [al]
  exact h
section
variable {X : Cx} {pins : List (Addr × Obj)} {σ : L2.St} {H : Hp} {s : Shared} {ι : List Addr} {S : Store}
theorem items_keyed {P : Program} {w : World} : ∀ {ks : List Key} {us : List Value}, Vals (ks.map kV) us → ItemsAre (mixKind P w) ks us
  | [], _, .nil => .nil
  | k :: ks, _, .cons r t => by
    refine .cons ?_ (items_keyed t)
    cases k with
    | inl i => obtain ⟨tk, rfl⟩ := r; exact mixKind_int P w i tk
    | inr x => obtain ⟨tk, rfl⟩ := r; exact mixKind_str P w x tk
theorem Inv.tupKey (I : L2.Inv X pins σ H s) {b : Addr} {ks : List Key} (h : H b = some (.tup (ks.map kV))) : (tupEl X.prog X.w).kd.is s.heap ks b := by
  obtain ⟨its, va, tp, _⟩ := I.tuple (.of h)
  obtain ⟨o, e, c, n, d⟩ := id tp
  exact ⟨o, _, n, e, c, d, by simpa using items_keyed va⟩
def Coll (X : Cx) (pins : List (Addr × Obj)) (σ : L2.St) (H : Hp) (ι : List Addr) (a : Addr) (ys : List D) (s : Shared) : Prop := ∀ (Q' : List Value → Shared → Prop) (E' : Value → Shared → Prop),
  (∀ s' us zs, L2.Inv X pins σ H s' → zs.Perm (dedup ys) → EachIs (fun u d => ∃ v, L2.RelV v u ∧ Rep (cf X) H ι d v) us zs → Q' us s') → wpAny (model X.prog X.w) X.A.in1 (collect (.ref a)) Q' E' s
theorem tup_items (I : L2.Inv X pins σ H s) : ∀ {ys : List D} {vs : List V} {us : List Value}, Reps (cf X) H ι ys vs → Vals vs us → (∀ d ∈ ys, (tkeyOf d).isSome = true) →
    ∃ its : List (Addr × List Key), us = its.map (fun p => Value.ref p.1) ∧ ys = its.map (fun p => tkD p.2) ∧ ∀ p ∈ its, (tupEl X.prog X.w).kd.is s.heap p.2 p.1 ∧ Rep (cf X) H ι (tkD p.2) (.ref p.1)
  | _, _, _, .nil, .nil, _ => ⟨[], rfl, rfl, fun _ h => nomatch h⟩
  | _, _, _, .cons a b, .cons r t, h => by
    obtain ⟨its, e1, e2, e3⟩ := tup_items I b t fun d hd => h d (List.mem_cons_of_mem _ hd)
    obtain ⟨ks, ek⟩ := Option.isSome_iff_exists.mp (h _ List.mem_cons_self)
    obtain ⟨c, ec, hc⟩ := tkeyOf_rep a ek
    subst ec
    cases r
    obtain rfl := tkeyOf_eq ek
    refine ⟨(c, ks) :: its, by rw [e1]; rfl, by rw [e2]; rfl, fun p hp => ?_⟩
    rcases List.mem_cons.mp hp with rfl | hp
    · exact ⟨Inv.tupKey I hc, a⟩
    · exact e3 p hp
theorem txt_items : ∀ {ys : List D} {vs : List V} {us : List Value}, Reps (cf X) H ι ys vs → Vals vs us → (∀ d ∈ ys, (keyOf d).isSome = true) →
    ∃ its : List (Value × Key), us = its.map (fun p => p.1) ∧ ys = its.map (fun p => kD p.2) ∧ ∀ p ∈ its, keyIs p.2 p.1 = true ∧ ∃ v, L2.RelV v p.1 ∧ Rep (cf X) H ι (kD p.2) v
  | _, _, _, .nil, .nil, _ => ⟨[], rfl, rfl, fun _ h => nomatch h⟩
  | _, _, _, .cons a b, .cons r t, h => by
    obtain ⟨its, e1, e2, e3⟩ := txt_items b t fun d hd => h d (List.mem_cons_of_mem _ hd)
    obtain ⟨k, ek⟩ := Option.isSome_iff_exists.mp (h _ List.mem_cons_self)
    have ev := keyOf_rep a ek
    subst ev
    obtain rfl := keyOf_eq ek
    refine ⟨(_, k) :: its, by rw [e1]; rfl, by rw [e2]; rfl, fun p hp => ?_⟩
    rcases List.mem_cons.mp hp with rfl | hp
    · refine ⟨?_, _, r, a⟩
      cases k with
      | inl i => obtain ⟨tk, rfl⟩ := r; exact keyIs_int i tk
      | inr x => obtain ⟨tk, rfl⟩ := r; exact keyIs_str x tk
    · exact e3 p hp
theorem perm_dedup {γ κ : Type} {key : γ → κ} {its L : List γ} {f : γ → D} {ys : List D} (g : Has key its its.length L) (ey : ys = its.map f) (kd : ∀ d ∈ ys, Kd d) (inj : ∀ p ∈ its, ∀ q ∈ its, f p = f q ↔ key p = key q) : (L.map f).Perm (dedup ys) := by
  have tk : its.take its.length = its := List.take_length
  have sub := g.sub
  have all := g.all
  rw [tk] at sub all
  have nd : (L.map f).Nodup := by
    have := g.nd
    unfold List.Nodup at this ⊢
    rw [List.pairwise_map] at this ⊢
    refine List.Pairwise.imp_of_mem (fun {p q} hp hq h z => h ((inj p (sub p hp) q (sub q hq)).mp z)) this
  refine (List.perm_ext_iff_of_nodup nd (dedup_nodup kd)).mpr fun d => ?_
  rw [dedup_mem kd, ey, List.mem_map, List.mem_map]
  constructor
  · rintro ⟨p, hp, rfl⟩
    exact ⟨p, sub p hp, rfl⟩
  · rintro ⟨p, hp, rfl⟩
    obtain ⟨q, hq, e⟩ := List.mem_map.mp (all p hp)
    exact ⟨q, hq, (inj q (sub q hq) p hp).mpr e⟩
theorem each_map_of {γ : Type} {R : Value → D → Prop} {val : γ → Value} {f : γ → D} : ∀ {L : List γ}, (∀ p ∈ L, R (val p) (f p)) → EachIs R (L.map val) (L.map f)
  | [], _ => .nil
  | p :: L, h => .cons (h p List.mem_cons_self) (each_map_of fun q hq => h q (List.mem_cons_of_mem _ hq))
theorem Inv.kept2 {s' : Shared} (I : L2.Inv X pins σ H s) (k : ∀ b o, s.heap.get? b = some o → s'.heap.get? b = some o) (g : s'.gens = s.gens) (o : s'.os = s.os) : L2.Inv X pins σ H s' := by
  obtain ⟨h', g', d', t', o'⟩ := s'
  obtain rfl : g' = s.gens := g
  obtain rfl : o' = s.os := o
  exact I.call (ch := []) (Un.kept k) (I.hok.kept k) I.bare fun _ z => nomatch z
theorem set_call (hc : X.calm = true) (hu : X.A.units + 64 < cLine) (I : L2.Inv X pins σ H s) (sm : Sim (cf X) ι S H) {l : Addr} {us : List Value} {ys : List D} {vs : List V} {T : String} {itO : Obj} {St : Addr → Nat → Heap → Prop} (Y : Src X.prog X.w s.heap l us.toArray T itO St) (rs : Reps (cf X) H ι ys vs) (va : Vals vs us) (ok : setOk ys = true) {Q : Value → Shared → Prop}
    (q : ∀ a s', L2.Inv X pins σ H s' → Coll X pins σ H ι a ys s' → Q (.ref a) s') : wpAny (model X.prog X.w) X.A (call (.type "set") [.ref l]) Q X.xe s := by
  have hh := I.ok.hd hc
  unfold setOk at ok
  simp only [Bool.or_eq_true, Bool.and_eq_true, List.all_eq_true, decide_eq_true_eq] at ok
  rcases ok with ⟨k1, k2⟩ | ⟨k1, k2⟩
  · obtain ⟨its, e1, e2, e3⟩ := tup_items I rs va k1
    have il : its.length = ys.length := by rw [e2, List.length_map]
    refine set_made Y (fills_tup (a := s.heap.objs.size) (fun p hp => (e3 p hp).1) (by omega)) (by simp [e1]) hh (by omega) fun h' tk L hS g kp => ?_
    have I2 : L2.Inv X pins σ H { s with heap := h', toks := tk } := I.kept kp
    refine q _ _ I2 fun Q' E' go => ?_
    obtain ⟨es, ep, t, R⟩ := hS
    obtain ⟨o, ho, hex, hd⟩ := R.ob
    have few := R.few
    have bound : es.size < scanBound := by rw [R.len]; exact Nat.lt_trans few (by decide)
    refine collect_set (s := { s with heap := h', toks := tk }) hh ⟨o, ho, hex.1, hd⟩ R.fit bound R.tab.ris R.led fun s3 out k3 sz3 g3 o3 pm => ?_
    have rows : es.toList.map (·.2) = L.map fun p => Value.ref p.1 := by rw [R.rows, List.map_map]; rfl
    rw [rows] at pm
    obtain ⟨L', rfl, pL⟩ := perm_of_map (fun p : Addr × List Key => Value.ref p.1) pm.symm rfl
    have kd : ∀ d ∈ ys, Kd d := fun d hd => by
      obtain ⟨ks, ek⟩ := Option.isSome_iff_exists.mp (k1 d hd)
      exact .inr ⟨ks, tkeyOf_eq ek⟩
    have inj : ∀ p ∈ its, ∀ q ∈ its, tkD p.2 = tkD q.2 ↔ p.2 = q.2 := fun p _ q _ => ⟨fun z => by
      have := congrArg tkeyOf z
      rw [tkeyOf_tkD, tkeyOf_tkD] at this
      exact Option.some.inj this, fun z => by rw [z]⟩
    have pd := perm_dedup (f := fun p : Addr × List Key => tkD p.2) g e2 kd inj
    have sub : ∀ p ∈ L', p ∈ its := fun p hp => by
      have := g.sub p (pL.mem_iff.mp hp)
      rwa [List.take_length] at this
    refine go s3 _ (L'.map fun p => tkD p.2) (Inv.kept2 I2 k3 g3 o3) ((pL.map _).trans pd) (each_map_of fun p hp => ?_)
    exact ⟨.ref p.1, rfl, (e3 p (sub p hp)).2⟩
  · obtain ⟨its, e1, e2, e3⟩ := txt_items rs va k1
    have il : its.length = ys.length := by rw [e2, List.length_map]
    have e1' : us.toArray.toList = its.map (fun p => p.1) := by simp [e1]
    refine set_made Y (fills_txt (h0 := s.heap) (a := s.heap.objs.size) (fun p hp => (e3 p hp).1) (show its.length < 4096 by omega)) e1' hh (by omega) fun h' tk L hS g kp => ?_
    have I2 : L2.Inv X pins σ H { s with heap := h', toks := tk } := I.kept kp
    refine q _ _ I2 fun Q' E' go => ?_
    obtain ⟨o, es, ep, t, ho, hex, hd, rfl, gd, nd, hb, hf, hr, hl⟩ := hS
    refine collect_set (s := { s with heap := h', toks := tk }) hh ⟨o, ho, hex.1, hd⟩ hf hb hr hl fun s3 out k3 sz3 g3 o3 pm => ?_
    have rows : es.toList.map (·.2) = (es.toList.map fun e => (e.2, keyVal e.2)).map (·.1) := by rw [List.map_map]; rfl
    rw [rows] at pm
    generalize es.toList.map (fun e => (e.2, keyVal e.2)) = L at g pm
    obtain ⟨L', rfl, pL⟩ := perm_of_map (fun p : Value × Key => p.1) pm.symm rfl
    have kd : ∀ d ∈ ys, Kd d := fun d hd => by
      obtain ⟨k, ek⟩ := Option.isSome_iff_exists.mp (k1 d hd)
      exact .inl ⟨k, keyOf_eq ek⟩
    have inj : ∀ p ∈ its, ∀ q ∈ its, kD p.2 = kD q.2 ↔ p.2 = q.2 := fun p _ q _ => ⟨fun z => by
      have := congrArg keyOf z
      rw [keyOf_kD, keyOf_kD] at this
      exact Option.some.inj this, fun z => by rw [z]⟩
    have pd := perm_dedup (f := fun p : Value × Key => kD p.2) g e2 kd inj
    have sub : ∀ p ∈ L', p ∈ its := fun p hp => by
      have := g.sub p (pL.mem_iff.mp hp)
      rwa [List.take_length] at this
    exact go s3 _ (L'.map fun p => kD p.2) (Inv.kept2 I2 k3 g3 o3) ((pL.map _).trans pd) (each_map_of fun p hp => (e3 p (sub p hp)).2)
theorem kd_toks {S : Store} {ys : List D} (ok : setOk ys = true) : (∀ d ∈ ys, Kd d) ∧ ∀ a ∈ ys, ∀ b ∈ ys, keyToks (encD S a) = keyToks (encD S b) → a = b := by
  unfold setOk at ok
  simp only [Bool.or_eq_true, Bool.and_eq_true, List.all_eq_true, decide_eq_true_eq] at ok
  rcases ok with ⟨k1, _⟩ | ⟨k1, _⟩
  · have h : ∀ d ∈ ys, ∃ ks, d = tkD ks := fun d hd => let ⟨ks, e⟩ := Option.isSome_iff_exists.mp (k1 d hd); ⟨ks, tkeyOf_eq e⟩
    refine ⟨fun d hd => .inr (h d hd), fun a ha b hb e => ?_⟩
    obtain ⟨ks, rfl⟩ := h a ha
    obtain ⟨js, rfl⟩ := h b hb
    rw [enc_tkD, enc_tkD] at e
    rw [toks_kPs e]
  · have h : ∀ d ∈ ys, ∃ k, d = kD k := fun d hd => let ⟨ks, e⟩ := Option.isSome_iff_exists.mp (k1 d hd); ⟨ks, keyOf_eq e⟩
    refine ⟨fun d hd => .inl (h d hd), fun a ha b hb e => ?_⟩
    obtain ⟨ks, rfl⟩ := h a ha
    obtain ⟨js, rfl⟩ := h b hb
    rw [enc_kD, enc_kD] at e
    rw [toks_kP e]
theorem boot_sorted1 : bootBuiltins "sorted" = some (.builtin "sorted") := by decide +kernel
theorem se_sortSet {W : WX} {fe : ME} {e : Expr} {p p2 q pos : Pos} (hc : X.calm = true) (hu : X.A.units + 64 < cLine) (hg : Gl X "sorted") (hm : X.mg "sorted" = none) (hg2 : Gl X "set") (hm2 : X.mg "set" = none) (he : PE X e (tE (cf X) W fe))
    (na : starEach [e] X.env = (false, eval e X.env) :: starEach [] X.env := by rfl) : PE X (.Call (.Name "sorted" p) [.Call (.Name "set" p2) [e] [] q] [] pos) (tE (cf X) W (eB nSortSet (aCons fe aNil))) := by
  refine ⟨fun pins s σ H Q I ⟨ι, S, ρ, sm, en, qq⟩ => ?_⟩
  refine Call_ (ld_blt I hg hm boot_sorted1 ?_)
  refine PyProof.Rows.callWith_builtin1 (PyProof.Rows.args_cons ?_ rfl) rfl rfl
  refine Call_ (ld_blt I hg2 hm2 PyProof.Rows.boot_set ?_)
  unfold eB aCons at qq
  refine PyProof.Rows.callWith_type1 (PyProof.Rows.args_cons (thn (he.run pins s σ H (fun x H1 => ∃ ι1 S1 d, Sim (cf X) ι1 S1 H1 ∧ Rep (cf X) H1 ι1 d x ∧ Fin (cf X) ι1 H1 Q (nSortSet [d] S1)) I ⟨ι, S, ρ, sm, en, ?_⟩) fun v s1 ⟨x, H1, I1, r1, q1⟩ => PyProof.Rows.args_nil ?_) na) na rfl
  · have qq' : post (RD (cf X)) (cf X) W ι H σ Q (bnd (fe ρ) (fun a => fun S => lift (nSortSet [a] S)) S) := by
      have : bnd (bnd (fe ρ) fun a => bnd (aNil ρ) fun as => pur (a :: as)) (fun xs S => lift (nSortSet xs S)) S = bnd (fe ρ) (fun a => fun S => lift (nSortSet [a] S)) S := by
        unfold bnd aNil pur
        cases fe ρ S <;> rfl
      rw [← this]
      exact qq
    exact post_bnd qq' fun a S1 ι1 H1 x e1 st1 sm1 r1 p1 => ⟨ι1, S1, a, sm1, r1, fin_of p1⟩
  · obtain ⟨ι1, S1, d, sm1, rd, d', S', e2, k⟩ := q1
    have q0 := e2
    unfold nSortSet at e2
    simp only at e2
    split at e2
    · rename_i ys hy
      split at e2
      · rename_i hs
        rw [Bool.and_eq_true] at hs
        obtain ⟨pl, vs, rfl, hq, rs⟩ := itemsOf_ok sm1 rd hy
        cases r1
        have f2 : Fin (cf X) ι1 H1 Q (newL (sortD S1 (dedup ys)) S1) := ⟨d', S', e2, k⟩
        obtain ⟨kd, inj⟩ := kd_toks (S := S1) hs.1
        have fin : ∀ a s', L2.Inv X pins σ H1 s' → Coll X pins σ H1 ι1 a ys s' → wpAny (model X.prog X.w) X.A (call (.builtin "sorted") [.ref a]) (EP X pins σ Q) X.xe s' := fun a s' I2 co => by
          refine sorted_core (S := S1) (zs := sortD S1 (dedup ys)) (Ok := fun zs => zs.Perm (dedup ys)) sm1 hu co (fun zs hz => ⟨sortOk_perm hz hs.2, sort_perm _ hz fun a ha b hb => ?_⟩) fun vs p rz hp => (f2.lst sm1 rz).2 p hp
          exact inj a ((dedup_mem kd a).mp (hz.mem_iff.mp ha)) b ((dedup_mem kd b).mp (hz.mem_iff.mp hb))
        rcases hq with hq | hq
        · obtain ⟨its, va, tp, _⟩ := I1.list hq
          exact set_call hc hu I1 sm1 (src_list tp.isList) rs va hs.1 fun a s' I2 co => PyProof.Rows.args_nil (fin a s' I2 co)
        · obtain ⟨its, va, tp, _⟩ := I1.tuple hq
          exact set_call hc hu I1 sm1 (src_tup (show Heap.IsTuple s1.heap pl its.toArray from tp)) rs va hs.1 fun a s' I2 co => PyProof.Rows.args_nil (fin a s' I2 co)
      · cases e2
    · cases e2
end
end Mini
namespace Mini
open PySem L2 PyProof.Rows
abbrev Suite := Addr → Value → Option Addr → TS
def gone (i : Option Nat) (D : Ends) : Ends := match i with
  | none => D
  | some i => { nx := fun σ H => D.nx (σ.set i none) H, rt := D.rt, bk := fun σ H => D.bk (σ.set i none) H, ct := fun σ H => D.ct (σ.set i none) H }
def bound (i : Option Nat) (a : Addr) (σ : L2.St) : L2.St := match i with
  | none => σ
  | some i => σ.set i (some (.ref a))
def wCl (K : PySem.W.Frag) (Wout : WX) (D : Ends) : List (Value × Option Nat × Suite) → WX
  | [] => Wout
  | (c, i, ts) :: r => fun cls d σ H => ∃ b, PySem.W.exmOne K cls c = some b ∧ (b = true → ∀ a, H a = none → ts a cls d (gone i D) (bound i a σ) H) ∧ (b = false → wCl K Wout D r cls d σ H)
inductive Clauses (X : Cx) : List ExceptHandler → List (Value × Option Nat × Suite) → Prop
  | nil : Clauses X [] []
  | only {x : Str} {c : Value} {ts : Suite} {b : Stmt} {bs : List Stmt} {p1 p2 : Pos} {hs : List ExceptHandler} {l : List (Value × Option Nat × Suite)} (nm : Names X x c)
      (su : ∀ (a : Addr) (oe : Obj) (cls : Value) (d : Option Addr) (pn : List (Addr × Obj)), Zc cls d oe → (∃ vs, oe.data = .fields vs) → PSs (X.suite a ((a, oe) :: pn)) (b :: bs) (ts a cls d)) (r : Clauses X hs l) :
      Clauses X (.ExceptHandler (some (.Name x p1)) none (b :: bs) p2 :: hs) ((c, none, ts) :: l)
  | as {x n : Str} {i : Nat} {c : Value} {ts : Suite} {b : Stmt} {bs : List Stmt} {p1 p2 : Pos} {hs : List ExceptHandler} {l : List (Value × Option Nat × Suite)} (nm : Names X x c) (hi : X.N[i]? = some n) (hl : X.env.kindOf n = some .local)
      (su : ∀ (a : Addr) (oe : Obj) (cls : Value) (d : Option Addr) (pn : List (Addr × Obj)), Zc cls d oe → (∃ vs, oe.data = .fields vs) → PSs (X.suite a ((a, oe) :: pn)) (b :: bs) (ts a cls d)) (r : Clauses X hs l) :
      Clauses X (.ExceptHandler (some (.Name x p1)) (some n) (b :: bs) p2 :: hs) ((c, some i, ts) :: l)
section
variable {X : Cx} {body : List Stmt} {h1 : ExceptHandler} {hs : List ExceptHandler} {l : List (Value × Option Nat × Suite)} {pos : Pos} {tb : WX → TS} {Wout : WX}
theorem ps_clauses (st : X.stack = X.env :: X.outer) (fr : X.env.frame = some X.env.locals) (nd : X.N.Nodup) (tk : Takes X Wout)
    (hb : ∀ (W : WX) (pn : List (Addr × Obj)) (xe : Value → Shared → Prop), Takes (X.tr pn xe) W → PassesOwn (model X.prog X.w) X.A X.env xe → PSs (X.tr pn xe) body (tb W))
    (cl : Clauses X (h1 :: hs) l) : PS X (.Try body (h1 :: hs) [] [] pos) (fun D σ H => tb (wCl X.K Wout D l) D σ H) := by
  constructor
  intro pins s σ H D I q
  have ok := I.ok
  have fr2 : X.A.frames = some (X.env :: X.outer) := by rw [← st]; exact ok.frames
  let ctch : Value → Shared → Prop := fun e z1 => wpAny (model X.prog X.w) X.A (noteFrame e X.env) (fun _ z2 => wpAny (model X.prog X.w) X.A (setFlight e none)
    (fun _ z3 => wpAny (model X.prog X.w) X.A (handleBy e X.env (h1 :: hs)) (SP X pins D) X.xe z3) X.xe z2) X.xe z1
  have caught : Takes (X.tr (X.pn ++ pins) ctch) (wCl X.K Wout D l) := by
    rintro u z ⟨a, B, zI, pins', σ2, H2, cls, d, rfl, J0, nb, up, sky, na, os, ag, wish⟩
    have J : Inv X pins σ2 H2 zI := J0.ofTry ok
    have sky2 : Sky B (X.env :: X.outer) a (Zc cls d) X.env.locals z.heap := by rw [← st]; exact sky
    refine Sky.land Zc.steady fr2 fr sky2 fun g3 fl3 up3 => ?_
    have J3 : Inv X pins σ2 H2 { z with heap := g3 } := J.landed nb fl3.1 (up.trans up3) os ag
    obtain ⟨oe, vs, eo, zo, do_⟩ := fl3.there
    have nofr : a ∉ frs (X.env :: X.outer) := fun m => by
      obtain ⟨_, ob, e, nf⟩ := fl3.2.2.1.mem m
      rw [eo] at e
      cases e
      exact nf _ do_
    have nL : a ≠ X.env.locals := fun e => nofr (List.mem_filterMap.mpr ⟨X.env, List.mem_cons_self, by rw [fr, e]⟩)
    have nF : a ∉ X.fs := fun m => by
      obtain ⟨v, hv, e⟩ := List.mem_filterMap.mp m
      exact nofr (List.mem_filterMap.mpr ⟨v, List.mem_cons_of_mem _ hv, e⟩)
    have S3 := J3.suite eo do_ na nL nF
    have looks : PySem.W.Looks (model X.prog X.w) g3 (typeOf (.ref a)) cls := fun A Q E y k q => wpAny_typeOf_ref (k _ _ eo) (by rw [zo.1]; exact q)
    have clsTest : ∀ {x : Str} {c : Value} {p : Pos} {Q : Value → Shared → Prop} {E : Value → Shared → Prop}, Names X x c → Q c { z with heap := g3 } → wpAny (model X.prog X.w) (X.A.mark (some (.ref a))) (eval (.Name x p) X.env) Q E { z with heap := g3 } := by
      rintro x c p Q E ⟨hg, hd, hm | ⟨hm, hv, hn⟩⟩ q
      · exact ld_glob (X := X.suite a ((a, oe) :: (X.pn ++ pins))) S3 hg hm q hd
      · exact ld_blt (X := X.suite a ((a, oe) :: (X.pn ++ pins))) S3 hg hm hv q hn hd
    have go : ∀ {hs' : List ExceptHandler} {l' : List (Value × Option Nat × Suite)}, Clauses X hs' l' → wCl X.K Wout D l' cls d σ2 H2 → wpAny (model X.prog X.w) X.A (handleBy (.ref a) X.env hs') (SP X pins D) X.xe { z with heap := g3 } := by
      intro hs' l' k
      induction k with
      | nil =>
        intro w
        refine wpAny_handleBy_nil ?_
        obtain ⟨_, _, _, o5, v5, T5, _, _, e5, z5, d5, f5, _⟩ := id fl3
        have last : wpAny (model X.prog X.w) X.A (setFlight (.ref a) X.env.frame) (fun _ y => wpAny (model X.prog X.w) X.A (throw (.ref a) : Sem Flow) (SP X pins D) X.xe y) X.xe { z with heap := g3 } := by
          rw [fr]
          refine HandSPX.setFlight_upZ fl3 fun g4 held up4 => wpAny_throw (tk _ _ ⟨a, B, zI, pins, σ2, H2, cls, d, rfl, J, nb, (up.trans up3).trans up4, .inr (.inr ?_), na, os, ag, w⟩)
          rw [st]; exact held
        unfold PySem.passOn
        refine wpAny_bind (wpAny_field e5 d5 f5 ?_)
        have nn : ¬ ((Value.ref T5 == Value.none) = true) := by simp
        rw [if_neg nn]
        first
          | exact wpAny_bind (wpAny_pure (wpAny_bind last))
          | exact wpAny_bind last
      | only nm su r ih =>
        rintro ⟨b, e1, yes, no⟩
        refine wpAny_handleBy_cons (codeAny_handlers_test (clsTest nm ((PySem.W.exm_one (M := model X.prog X.w) J3.kIn looks e1).here ?_))) (fun e => nomatch e)
        cases b with
        | false => exact ih (no rfl)
        | true =>
          refine codeAny_handlers_suite (HandSPX.lands_againZ fl3 fun g4 fl4 up4 => ?_)
          have J4 : Inv X pins σ2 H2 { z with heap := g4 } := J.landed nb fl4.1 ((up.trans up3).trans up4) os ag
          obtain ⟨o4, v4, e4, z4, d4⟩ := fl4.there
          refine wpAny_mono ((su a o4 cls d (X.pn ++ pins) z4 ⟨_, d4⟩).run [] _ _ H2 _ (J4.suite e4 d4 na nL nF) (yes rfl a na)) (fun f y hy => ?_) fun _ _ h => h.elim
          match f, hy with
          | .next, ⟨σ6, H6, S6, q6⟩ => exact ⟨_, _, S6.unsuite ok, q6⟩
          | .brk, ⟨σ6, H6, S6, q6⟩ => exact ⟨_, _, S6.unsuite ok, q6⟩
          | .cont, ⟨σ6, H6, S6, q6⟩ => exact ⟨_, _, S6.unsuite ok, q6⟩
          | .ret _, ⟨v6, σ6, H6, S6, r6, q6⟩ => exact ⟨_, _, _, S6.unsuite ok, r6, q6⟩
      | @as x n i c ts b bs p1 p2 hs2 l2 nm hi hl su r ih =>
        rintro ⟨b, e1, yes, no⟩
        refine wpAny_handleBy_cons (codeAny_handlers_test (clsTest nm ((PySem.W.exm_one (M := model X.prog X.w) J3.kIn looks e1).here ?_))) (fun e => nomatch e)
        cases b with
        | false => exact ih (no rfl)
        | true =>
          refine codeAny_handlers_suite_as (HandSPX.lands_againZ fl3 fun g4 fl4 up4 => ?_)
          have J4 : Inv X pins σ2 H2 { z with heap := g4 } := J.landed nb fl4.1 ((up.trans up3).trans up4) os ag
          obtain ⟨o4, v4, e4, z4, d4⟩ := fl4.there
          refine store_ok (X := X.suite a ((a, o4) :: (X.pn ++ pins))) (v := .ref a) (J4.suite e4 d4 na nL nF) nd hi (.inl hl) rfl (fun z5 S5 => ?_) (.inr hl)
          refine wpAny_mono ((su a o4 cls d (X.pn ++ pins) z4 ⟨_, d4⟩).run [] z5 _ H2 _ S5 (yes rfl a na)) (fun f y hy => ?_) fun _ _ h => h.elim
          have leave : ∀ {σ6 : L2.St} {H6 : Hp} {Q : Shared → Prop}, Inv (X.suite a ((a, o4) :: (X.pn ++ pins))) [] σ6 H6 y → (∀ y7, Inv X pins (σ6.set i none) H6 y7 → Q y7) →
              wpAny (model X.prog X.w) X.A (do bindName X.env n .none; unbindBehindTheSuite X.env n p2) (fun _ y7 => Q y7) X.xe y := fun S6 k => gone_ok (S6.unsuite ok) nd hi hl k
          match f, hy with
          | .next, ⟨σ6, H6, S6, q6⟩ => exact leave S6 fun y7 J7 => ⟨_, _, J7, q6⟩
          | .brk, ⟨σ6, H6, S6, q6⟩ => exact leave S6 fun y7 J7 => ⟨_, _, J7, q6⟩
          | .cont, ⟨σ6, H6, S6, q6⟩ => exact leave S6 fun y7 J7 => ⟨_, _, J7, q6⟩
          | .ret _, ⟨v6, σ6, H6, S6, r6, q6⟩ => exact leave S6 fun y7 J7 => ⟨_, _, _, J7, r6, q6⟩
    exact go cl wish
  refine wpAny_Try_except (wpAny_mono ((hb (wCl X.K Wout D l) (X.pn ++ pins) ctch caught PassesOwn.looking).run [] s σ H D (I.toTry _) q) (fun f z hz => ?_) fun e z h => h)
  match f, hz with
  | .next, ⟨σ6, H6, S6, q6⟩ => exact wpAny_execs_nil ⟨σ6, H6, S6.ofTry ok, q6⟩
  | .brk, ⟨σ6, H6, S6, q6⟩ => exact ⟨σ6, H6, S6.ofTry ok, q6⟩
  | .cont, ⟨σ6, H6, S6, q6⟩ => exact ⟨σ6, H6, S6.ofTry ok, q6⟩
  | .ret _, ⟨v6, σ6, H6, S6, r6, q6⟩ => exact ⟨v6, σ6, H6, S6.ofTry ok, r6, q6⟩
end
end Mini
namespace Mini
open PySem L2 PyProof.Rows
structure ExAt (c : Cf) (H : Hp) (ι : List Addr) (i : Option Nat) (a : Addr) (n : Str) (fs : List (Str × D)) (cls : Value) (d : Option Addr) (σ : L2.St) : Prop where
  slot : ∀ j, i = some j → σ[j]? = some (some (.ref a))
  exc : RExc c H ι n fs cls d
theorem RExc.step {c : Cf} {H H' : Hp} {ι ι' : List Addr} {n : Str} {fs : List (Str × D)} {cls : Value} {d : Option Addr} (p : Stp ι H ι' H') (r : RExc c H ι n fs cls d) : RExc c H' ι' n fs cls d := by
  obtain ⟨C, e1, e2, e3⟩ := r
  refine ⟨C, e1, e2, ?_⟩
  cases d with
  | none => exact e3
  | some x => obtain ⟨vs, h, q, ne⟩ := e3; exact ⟨vs, p.xd _ _ h, q.step p, ne⟩
theorem ExAt.step {c : Cf} {H H' : Hp} {ι ι' : List Addr} {i : Option Nat} {a : Addr} {n : Str} {fs : List (Str × D)} {cls : Value} {d : Option Addr} {σ : L2.St} (p : Stp ι H ι' H') (r : ExAt c H ι i a n fs cls d σ) : ExAt c H' ι' i a n fs cls d σ := ⟨r.slot, r.exc.step p⟩
def tX (c : Cf) (i : Option Nat) (a : Addr) (n : Str) (fs : List (Str × D)) (cls : Value) (d : Option Addr) (f : ME) : TE := fun σ H Q => ∃ ι S ρ, Sim c ι S H ∧ REnv c H ι ρ σ ∧ ExAt c H ι i a n fs cls d σ ∧ post (RD c) c W0 ι H σ Q (f ρ S)
def tXA (c : Cf) (i : Option Nat) (a : Addr) (n : Str) (fs : List (Str × D)) (cls : Value) (d : Option Addr) (f : Env → M (List D)) : TA := fun σ H Q => ∃ ι S ρ, Sim c ι S H ∧ REnv c H ι ρ σ ∧ ExAt c H ι i a n fs cls d σ ∧ post (RDs c) c W0 ι H σ Q (f ρ S)
def xFld (x : Str) (fs : List (Str × D)) : ME := fun _ S => match fs.lookup x with
  | some d => .ok d S
  | none => .bad
section
variable {X : Cx} {i : Option Nat} {a : Addr} {n : Str} {fs : List (Str × D)} {cls : Value} {d : Option Addr} {oe : Obj} {pn : List (Addr × Obj)} {e : Expr} {es : List Expr} {fe : ME} {fa : Env → M (List D)} {pos : Pos}
theorem sx_C {d0 : D} {v : V} (h : PE (X.suite a ((a, oe) :: pn)) e (tC v)) (r : ∀ c H ι, Rep c H ι d0 v) : PE (X.suite a ((a, oe) :: pn)) e (tX (cf X) i a n fs cls d (eC d0)) :=
  PE.imp h fun σ H Q ⟨ι, S, ρ, s, en, ex, p⟩ => p ι H v .refl s (r _ _ _)
theorem sx_nil : PA (X.suite a ((a, oe) :: pn)) [] (tXA (cf X) i a n fs cls d aNil) := PA.imp pa_nil fun σ H Q ⟨ι, S, ρ, s, en, ex, p⟩ => p ι H [] .refl s .nil
theorem sx_cons (he : PE (X.suite a ((a, oe) :: pn)) e (tX (cf X) i a n fs cls d fe)) (hr : PA (X.suite a ((a, oe) :: pn)) es (tXA (cf X) i a n fs cls d fa)) (hs : starEach (e :: es) X.env = (false, eval e X.env) :: starEach es X.env := by rfl) : PA (X.suite a ((a, oe) :: pn)) (e :: es) (tXA (cf X) i a n fs cls d (aCons fe fa)) := by
  refine PA.imp (pa_cons he hr hs) ?_
  rintro σ H Q ⟨ι, S, ρ, s, en, ex, p⟩
  refine ⟨ι, S, ρ, s, en, ex, post_bnd p fun b S1 ι1 H1 x e1 st1 sm1 r1 p1 => ?_⟩
  refine ⟨ι1, S1, ρ, sm1, en.step st1, ex.step st1, post_bnd p1 fun as S2 ι2 H2 xs e2 st2 sm2 r2 p2 => ?_⟩
  exact p2 ι2 H2 (x :: xs) .refl sm2 (.cons (r1.step st2) r2)
theorem sx_tup {x1 : Nat} (h : PA (X.suite a ((a, oe) :: pn)) es (tXA (cf X) i a n fs cls d fa)) : PE (X.suite a ((a, oe) :: pn)) (.Tuple es x1 pos) (tX (cf X) i a n fs cls d (eTup fa)) := by
  refine PE.imp (pe_tup h) ?_
  rintro σ H Q ⟨ι, S, ρ, s, en, ex, p⟩
  refine ⟨ι, S, ρ, s, en, ex, post_bnd p fun xs S1 ι1 H1 vs e1 st1 sm1 r1 p1 => ?_⟩
  obtain ⟨d1, S', e, k⟩ := fin_of p1
  obtain ⟨hl, e2⟩ := tupO_some e
  cases e2
  have f2 : Fin (cf X) ι1 H1 Q (some (.tup xs, S1)) := ⟨_, _, rfl, k⟩
  exact ⟨by rw [r1.length]; exact Nat.le_trans hl lim_le, f2.tup sm1 r1⟩
structure FldC (K : PySem.W.Frag) (C : Addr) (x : Str) : Prop where
  ga : PySem.W.findIn K (.ref C) "__getattribute__" = some (some (.builtin "BaseException.__getattribute__"))
  gg : PySem.W.findIn K (.ref C) "__getattr__" = some none
  sub : PySem.W.subIn K (.ref C) (.type "BaseException") = some true
  hd : PySem.W.hasDictIn K C = true
  no : PySem.W.findIn K (.ref C) x = some none
theorem lookup_kv {c : Cf} {H : Hp} {ι : List Addr} {x : Str} {d0 : D} : ∀ {fs : List (Str × D)} {vs : List (Str × V)}, RepKV c H ι fs vs → fs.lookup x = some d0 → ∃ v, vs.lookup x = some v ∧ Rep c H ι d0 v
  | _, _, .nil, e => by cases e
  | (j, d1) :: fs, (_, v1) :: vs, .cons r q, e => by
    rw [List.lookup_cons] at e ⊢
    split at e
    · cases e; exact ⟨v1, rfl, r⟩
    · exact lookup_kv q e
theorem sx_fld {j : Nat} {y x : Str} {p : Pos} (hz : Zc cls d oe) (hf : ∃ vs, oe.data = .fields vs) (hN : X.N[j]? = some y) (hv : Vis X.env.scope y) (hi : i = some j) (fc : ∀ C, X.mg n = some (.ref C) → FldC X.K C x)
    (hd : (y == ("__debug__" : Str)) = false := by decide) (hcd : (y == ("__classdict__" : Str)) = false := by decide) (hb : attributeBase (.Name y p) x X.env (eval (.Name y p) X.env) = eval (.Name y p) X.env := by rfl) :
    PE (X.suite a ((a, oe) :: pn)) (.Attribute (.Name y p) x pos) (tX (cf X) i a n fs cls d (xFld x fs)) := by
  have pv : PE (X.suite a ((a, oe) :: pn)) (.Name y p) (tVar j) := pe_var hN hv hd hcd
  refine ⟨fun pins s σ H Q I ⟨ι, S, ρ, sm, en, ex, q⟩ => ?_⟩
  refine attr_of hb (thn (pv.run pins s σ H (fun x H1 => x = .ref a ∧ H1 = H) I ⟨_, ex.slot j hi, rfl, rfl⟩) fun u s1 ⟨w, H1, I1, rw', e1, e2⟩ => ?_)
  subst e1
  rw [e2] at I1
  obtain rfl : u = Value.ref a := rw'
  obtain ⟨C, rfl, hm, hd'⟩ := ex.exc
  have F := fc C hm
  unfold xFld at q
  split at q
  · rename_i d0 hl
    cases d with
    | none => rw [show fs = [] from hd'] at hl; cases hl
    | some x2 =>
      obtain ⟨vs, hx, rk, _⟩ := hd'
      obtain ⟨v, lv, rv⟩ := lookup_kv rk hl
      obtain ⟨ha, _⟩ := I1.pin (a, oe) (List.mem_append_left _ List.mem_cons_self)
      obtain ⟨ws, hw⟩ := hf
      have hx2 : ObjOk X.prog X.w H s1.heap x2 (.xd vs) := I1.hok x2 _ hx
      obtain ⟨mA, hns, hr⟩ := hx2
      obtain ⟨od, ho, hlk⟩ := lookIn_ns hns
      obtain ⟨u2, hu, ru⟩ := RelO.some_of (v := v) (o := mA x) (by rw [← lv]; exact hr x)
      have J : PySem.W.InstAt s1.heap a oe C (some od) := ⟨ha, hz.1, by unfold PySem.W.notCls; rw [hw] <;> rfl, by rw [hz.2]; exact ho⟩
      exact HandSPX.exc_get I1.kIn J F.ga F.gg F.sub (PySem.W.findObj_own F.hd F.no rfl (by rw [hlk, hu])) (handed_of ru) ⟨v, H, I1.tok _, ru, q ι H v .refl sm rv⟩
  · exact q.elim
theorem boot_isinstance1 : bootBuiltins "isinstance" = some (.builtin "isinstance") := by decide +kernel
end
structure Cl where
  sub : Str → Option Bool
  slot : Option Nat
  to : Nat
  val : Str → List (Str × D) → ME
def unslot (i : Option Nat) (ρ : Env) : Env := match i with
  | none => ρ
  | some i => ρ.set i none
def slotIn (i : Option Nat) (ρ : Env) : Bool := match i with
  | none => true
  | some i => decide (i < ρ.length)
def clsM (n : Str) (fs : List (Str × D)) (ρ : Env) (S : Store) : List Cl → SO
  | [] => .exc n fs ρ S
  | c :: r => match c.sub n with
    | none => .bad
    | some false => clsM n fs ρ S r
    | some true => if slotIn c.slot ρ = true then (match c.val n fs (unslot c.slot ρ) S with
      | .ok d S1 => .nx ((unslot c.slot ρ).set c.to (some d)) S1
      | _ => .bad) else .bad
def sTry (b : MS) (cs : List Cl) : MS := fun ρ S => match b ρ S with
  | .exc n fs ρ1 S1 => clsM n fs ρ1 S1 cs
  | o => o
def Subs (K : PySem.W.Frag) (mg : Str → Option Value) (c : Value) (sub : Str → Option Bool) : Prop := ∀ n C b, sub n = some b → mg n = some (.ref C) → PySem.W.exmOne K (.ref C) c = some b
def suX (c : Cf) (cl : Cl) : Suite := fun a cls d => fun E σ H => ∃ n fs, cl.sub n = some true ∧ tAsg (tX c cl.slot a n fs cls d (cl.val n fs)) (gName cl.to) E σ H
section
variable {X : Cx} {W : WX} {f : MS} {sts : List Stmt} {pos : Pos}
inductive CsOk (X : Cx) : List ExceptHandler → List Cl → List (Value × Option Nat × Suite) → Prop
  | nil : CsOk X [] [] []
  | cons {h : ExceptHandler} {hs : List ExceptHandler} {c : Cl} {cs : List Cl} {cv : Value} {l : List (Value × Option Nat × Suite)} (hc : ∀ {l' : List (Value × Option Nat × Suite)}, Clauses X hs l' → Clauses X (h :: hs) ((cv, c.slot, suX (cf X) c) :: l')) (sb : Subs X.K X.mg cv c.sub) (ne : ∀ j, c.slot = some j → j ≠ c.to) (r : CsOk X hs cs l) :
      CsOk X (h :: hs) (c :: cs) ((cv, c.slot, suX (cf X) c) :: l)
theorem CsOk.clauses {hs : List ExceptHandler} {cs : List Cl} {l : List (Value × Option Nat × Suite)} (k : CsOk X hs cs l) : Clauses X hs l := by
  induction k with
  | nil => exact .nil
  | cons hc _ _ _ ih => exact hc ih
theorem REnv.unslot {c : Cf} {H : Hp} {ι : List Addr} {ρ : Env} {σ : L2.St} (en : REnv c H ι ρ σ) (i : Option Nat) (a : Addr) : REnv c H ι (unslot i ρ) (bound i a σ) := by
  cases i with
  | none => exact en
  | some i =>
    refine ⟨by show (ρ.set i none).length = (σ.set i _).length; rw [List.length_set, List.length_set]; exact en.len, fun j d e => ?_⟩
    have e : (ρ.set i none)[j]? = some (some d) := e
    show ∃ v, (σ.set i (some (.ref a)))[j]? = some (some v) ∧ _
    by_cases hj : i = j
    · subst hj
      by_cases hl : i < ρ.length
      · rw [List.getElem?_set_self hl] at e; cases e
      · rw [List.getElem?_eq_none (by rw [List.length_set]; omega)] at e; cases e
    · rw [List.getElem?_set_ne hj] at e ⊢
      exact en.get j d e
theorem cs_wish {hs : List ExceptHandler} {cs : List Cl} {l : List (Value × Option Nat × Suite)} (k : CsOk X hs cs l) {E : Ends} : ∀ {n : Str} {fs : List (Str × D)} {ρ : Env} {S : Store} {ι ι' : List Addr} {H H' : Hp} {σ' : L2.St} {cls : Value} {d : Option Addr},
    postS (cf X) W ι H E (clsM n fs ρ S cs) → Stp ι H ι' H' → Sim (cf X) ι' S H' → REnv (cf X) H' ι' ρ σ' → RExc (cf X) H' ι' n fs cls d → wCl X.K W E l cls d σ' H' := by
  induction k with
  | nil =>
    intro n fs ρ S ι ι' H H' σ' cls d q p sm en ex
    exact q ι' H' σ' cls d p sm en ex
  | @cons h hs c cs cv l hc sb ne r ih =>
    intro n fs ρ S ι ι' H H' σ' cls d q p sm en ex
    obtain ⟨C, rfl, hm, hd⟩ := id ex
    unfold clsM at q
    cases es : c.sub n with
    | none => rw [es] at q; exact q.elim
    | some b =>
      rw [es] at q
      refine ⟨b, sb n C b es hm, fun hb a na => ?_, fun hb => ?_⟩
      · subst hb
        dsimp only at q
        by_cases hs' : slotIn c.slot ρ = true
        · rw [if_pos hs'] at q
          have hin : ∀ j, c.slot = some j → j < σ'.length := fun j ej => by
            rw [ej] at hs'
            rw [← en.len]
            exact of_decide_eq_true hs'
          refine ⟨n, fs, es, ι', S, unslot c.slot ρ, sm, REnv.unslot en c.slot a, ⟨fun j ej => ?_, ex⟩, ?_⟩
          · rw [ej]
            show (σ'.set j (some (.ref a)))[j]? = _
            rw [List.getElem?_set_self (hin j ej)]
          · cases ev : c.val n fs (unslot c.slot ρ) S with
            | bad => rw [ev] at q; exact q.elim
            | exc m gs S1 => rw [ev] at q; exact q.elim
            | ok d1 S1 =>
              rw [ev] at q
              intro ι2 H2 v p2 s2 r2
              have fin : ∀ τ : L2.St, REnv (cf X) H2 ι2 ((unslot c.slot ρ).set c.to (some d1)) τ → E.nx τ H2 := fun τ en2 => q ι2 H2 τ (p.trans p2) s2 en2
              have e2 := (REnv.unslot (en.step p2) c.slot a).set r2 c.to
              cases hsl : c.slot with
              | none => rw [hsl] at e2; rw [hsl] at fin; exact fin _ e2
              | some j =>
                rw [hsl] at e2 fin
                have nej := ne j hsl
                show E.nx (((σ'.set j (some (.ref a))).set c.to (some v)).set j none) H2
                refine fin _ ⟨by have := e2.len; simp only [unslot, bound, List.length_set] at this ⊢; exact this, fun m dm em => ?_⟩
                obtain ⟨w, h1, h2⟩ := e2.get m dm em
                refine ⟨w, ?_, h2⟩
                by_cases hmj : j = m
                · subst hmj
                  exfalso
                  have em : ((ρ.set j none).set c.to (some d1))[j]? = some (some dm) := em
                  rw [List.getElem?_set_ne (Ne.symm nej)] at em
                  by_cases hl : j < ρ.length
                  · rw [List.getElem?_set_self hl] at em; cases em
                  · rw [List.getElem?_eq_none (by rw [List.length_set]; omega)] at em; cases em
                · rw [List.getElem?_set_ne hmj]
                  exact h1
        · rw [if_neg hs'] at q
          exact q.elim
      · subst hb
        exact ih q p sm en ex
theorem ss_try {hs : List ExceptHandler} {h1 : ExceptHandler} {cs : List Cl} {l : List (Value × Option Nat × Suite)} (st : X.stack = X.env :: X.outer) (fr : X.env.frame = some X.env.locals) (nd : X.N.Nodup) (tk : Takes X W)
    (hb : ∀ (W' : WX) (pn : List (Addr × Obj)) (xe : Value → Shared → Prop), Takes (X.tr pn xe) W' → PassesOwn (model X.prog X.w) X.A X.env xe → PSs (X.tr pn xe) sts (tS (cf X) W' f)) (k : CsOk X (h1 :: hs) cs l) :
    PS X (.Try sts (h1 :: hs) [] [] pos) (tS (cf X) W (sTry f cs)) := by
  refine PS.imp (ps_clauses (tb := fun W' => tS (cf X) W' f) (Wout := W) st fr nd tk hb k.clauses) ?_
  rintro E σ H ⟨ι, S, ρ, sm, en, q⟩
  refine ⟨ι, S, ρ, sm, en, ?_⟩
  unfold sTry at q
  cases e : f ρ S with
  | exc n fs ρ1 S1 =>
    rw [e] at q
    exact fun ι' H' σ' cls dd p s' en' ex => cs_wish k q p s' en' ex
  | nx ρ1 S1 => rw [e] at q; exact q
  | ret d S1 => rw [e] at q; exact q
  | brk ρ1 S1 => rw [e] at q; exact q
  | ct ρ1 S1 => rw [e] at q; exact q
  | bad => rw [e] at q; exact q
theorem cl_as {x n : Str} {i j : Nat} {sub : Str → Option Bool} {val : Str → List (Str × D) → ME} {cv : Value} {e : Expr} {y : Str} {p1 p2 p3 p4 : Pos} {hs : List ExceptHandler} {cs : List Cl} {l : List (Value × Option Nat × Suite)}
    (nm : Names X x cv) (sb : Subs X.K X.mg cv sub) (hi : X.N[i]? = some n) (hl : X.env.kindOf n = some .local) (ne : i ≠ j) (nd : X.N.Nodup) (hj : X.N[j]? = some y) (hy : Loc X.env.scope y)
    (he : ∀ (a : Addr) (oe : Obj) (cls : Value) (d : Option Addr) (pn : List (Addr × Obj)) (m : Str) (fs : List (Str × D)), Zc cls d oe → (∃ vs, oe.data = .fields vs) → sub m = some true → PE (X.suite a ((a, oe) :: pn)) e (tX (cf X) (some i) a m fs cls d (val m fs)))
    (r : CsOk X hs cs l) (hsw : swapsWith e (some (.Name y p3)) p4.line X.env = pure false := by rfl) (hf : X.fn y = true ∨ X.env.scope.names.lookup y = some .local := by first | exact .inl rfl | exact .inr rfl | assumption) :
    CsOk X (.ExceptHandler (some (.Name x p1)) (some n) [.Assign [.Name y p3] e p4] p2 :: hs) (⟨sub, some i, j, val⟩ :: cs) ((cv, some i, suX (cf X) ⟨sub, some i, j, val⟩) :: l) := by
  refine .cons (fun k => .as nm hi hl (fun a oe cls d pn hz hv => ?_) k) sb (fun j' ej => by cases ej; exact ne) r
  refine ⟨fun pins s σ H E I ⟨m, fs, hm, q⟩ => ?_⟩
  exact (pss_one (ps_set (X := X.suite a ((a, oe) :: pn)) nd hj hy (he a oe cls d pn m fs hz hv hm) hsw hf)).run pins s σ H E I q
end
section
variable {K : PySem.W.Frag} {mg : Str → Option Value}
structure ClsF (K : PySem.W.Frag) (mg : Str → Option Value) (x : Str) (C : Addr) : Prop where
  g : mg x = some (.ref C)
  be : PySem.W.subIn K (.ref C) (.type "BaseException") = some true
  hd : PySem.W.hasDictIn K C = true
  ty : PySem.W.typeIn K (.ref C) = some (.type "type")
  kp : PySem.W.keepIn K (.ref C) = true
theorem ClsF.mk' {h : Heap} {x : Str} {C : Addr} (X : K.In h) (G : h.Ns mainGlobals mg) (a : PySem.W.nsIn K mainGlobals x = some (some (.ref C))) (h1 : PySem.W.subIn K (.ref C) (.type "BaseException") = some true) (h2 : PySem.W.hasDictIn K C = true) (h3 : PySem.W.typeIn K (.ref C) = some (.type "type")) (h4 : PySem.W.keepIn K (.ref C) = true) : ClsF K mg x C :=
  ⟨PySem.W.mg_of X G a, h1, h2, h3, h4⟩
def tab (l : List (Str × Bool)) (n : Str) : Option Bool := l.lookup n
theorem subs_nil {cv : Value} : Subs K mg cv (tab []) := fun n C b h => by cases h
theorem subs_cons {x y : Str} {C D : Addr} {b : Bool} {l : List (Str × Bool)} (F : ClsF K mg y C) (E : ClsF K mg x D) (s : PySem.W.subIn K (.ref D) (.ref C) = some b) (r : Subs K mg (.ref C) (tab l)) : Subs K mg (.ref C) (tab ((x, b) :: l)) := by
  intro n C' b' h hm
  unfold tab at h
  rw [List.lookup_cons] at h
  split at h
  · rename_i e
    cases h
    have e : n = x := by simpa using e
    subst e
    rw [E.g] at hm
    cases hm
    exact PySem.W.exm_ref F.be F.hd F.ty s
  · exact r n C' b' h hm
end
end Mini
namespace Mini
open PySem L2
theorem tab_one {l : List (Str × Bool)} {m x : Str} (h : tab l m = some true) (e : l.filter (fun p => p.2) = [(x, true)]) : m = x := by
  have : ∀ {l : List (Str × Bool)}, List.lookup m l = some true → (m, true) ∈ l.filter (fun p => p.2) := by
    intro l
    induction l with
    | nil => intro h; cases h
    | cons q l ih =>
      intro h
      obtain ⟨y, b⟩ := q
      rw [List.lookup_cons] at h
      split at h
      · rename_i e
        cases h
        have e : m = y := by simpa using e
        subst e
        simp
      · exact List.mem_filter.mpr ⟨List.mem_cons_of_mem _ (List.mem_filter.mp (ih h)).1, rfl⟩
  have z := this h
  rw [e] at z
  simpa using z
end Mini
namespace Mini
open PySem L2 PyProof.Rows
def spL (K : PySem.W.Frag) : Sp := fun vs H Q _ => ∃ (a : Addr) (ns : List Int), vs = [.ref a] ∧ SqL K H a (ns.map V.int) ∧ ns.length ≤ 63 ∧ ∀ H', Q (.bl true) H'
def Plain (g : List D → M D) : Prop := ∀ (ns : List Int) (m : MO), ns.length ≤ 63 → (m = .lst (ns.map D.int) ∨ m = .rol (ns.map D.int)) → ∃ S', g [.ref 0] [m] = .ok (.bl true) S'
theorem reps_ints {c : Cf} {H : Hp} {ι : List Addr} : ∀ ns : List Int, Reps c H ι (ns.map D.int) (ns.map V.int)
  | [] => .nil
  | n :: ns => .cons (.int n) (reps_ints ns)
theorem spL_imp {K : PySem.W.Frag} {mg : Str → Option Value} {g : List D → M D} (hp : Plain g) : ∀ vs H Q E, spL K vs H Q E → spM ⟨K, mg⟩ 1 g vs H Q E := by
  rintro vs H Q E ⟨a, ns, rfl, hs, hl, k⟩
  refine ⟨rfl, ?_⟩
  have go : ∀ m : MO, (m = .lst (ns.map D.int) ∨ m = .rol (ns.map D.int)) → ObjRep ⟨K, mg⟩ H [a] a m → ∃ ι S ds, Sim ⟨K, mg⟩ ι S H ∧ Reps ⟨K, mg⟩ H ι ds [.ref a] ∧ match g ds S with
      | .ok d S' => ∀ ι' H' v, Stp ι H ι' H' → Sim ⟨K, mg⟩ ι' S' H' → Rep ⟨K, mg⟩ H' ι' d v → Q v H'
      | .exc m fs S' => ∀ ι' H' cls dd, Stp ι H ι' H' → Sim ⟨K, mg⟩ ι' S' H' → RExc ⟨K, mg⟩ H' ι' m fs cls dd → E cls dd H'
      | .bad => False := fun m hm ob => by
    obtain ⟨S', e⟩ := hp ns m hl hm
    refine ⟨[a], [m], [.ref 0], ⟨rfl, fun h j b m1 m2 h1 h2 _ _ _ _ => ?_, fun h m1 b e1 e2 => ?_⟩, .cons (.ref rfl) .nil, ?_⟩
    · have l1 := (List.getElem?_eq_some_iff.mp h1).1
      have l2 := (List.getElem?_eq_some_iff.mp h2).1
      simp only [List.length_singleton] at l1 l2
      omega
    · have l1 := (List.getElem?_eq_some_iff.mp e1).1
      simp only [List.length_singleton] at l1
      obtain rfl : h = 0 := by omega
      cases e1; cases e2
      exact ob
    · rw [e]
      intro ι' H' v p s r
      cases r
      exact k H'
  rcases hs with hs | hs
  · rcases hs with hs | ⟨o, hs⟩
    · exact go _ (.inl rfl) ⟨_, hs, reps_ints ns⟩
    · exact go _ (.inr rfl) ⟨_, .inl ⟨o, hs⟩, reps_ints ns⟩
  · exact go _ (.inr rfl) ⟨_, .inr hs, reps_ints ns⟩
theorem Does.fn {P : Program} {w : World} {K : PySem.W.Frag} {mg : Str → Option Value} {base : Heap} {x q : Str} {ps : List Str} {k n : Nat} {g : List D → M D} {st : Stmt} {f : Addr} {fd : FuncData} (d : Does P w K mg base x ps k n g) (F : Fun K x q st f fd) (hm : mg x = some (.ref f)) : FnOk P w K mg base (L2.CX P w) k f fd ps (spM ⟨K, mg⟩ n g) := by
  obtain ⟨f2, fd2, st2, m2, F2, _, ok⟩ := d.ex
  rw [hm] at m2
  cases m2
  obtain ⟨oc, od, kV, doc, pm, an, cdv, ct, osl, e1, lk, _⟩ := F.ex
  obtain ⟨oc', od', kV', doc', pm', an', cdv', ct', osl', e2, lk', _⟩ := F2.ex
  rw [lk] at lk'
  have : fd2 = fd := by
    injection lk' with z
    injection z with _ _ z _
    injection z with z
    exact z.symm
  rw [← this]
  exact ok
theorem law_end {P : Program} {w : World} {K : PySem.W.Frag} {mg : Str → Option Value} {fa : Addr} {k : Nat} {g : List D → M D} {st : Stmt} (D : Def K mg "law" st ["script"]) (hfa : mg "law" = some (.ref fa))
    (hb : ∀ (kV doc pm : Value) (an : Option Addr) (cdv ct v : Value), bindArgs (PySem.W.fnOf "law" "law" (defArgs st) (defBody st) (defScope st) .none kV doc pm an cdv ct) ⟨[v], []⟩ = pure [(("script" : Str), v)])
    (hd : ∀ base : Heap, Does P w K mg base "law" ["script"] k 1 g) (hp : Plain g) :
    ∃ fd : FuncData, (∀ (s : Shared) (v : Value), BindsTo s fd ⟨[v], []⟩ [("script", v)]) ∧ ∀ base : Heap, K.In base → base.Ns mainGlobals mg → FnOk P w K mg base (L2.CX P w) k fa fd ["script"] (spL K) := by
  obtain ⟨f, fd, F, hm, _⟩ := D.ex
  rw [hfa] at hm
  cases hm
  refine ⟨fd, fun s v => ?_, fun base _ _ => ((hd base).fn F hfa).imp (spL_imp hp)⟩
  obtain ⟨oc, od, kV, doc, pm, an, cdv, ct, osl, rfl, lk, hcd⟩ := F.ex
  exact .of_eq (hb kV doc pm an cdv ct v)
theorem walk {l : PySem.W.OpenLaw} {k : Nat} {q : Program} {loose : List Str} {XP : (Str → Option Value) → Heap → Prop} {YP : World → Heap → Prop} {d : DefRec} {K : Params → PySem.W.Frag} (hn : l.most = some 63) (hdf : d.params.defaults = []) (hr : Room k callerA)
    (hY : ∀ (w : World) (h : Heap), YP w h → (K w.params).In h)
    (F : ∀ (w : World) (mg : Str → Option Value) (fa : Addr) (h : Heap), (K w.params).In h → h.Ns mainGlobals mg → mg d.name = some (.ref fa) →
      ∃ fd : FuncData, (∀ (s : Shared) (u : Value), BindsTo s fd ⟨[u], []⟩ [("script", u)]) ∧ ∀ base : Heap, (K w.params).In base → base.Ns mainGlobals mg → FnOk l.prog w (K w.params) mg base (L2.CX l.prog w) k fa fd ["script"] (spL (K w.params))) :
    PySem.W.WalkO q loose XP YP l.row.toRowW d [] (fun f vs => PySem.call f vs) :=
  L2.walk_of (n := 63) (k := k) (x := "script") (CX := fun w => L2.CX l.prog w) (sp := fun w => spL (K w.params)) hn (by decide) hdf hr hY F (fun _ _ a ns hl _ hS => ⟨a, ns, rfl, hS, hl, fun _ => rfl⟩) fun w H s e s' z => by
    obtain ⟨_, _, _, _, _, _, _, _, _, _, _, _, z⟩ := z
    exact z.elim
theorem Blt.mk' {K : PySem.W.Frag} {mg : Str → Option Value} {h : Heap} (X : K.In h) (G : h.Ns mainGlobals mg) (a : ∀ x ∈ (["len", "range", "isinstance", "str", "int", "bool", "tuple", "list", "dict", "set", "all", "any", "sum", "abs", "max", "min", "sorted", "enumerate", "zip", "reversed"] : List Str), PySem.W.nsIn K mainGlobals x = some none) : Blt mg := by
  constructor <;> exact PySem.W.mg_none_of X G (a _ (by simp))
end Mini
namespace Mini
open PySem
abbrev XP := Str → List (Str × D) → Store → Prop
abbrev XPs := Str → List (Str × D) → Env → Store → Prop
def ok {α : Type} (o : Out α) (P : α → Store → Prop) (X : XP) : Prop := match o with
  | .ok a S => P a S
  | .exc n fs S => X n fs S
  | .bad => False
def so (o : SO) (N : Env → Store → Prop) (R : D → Store → Prop) (X : XPs) : Prop := match o with
  | .nx ρ S => N ρ S
  | .ret d S => R d S
  | .exc n fs ρ S => X n fs ρ S
  | _ => False
abbrev X0 : XP := fun _ _ _ => False
theorem ok_mono {α : Type} {o : Out α} {P P' : α → Store → Prop} {X X' : XP} (h : ok o P X) (hP : ∀ a S, P a S → P' a S) (hX : ∀ n fs S, X n fs S → X' n fs S) : ok o P' X' := by
  cases o with
  | ok a S => exact hP a S h
  | exc n fs S => exact hX n fs S h
  | bad => exact h
theorem so_mono {o : SO} {N N' : Env → Store → Prop} {R R' : D → Store → Prop} {X X' : XPs} (h : so o N R X) (hN : ∀ ρ S, N ρ S → N' ρ S) (hR : ∀ d S, R d S → R' d S) (hX : ∀ n fs ρ S, X n fs ρ S → X' n fs ρ S) : so o N' R' X' := by
  cases o with
  | nx ρ S => exact hN ρ S h
  | ret d S => exact hR d S h
  | exc n fs ρ S => exact hX n fs ρ S h
  | _ => exact h
section
variable {α β : Type} {P : α → Store → Prop} {X : XP} {S : Store}
@[simp] theorem ok_ok {a : α} : ok (.ok a S) P X = P a S := rfl
@[simp] theorem ok_bad : ok (.bad : Out α) P X = False := rfl
@[simp] theorem ok_pur {a : α} : ok (pur a S) P X = P a S := rfl
@[simp] theorem ok_bnd {x : M β} {k : β → M α} : ok (bnd x k S) P X = ok (x S) (fun b S1 => ok (k b S1) P X) X := by
  unfold bnd
  cases x S <;> rfl
@[simp] theorem ok_lift {o : Option (α × Store)} : ok (lift o) P X = ∃ p, o = some p ∧ P p.1 p.2 := by
  cases o with
  | none => simp [lift, ok]
  | some p => simp [lift, ok]
@[simp] theorem ok_nox {x : M α} : ok (nox x S) P X = ok (x S) P X0 := by
  unfold nox
  cases x S <;> rfl
@[simp] theorem ok_liftI {o : Option α} : ok (liftI S o) P X = ∃ a, o = some a ∧ P a S := by
  cases o with
  | none => simp [liftI, ok]
  | some p => simp [liftI, ok]
end
section
variable {P : D → Store → Prop} {X : XP} {S : Store} {ρ : Env} {fa fb fc : ME} {fs : Env → M (List D)}
@[simp] theorem ok_eC {d : D} : ok (eC d ρ S) P X = P d S := rfl
theorem ok_eVar {i : Nat} {d : D} (h : ρ[i]? = some (some d)) : ok (eVar i ρ S) P X = P d S := by unfold eVar; rw [h]; rfl
@[simp] theorem ok_eOp {g : P2} : ok (eOp g fa fb ρ S) P X = ok (fa ρ S) (fun a S1 => ok (fb ρ S1) (fun b S2 => ∃ p, g a b S2 = some p ∧ P p.1 p.2) X) X := by simp [eOp]
@[simp] theorem ok_eUn {g : P1} : ok (eUn g fa ρ S) P X = ok (fa ρ S) (fun a S1 => ∃ p, g a S1 = some p ∧ P p.1 p.2) X := by simp [eUn]
@[simp] theorem ok_eIsi {u : String} : ok (eIsi u fa ρ S) P X = ok (fa ρ S) (fun a S1 => ∃ p, pIsi u a S1 = some p ∧ P p.1 p.2) X := by simp [eIsi]
@[simp] theorem ok_aNil {P : List D → Store → Prop} : ok (aNil ρ S) P X = P [] S := rfl
@[simp] theorem ok_aCons {P : List D → Store → Prop} : ok (aCons fa fs ρ S) P X = ok (fa ρ S) (fun a S1 => ok (fs ρ S1) (fun as S2 => P (a :: as) S2) X) X := by simp [aCons]
@[simp] theorem ok_eTup : ok (eTup fs ρ S) P X = ok (fs ρ S) (fun as S1 => ∃ p, tupO as S1 = some p ∧ P p.1 p.2) X := by simp [eTup]
@[simp] theorem ok_eLst : ok (eLst fs ρ S) P X = ok (fs ρ S) (fun as S1 => ∃ p, newL as S1 = some p ∧ P p.1 p.2) X := by simp [eLst]
@[simp] theorem ok_eB {g : PN} : ok (eB g fs ρ S) P X = ok (fs ρ S) (fun as S1 => ∃ p, g as S1 = some p ∧ P p.1 p.2) X := by simp [eB]
@[simp] theorem ok_eCall {g : List D → M D} : ok (eCall g fs ρ S) P X = ok (fs ρ S) (fun as S1 => ok (g as S1) P X) X := by simp [eCall]
@[simp] theorem ok_eMt {T : String} {g : PM} : ok (eMt T g fa fs ρ S) P X = ok (fa ρ S) (fun o S1 => tyD S1 o = some T ∧ ok (fs ρ S1) (fun as S2 => ∃ p, g o as S2 = some p ∧ P p.1 p.2) X) X := by
  simp only [eMt, ok_bnd]
  congr 1; funext o S1
  by_cases h : tyD S1 o = some T
  · rw [if_pos h]; simp [h]
  · rw [if_neg h]; simp [h]
@[simp] theorem ok_eCut {lo hi : Env → M (Option Int)} : ok (eCut fa lo hi ρ S) P X = ok (fa ρ S) (fun a S1 => ok (lo ρ S1) (fun l S2 => ok (hi ρ S2) (fun h S3 => ∃ p, pCut a l h S3 = some p ∧ P p.1 p.2) X) X) X := by simp [eCut]
@[simp] theorem ok_oNone {P : Option Int → Store → Prop} : ok (oNone ρ S) P X = P none S := rfl
@[simp] theorem ok_oSome {P : Option Int → Store → Prop} : ok (oSome fa ρ S) P X = ok (fa ρ S) (fun a S1 => ∃ i, a = .int i ∧ P (some i) S1) X := by
  simp only [oSome, ok_bnd]
  congr 1; funext a S1
  cases a <;> simp
@[simp] theorem ok_eIf {t : Env → M Bool} : ok (eIf t fa fb ρ S) P X = ok (t ρ S) (fun b S1 => ok ((if b = true then fa ρ else fb ρ) S1) P X) X := by
  simp only [eIf, ok_bnd]
theorem ok_bl {k : Bool → M D} {a : D} : ok ((match a with | .bl b => k b | _ => fun _ => .bad) S) P X = ∃ b, a = .bl b ∧ ok (k b S) P X := by cases a <;> simp
@[simp] theorem ok_eAnd : ok (eAnd fa fb ρ S) P X = ok (fa ρ S) (fun a S1 => ∃ b, a = .bl b ∧ ok ((if b = true then fb ρ else pur (.bl false)) S1) P X) X := by
  simp only [eAnd, ok_bnd]
  congr 1; funext a S1
  exact ok_bl (k := fun b => if b = true then fb ρ else pur (.bl false))
@[simp] theorem ok_eOr : ok (eOr fa fb ρ S) P X = ok (fa ρ S) (fun a S1 => ∃ b, a = .bl b ∧ ok ((if b = true then pur (.bl true) else fb ρ) S1) P X) X := by
  simp only [eOr, ok_bnd]
  congr 1; funext a S1
  exact ok_bl (k := fun b => if b = true then pur (.bl true) else fb ρ)
@[simp] theorem ok_eNot : ok (eNot fa ρ S) P X = ok (fa ρ S) (fun a S1 => ∃ b, a = .bl b ∧ P (.bl (!b)) S1) X := by
  simp only [eNot, ok_bnd]
  congr 1; funext a S1
  cases a <;> simp
@[simp] theorem ok_tBl {P : Bool → Store → Prop} : ok (tBl fa ρ S) P X = ok (fa ρ S) (fun a S1 => ∃ b, a = .bl b ∧ P b S1) X := by
  simp only [tBl, ok_bnd]
  congr 1; funext a S1
  cases a <;> simp
@[simp] theorem ok_tTru {P : Bool → Store → Prop} : ok (tTru fa ρ S) P X = ok (fa ρ S) (fun a S1 => ∃ b, truD S1 a = some b ∧ P b S1) X := by
  simp only [tTru, ok_bnd]
  congr 1; funext a S1
  cases h : truD S1 a <;> simp
variable {t u : Env → M Bool}
@[simp] theorem ok_tAnd {P : Bool → Store → Prop} : ok (tAnd' t u ρ S) P X = ok (t ρ S) (fun b S1 => ok ((if b = true then u ρ else pur false) S1) P X) X := by simp only [tAnd', ok_bnd]
@[simp] theorem ok_tOr {P : Bool → Store → Prop} : ok (tOr' t u ρ S) P X = ok (t ρ S) (fun b S1 => ok ((if b = true then pur true else u ρ) S1) P X) X := by simp only [tOr', ok_bnd]
@[simp] theorem ok_tNot {P : Bool → Store → Prop} : ok (tNot' t ρ S) P X = ok (t ρ S) (fun b S1 => P (!b) S1) X := by simp only [tNot', ok_bnd, ok_pur]
@[simp] theorem ok_ttYes {P : Bool → Store → Prop} : ok (ttYes ρ S) P X = P true S := rfl
@[simp] theorem ok_eChain {g g' : P2} : ok (eChain g g' fa fb fc ρ S) P X = ok (fa ρ S) (fun a S1 => ok (fb ρ S1) (fun b S2 => ∃ p, g a b S2 = some p ∧ ∃ k, p.1 = .bl k ∧ ok ((if k = true then (bnd (fc ρ) fun c => fun S => lift (g' b c S)) else pur (.bl false)) p.2) P X) X) X := by
  simp only [eChain, ok_bnd]
  congr 1; funext a S1; congr 1; funext b S2
  rw [ok_lift]
  congr 1; funext p; congr 1
  exact ok_bl (k := fun k => if k = true then (bnd (fc ρ) fun c => fun S => lift (g' b c S)) else pur (.bl false))
@[simp] theorem ok_iAny {P : MIt → Store → Prop} : ok (iAny fa ρ S) P X = ok (fa ρ S) (fun d S1 => ∃ it, itOf S1 d = some it ∧ P it S1) X := by simp [iAny]
@[simp] theorem ok_iEnu {P : MIt → Store → Prop} : ok (iEnu fa ρ S) P X = ok (fa ρ S) (fun d S1 => ∃ it, enuOf S1 d = some it ∧ P it S1) X := by simp [iEnu]
@[simp] theorem ok_iArgs {P : MIt → Store → Prop} {g : List D → Option MIt} : ok (iArgs g fs ρ S) P X = ok (fs ρ S) (fun ds S1 => ∃ it, g ds = some it ∧ P it S1) X := by simp [iArgs]
end
section
variable {N : Env → Store → Prop} {R : D → Store → Prop} {X : XPs} {S : Store} {ρ : Env} {f g : MS} {fa fb fc : ME}
@[simp] theorem so_nil : so (sNil ρ S) N R X = N ρ S := rfl
@[simp] theorem so_seq : so (sSeq f g ρ S) N R X = so (f ρ S) (fun ρ1 S1 => so (g ρ1 S1) N R X) R X := by
  unfold sSeq
  cases f ρ S <;> rfl
@[simp] theorem so_ev {α : Type} {x : M α} {k : α → Store → SO} : so (ev x ρ k S) N R X = ok (x S) (fun a S1 => so (k a S1) N R X) (fun n fs S1 => X n fs ρ S1) := by
  unfold ev
  cases x S <;> rfl
@[simp] theorem so_nx : so (.nx ρ S) N R X = N ρ S := rfl
@[simp] theorem so_ret' {d : D} : so (.ret d S) N R X = R d S := rfl
@[simp] theorem so_expr : so (sExpr fa ρ S) N R X = ok (fa ρ S) (fun _ S1 => N ρ S1) (fun n fs S1 => X n fs ρ S1) := by simp [sExpr]
@[simp] theorem so_ret : so (sRet fa ρ S) N R X = ok (fa ρ S) R (fun n fs S1 => X n fs ρ S1) := by simp [sRet]
@[simp] theorem so_if {t : Env → M Bool} : so (sIf t f g ρ S) N R X = ok (t ρ S) (fun b S1 => so (if b = true then f ρ S1 else g ρ S1) N R X) (fun n fs S1 => X n fs ρ S1) := by simp only [sIf, so_ev]
@[simp] theorem so_set {t : Tg} : so (sSet t fa ρ S) N R X = ok (fa ρ S) (fun d S1 => ∃ ρ1, setT t d ρ = some ρ1 ∧ N ρ1 S1) (fun n fs S1 => X n fs ρ S1) := by
  simp only [sSet, so_ev]
  congr 1; funext d S1
  cases h : setT t d ρ <;> simp [so]
@[simp] theorem so_par {i j : Nat} {fs : Env → M (List D)} : so (sPar i j fs ρ S) N R X = ok (fs ρ S) (fun ds S1 => ∃ a b, ds = [a, b] ∧ N ((ρ.set i (some a)).set j (some b)) S1) (fun n fs S1 => X n fs ρ S1) := by
  simp only [sPar, so_ev]
  congr 1; funext ds S1
  match ds with
  | [] => simp [so]
  | [_] => simp [so]
  | [a, b] => exact propext ⟨fun z => ⟨a, b, rfl, z⟩, fun ⟨_, _, e, z⟩ => by cases e; exact z⟩
  | _ :: _ :: _ :: _ => simp [so]
@[simp] theorem so_put : so (sPut fa fb fc ρ S) N R X = ok (fa ρ S) (fun d S1 => ok (fb ρ S1) (fun o S2 => ok (fc ρ S2) (fun i S3 => ∃ S4, pSet o i d S3 = some S4 ∧ N ρ S4) (fun n fs S1 => X n fs ρ S1)) (fun n fs S1 => X n fs ρ S1)) (fun n fs S1 => X n fs ρ S1) := by
  simp only [sPut, so_ev]
  congr 1; funext d S1; congr 1; funext o S2; congr 1; funext i S3
  cases h : pSet o i d S3 <;> simp [so]
@[simp] theorem so_for {wi : Env → M MIt} {t : Tg} : so (sFor wi t f ρ S) N R X = ok (wi ρ S) (fun it S1 => so (forM t f it turns 0 ρ S1) N R X) (fun n fs S1 => X n fs ρ S1) := by simp [sFor]
@[simp] theorem so_try {cs : List Cl} : so (sTry f cs ρ S) N R X = so (f ρ S) N R (fun n fs ρ1 S1 => so (clsM n fs ρ1 S1 cs) N R X) := by
  unfold sTry
  cases f ρ S <;> rfl
theorem ok_runF {n m : Nat} {b : MS} {ds : List D} {P : D → Store → Prop} {X : XP} (h : ds.length = m) : ok (runF n m b ds S) P X = so (b (ds.map some ++ List.replicate (n - m) none) S) (fun _ S1 => P .non S1) P (fun n fs _ S1 => X n fs S1) := by
  unfold runF
  rw [if_pos h]
  cases b (ds.map some ++ List.replicate (n - m) none) S <;> rfl
end
theorem for_inv {t : Tg} {f : MS} {it : MIt} {xs : List D} {N : Env → Store → Prop} {R : D → Store → Prop} {X : XPs} (I : Nat → Env → Store → Prop) (hx : xs.length ≤ lim)
    (nx : ∀ i ρ S, i ≤ xs.length → I i ρ S → nextI it i S = .of xs[i]?)
    (step : ∀ i x ρ S, xs[i]? = some x → I i ρ S → ∃ ρ1, setT t x ρ = some ρ1 ∧ so (f ρ1 S) (I (i + 1)) R X) (done : ∀ ρ S, I xs.length ρ S → N ρ S) {ρ : Env} {S : Store} (h0 : I 0 ρ S) : so (forM t f it turns 0 ρ S) N R X := by
  have go : ∀ (k i : Nat) (ρ : Env) (S : Store), i + k = xs.length → ∀ n, k < n → I i ρ S → so (forM t f it n i ρ S) N R X := by
    intro k
    induction k with
    | zero =>
      intro i ρ S hi n hn h
      obtain ⟨n, rfl⟩ : ∃ m, n = m + 1 := ⟨n - 1, by omega⟩
      unfold forM
      have e : xs[i]? = none := List.getElem?_eq_none (by omega)
      rw [nx i ρ S (by omega) h, e]
      obtain rfl : i = xs.length := by omega
      exact done ρ S h
    | succ k ih =>
      intro i ρ S hi n hn h
      obtain ⟨n, rfl⟩ : ∃ m, n = m + 1 := ⟨n - 1, by omega⟩
      unfold forM
      have hl : i < xs.length := by omega
      rw [nx i ρ S (by omega) h, List.getElem?_eq_getElem hl]
      obtain ⟨ρ1, e1, h1⟩ := step i _ ρ S (List.getElem?_eq_getElem hl) h
      simp only [Nxt.of, e1]
      cases e : f ρ1 S with
      | nx ρ2 S2 => rw [e] at h1; exact ih (i + 1) ρ2 S2 (by omega) n (by omega) h1
      | ret d S2 => rw [e] at h1; exact h1
      | exc c fs ρ2 S2 => rw [e] at h1; exact h1
      | brk ρ2 S2 => rw [e] at h1; exact h1.elim
      | ct ρ2 S2 => rw [e] at h1; exact h1.elim
      | bad => rw [e] at h1; exact h1.elim
  exact go xs.length 0 ρ S (by omega) turns (by unfold turns; unfold lim at hx; omega) h0
theorem lc_inv {g : Tg} {tt : Env → M Bool} {fe : ME} {it : MIt} {h : Nat} {ρ : Env} {xs : List D} {P : D → Store → Prop} {X : XP} (I : Nat → List D → Store → Prop) (hx : xs.length ≤ lim)
    (nx : ∀ i acc S, i ≤ xs.length → I i acc S → nextI it i S = .of xs[i]?)
    (len : ∀ i acc S, I i acc S → acc.length ≤ i)
    (step : ∀ i x acc S, xs[i]? = some x → I i acc S → ∃ ρ1, setT g x ρ = some ρ1 ∧ ok (tt ρ1 S) (fun b S1 => if b = true then ok (fe ρ1 S1) (fun y S2 => S2[h]? = some (.lst acc) ∧ I (i + 1) (acc ++ [y]) (S2.set h (.lst (acc ++ [y])))) X0 else I (i + 1) acc S1) X0)
    (done : ∀ acc S, I xs.length acc S → P (.ref h) S) {S : Store} (h0 : I 0 [] S) : ok (lcM g tt fe it h ρ turns 0 S) P X := by
  have go : ∀ (k i : Nat) (acc : List D) (S : Store), i + k = xs.length → ∀ n, k < n → I i acc S → ok (lcM g tt fe it h ρ n i S) P X := by
    intro k
    induction k with
    | zero =>
      intro i acc S hi n hn hI
      obtain ⟨n, rfl⟩ : ∃ m, n = m + 1 := ⟨n - 1, by omega⟩
      unfold lcM
      have e : xs[i]? = none := List.getElem?_eq_none (by omega)
      simp only [nx i acc S (by omega) hI, e, Nxt.of]
      obtain rfl : i = xs.length := by omega
      exact done acc S hI
    | succ k ih =>
      intro i acc S hi n hn hI
      obtain ⟨n, rfl⟩ : ∃ m, n = m + 1 := ⟨n - 1, by omega⟩
      have hl : i < xs.length := by omega
      obtain ⟨ρ1, e1, h1⟩ := step i _ acc S (List.getElem?_eq_getElem hl) hI
      have ln := len i acc S hI
      unfold lcM
      simp only [nx i acc S (by omega) hI, List.getElem?_eq_getElem hl, Nxt.of, e1]
      rw [ok_bnd, ok_nox]
      refine ok_mono h1 (fun b S1 hb => ?_) fun _ _ _ z => z.elim
      cases b with
      | false => exact ih (i + 1) acc S1 (by omega) n (by omega) hb
      | true =>
        simp only [if_true] at hb ⊢
        rw [ok_bnd, ok_nox]
        refine ok_mono hb (fun y S2 hy => ?_) fun _ _ _ z => z.elim
        simp only [hy.1]
        rw [if_pos (show acc.length < lim by omega)]
        exact ih (i + 1) _ _ (by omega) n (by omega) hy.2
  exact go xs.length 0 [] S (by omega) turns (by unfold turns; unfold lim at hx; omega) h0
end Mini

namespace Mini
open PySem L2 PySem.W PySem.Calls PyProof.Rows
def spI (K : PySem.W.Frag) (C : Addr) (fld : Str) : Sp := fun vs H Q _ => ∃ (x : Addr) (y : V), vs = [.ref x, y] ∧ H x = some (exo x C none) ∧ ∀ dx, H dx = none → dx ≠ x → Q .non (upd (upd H dx (exd dx [(fld, y)])) x (exo x C (some dx)))
section
variable {P : Program} {w : World} {K : PySem.W.Frag} {mg : Str → Option Value} {base : Heap} {CX : CXT}
variable {C fI cc cda : Addr} {fld qual : Str} {params : Arguments} {scope : Scope} {dV kV doc pm ct oc : Value} {an od : Option Addr} {osl : Array (Option Value)} {ar : Arg}
variable {p0 p1 p2 p3 p4 p5 p6 p7 p8 p9 : Pos} {txt : Str} {j : Nat}
def cxI (CX : CXT) (P : Program) (w : World) (K : PySem.W.Frag) (mg : Str → Option Value) (base : Heap) (fld qual : Str) (scope : Scope) (f cda cc : Addr) (A : Around) (outer : List PySem.Env) (s : Shared) (H : Hp) (E : XK) : Cx where
  prog := P
  w := w
  K := K
  mg := mg
  base := base
  A := A.deeper (ksEnv qual scope s.heap.objs.size f (.ref cda) cc)
  N := ["self", fld]
  s_0 := s
  H_0 := H
  env := ksEnv qual scope s.heap.objs.size f (.ref cda) cc
  outer := outer
  stack := ksEnv qual scope s.heap.objs.size f (.ref cda) cc :: outer
  ex := []
  calm := true
  fn := fun _ => false
  pn := []
  xe := fun e s' => wpAny (model P w) (A.deeper (ksEnv qual scope s.heap.objs.size f (.ref cda) cc)) (leaving (ksEnv qual scope s.heap.objs.size f (.ref cda) cc) e) (fun _ s'' => CX outer H s E e s'') (fun e' s'' => CX outer H s E e' s'') s'
theorem initI {A : Around} {outer : List PySem.Env} {s : Shared} {H : Hp} {E : XK} {h1 : Heap} {tk : Nat} {x y : V} {u v : Value} (hk : scope.kind = .function) (hcl : ∃ (cl : Value) (cld : Option Addr) (csl : Array (Option Value)), K.lookup cc = some ⟨cl, cld, .cell (some (.ref C)), csl⟩)
    (noc : ∀ y ∈ scope.names, y.2 ≠ .cell) (onlyc : ∀ y, scope.names.lookup y = some .free → y = "__class__") (ls : scope.names.lookup ("self" : Str) = some .local) (lf : scope.names.lookup fld = some .local) (hne : fld ≠ "self")
    (hd : A.handled = none) (e0 : Env0 P w K mg base A outer s H) (ru : RelV x u) (rv : RelV y v) (ns : h1.Ns s.heap.objs.size (fun z => [(("self" : Str), u), (fld, v)].reverse.lookup z)) (kp : ∀ b o, s.heap.get? b = some o → h1.get? b = some o) :
    L2.Inv (cxI CX P w K mg base fld qual scope fI cda cc A outer s H E) [] [some x, some y] H { s with heap := h1, toks := tk } := by
  obtain ⟨cl, cld, csl, hcl⟩ := hcl
  have hcs : ∀ z c, [(("__class__" : Str), cc)].lookup z = some c → z = "__class__" ∧ c = cc := fun z c h => by
    rw [List.lookup_cons] at h
    split at h
    · rename_i q; exact ⟨by simpa using q, by cases h; rfl⟩
    · cases h
  have hcb : base.get? cc = some ⟨cl, cld, .cell (some (.ref C)), csl⟩ := e0.mod.kin _ _ hcl
  have noA : ∀ b : Addr, b ∉ (cxI CX P w K mg base fld qual scope fI cda cc A outer s H E).ex := fun b z => absurd (show b ∈ ([] : List Addr) from z) (by simp)
  refine ⟨⟨e0.mod, hk, rfl, rfl, Nat.le_refl _, fun y z c h1 h2 => (hcs _ _ h1).1.trans (hcs _ _ h2).1.symm, fun y hy => ?_, (fun y c h => by cases h), fun _ => hd, Around.frames_deeper e0.frames, .inr ⟨rfl, rfl⟩, fun b z => absurd z (noA b), e0.bs, e0.bsz, fun b _ _ => noA b, fun b z => absurd z (noA b), e0.funs, e0.frf⟩,
    rfl, e0.bare, Un.kept kp, ⟨_, ns, fun i z v' h1 h2 h3 => ?_⟩, fun z c h => ?_, e0.hok.fresh (Nat.le_refl _), fun z c h => ?_, fun p hp => absurd (show p ∈ ([] : List (Addr × Obj)) from hp) (by simp), e0.hok.kept kp, rfl⟩
  · rcases (show scope.names.lookup y = some .cell ∨ scope.names.lookup y = some .free from hy) with hy | hy
    · exact absurd rfl (noc _ (PySem.mem_of_lookup hy))
    · obtain rfl := onlyc _ hy
      exact ⟨cc, rfl⟩
  · match i, h1, h2 with
    | 0, h1, h2 =>
      cases h1; cases h2
      refine ⟨u, ru, .inl ⟨ls, ?_⟩⟩
      show [(fld, v), (("self" : Str), u)].lookup ("self" : Str) = some u
      rw [List.lookup_cons]
      have : (("self" : Str) == fld) = false := by simpa using fun z => hne z.symm
      rw [this]; rfl
    | 1, h1, h2 =>
      cases h1; cases h2
      refine ⟨v, rv, .inl ⟨lf, ?_⟩⟩
      show [(fld, v), (("self" : Str), u)].lookup fld = some v
      rw [List.lookup_cons, beq_self_eq_true]
    | n + 2, h1, h2 => simp at h2
  · obtain ⟨rfl, rfl⟩ := hcs _ _ h
    exact ⟨_, _, kp _ _ (e0.bs _ _ hcb).1, rfl⟩
  · obtain ⟨rfl, rfl⟩ := hcs _ _ h
    exact (e0.bs _ _ hcb).2
end
section
variable {prog : Program} {w : World} {A : Around} {E : Value → Shared → Prop} {h : Heap} {g : Array GenState} {d : Drawn} {t : Nat} {os : OsState}
variable {nm q : Str} {C N : Addr} {bs bm : List Value} {hdct : Bool} {sn : List Str} {sub : List Value} {ab : Bool} {col : Option Bool} {dd : Option Addr} {k0 k1 k2 k3 k5 : Option Value}
theorem call_bwV {u e t0 : Addr} {rest : List Value} {Q : Value → Shared → Prop}
    (hC : h.get? C = some (excClassObj nm q C N bs bm hdct sn sub ab col dd k0 k1 k2 k3 k5 "ValueError.__new__")) (he : h.get? e = some (HandSPX.excO C t0)) (hu : h.get? u = some (kxs_mw "ValueError.__init__" e)) (hrest : rest.length ≤ sizeLine)
    (hq : ∀ h' t1, (∀ b o, b ≠ e → h.get? b = some o → h'.get? b = some o) → h'.get? e = some (HandSPX.excO C t1) → Q .none ⟨h', g, d, t, os⟩) :
    wpAny (model prog w) A (call (.ref u) rest) Q E ⟨h, g, d, t, os⟩ := by
  refine wpAny_call (codeAny_of_tree ?_)
  show wpAny _ A.in1 (callAny (.ref u) ⟨rest, []⟩) _ _ _
  simp only [callAny]
  refine wpAny_bind (wpAny_load hu ?_)
  simp only [kxs_mw, show (Value.type "method-wrapper" == Value.type "method" || Value.type "method-wrapper" == Value.type "builtin_function_or_method" || Value.type "method-wrapper" == Value.type "method-wrapper") = true by decide, if_true]
  refine W.KFB.if_so (by decide) ?_
  refine wpAny_bind (ESX.check_bound PySem.F.excBase_ValueError hC he rfl ?_)
  refine wpAny_bind (wpAny_pure (wpAny_pure ?_))
  refine ⟨Code.quiet_builtin _ (by decide +kernel), codeAny_builtin PySem.F.excBase_ValueError.initEntry ?_⟩
  rw [Around.under_plainId PySem.F.excBase_ValueError.init.plain _]
  wp_walk
  refine hq _ h.objs.size (fun b o hb ho => ?_) ?_
  · rw [Heap.get?_update_other _ _ (Ne.symm hb)]
    exact Heap.get?_push_of_some _ ho
  · rw [Heap.get?_update_self _ (Heap.get?_push_of_some _ he) rfl]
    rfl
end
section
variable {P : Program} {w : World} {K : PySem.W.Frag} {mg : Str → Option Value} {base : Heap} {CX : CXT}
variable {C fI cc cda : Addr} {fld qual : Str} {params : Arguments} {scope : Scope} {dV kV doc pm ct oc : Value} {an od : Option Addr} {osl : Array (Option Value)} {ar : Arg} {cdD : ClassData}
variable {p0 p1 p2 p3 p4 p5 p6 p7 p8 p9 : Pos} {txt : Str} {j : Nat}
abbrev bodyI (fld txt : Str) (j : Nat) (p0 p1 p2 p3 p4 p5 p6 p7 p8 p9 : Pos) : List Stmt := [.Expr (.Call (.Attribute (.Call (.Name "super" p0) [] [] p1) "__init__" p2) [.Constant (.str txt) j p3] [] p4) p5, .Assign [.Attribute (.Name "self" p6) fld p7] (.Name fld p8) p9]
theorem init_fn (lk : K.lookup fI = some ⟨oc, od, .func (ksFn "__init__" qual params (bodyI fld txt j p0 p1 p2 p3 p4 p5 p6 p7 p8 p9) scope dV kV doc pm an (.ref cda) ct cc), osl⟩) (hcd : codeIn K (.ref cda) qual = true)
    (har : (params.posonlyargs ++ params.args).head? = some ar) (hself : ar.arg = "self") (hk : scope.kind = .function) (hco : scope.isCoroutine = false) (hgen : scope.isGenerator = false)
    (noc : ∀ y ∈ scope.names, y.2 ≠ .cell) (onlyc : ∀ y, scope.names.lookup y = some .free → y = "__class__") (ls : scope.names.lookup ("self" : Str) = some .local) (lf : scope.names.lookup fld = some .local) (lsup : scope.names.lookup ("super" : Str) = some .globalImplicit) (lcl : scope.names.lookup ("__class__" : Str) = some .free)
    (hne : fld ≠ "self") (hdbf : (fld == ("__debug__" : Str)) = false) (hcdf : (fld == ("__classdict__" : Str)) = false)
    (hcode : ∃ (ccl : Value) (cdd : Option Addr) (vs : Array Value) (ccs : Array (Option Value)) (file : Str) (tf : Tok), K.lookup cda = some ⟨ccl, cdd, .fields vs, ccs⟩ ∧ vs[2]? = some (.str file tf) ∧ ((P.main.file : Str) == file) = true)
    (hcl : ∃ (cl : Value) (cld : Option Addr) (csl : Array (Option Value)), K.lookup cc = some ⟨cl, cld, .cell (some (.ref C)), csl⟩)
    (hcls : clsIn K C = some cdD) (hsub : mroIn K C (.ref C) = some true) (sup : mg "super" = none) (htop : (P.main.scope.names.lookup ("super" : Str)).isSome = false)
    (hmeth : ks_superIn K C C "__init__" = some (some (.builtin "ValueError.__init__"))) (hve : subIn K (.ref C) (.type "ValueError") = some true) (hopq : nsIn K cStatics "thirdparty.any" = some none)
    (T : OexC K C) (hno : PySem.W.findIn K (.ref C) fld = some none)
    (sw1 : ∀ L : Addr, swapsWith (.Call (.Attribute (.Call (.Name "super" p0) [] [] p1) "__init__" p2) [.Constant (.str txt) j p3] [] p4) none p5.line (ksEnv qual scope L fI (.ref cda) cc) = pure false)
    (sw2 : ∀ L : Addr, swapsWith (.Name fld p8) (some (.Attribute (.Name "self" p6) fld p7)) p9.line (ksEnv qual scope L fI (.ref cda) cc) = pure false)
    (hint : ∀ L : Addr, interactive (ksEnv qual scope L fI (.ref cda) cc) = false)
    (hev : ∀ L : Addr, ∃ pl : Sem Bool, eval (.Call (.Attribute (.Call (.Name "super" p0) [] [] p1) "__init__" p2) [.Constant (.str txt) j p3] [] p4) (ksEnv qual scope L fI (.ref cda) cc) = (do
      let ov ← attributeBase (.Call (.Name "super" p0) [] [] p1) "__init__" (ksEnv qual scope L fI (.ref cda) cc) (eval (.Call (.Name "super" p0) [] [] p1) (ksEnv qual scope L fI (.ref cda) cc))
      standAt p2.atName
      let (f, first) ← holding [ov] (getMethod ov "__init__" pl)
      callWith p4 f first (backTo p4 (starEach [.Constant (.str txt) j p3] (ksEnv qual scope L fI (.ref cda) cc))) [])) :
    FnOk P w K mg base CX 1 fI (ksFn "__init__" qual params (bodyI fld txt j p0 p1 p2 p3 p4 p5 p6 p7 p8 p9) scope dV kV doc pm an (.ref cda) ct cc) ["self", fld] (spI K C fld) := by
  refine ⟨fun vs H Q E h => by obtain ⟨x, y, rfl, _⟩ := h; rfl, fun A outer s H args us vs Q E hr e0 hb r hsp => ?_⟩
  obtain ⟨xa, y, rfl, hx, hq⟩ := hsp
  cases r with
  | @cons _ u _ ur ru r2 =>
    cases r2 with
    | @cons _ v _ ur2 rv r3 =>
      cases r3
      obtain rfl : u = Value.ref xa := ru
      have KX : K.In s.heap := e0.mod.kin.keeps fun b o e => (e0.bs b o e).1
      have lim : s.heap.NoLimit := e0.mod.nolimit.keeps fun b o e => (e0.bs b o e).1
      obtain ⟨ccl, cdd, cvs, ccs, file, tf, hc1, hc2, hc3⟩ := hcode
      have hcl0 := hcl
      obtain ⟨cl, cld, csl, hcl⟩ := hcl
      refine ks_codeAny_call_defAt (body := bodyI fld txt j p0 p1 p2 p3 p4 p5 p6 p7 p8 p9) (binds := [(("self" : Str), Value.ref xa), (fld, v)]) hr.depth (KX _ _ lk) rfl lim (codeRec_of KX hcd) rfl hb noc (fun z hz => ?_) (fun h₀ hns hk₀ => ?_) hco hgen hk
      · simp only [List.mem_cons, List.not_mem_nil, or_false] at hz
        rcases hz with rfl | rfl
        · exact ls
        · exact lf
      have I0 : L2.Inv (cxI CX P w K mg base fld qual scope fI cda cc A outer s H E) [] [some (.ref xa), some y] H { s with heap := h₀, toks := s.toks + 2 } := initI hk hcl0 noc onlyc ls lf hne hr.hd e0 rfl rv hns hk₀
      show PySem.wpAt (model P w) (A.deeper (ksEnv qual scope s.heap.objs.size fI (.ref cda) cc)) (.func (bodyI fld txt j p0 p1 p2 p3 p4 p5 p6 p7 p8 p9) (ksEnv qual scope s.heap.objs.size fI (.ref cda) cc)) (execs (bodyI fld txt j p0 p1 p2 p3 p4 p5 p6 p7 p8 p9) (ksEnv qual scope s.heap.objs.size fI (.ref cda) cc)) _ _ _
      obtain ⟨pl, hpl⟩ := hev s.heap.objs.size
      refine ks_wpAt_execs_cons (ks_wpAt_Expr_any (ks_wpAt_MethodCall (pl := pl) ?_ hpl) (hint _) (sw1 _))
      have X0 : K.In h₀ := KX.keeps hk₀
      obtain ⟨oD, hD1, hD2⟩ : ∃ oD, h₀.get? C = some oD ∧ oD.data = .cls cdD := by
        unfold clsIn at hcls
        split at hcls
        · rename_i c d cd' sl ho
          cases hcls
          exact ⟨_, X0 _ _ ho, rfl⟩
        · cases hcls
      obtain ⟨mb, hb1, hb2⟩ := e0.mod.blt
      have kb : ∀ b o, base.get? b = some o → h₀.get? b = some o := fun b o e => hk₀ b o (e0.bs b o e).1
      obtain ⟨t1, hxo⟩ := exo_at I0.hok hx
      obtain ⟨hp, gg, dd0, tt, os⟩ := s
      refine ks_wpAt_super_base (env := ksEnv qual scope hp.objs.size fI (.ref cda) cc) lsup lcl (by decide) rfl (X0 _ _ lk) rfl har rfl (X0 _ _ hc1) rfl hc2 hc3 htop ?_
      refine ks_loadName_global hk lsup (PySem.Calls.loadGlobal_builtin (env := ksEnv qual scope hp.objs.size fI (.ref cda) cc) (e0.mod.glob.keeps kb) sup (hb1.keeps kb) ((hb2 _ (by decide)).trans (by decide +kernel)) ⟨rfl, ?_⟩)
      refine wpAny_loadName_free hk lcl rfl ⟨_, X0 _ _ hcl, rfl⟩ ?_
      rw [hself]
      refine wpAny_loadName_local hk ls hns (v := .ref xa) ?_ ?_
      · show [(fld, v), (("self" : Str), Value.ref xa)].lookup ("self" : Str) = some (.ref xa)
        rw [List.lookup_cons]
        have : (("self" : Str) == fld) = false := by simpa using fun z => hne z.symm
        rw [this]; rfl
      refine ks_wpAny_isType_cls hD1 hD2 ⟨rfl, ?_⟩
      refine ks_wpAny_call_super hD1 hD2 hxo rfl (fun c e => by cases e) (looks_mroIn X0 hsub) (fun h1 e1 kk1 => ?_)
      have I1 : L2.Inv (cxI CX P w K mg base fld qual scope fI cda cc A outer ⟨hp, gg, dd0, tt, os⟩ H E) [] [some (.ref xa), some y] H ⟨h1, gg, dd0, tt + 2, os⟩ := I0.kept (t' := tt + 2) kk1
      have X1 : K.In h1 := X0.keeps kk1
      have hx1 := kk1 _ _ hxo
      have II : InstAt h1 xa ({ cls := .ref C, dict := none, data := .fields #[.ref t1, .none, .none, .none, .bool false, .none] } : Obj) C none := ⟨hx1, rfl, rfl, trivial⟩
      have hI : Looks (model P w) h1 (isInstance (.ref xa) (.type "ValueError")) true := II.type.andThen (looks_subIn X1 hve)
      have hm2 : alongIn K "__init__" ((cdD.mro.dropWhile (· != .ref C)).drop 1) = some (some (.builtin "ValueError.__init__")) := by
        unfold ks_superIn at hmeth
        rw [hcls] at hmeth
        exact hmeth
      refine kxs_getMethod kxs_ValueError e1 (looks_opaque X1 hopq) (l₀ := cdD.mro) (fun A Q E s k q => wpAny_bind ((looks_clsIn X1 hcls) A _ E s k (wpAny_pure q))) rfl X1 hm2 hI (ks_ne X1 II hcls) (by decide) ?_
      have kk2 : ∀ b o, h1.get? b = some o → (h1.push (kxs_mw "ValueError.__init__" xa)).get? b = some o := fun b o e => Heap.get?_push_of_some _ e
      have I2 : L2.Inv (cxI CX P w K mg base fld qual scope fI cda cc A outer ⟨hp, gg, dd0, tt, os⟩ H E) [] [some (.ref xa), some y] H ⟨h1.push (kxs_mw "ValueError.__init__" xa), gg, dd0, tt + 2 + 1, os⟩ := I1.kept (t' := tt + 2 + 1) kk2
      refine kxs_callWith (i := "ValueError.__init__") (x := xa) rfl (evalArgs_plain (PySem.Calls.spliced_cons ?_))
      show wpAny _ _ (eval (.Constant (.str txt) j p3) (ksEnv qual scope hp.objs.size fI (.ref cda) cc)) _ _ _
      refine PySem.Calls.Constant_str (PySem.Calls.spliced_nil ⟨Heap.get?_push_at rfl rfl, ?_⟩)
      obtain ⟨nm, q, N, bs, bm, sn, sub, ab, col, dd, k0, k1, k2, k3, k5, hC, hbm⟩ := T.cls
      refine call_bwV (e := xa) (X1.keeps kk2 _ _ hC) (kk2 _ _ hx1) (Heap.get?_push_at rfl rfl) (by show (1 : Nat) ≤ sizeLine; decide) (fun h' t3 k3 hx3 => ?_)
      have J1 := I2.write (t' := tt + 2 + 1 + 1) (x := xa) (e := xa) (o := exo xa C none) (by rw [hx]; exact True.intro) (.inl rfl) k3 ⟨_, hx3⟩ (exo_ok hx3)
      have eu : upd H xa (exo xa C none) = H := by
        funext b
        by_cases hb : b = xa
        · rw [hb, upd_same, hx]
        · rw [upd_ne hb]
      rw [eu] at J1
      show PySem.wpAt (model P w) _ _ (execs [.Assign [.Attribute (.Name "self" p6) fld p7] (.Name fld p8) p9] (ksEnv qual scope hp.objs.size fI (.ref cda) cc)) _ _ _
      refine wpAt_of_wpAny (wpAny_mono ((pss_one (X := cxI CX P w K mg base fld qual scope fI cda cc A outer ⟨hp, gg, dd0, tt, os⟩ H E) (ps_ost (pv 0 rfl (.inl ls)) (pv 1 rfl (.inl lf) hdbf hcdf) (sw2 _))).run [] _ [some (.ref xa), some y] H { nx := fun _ H' => Q .non H', rt := Q } J1 ?_) (fun fl s' hs => ?_) fun e s' hs => hs)
      · exact ⟨y, rfl, .ref xa, rfl, xa, C, rfl, T, hno, .inl ⟨hx, hq⟩⟩
      have fin : ∀ {σ' : L2.St} {H' : Hp} {v : V} {u : Value} {s' : Shared}, L2.Inv (cxI CX P w K mg base fld qual scope fI cda cc A outer ⟨hp, gg, dd0, tt, os⟩ H E) [] σ' H' s' → RelV v u → Q v H' → CE outer P w H ⟨hp, gg, dd0, tt, os⟩ Q u s' :=
        fun {σ' H' v u s'} J rv q => ⟨v, H', J.os, J.bare, J.base, J.hok, rv, q⟩
      cases fl with
      | ret u =>
        obtain ⟨v, σ', H', J, rv, q⟩ := hs
        exact fin J rv q
      | next =>
        obtain ⟨σ', H', J, q⟩ := hs
        exact fin (v := V.non) (u := Value.none) J rfl q
      | brk =>
        obtain ⟨_, _, _, q⟩ := hs
        exact False.elim q
      | cont =>
        obtain ⟨_, _, _, q⟩ := hs
        exact False.elim q
end
end Mini
namespace Mini
open PySem L2 PyProof.Rows
def sRaiseF (c fld : Str) (fe : ME) : MS := fun ρ => ev (fe ρ) ρ fun d S => .exc c [(fld, d)] ρ S
section
variable {X : Cx} {W : WX} {pos p q : Pos} {x fld : Str} {C fI : Addr} {e : Expr} {fe : ME} {k : Nat} {fd : FuncData}
theorem ss_raiseF (hc : X.calm = true) (tk : Takes X W) (T : OexC X.K C) (iC : PySem.W.findIn X.K (.ref C) "__init__" = some (some (.ref fI))) (tI : PySem.W.typeIn X.K (.ref fI) = some (.type "function"))
    (F1 : FnOk X.prog X.w X.K X.mg X.base (L2.CX X.prog X.w) k fI fd ["self", fld] (spI X.K C fld)) (hr : Room (k + 1) X.A) (hb : Binds X.K fd ["self", fld] []) (hg : Gl X x) (hm : X.mg x = some (.ref C)) (he : PE X e (tE (cf X) W fe))
    (hdb : (x == ("__debug__" : Str)) = false := by decide) (hst : starEach [e] X.env = (false, eval e X.env) :: starEach [] X.env := by rfl) (hpl : (backTo pos (starEach [] X.env)).any (·.1) = false := by rfl) :
    PS X (.Raise (some (.Call (.Name x p) [e] [] pos)) none q) (tS (cf X) W (sRaiseF x fld fe)) := by
  refine PS.imp (ps_raise hc tk (pmk_oex (ds := []) (dvs := []) T iC tI F1 hr hb .nil (passes_call tk fun _ _ _ _ h => h.elim) hg hm (pa_cons he pa_nil hst) hdb hst hpl)) ?_
  rintro E σ H ⟨ι, S, ρ, s, en, k⟩
  refine ⟨ι, S, ρ, s, en, post_ev en k fun d S1 ι1 H1 v e1 st1 s1 r1 k1 => ?_⟩
  refine ⟨by show (1 : Nat) ≤ 1000; decide, fun a ha => ⟨a, v, rfl, upd_same, fun dx hdx hne => ⟨rfl, dx, [(fld, v)], upd_same, (upd_ne hne).trans upd_same, (upd_ne hne).symm.trans hdx, ?_⟩⟩⟩
  have h0 : H1 dx = none := (upd_ne hne).symm.trans hdx
  have eu : upd (del (upd (upd (upd H1 a (exo a C none)) dx (exd dx [(fld, v)])) a (exo a C (some dx))) a) dx (.xd [(fld, v)]) = upd H1 dx (.xd [(fld, v)]) := by
    funext b
    by_cases hb : b = dx
    · rw [hb, upd_same, upd_same]
    · rw [upd_ne hb, upd_ne hb]
      by_cases hb2 : b = a
      · rw [hb2, del_same, ha]
      · rw [del_ne hb2, upd_ne hb2, upd_ne hb, upd_ne hb2]
  rw [eu]
  obtain ⟨s2, st2⟩ := s1.laid (o := .xd [(fld, v)]) h0
  exact k1 ι1 _ σ _ _ st2 s2 ((en.step st1).step st2) ⟨C, rfl, hm, _, upd_same, .cons (r1.step st2) .nil, by simp⟩
end
end Mini
namespace Mini
open PySem L2 PyProof.Rows PySem.W PySem.Calls
structure FCls (P : Program) (w : World) (K : PySem.W.Frag) (mg : Str → Option Value) (x fld : Str) : Prop where
  ex : ∃ (C fI : Addr) (fd : FuncData), mg x = some (.ref C) ∧ OexC K C ∧ PySem.W.findIn K (.ref C) "__init__" = some (some (.ref fI)) ∧ PySem.W.typeIn K (.ref fI) = some (.type "function") ∧ (∀ base, FnOk P w K mg base (L2.CX P w) 1 fI fd ["self", fld] (spI K C fld)) ∧ Binds K fd ["self", fld] []
section
variable {X : Cx} {W : WX} {pos p q : Pos} {x fld : Str} {e : Expr} {fe : ME}
theorem ss_raiseC (hc : X.calm = true) (tk : Takes X W) (F : FCls X.prog X.w X.K X.mg x fld) (hr : Room 2 X.A) (hg : Gl X x) (he : PE X e (tE (cf X) W fe))
    (hdb : (x == ("__debug__" : Str)) = false := by decide) (hst : starEach [e] X.env = (false, eval e X.env) :: starEach [] X.env := by rfl) (hpl : (backTo pos (starEach [] X.env)).any (·.1) = false := by rfl) :
    PS X (.Raise (some (.Call (.Name x p) [e] [] pos)) none q) (tS (cf X) W (sRaiseF x fld fe)) := by
  obtain ⟨C, fI, fd, hm, T, iC, tI, F1, hb⟩ := F.ex
  exact ss_raiseF hc tk T iC tI (F1 _) hr hb hg hm he hdb hst hpl
end
section
variable {P : Program} {w : World} {K : PySem.W.Frag} {mg : Str → Option Value} {h : Heap} {C fI cc cda N dN : Addr} {x fld nm q qual txt file : Str} {j : Nat} {tf : Tok} {st : Stmt} {bs bm : List Value} {sn : List Str} {sub : List Value} {ab : Bool} {col : Option Bool} {dd : Option Addr} {k0 k1 k2 k3 k5 : Option Value}
variable {dV kV doc pm ct oc cl ccl : Value} {an od cld cdd : Option Addr} {osl csl ccs : Array (Option Value)} {cvs : Array Value} {ar : Arg} {cdD : ClassData} {p0 p1 p2 p3 p4 p5 p6 p7 p8 p9 : Pos}
theorem fcls_mk (X : K.In h) (G : h.Ns mainGlobals mg) (a : PySem.W.nsIn K mainGlobals x = some (some (.ref C)))
    (l : K.lookup C = some (excClassObj nm q C N bs bm true sn sub ab col dd k0 k1 k2 k3 k5 "ValueError.__new__")) (hbm : PySem.HandSPX.refsVE bm = true)
    (sa : PySem.W.findIn K (.ref C) "__setattr__" = some (some (.builtin "object.__setattr__"))) (exC : PySem.W.subIn K (.ref C) (.type "BaseException") = some true) (tyC : PySem.W.typeIn K (.ref C) = some (.type "type")) (kC : PySem.W.keepIn K (.ref C) = true)
    (iC : PySem.W.findIn K (.ref C) "__init__" = some (some (.ref fI))) (tI : PySem.W.typeIn K (.ref fI) = some (.type "function"))
    (lk : K.lookup fI = some ⟨oc, od, .func (ksFn "__init__" qual (defArgs st) (defBody st) (defScope st) dV kV doc pm an (.ref cda) ct cc), osl⟩) (hcd : codeIn K (.ref cda) qual = true)
    (lc : K.lookup cda = some ⟨ccl, cdd, .fields cvs, ccs⟩) (lc2 : cvs[2]? = some (.str file tf)) (lc3 : ((P.main.file : Str) == file) = true)
    (lcl : K.lookup cc = some ⟨cl, cld, .cell (some (.ref C)), csl⟩) (hcls : clsIn K C = some cdD) (hsub : mroIn K C (.ref C) = some true) (sup : PySem.W.nsIn K mainGlobals "super" = some none)
    (hmeth : ks_superIn K C C "__init__" = some (some (.builtin "ValueError.__init__"))) (hve : subIn K (.ref C) (.type "ValueError") = some true) (hopq : nsIn K cStatics "thirdparty.any" = some none) (hno : PySem.W.findIn K (.ref C) fld = some none)
    (hbody : defBody st = bodyI fld txt j p0 p1 p2 p3 p4 p5 p6 p7 p8 p9) (har : ((defArgs st).posonlyargs ++ (defArgs st).args).head? = some ar) (hself : ar.arg = "self") (hk : (defScope st).kind = .function) (hco : (defScope st).isCoroutine = false) (hgen : (defScope st).isGenerator = false)
    (noc : ∀ y ∈ (defScope st).names, y.2 ≠ .cell) (onlyc : ∀ y ∈ (defScope st).names, y.2 = .free → y.1 = "__class__") (ls : (defScope st).names.lookup ("self" : Str) = some .local) (lf : (defScope st).names.lookup fld = some .local) (lsup : (defScope st).names.lookup ("super" : Str) = some .globalImplicit) (lclf : (defScope st).names.lookup ("__class__" : Str) = some .free)
    (hne : fld ≠ "self") (hdbf : (fld == ("__debug__" : Str)) = false) (hcdf : (fld == ("__classdict__" : Str)) = false) (htop : (P.main.scope.names.lookup ("super" : Str)).isSome = false)
    (sw1 : ∀ L : Addr, swapsWith (.Call (.Attribute (.Call (.Name "super" p0) [] [] p1) "__init__" p2) [.Constant (.str txt) j p3] [] p4) none p5.line (ksEnv qual (defScope st) L fI (.ref cda) cc) = pure false)
    (sw2 : ∀ L : Addr, swapsWith (.Name fld p8) (some (.Attribute (.Name "self" p6) fld p7)) p9.line (ksEnv qual (defScope st) L fI (.ref cda) cc) = pure false)
    (hint : ∀ L : Addr, interactive (ksEnv qual (defScope st) L fI (.ref cda) cc) = false)
    (hev : ∀ L : Addr, ∃ pl : Sem Bool, eval (.Call (.Attribute (.Call (.Name "super" p0) [] [] p1) "__init__" p2) [.Constant (.str txt) j p3] [] p4) (ksEnv qual (defScope st) L fI (.ref cda) cc) = (do
      let ov ← attributeBase (.Call (.Name "super" p0) [] [] p1) "__init__" (ksEnv qual (defScope st) L fI (.ref cda) cc) (eval (.Call (.Name "super" p0) [] [] p1) (ksEnv qual (defScope st) L fI (.ref cda) cc))
      standAt p2.atName
      let (f, first) ← holding [ov] (getMethod ov "__init__" pl)
      callWith p4 f first (backTo p4 (starEach [.Constant (.str txt) j p3] (ksEnv qual (defScope st) L fI (.ref cda) cc))) []))
    (hb : ∀ us : List Value, us.length = 2 → bindArgs (ksFn "__init__" qual (defArgs st) (defBody st) (defScope st) dV kV doc pm an (.ref cda) ct cc) ⟨us, []⟩ = pure ((["self", fld] : List Str).zip us)) : FCls P w K mg x fld := by
  have T : OexC K C := ⟨⟨nm, q, N, bs, bm, sn, sub, ab, col, dd, k0, k1, k2, k3, k5, l, hbm⟩, sa, exC, tyC, kC⟩
  rw [hbody] at lk hb
  have oc' : ∀ y, (defScope st).names.lookup y = some .free → y = "__class__" := fun y hy => onlyc _ (PySem.mem_of_lookup hy) rfl
  refine ⟨C, fI, _, PySem.W.mg_of X G a, T, iC, tI, fun base => init_fn lk hcd har hself hk hco hgen noc oc' ls lf lsup lclf hne hdbf hcdf ⟨_, _, _, _, _, _, lc, lc2, lc3⟩ ⟨_, _, _, lcl⟩ hcls hsub ?_ htop hmeth hve hopq T hno sw1 sw2 hint hev, ?_⟩
  · exact PySem.W.mg_none_of X G sup
  · exact Binds.all hb
end
end Mini
namespace Mini
open PySem L2 PyProof.Rows
def rIsD (K : PySem.W.Frag) (D a x2 : Addr) : List V → Hp → VK → Prop := fun xs H Q => ∃ (c : V) (cv : Value) (b : Bool) (vs : List (Str × V)), xs = [.ref a, c] ∧ H x2 = some (.xd vs) ∧ (∀ u, RelV c u → u = cv) ∧ PySem.W.kitOne K (.ref D) cv = some b ∧ Q (.bl b) H
theorem call_isD {X : Cx} {a D x2 : Addr} {oe : Obj} {pn : List (Addr × Obj)} (C : ExcC X.K D) (hz : Zc (.ref D) (some x2) oe) (hf : ∃ vs, oe.data = .fields vs) : CallR (X.suite a ((a, oe) :: pn)) (.builtin "isinstance") (rIsD X.K D a x2) := by
  intro pins s σ H xs us Q I r h
  obtain ⟨c, cv, b, vs2, rfl, hx2, hcv, e, q⟩ := h
  cases r with
  | cons rx rr =>
    cases rr with
    | cons rt rr =>
      cases rr
      cases rx
      have ec := hcv _ rt
      subst ec
      obtain ⟨hget, _⟩ := I.pin (a, oe) (List.mem_append.mpr (.inl List.mem_cons_self))
      obtain ⟨vs, hv⟩ := hf
      obtain ⟨mA, hns, hr⟩ : ObjOk X.prog X.w H s.heap x2 (.xd vs2) := I.hok x2 _ hx2
      obtain ⟨od, ho, hlk⟩ := lookIn_ns hns
      have J : PySem.W.InstAt s.heap a oe D (some od) := ⟨hget, hz.1, by unfold PySem.W.notCls; rw [hv] <;> rfl, by rw [hz.2]; exact ho⟩
      exact PySem.W.kia_one (PySem.W.kitx_exc (by obtain ⟨cd, hc, _⟩ := PySem.W.any_some C.hd; rw [hc]; rfl) C.hg C.hk C.hs C.ha C.hn C.ht C.hm) I.kIn J e (fun z => nomatch z) fun tk => ⟨.bl b, H, I.kept (t' := tk) fun _ _ z => z, rfl, q⟩
def xIsB (b : Bool) (_ : List (Str × D)) : ME := fun _ S => .ok (.bl b) S
section
variable {X : Cx} {i : Option Nat} {a : Addr} {n : Str} {fs : List (Str × D)} {cls : Value} {d : Option Addr} {oe : Obj} {pn : List (Addr × Obj)}
theorem sx_isb {j : Nat} {y x : Str} {b : Bool} {C2 : Addr} {f p p2 p3 : Pos} (hz : Zc cls d oe) (hf : ∃ vs, oe.data = .fields vs) (hN : X.N[j]? = some y) (hv : Vis X.env.scope y) (hi : i = some j) (hg : Gl X "isinstance") (hm : X.mg "isinstance" = none) (hg2 : Gl X x) (hm2 : X.mg x = some (.ref C2))
    (fc : ∀ C, X.mg n = some (.ref C) → ExcC X.K C ∧ PySem.W.kitOne X.K (.ref C) (.ref C2) = some b) (hd2 : (x == ("__debug__" : Str)) = false := by decide)
    (hd : (y == ("__debug__" : Str)) = false := by decide) (hcd : (y == ("__classdict__" : Str)) = false := by decide) :
    PE (X.suite a ((a, oe) :: pn)) (.Call (.Name "isinstance" f) [.Name y p, .Name x p2] [] p3) (tX (cf X) i a n fs cls d (xIsB b fs)) := by
  have pv : PE (X.suite a ((a, oe) :: pn)) (.Name y p) (tVar j) := pe_var hN hv hd hcd
  refine ⟨fun pins s σ H Q I ⟨ι, S, ρ, sm, en, ex, q⟩ => ?_⟩
  obtain ⟨C, rfl, hm3, hd'⟩ := id ex.exc
  obtain ⟨ec, ek⟩ := fc C hm3
  cases d with
  | some x2 =>
    obtain ⟨vs, hx2, _, ne⟩ := hd'
    refine (pe_callB (X := X.suite a ((a, oe) :: pn)) (call_isD ec hz hf) hg hm boot_isinstance1 (pa_cons pv (pa_cons (pe_glob (X := X.suite a ((a, oe) :: pn)) (v := .ref C2) hg2 hm2 rfl hd2) pa_nil))).run pins s σ H Q I ?_
    exact ⟨_, ex.slot j hi, .ref C2, .ref C2, b, vs, rfl, hx2, (fun u r => r), ek, q ι H _ .refl sm (.bl b)⟩
  | none =>
    refine (pe_callB (X := X.suite a ((a, oe) :: pn)) (call_isE ec hz hf) hg hm boot_isinstance1 (pa_cons pv (pa_cons (pe_glob (X := X.suite a ((a, oe) :: pn)) (v := .ref C2) hg2 hm2 rfl hd2) pa_nil))).run pins s σ H Q I ?_
    exact ⟨_, ex.slot j hi, .ref C2, .ref C2, b, rfl, (fun u r => r), ek, q ι H _ .refl sm (.bl b)⟩
end
end Mini
namespace C
open PySem L2 Mini
def b_is_tuple_of : MS :=
    (sRet (eAnd (eIsi "tuple" (eVar 1)) (eOp pEq (eB nLen (aCons (eVar 1) aNil)) (eVar 0))))
def g_is_tuple_of : List D → M D := runF 2 2 b_is_tuple_of
def b_is_word : MS :=
    (sRet (eAnd (eIsi "str" (eVar 0)) (eAnd (eChain pLe pLe (eC (.int 1)) (eB nLen (aCons (eVar 0) aNil)) (eVar 1)) (eB nAll (aCons (eLc (iAny (eVar 0)) (.nm 2) ttYes (eOp pIn (eVar 2) (eC (.str "abcdefghijklmnopqrstuvwxyz"))) [2]) aNil)))))
def g_is_word : List D → M D := runF 3 2 b_is_word
def b_is_name : MS :=
    (sRet (eCall g_is_word (aCons (eVar 0) (aCons (eC (.int 8)) aNil))))
def g_is_name : List D → M D := runF 1 1 b_is_name
def b_is_right : MS :=
    (sRet (eCall g_is_word (aCons (eVar 0) (aCons (eC (.int 3)) aNil))))
def g_is_right : List D → M D := runF 1 1 b_is_right
def b_names_fault : MS :=
    (sSeq (sFor (iEnu (eVar 1)) (.tp [(.nm 3), (.nm 4)])
    (sIf (tOr' (tNot' (tTru (eCall g_is_name (aCons (eVar 4) aNil)))) (tOr' (tAnd' (tBl (eOp pGt (eVar 3) (eC (.int 0)))) (tBl (eOp pLe (eVar 4) (eOp pIdx (eVar 1) (eOp pSub (eVar 3) (eC (.int 1))))))) (tBl (eOp pIn (eVar 4) (eVar 2)))))
    (sRet (eTup (aCons (eVar 0) (aCons (eVar 3) aNil))))
    sNil))
    (sRet (eC .non)))
def g_names_fault : List D → M D := runF 5 3 b_names_fault
def b_is_hold_of : MS :=
    (sSeq (sIf (tOr' (tNot' (tTru (eCall g_is_tuple_of (aCons (eC (.int 3)) (aCons (eVar 1) aNil))))) (tNot' (tTru (eB nAll (aCons (eLc (iAny (eCut (eVar 1) oNone (oSome (eC (.int 2))))) (.nm 2) ttYes (eAnd (eCall g_is_name (aCons (eVar 2) aNil)) (eOp pIn (eVar 2) (eVar 0))) [2]) aNil)))))
    (sRet (eC (.bl false)))
    sNil)
    (sRet (eCall g_is_right (aCons (eOp pIdx (eVar 1) (eC (.int 2))) aNil))))
def g_is_hold_of : List D → M D := runF 3 2 b_is_hold_of
def b_graph_fault : MS :=
    (sSeq (sIf (tOr' (tNot' (tTru (eCall g_is_tuple_of (aCons (eC (.int 3)) (aCons (eVar 0) aNil))))) (tNot' (tTru (eB nAll (aCons (eLc (iAny (eVar 0)) (.nm 1) ttYes (eIsi "tuple" (eVar 1)) [1]) aNil)))))
    (sRet (eTup aNil))
    sNil)
    (sSeq (sSet (.tp [(.nm 2), (.nm 3), (.nm 4)]) (eVar 0))
    (sSeq (sSet (.nm 5) (eCall g_names_fault (aCons (eC (.int 0)) (aCons (eVar 2) (aCons (eTup aNil) aNil)))))
    (sSeq (sIf (tBl (eOp pIs (eVar 5) (eC .non)))
    (sSet (.nm 5) (eCall g_names_fault (aCons (eC (.int 1)) (aCons (eVar 3) (aCons (eVar 2) aNil)))))
    sNil)
    (sSeq (sIf (tBl (eOp pIsNot (eVar 5) (eC .non)))
    (sRet (eVar 5))
    sNil)
    (sSeq (sSet (.nm 6) (eDc (iAny (eOp pAdd (eVar 2) (eVar 3))) (.nm 7) ttYes (eVar 7) (eC (.bl true)) [7]))
    (sSeq (sFor (iEnu (eVar 4)) (.tp [(.nm 8), (.nm 9)])
    (sIf (tOr' (tNot' (tTru (eCall g_is_hold_of (aCons (eVar 6) (aCons (eVar 9) aNil))))) (tAnd' (tBl (eOp pGt (eVar 8) (eC (.int 0)))) (tBl (eOp pLe (eVar 9) (eOp pIdx (eVar 4) (eOp pSub (eVar 8) (eC (.int 1))))))))
    (sRet (eTup (aCons (eC (.int 2)) (aCons (eVar 8) aNil))))
    sNil))
    (sRet (eC .non)))))))))
def g_graph_fault : List D → M D := runF 10 1 b_graph_fault
def b_check_graph : MS :=
    (sSeq (sSet (.nm 1) (eCall g_graph_fault (aCons (eVar 0) aNil)))
    (sIf (tBl (eOp pIsNot (eVar 1) (eC .non)))
    (sRaiseF "InvalidGraph" "place" (eVar 1))
    sNil))
def g_check_graph : List D → M D := runF 2 1 b_check_graph
def b_has_name : MS :=
    (sRet (eAnd (eCall g_is_name (aCons (eVar 1) aNil)) (eOr (eOp pIn (eVar 1) (eOp pIdx (eVar 0) (eC (.int 0)))) (eOp pIn (eVar 1) (eOp pIdx (eVar 0) (eC (.int 1)))))))
def g_has_name : List D → M D := runF 2 2 b_has_name
def b_check_name : MS :=
    (sIf (tNot' (tTru (eCall g_has_name (aCons (eVar 0) (aCons (eVar 1) aNil)))))
    (sRaiseF "UnknownName" "name" (eVar 1))
    sNil)
def g_check_name : List D → M D := runF 2 2 b_check_name
def b__law_pot : MS :=
    (sSeq (sSet (.nm 2) (eOp pMul (eC (.int 7)) (eVar 1)))
    (sSeq (sIf (tBl (eOp pLt (eVar 1) (eB nLen (aCons (eVar 0) aNil))))
    (sSet (.nm 2) (eOp pIdx (eVar 0) (eVar 1)))
    sNil)
    (sSeq (sSet (.nm 2) (eOp pMod (eB nInt (aCons (eB nAbs (aCons (eVar 2) aNil)) aNil)) (eOp pMul (eOp pMul (eOp pMul (eOp pPow (eC (.int 10)) (eC (.int 60))) (eOp pPow (eC (.int 10)) (eC (.int 60)))) (eOp pPow (eC (.int 10)) (eC (.int 60)))) (eOp pPow (eC (.int 10)) (eC (.int 60))))))
    (sRet (eLst (aCons (eVar 2) (aCons (eB nInt (aCons (eOp pGe (eVar 2) (eOp pPow (eC (.int 10)) (eC (.int 18)))) aNil)) (aCons (eOp pMul (eC (.int 3)) (eVar 1)) aNil))))))))
def g__law_pot : List D → M D := runF 3 2 b__law_pot
def b__law_draw : MS :=
    (sSeq (sPut (eOp pAdd (eOp pIdx (eVar 0) (eC (.int 2))) (eC (.int 1))) (eVar 0) (eC (.int 2)))
    (sSeq (sIf (tAnd' (tBl (eOp pEq (eOp pIdx (eVar 0) (eC (.int 1))) (eC (.int 1)))) (tBl (eOp pGt (eOp pIdx (eVar 0) (eC (.int 0))) (eC (.int 0)))))
    (sSeq (sSet (.nm 2) (eOp pMod (eB nInt (aCons (eOp pIdx (eVar 0) (eC (.int 0))) aNil)) (eVar 1)))
    (sSeq (sPut (eOp pDiv (eOp pIdx (eVar 0) (eC (.int 0))) (eVar 1)) (eVar 0) (eC (.int 0)))
    (sRet (eVar 2))))
    sNil)
    (sSeq (sSet (.nm 3) (eOp pMod (eB nInt (aCons (eOp pMul (eOp pAdd (eOp pAdd (eOp pIdx (eVar 0) (eC (.int 0))) (eOp pMul (eC (.int 977)) (eOp pIdx (eVar 0) (eC (.int 2))))) (eC (.int 1))) (eC (.int 48271))) aNil)) (eC (.int 2147483647))))
    (sSeq (sSet (.nm 3) (eOp pMod (eB nInt (aCons (eOp pMul (eVar 3) (eVar 3)) aNil)) (eC (.int 2147483629))))
    (sSeq (sSet (.nm 3) (eOp pMod (eB nInt (aCons (eOp pMul (eOp pAdd (eVar 3) (eOp pMul (eC (.int 40692)) (eOp pIdx (eVar 0) (eC (.int 2))))) (eC (.int 69621))) aNil)) (eC (.int 2147483563))))
    (sRet (eOp pMod (eB nInt (aCons (eOp pDiv (eVar 3) (eC (.int 8))) aNil)) (eVar 1))))))))
def g__law_draw : List D → M D := runF 4 2 b__law_draw
def b__law_name : MS :=
    (sSeq (sSet (.tp [(.nm 1), (.nm 2)]) (eTup (aCons (eC (.str "abcxyz")) (aCons (eC (.int 2)) aNil))))
    (sSeq (sIf (tBl (eOp pEq (eCall g__law_draw (aCons (eVar 0) (aCons (eC (.int 3)) aNil))) (eC (.int 0))))
    (sSet (.tp [(.nm 1), (.nm 2)]) (eTup (aCons (eC (.str "abcdefghijklmnopqrstuvwxyz")) (aCons (eC (.int 4)) aNil))))
    sNil)
    (sRet (eMt "str" qJoin (eC (.str "")) (aCons (eLc (iArgs rng1 (aCons (eOp pAdd (eC (.int 1)) (eCall g__law_draw (aCons (eVar 0) (aCons (eVar 2) aNil)))) aNil)) (.nm 3) ttYes (eOp pIdx (eVar 1) (eCall g__law_draw (aCons (eVar 0) (aCons (eB nLen (aCons (eVar 1) aNil)) aNil)))) [3]) aNil)))))
def g__law_name : List D → M D := runF 4 1 b__law_name
def b__law_names : MS :=
    (sSeq (sSet (.nm 2) (eLst aNil))
    (sSeq (sFor (iArgs rng1 (aCons (eVar 1) aNil)) (.nm 3)
    (sSeq (sSet (.nm 4) (eCall g__law_name (aCons (eVar 0) aNil)))
    (sSeq (sIf (tBl (eOp pIn (eVar 4) (eVar 2)))
    (sSet (.nm 4) (eOp pAdd (eC (.str "qqqq")) (eOp pIdx (eC (.str "abcdefghijklmnopqrstuvwxyz")) (eVar 3))))
    sNil)
    (sExpr (eMt "list" qAppend (eVar 2) (aCons (eVar 4) aNil))))))
    (sRet (eVar 2))))
def g__law_names : List D → M D := runF 5 2 b__law_names
def b__law_rights : MS :=
    (sRet (eLst (aCons (eC (.str "t")) (aCons (eC (.str "g")) (aCons (eC (.str "t")) (aCons (eC (.str "g")) (aCons (eC (.str "r")) (aCons (eC (.str "w")) (aCons (eOp pIdx (eLst (aCons (eC (.str "own")) (aCons (eC (.str "x")) (aCons (eC (.str "do")) aNil)))) (eCall g__law_draw (aCons (eVar 0) (aCons (eC (.int 3)) aNil)))) aNil)))))))))
def g__law_rights : List D → M D := runF 1 1 b__law_rights
def b__law_graph : MS :=
    (sSeq (sPar 4 5 (aCons (eOp pAdd (eC (.int 1)) (eCall g__law_draw (aCons (eVar 0) (aCons (eVar 1) aNil)))) (aCons (eCall g__law_draw (aCons (eVar 0) (aCons (eOp pAdd (eVar 2) (eC (.int 1))) aNil))) aNil)))
    (sSeq (sSet (.nm 6) (eCall g__law_names (aCons (eVar 0) (aCons (eOp pAdd (eVar 4) (eVar 5)) aNil))))
    (sSeq (sPar 7 8 (aCons (eCall g__law_rights (aCons (eVar 0) aNil)) (aCons (eLst aNil) aNil)))
    (sSeq (sFor (iArgs rng1 (aCons (eCall g__law_draw (aCons (eVar 0) (aCons (eOp pAdd (eVar 3) (eC (.int 1))) aNil))) aNil)) (.nm 9)
    (sSeq (sPar 10 11 (aCons (eOp pIdx (eVar 6) (eCall g__law_draw (aCons (eVar 0) (aCons (eB nLen (aCons (eVar 6) aNil)) aNil)))) (aCons (eOp pIdx (eVar 6) (eCall g__law_draw (aCons (eVar 0) (aCons (eB nLen (aCons (eVar 6) aNil)) aNil)))) aNil)))
    (sExpr (eMt "list" qAppend (eVar 8) (aCons (eTup (aCons (eVar 10) (aCons (eVar 11) (aCons (eOp pIdx (eVar 7) (eCall g__law_draw (aCons (eVar 0) (aCons (eB nLen (aCons (eVar 7) aNil)) aNil)))) aNil)))) aNil)))))
    (sRet (eTup (aCons (eB nTuple (aCons (eB nSorted (aCons (eCut (eVar 6) oNone (oSome (eVar 4))) aNil)) aNil)) (aCons (eB nTuple (aCons (eB nSorted (aCons (eCut (eVar 6) (oSome (eVar 4)) oNone) aNil)) aNil)) (aCons (eB nTuple (aCons (eB nSortSet (aCons (eVar 8) aNil)) aNil)) aNil)))))))))
def g__law_graph : List D → M D := runF 12 4 b__law_graph
def b__law_is_word : MS :=
    (sSeq (sSet (.nm 2) (eC (.str "abcdefghijklmnopqrstuvwxyz")))
    (sRet (eAnd (eIsi "str" (eVar 0)) (eAnd (eChain pLe pLe (eC (.int 1)) (eB nLen (aCons (eVar 0) aNil)) (eVar 1)) (eB nAll (aCons (eLc (iAny (eVar 0)) (.nm 3) ttYes (eOp pIn (eVar 3) (eVar 2)) [3]) aNil))))))
def g__law_is_word : List D → M D := runF 4 2 b__law_is_word
def b__law_same (g__law_same : List D → M D) : MS :=
    (sSeq (sIf (tOr' (tTru (eIsi "tuple" (eVar 1))) (tTru (eIsi "list" (eVar 1))))
    (sSeq (sIf (tOr' (tBl (eOp pNe (eIsi "tuple" (eVar 1)) (eIsi "tuple" (eVar 0)))) (tBl (eOp pNe (eIsi "list" (eVar 1)) (eIsi "list" (eVar 0)))))
    (sRet (eC (.bl false)))
    sNil)
    (sRet (eAnd (eOp pEq (eB nLen (aCons (eVar 0) aNil)) (eB nLen (aCons (eVar 1) aNil))) (eB nAll (aCons (eLc (iArgs rng1 (aCons (eB nLen (aCons (eVar 1) aNil)) aNil)) (.nm 2) ttYes (eCall g__law_same (aCons (eOp pIdx (eVar 0) (eVar 2)) (aCons (eOp pIdx (eVar 1) (eVar 2)) aNil))) [2]) aNil)))))
    sNil)
    (sSeq (sIf (tBl (eOp pIs (eVar 1) (eC .non)))
    (sRet (eOp pIs (eVar 0) (eC .non)))
    sNil)
    (sSeq (sIf (tTru (eIsi "bool" (eVar 1)))
    (sRet (eAnd (eIsi "bool" (eVar 0)) (eOp pEq (eVar 0) (eVar 1))))
    sNil)
    (sSeq (sIf (tOr' (tTru (eIsi "bool" (eVar 0))) (tOr' (tBl (eOp pNe (eIsi "int" (eVar 0)) (eIsi "int" (eVar 1)))) (tBl (eOp pNe (eIsi "str" (eVar 0)) (eIsi "str" (eVar 1))))))
    (sRet (eC (.bl false)))
    sNil)
    (sRet (eOp pEq (eVar 0) (eVar 1)))))))
def f__law_same : Nat → List D → M D
  | 0 => badF
  | k + 1 => runF 3 2 (b__law_same (f__law_same k))
def g__law_same : List D → M D := f__law_same 16
def b__law_stranger : MS :=
    (sSeq (sSet (.nm 2) (eOp pAdd (eOp pIdx (eVar 1) (eC (.int 0))) (eOp pIdx (eVar 1) (eC (.int 1)))))
    (sSeq (sSet (.nm 3) (eC (.str "b")))
    (sSeq (sIf (tBl (eOp pNe (eVar 2) (eTup aNil)))
    (sSet (.nm 3) (eOp pIdx (eVar 2) (eCall g__law_draw (aCons (eVar 0) (aCons (eB nLen (aCons (eVar 2) aNil)) aNil)))))
    sNil)
    (sSeq (sSet (.nm 4) (eLst (aCons (eOp pAdd (eVar 3) (eC (.str "k"))) (aCons (eCut (eVar 3) oNone (oSome (eUn pNeg (eC (.int 1))))) (aCons (eOp pAdd (eVar 3) (eC (.str "kk"))) (aCons (eCut (eVar 3) (oSome (eC (.int 1))) oNone) (aCons (eC (.str "strange")) aNil)))))))
    (sSeq (sSet (.nm 5) (eCall g__law_draw (aCons (eVar 0) (aCons (eC (.int 4)) aNil))))
    (sSeq (sSet (.nm 4) (eOp pAdd (eCut (eVar 4) (oSome (eVar 5)) oNone) (eLst (aCons (eC (.str "strange")) aNil))))
    (sRet (eOp pIdx (eLc (iAny (eVar 4)) (.nm 6) (tAnd' (tTru (eCall g__law_is_word (aCons (eVar 6) (aCons (eC (.int 8)) aNil)))) (tBl (eOp pNotIn (eVar 6) (eVar 2)))) (eVar 6) [6]) (eC (.int 0))))))))))
def g__law_stranger : List D → M D := runF 7 2 b__law_stranger
def b__law_odd : MS :=
    (sSeq (sSet (.nm 1) (eLst (aCons (eC .non) (aCons (eC (.bl true)) (aCons (eC (.bl false)) (aCons (eC (.int 0)) (aCons (eC (.int 7)) (aCons (eUn pNeg (eC (.int 1))) (aCons (eOp pPow (eC (.int 10)) (eC (.int 30))) (aCons (eC (.str "")) (aCons (eC (.str "A")) (aCons (eC (.str "a b")) (aCons (eC (.str "abcdefghi")) (aCons (eC (.str "a1")) (aCons (eC (.str "t-")) (aCons (eTup (aCons (eC (.str "a")) aNil)) (aCons (eLst (aCons (eC (.str "a")) aNil)) (aCons (eLst aNil) (aCons (eTup aNil) (aCons (eC (.str "Zz")) (aCons (eC (.str " a")) (aCons (eC (.str "a\n")) aNil))))))))))))))))))))))
    (sRet (eOp pIdx (eVar 1) (eCall g__law_draw (aCons (eVar 0) (aCons (eB nLen (aCons (eVar 1) aNil)) aNil))))))
def g__law_odd : List D → M D := runF 2 1 b__law_odd
end C

namespace Mini
open PySem
@[simp] theorem ok_var {i : Nat} {ρ : Env} {S : Store} {P : D → Store → Prop} {X : XP} : ok (eVar i ρ S) P X = ∃ d, ρ[i]? = some (some d) ∧ P d S := by
  unfold eVar
  match ρ[i]? with
  | none => simp
  | some none => simp
  | some (some d) => simp
section
variable {n : Nat} {b : MS} {x y z u : D} {S : Store} {P : D → Store → Prop} {X : XP}
theorem run1 : ok (runF n 1 b [x] S) P X = so (b (some x :: List.replicate (n - 1) none) S) (fun _ S1 => P .non S1) P (fun m fs _ S1 => X m fs S1) := ok_runF (ds := [x]) rfl
theorem run2 : ok (runF n 2 b [x, y] S) P X = so (b (some x :: some y :: List.replicate (n - 2) none) S) (fun _ S1 => P .non S1) P (fun m fs _ S1 => X m fs S1) := ok_runF (ds := [x, y]) rfl
theorem run3 : ok (runF n 3 b [x, y, z] S) P X = so (b (some x :: some y :: some z :: List.replicate (n - 3) none) S) (fun _ S1 => P .non S1) P (fun m fs _ S1 => X m fs S1) := ok_runF (ds := [x, y, z]) rfl
theorem run4 : ok (runF n 4 b [x, y, z, u] S) P X = so (b (some x :: some y :: some z :: some u :: List.replicate (n - 4) none) S) (fun _ S1 => P .non S1) P (fun m fs _ S1 => X m fs S1) := ok_runF (ds := [x, y, z, u]) rfl
end
structure Kp (M : List Nat) (S S' : Store) : Prop where
  len : S.length ≤ S'.length
  get : ∀ (h : Nat) (m : MO), h ∉ M → S[h]? = some m → S'[h]? = some m
theorem Kp.refl {M : List Nat} {S : Store} : Kp M S S := ⟨Nat.le_refl _, fun _ _ _ e => e⟩
theorem Kp.trans {M : List Nat} {S S1 S2 : Store} (a : Kp M S S1) (b : Kp M S1 S2) : Kp M S S2 := ⟨Nat.le_trans a.len b.len, fun h m n e => b.get h m n (a.get h m n e)⟩
theorem Kp.wk {M M' : List Nat} {S S1 : Store} (a : Kp M S S1) (s : ∀ h ∈ M, h ∈ M') : Kp M' S S1 := ⟨a.len, fun h m n e => a.get h m (fun z => n (s h z)) e⟩
theorem Kp.set {S : Store} {h : Nat} {m : MO} : Kp [h] S (S.set h m) := ⟨by rw [List.length_set]; exact Nat.le_refl _, fun j o n e => by
  rw [List.getElem?_set_ne (fun z => n (by simp [z]))]; exact e⟩
theorem Kp.new {M : List Nat} {S G : Store} : Kp M S (S ++ G) := ⟨by simp, fun j o n e => by
  rw [List.getElem?_append_left (List.getElem?_eq_some_iff.mp e).1]; exact e⟩
def PotOk (S : Store) (h k : Nat) : Prop := ∃ a b c : Int, S[h]? = some (.lst [.int a, .int b, .int c]) ∧ 0 ≤ a ∧ a < 10 ^ 240 ∧ 0 ≤ c ∧ c + k ≤ 10 ^ 9
theorem PotOk.mono {S : Store} {h k j : Nat} (p : PotOk S h k) (hj : j ≤ k) : PotOk S h j := let ⟨a, b, c, e, h1, h2, h3, h4⟩ := p; ⟨a, b, c, e, h1, h2, h3, by omega⟩
theorem set_get {S : Store} {h : Nat} {m m' : MO} (e : S[h]? = some m') : (S.set h m)[h]? = some m := List.getElem?_set_self (List.getElem?_eq_some_iff.mp e).1
section
variable {S : Store} {h : Nat} {xs : List D} {i : Int} {d : D}
theorem idxL (e : S[h]? = some (.lst xs)) (ha : L2.atI xs i = some d) : pIdx (.ref h) (.int i) S = some (d, S) := by
  simp only [pIdx, e, ha, Option.map_some]
theorem idxR (e : S[h]? = some (.rol xs)) (ha : L2.atI xs i = some d) : pIdx (.ref h) (.int i) S = some (d, S) := by
  simp only [pIdx, e, ha, Option.map_some]
theorem idxT (ha : L2.atI xs i = some d) : pIdx (.tup xs) (.int i) S = some (d, S) := by
  simp only [pIdx, ha, Option.map_some]
theorem setL {k : Nat} (e : S[h]? = some (.lst xs)) (ha : L2.ixN xs.length i = some k) : pSet (.ref h) (.int i) d S = some (S.set h (.lst (xs.set k d))) := by
  simp only [pSet, e, ha, Option.map_some]
theorem eqI {i j : Int} : pEq (.int i) (.int j) S = some (.bl (decide (i = j)), S) := by
  have : toP S (.int i) = some (.int i) ∧ toP S (.int j) = some (.int j) := ⟨rfl, rfl⟩
  simp only [pEq, eqD, this.1, this.2]
  have z : (SeqAt.shaped (.int i) && SeqAt.shaped (.int j)) = true := rfl
  rw [if_pos z]
  show some (D.bl (PyData.eqv (.int i) (.int j)), S) = _
  congr 3
end
theorem ok_val {α : Type} {o : Out α} {S : Store} {P : α → Prop} (h : ok o (fun a S' => S' = S ∧ P a) X0) : ∃ a, o = .ok a S ∧ P a := by
  cases o with
  | ok a S1 => obtain ⟨rfl, p⟩ := h; exact ⟨a, rfl, p⟩
  | exc n fs S1 => exact h.elim
  | bad => exact h.elim
theorem ltI {i j : Int} {S : Store} : pLt (.int i) (.int j) S = some (.bl (decide (i < j)), S) := rfl
theorem gtI {i j : Int} {S : Store} : pGt (.int i) (.int j) S = some (.bl (decide (j < i)), S) := rfl
theorem leI {i j : Int} {S : Store} : pLe (.int i) (.int j) S = some (.bl (!decide (j < i)), S) := rfl
theorem geI {i j : Int} {S : Store} : pGe (.int i) (.int j) S = some (.bl (!decide (i < j)), S) := rfl
theorem addI {i j : Int} {S : Store} : pAdd (.int i) (.int j) S = some (.int (i + j), S) := rfl
theorem subI {i j : Int} {S : Store} : pSub (.int i) (.int j) S = some (.int (i - j), S) := rfl
theorem big {i : Int} (h0 : 0 ≤ i) (h : i < 10 ^ 300) : i.natAbs < 2 ^ 4000 := by
  have h1 : i.natAbs < 10 ^ 300 := by
    have : (i.natAbs : Int) < ((10 ^ 300 : Nat) : Int) := by
      rw [Int.natAbs_of_nonneg h0]
      exact_mod_cast h
    exact_mod_cast this
  exact Nat.lt_of_lt_of_le h1 (by decide)
theorem mulI {i j : Int} {S : Store} (hi : 0 ≤ i) (hi2 : i < 10 ^ 300) (hj : 0 ≤ j) (hj2 : j < 10 ^ 300) : pMul (.int i) (.int j) S = some (.int (i * j), S) := by
  have z : (decide (i.natAbs < 2 ^ 4000) && decide (j.natAbs < 2 ^ 4000)) = true := by rw [decide_eq_true (big hi hi2), decide_eq_true (big hj hj2)]; rfl
  show (if (decide (i.natAbs < 2 ^ 4000) && decide (j.natAbs < 2 ^ 4000)) = true then _ else _) = _
  rw [if_pos z]
theorem modI {i j : Int} {S : Store} (h : 0 < j) : pMod (.int i) (.int j) S = some (.int (i % j), S) := by
  show (if 0 < j then _ else _) = _
  rw [if_pos h]
theorem divI {i j : Int} {S : Store} (h : 0 < j) (h2 : j < 1073741824) : pDiv (.int i) (.int j) S = some (.int (i / j), S) := by
  have z : (decide (0 < j) && decide (j < 1073741824)) = true := by rw [decide_eq_true h, decide_eq_true h2]; rfl
  show (if (decide (0 < j) && decide (j < 1073741824)) = true then _ else _) = _
  rw [if_pos z]
theorem intI {i : Int} {S : Store} : nInt [.int i] S = some (.int i, S) := rfl
theorem mod_rng {i j : Int} (h : 0 < j) : 0 ≤ i % j ∧ i % j < j := ⟨Int.emod_nonneg _ (by omega), Int.emod_lt_of_pos _ h⟩
theorem draw_spec {S : Store} {h k : Nat} {many : Int} {X : XP} (p : PotOk S h (k + 1)) (h1 : 1 ≤ many) (h2 : many < 1000000) :
    ok (C.g__law_draw [.ref h, .int many] S) (fun d S' => ∃ r, d = .int r ∧ 0 ≤ r ∧ r < many ∧ PotOk S' h k ∧ Kp [h] S S') X := by
  obtain ⟨a, b, c, e, ha, ha2, hc, hk⟩ := p
  unfold C.g__law_draw
  rw [run2]
  unfold C.b__law_draw
  simp only [so_seq, so_put, ok_eOp, ok_var, ok_eC]
  refine ⟨_, rfl, _, idxL e rfl, _, rfl, _, rfl, _, setL (k := 2) e rfl, ?_⟩
  have e1 : (S.set h (.lst [.int a, .int b, .int (c + 1)]))[h]? = some (.lst [.int a, .int b, .int (c + 1)]) := set_get e
  have kp : Kp [h] S (S.set h (.lst [.int a, .int b, .int (c + 1)])) := Kp.set
  dsimp only [List.set]
  generalize S.set h (.lst [.int a, .int b, .int (c + 1)]) = S1 at e1 kp
  obtain ⟨t, ht, _⟩ := ok_val (P := fun _ => True) (S := S1) (o := tAnd' (tBl (eOp pEq (eOp pIdx (eVar 0) (eC (.int 1))) (eC (.int 1)))) (tBl (eOp pGt (eOp pIdx (eVar 0) (eC (.int 0))) (eC (.int 0)))) (some (.ref h) :: some (.int many) :: List.replicate (4 - 2) none) S1) (by
    simp only [ok_tAnd, ok_tBl, ok_eOp, ok_var, ok_eC]
    refine ⟨_, rfl, _, idxL e1 rfl, _, eqI, _, rfl, ?_⟩
    by_cases hb : b = 1
    · simp only [hb, decide_true, if_true, ok_tBl, ok_eOp, ok_var, ok_eC]
      exact ⟨_, rfl, _, idxL e1 rfl, _, gtI, _, rfl, rfl, trivial⟩
    · simp only [hb, decide_false, Bool.false_eq_true, if_false, ok_pur, and_self])
  rw [so_if, ht, ok_ok]
  have p1 : PotOk S1 h k := ⟨a, b, c + 1, e1, ha, ha2, by omega, by push_cast at hk ⊢; omega⟩
  cases t with
  | true =>
    simp only [if_true, so_seq, so_set, so_put, so_ret, ok_eOp, ok_eB, ok_aCons, ok_aNil, ok_var, ok_eC]
    refine ⟨_, rfl, _, idxL e1 rfl, _, intI, _, rfl, _, modI (by omega), _, rfl, ?_⟩
    refine ⟨_, rfl, _, idxL e1 rfl, _, rfl, _, divI (by omega) (by omega), _, rfl, _, setL (k := 0) e1 rfl, _, rfl, ?_⟩
    have hr := mod_rng (i := a) (show 0 < many by omega)
    refine ⟨_, rfl, hr.1, hr.2, ⟨a / many, b, c + 1, set_get e1, Int.ediv_nonneg ha (by omega), ?_, by omega, by push_cast at hk ⊢; omega⟩, kp.trans Kp.set⟩
    exact Int.lt_of_le_of_lt (Int.ediv_le_self _ ha) ha2
  | false =>
    simp only [Bool.false_eq_true, if_false, so_nil, so_set, so_ret, ok_eOp, ok_eB, ok_aCons, ok_aNil, ok_var, ok_eC]
    have c9 : c + 1 < 10 ^ 10 := by push_cast at hk; omega
    refine ⟨_, rfl, _, idxL e1 rfl, _, rfl, _, idxL e1 rfl, _, mulI (by decide) (by decide) (by omega) (Int.lt_trans c9 (by decide)), _, addI, _, addI, _, mulI ?_ ?_ (by decide) (by decide), _, intI, _, modI (by decide), _, rfl, ?_⟩
    · omega
    · have h240 : (10 : Int) ^ 240 + 977 * 10 ^ 10 + 1 < 10 ^ 300 := by decide
      have h977 : 977 * (c + 1) < 977 * 10 ^ 10 := by omega
      exact Int.lt_trans (by omega) h240
    generalize hm : (a + 977 * (c + 1) + 1) * 48271 % 2147483647 = m
    have hm1 := mod_rng (i := (a + 977 * (c + 1) + 1) * 48271) (show (0 : Int) < 2147483647 by decide)
    rw [hm] at hm1
    refine ⟨_, rfl, _, rfl, _, mulI hm1.1 (Int.lt_trans hm1.2 (by decide)) hm1.1 (Int.lt_trans hm1.2 (by decide)), _, intI, _, modI (by decide), _, rfl, ?_⟩
    generalize hn : m * m % 2147483629 = n
    have hn1 := mod_rng (i := m * m) (show (0 : Int) < 2147483629 by decide)
    rw [hn] at hn1
    refine ⟨_, rfl, _, rfl, _, idxL e1 rfl, _, mulI (by decide) (by decide) (by omega) (Int.lt_trans c9 (by decide)), _, addI, _, mulI (by omega) ?_ (by decide) (by decide), _, intI, _, modI (by decide), _, rfl, ?_⟩
    · have : (2147483629 : Int) + 40692 * 10 ^ 10 < 10 ^ 300 := by decide
      exact Int.lt_trans (by omega) this
    generalize hq : (n + 40692 * (c + 1)) * 69621 % 2147483563 = q
    have hr := mod_rng (i := q / 8) (show 0 < many by omega)
    exact ⟨_, rfl, _, divI (by decide) (by decide), _, intI, _, rfl, _, modI (by omega), _, rfl, hr.1, hr.2, p1, kp⟩
theorem newL_eq {xs : List D} {S : Store} (h : xs.length ≤ lim) : newL xs S = some (.ref S.length, S ++ [.lst xs]) := by unfold newL; rw [if_pos h]; rfl
theorem tupO_eq {xs : List D} {S : Store} (h : xs.length ≤ lim) : tupO xs S = some (.tup xs, S) := by unfold tupO; rw [if_pos h]
theorem strO_eq {x : Str} {S : Store} (h : x.length ≤ lim) : strO x S = some (.str x, S) := by unfold strO; rw [if_pos h]
theorem new_get {S : Store} {m : MO} : (S ++ [m])[S.length]? = some m := by rw [List.getElem?_append_right (Nat.le_refl _)]; simp
theorem powI {i j : Int} {S : Store} (h : (decide (0 ≤ j) && decide (j ≤ 1000) && decide (i.natAbs < 2 ^ 64)) = true) : pPow (.int i) (.int j) S = some (.int (i ^ j.toNat), S) := by
  show (if (decide (0 ≤ j) && decide (j ≤ 1000) && decide (i.natAbs < 2 ^ 64)) = true then _ else _) = _
  rw [if_pos h]
theorem lenL {S : Store} {h : Nat} {xs : List D} (e : S[h]? = some (.lst xs)) : nLen [.ref h] S = some (.int xs.length, S) := by simp only [nLen, lenD, e, Option.map_some]
theorem lenR {S : Store} {h : Nat} {xs : List D} (e : S[h]? = some (.rol xs)) : nLen [.ref h] S = some (.int xs.length, S) := by simp only [nLen, lenD, e, Option.map_some]
theorem lenT {S : Store} {xs : List D} : nLen [.tup xs] S = some (.int xs.length, S) := rfl
theorem lenS {S : Store} {x : Str} (h : x.length ≤ lim) : nLen [.str x] S = some (.int x.length, S) := by
  simp only [nLen, lenD, if_pos h, Option.map_some]
theorem atI_nat {α : Type} {xs : List α} {i : Nat} {d : α} (h : xs[i]? = some d) : L2.atI xs (i : Int) = some d := by
  have hl : i < xs.length := (List.getElem?_eq_some_iff.mp h).1
  have e : L2.ixN xs.length (i : Int) = some i := by
    unfold L2.ixN
    simp [hl]
  unfold L2.atI
  rw [e]
  exact h
def Scr (S : Store) (h : Nat) (ns : List Int) : Prop := S[h]? = some (.lst (ns.map D.int)) ∨ S[h]? = some (.rol (ns.map D.int))
theorem Scr.kp {M : List Nat} {S S' : Store} {h : Nat} {ns : List Int} (s : Scr S h ns) (k : Kp M S S') (hm : h ∉ M) : Scr S' h ns := s.imp (k.get h _ hm) (k.get h _ hm)
theorem Scr.len {S : Store} {h : Nat} {ns : List Int} (s : Scr S h ns) : nLen [.ref h] S = some (.int ns.length, S) := by
  rcases s with e | e
  · rw [lenL e, List.length_map]
  · rw [lenR e, List.length_map]
theorem Scr.idx {S : Store} {h i : Nat} {ns : List Int} {n : Int} (s : Scr S h ns) (e : ns[i]? = some n) : pIdx (.ref h) (.int i) S = some (.int n, S) := by
  have e2 : (ns.map D.int)[i]? = some (.int n) := by rw [List.getElem?_map, e]; rfl
  rcases s with z | z
  · exact idxL z (atI_nat e2)
  · exact idxR z (atI_nat e2)
theorem Scr.lt {S : Store} {h : Nat} {ns : List Int} (s : Scr S h ns) : h < S.length := by
  rcases s with e | e <;> exact (List.getElem?_eq_some_iff.mp e).1
theorem absI {i : Int} {S : Store} : nAbs [.int i] S = some (.int (if i < 0 then -i else i), S) := rfl
theorem intB {b : Bool} {S : Store} : nInt [.bl b] S = some (.int (if b then 1 else 0), S) := rfl
theorem pot_spec {S : Store} {h at' : Nat} {ns : List Int} {X : XP} (s : Scr S h ns) (hat : at' < 1000) :
    ok (C.g__law_pot [.ref h, .int at'] S) (fun d S' => d = .ref S.length ∧ PotOk S' S.length 100000000 ∧ Kp [] S S') X := by
  unfold C.g__law_pot
  rw [run2]
  unfold C.b__law_pot
  rw [so_seq, so_set]
  simp only [ok_eOp, ok_var, ok_eC]
  refine ⟨_, rfl, _, mulI (by decide) (by decide) (by omega) (by omega), _, rfl, ?_⟩
  rw [so_seq]
  suffices go : ∀ c : Int, so (sSeq (sSet (.nm 2) (eOp pMod (eB nInt (aCons (eB nAbs (aCons (eVar 2) aNil)) aNil)) (eOp pMul (eOp pMul (eOp pMul (eOp pPow (eC (.int 10)) (eC (.int 60))) (eOp pPow (eC (.int 10)) (eC (.int 60)))) (eOp pPow (eC (.int 10)) (eC (.int 60)))) (eOp pPow (eC (.int 10)) (eC (.int 60))))))
      (sRet (eLst (aCons (eVar 2) (aCons (eB nInt (aCons (eOp pGe (eVar 2) (eOp pPow (eC (.int 10)) (eC (.int 18)))) aNil)) (aCons (eOp pMul (eC (.int 3)) (eVar 1)) aNil))))) [some (.ref h), some (.int at'), some (.int c)] S) (fun _ S1 => D.non = .ref S.length ∧ PotOk S1 S.length 100000000 ∧ Kp [] S S1) (fun d S' => d = .ref S.length ∧ PotOk S' S.length 100000000 ∧ Kp [] S S') (fun m fs _ S1 => X m fs S1) by
    simp only [so_if, ok_tBl, ok_eOp, ok_eB, ok_aCons, ok_aNil, ok_var]
    refine ⟨_, rfl, _, rfl, _, s.len, _, ltI, _, rfl, ?_⟩
    by_cases hl : at' < ns.length
    · simp only [show ((at' : Int) < (ns.length : Int)) from by omega, decide_true, if_true, so_set, ok_eOp, ok_var]
      refine ⟨_, rfl, _, rfl, _, s.idx (List.getElem?_eq_getElem hl), _, rfl, ?_⟩
      exact go ns[at']
    · simp only [show ¬ ((at' : Int) < (ns.length : Int)) from by omega, decide_false, Bool.false_eq_true, if_false, so_nil]
      exact go (7 * at')
  intro c
  simp only [so_seq, so_set, so_ret, ok_eOp, ok_eB, ok_eLst, ok_aCons, ok_aNil, ok_var, ok_eC]
  refine ⟨_, rfl, _, absI, _, intI, _, powI rfl, _, powI rfl, _, mulI (by decide) (by decide) (by decide) (by decide), _, powI rfl, _, mulI (by decide) (by decide) (by decide) (by decide), _, powI rfl, _, mulI (by decide) (by decide) (by decide) (by decide), _, modI (by decide), _, rfl, ?_⟩
  have hr := mod_rng (i := if c < 0 then -c else c) (show (0 : Int) < 10 ^ 60 * 10 ^ 60 * 10 ^ 60 * 10 ^ 60 by decide)
  refine ⟨_, rfl, _, rfl, _, powI rfl, _, geI, _, intB, _, rfl, _, mulI (by decide) (by decide) (by omega) (by omega), _, newL_eq (show 3 ≤ lim by decide), rfl, ⟨_, _, _, new_get, hr.1, ?_, by omega, by omega⟩, Kp.new⟩
  have e240 : (10 : Int) ^ 60 * 10 ^ 60 * 10 ^ 60 * 10 ^ 60 = 10 ^ 240 := by decide
  rw [← e240]
  exact hr.2
end Mini
namespace Mini
open PySem L2 PyProof.Rows PySem.W
def eP (d : D) : PyData := (dP (fun _ => none) d).getD .none
def Clo (d : D) : Prop := ∃ p, ∀ g, dP g d = some p
theorem Clo.enc {d : D} (c : Clo d) (S : Store) : encD S d = eP d ∧ toP S d = some (eP d) := by
  obtain ⟨p, h⟩ := c
  have e1 : eP d = p := by unfold eP; rw [h]; rfl
  have e2 : toP S d = some p := h _
  exact ⟨(encD_of e2).trans e1.symm, e2.trans (congrArg some e1.symm)⟩
theorem clo_str (x : Str) : Clo (.str x) := ⟨.str x, fun _ => rfl⟩
theorem clo_all : ∀ {xs : List D}, (∀ d ∈ xs, Clo d) → ∀ g, dPs g xs = some (xs.map eP)
  | [], _, _ => rfl
  | d :: r, h, g => by
    obtain ⟨p, hp⟩ := h d List.mem_cons_self
    have e1 : eP d = p := by unfold eP; rw [hp]; rfl
    rw [dPs, hp, clo_all (fun e m => h e (List.mem_cons_of_mem _ m)) g, List.map_cons, e1]; rfl
theorem clo_tup {xs : List D} (h : ∀ d ∈ xs, Clo d) : Clo (.tup xs) := ⟨.tuple (xs.map eP), fun g => by rw [dP, clo_all h g]; rfl⟩
theorem eP_str (x : Str) : eP (.str x) = .str x := rfl
def asc (l : List D) : Prop := l.Pairwise fun a b => dataLt (eP a) (eP b) = true
def Uni (l : List D) : Prop := (∀ d ∈ l, Clo d) ∧ ∀ a ∈ l, ∀ b ∈ l, keyToks (eP a) = keyToks (eP b) → a = b
theorem Uni.sub {l l' : List D} (u : Uni l) (s : ∀ d ∈ l', d ∈ l) : Uni l' := ⟨fun d m => u.1 d (s d m), fun a ha b hb e => u.2 a (s a ha) b (s b hb) e⟩
theorem lt_irr (a : PyData) : dataLt a a = false := (listOrd itemOrd).irrefl _
theorem asc.nodup {l : List D} (h : asc l) : l.Nodup := h.imp fun z e => by subst e; rw [lt_irr] at z; cases z
theorem asc.filter {l : List D} (p : D → Bool) (h : asc l) : asc (l.filter p) := List.Pairwise.filter p h
theorem sortD_mem {S : Store} {l : List D} {d : D} : d ∈ sortD S l ↔ d ∈ l := (List.mergeSort_perm l _).mem_iff
theorem sortD_len {S : Store} {l : List D} : (sortD S l).length = l.length := List.length_mergeSort l
theorem sort_asc {S : Store} {l : List D} (u : Uni l) (n : l.Nodup) : asc (sortD S l) := by
  have p := List.mergeSort_perm l (dataLe false (encD S))
  have s : (sortD S l).Pairwise fun a b => dataLe false (encD S) a b = true := List.pairwise_mergeSort (leD_trans _) (leD_total _) l
  have n2 : (sortD S l).Nodup := p.nodup_iff.mpr n
  refine (s.and n2).imp_of_mem fun {a b} ha hb h => ?_
  have ha := sortD_mem.mp ha
  have hb := sortD_mem.mp hb
  cases e : dataLt (eP a) (eP b) with
  | true => rfl
  | false =>
    have z : dataLe false (encD S) b a = true := by
      show (!dataLt (encD S a) (encD S b)) = true
      rw [((u.1 a ha).enc S).1, ((u.1 b hb).enc S).1, e]; rfl
    have q := leD_anti _ h.1 z
    rw [((u.1 a ha).enc S).1, ((u.1 b hb).enc S).1] at q
    exact absurd (u.2 a ha b hb q) h.2
def nD (xs : List Str) : List D := xs.map D.str
theorem nD_uni (xs : List Str) : Uni (nD xs) := by
  refine ⟨fun d m => ?_, fun a ha b hb e => ?_⟩
  · obtain ⟨x, _, rfl⟩ := List.mem_map.mp m; exact clo_str x
  · obtain ⟨x, _, rfl⟩ := List.mem_map.mp ha
    obtain ⟨y, _, rfl⟩ := List.mem_map.mp hb
    exact congrArg kD (toks_kP (k := .inr x) (j := .inr y) e)
theorem nD_mem {xs : List Str} {x : Str} : D.str x ∈ nD xs ↔ x ∈ xs := by unfold nD; simp
theorem nD_inv {xs : List D} (h : ∀ d ∈ xs, ∃ x, d = .str x) : ∃ ys, xs = nD ys := by
  induction xs with
  | nil => exact ⟨[], rfl⟩
  | cons d r ih =>
    obtain ⟨x, rfl⟩ := h d List.mem_cons_self
    obtain ⟨ys, rfl⟩ := ih fun e m => h e (List.mem_cons_of_mem _ m)
    exact ⟨x :: ys, rfl⟩
theorem nD_len (xs : List Str) : (nD xs).length = xs.length := List.length_map ..
theorem nD_nodup {xs : List Str} : (nD xs).Nodup ↔ xs.Nodup := by
  unfold nD
  refine ⟨fun h => (List.pairwise_map.mp h).imp fun n e => n (by rw [e]), fun h => List.Pairwise.map _ (fun a b n e => n (by cases e; rfl)) h⟩
theorem nD_app (xs ys : List Str) : nD (xs ++ ys) = nD xs ++ nD ys := List.map_append ..
theorem sortOk_names {S : Store} {xs : List Str} (h : xs.length ≤ lim) : sortOk S (nD xs) = true := by
  unfold sortOk
  simp only [Bool.and_eq_true, Bool.or_eq_true, List.all_eq_true, decide_eq_true_eq]
  refine ⟨⟨⟨fun d m => ?_, fun d m e n => ?_⟩, .inr fun d m => ?_⟩, by rw [nD_len]; exact h⟩
  · obtain ⟨x, _, rfl⟩ := List.mem_map.mp m
    exact ⟨rfl, by show PyData.depth (.str x) ≤ 32; simp [PyData.depth]⟩
  · obtain ⟨x, _, rfl⟩ := List.mem_map.mp m
    obtain ⟨y, _, rfl⟩ := List.mem_map.mp n
    rfl
  · obtain ⟨x, _, rfl⟩ := List.mem_map.mp m
    rfl
theorem sort_names {S : Store} {xs : List Str} : ∃ ys, sortD S (nD xs) = nD ys ∧ ys.Perm xs := by
  obtain ⟨ys, e⟩ := nD_inv (xs := sortD S (nD xs)) fun d m => by
    obtain ⟨x, _, rfl⟩ := List.mem_map.mp (sortD_mem.mp m)
    exact ⟨x, rfl⟩
  refine ⟨ys, e, ?_⟩
  have p : (nD ys).Perm (nD xs) := e ▸ List.mergeSort_perm (nD xs) _
  have q := p.map (fun d => match d with | .str x => x | _ => "")
  unfold nD at q
  rw [List.map_map, List.map_map] at q
  have id1 : ((fun d : D => match d with | .str x => x | _ => ("" : Str)) ∘ D.str) = id := rfl
  rw [id1, List.map_id, List.map_id] at q
  exact q
def memN (xs : List Str) : D → Bool
  | .str x => decide (x ∈ xs)
  | _ => false
theorem memN_iff {xs : List Str} {d : D} : memN xs d = true ↔ d ∈ nD xs := by
  cases d <;> simp [memN, nD]
theorem eqv_str {x y : Str} : PyData.eqv (.str x) (.str y) = decide (x = y) := by
  show (x == y) = _
  rfl
theorem eqP {S : Store} {a b : D} {p q : PyData} (ha : toP S a = some p) (hb : toP S b = some q) (sa : SeqAt.shaped p = true) (sb : SeqAt.shaped q = true) : eqD S a b = some (PyData.eqv p q) := by
  unfold eqD
  rw [ha, hb]
  show (if (SeqAt.shaped p && SeqAt.shaped q) = true then _ else _) = _
  rw [sa, sb]; rfl
theorem shaped_str {x : Str} (h : PyData.strOk x = true) : SeqAt.shaped (.str x) = true := by
  unfold SeqAt.shaped
  rw [show PyData.canLay0 (.str x) = PyData.strOk x from rfl, h]; rfl
theorem canAll_names {xs : List Str} (h : ∀ x ∈ xs, PyData.strOk x = true) : PyData.canLayAll0 (xs.map PyData.str) = true := by
  induction xs with
  | nil => rfl
  | cons x r ih =>
    rw [List.map_cons, PyData.canLayAll0, show PyData.canLay0 (.str x) = PyData.strOk x from rfl, h x List.mem_cons_self, ih fun y m => h y (List.mem_cons_of_mem _ m)]; rfl
theorem depthAll_names (xs : List Str) : PyData.depthAll (xs.map PyData.str) ≤ 1 := by
  induction xs with
  | nil => exact Nat.zero_le _
  | cons x r ih =>
    rw [List.map_cons, PyData.depthAll]
    exact Nat.max_le.mpr ⟨by rw [PyData.depth]; all_goals first | decide | (intros; rfl) | simp, ih⟩
theorem shaped_names {xs : List Str} (h : ∀ x ∈ xs, PyData.strOk x = true) : SeqAt.shaped (.list (xs.map PyData.str)) = true ∧ SeqAt.shaped (.tuple (xs.map PyData.str)) = true := by
  have d := depthAll_names xs
  constructor <;>
  · unfold SeqAt.shaped
    rw [Bool.and_eq_true, decide_eq_true_eq]
    refine ⟨canAll_names h, ?_⟩
    rw [PyData.depth]; omega
theorem dPs_names (g : Nat → Option PyData) (xs : List Str) : dPs g (nD xs) = some (xs.map PyData.str) := by
  induction xs with
  | nil => rfl
  | cons x r ih => rw [nD, List.map_cons, dPs, show dPs g (r.map D.str) = _ from ih]; rfl
theorem any_names {S : Store} {xs : List Str} {d : D} {p : PyData} (h : ∀ x ∈ xs, PyData.strOk x = true) (hd : toP S d = some p) (sp : SeqAt.shaped p = true) : anyEq S d (nD xs) = some (memN xs d) := by
  unfold anyEq
  rw [hd, dPs_names]
  show (if (SeqAt.shaped p && SeqAt.shaped (.list (xs.map PyData.str))) = true then _ else _) = _
  rw [sp, (shaped_names h).1]
  show some _ = some _
  congr 1
  rw [List.any_map, Bool.eq_iff_iff, List.any_eq_true, memN_iff]
  have hp : ∀ x, PyData.eqv (.str x) p = true ↔ d = .str x := by
    intro x
    cases p with
    | str y =>
      rw [eqv_str, decide_eq_true_eq]
      have : d = .str y := by
        cases d with
        | str z => cases hd; rfl
        | tup z =>
          have hd : dP (deref 8 S) (.tup z) = _ := hd
          rw [dP] at hd
          obtain ⟨_, _, e⟩ := Option.map_eq_some_iff.mp hd; cases e
        | ref z =>
          have hd : deref 8 S z = _ := hd
          unfold deref at hd
          split at hd
          · obtain ⟨_, _, e⟩ := Option.map_eq_some_iff.mp hd; cases e
          · obtain ⟨_, _, e⟩ := Option.map_eq_some_iff.mp hd; cases e
          · cases hd
        | _ => cases hd
      rw [this]
      exact ⟨fun e => by rw [e], fun e => by cases e; rfl⟩
    | _ =>
      refine ⟨fun z => ?_, fun z => ?_⟩
      · simp [PyData.eqv] at z
      · subst z; cases hd
  constructor
  · rintro ⟨x, m, e⟩
    rw [(hp x).mp e]; exact nD_mem.mpr m
  · intro m
    obtain ⟨x, mx, rfl⟩ := List.mem_map.mp m
    exact ⟨x, mx, (hp x).mpr rfl⟩
theorem inT {S : Store} {xs : List Str} {d : D} {p : PyData} (h : ∀ x ∈ xs, PyData.strOk x = true) (hd : toP S d = some p) (sp : SeqAt.shaped p = true) : pIn d (.tup (nD xs)) S = some (.bl (memN xs d), S) := by
  show (anyEq S d (nD xs)).map _ = _
  rw [any_names h hd sp]; rfl
theorem ninT {S : Store} {xs : List Str} {d : D} {p : PyData} (h : ∀ x ∈ xs, PyData.strOk x = true) (hd : toP S d = some p) (sp : SeqAt.shaped p = true) : pNotIn d (.tup (nD xs)) S = some (.bl (!memN xs d), S) := by
  show (anyEq S d (nD xs)).map _ = _
  rw [any_names h hd sp]; rfl
theorem inL {S : Store} {k : Nat} {xs : List Str} {d : D} {p : PyData} (e : S[k]? = some (.lst (nD xs))) (h : ∀ x ∈ xs, PyData.strOk x = true) (hd : toP S d = some p) (sp : SeqAt.shaped p = true) : pIn d (.ref k) S = some (.bl (memN xs d), S) := by
  show (inD S d (.ref k)).map _ = _
  simp only [inD, e]
  rw [any_names h hd sp]; rfl
end Mini
namespace Mini
open PySem L2 PyProof.Rows
def eDn : ME := fun _ S => .ok (.ref S.length) (S ++ [.dK []])
abbrev Sl := Env → Option D
def qC (d : D) : Sl := fun _ => some d
section
variable {X : Cx} {W : WX} {e : Expr} {pos : Pos} {c : Cf} {H : Hp} {ι : List Addr}
theorem se_dn : PE X (.Dict [] [] pos) (tE (cf X) W eDn) := PE.imp pe_dnewK fun σ H Q ⟨ι, S, ρ, s, en, p⟩ q hq => by
  obtain ⟨s2, st⟩ := s.new (m := .dK []) (o := .dK []) hq (.inl ⟨[], upd_same, .nil⟩)
  exact p _ _ _ st s2 (.ref (s.newRef q))
theorem RepKV.all {kvs : List (Key × D)} {ks : List (Key × V)} (r : RepKV c H ι kvs ks) : ∀ {ds : List (Key × D)} {vs : List (Key × V)}, RepKV c H ι ds vs → RepKV c H ι (kvs.foldl (fun a p => putM a p.1 p.2) ds) (mergeK vs ks) := by
  induction r with
  | nil => exact fun q => q
  | @cons k d r v s h t ih => exact fun q => ih (RepKV.put k h q)
end
end Mini

namespace Mini
open PySem L2 PyProof.Rows
section
variable {c : Cf} {H H2 : Hp} {ι : List Addr} {S : Store}
mutual
theorem Rep.un (p : ∀ a xs, H a = some (.tup xs) → H2 a = some (.tup xs)) : ∀ {d : D} {v : V}, Rep c H ι d v → Rep c H2 ι d v
  | _, _, .non => .non
  | _, _, .bl b => .bl b
  | _, _, .int i => .int i
  | _, _, .str x => .str x
  | _, _, .tup a b => .tup (p _ _ a) (Reps.un p b)
  | _, _, .ref h => .ref h
theorem Reps.un (p : ∀ a xs, H a = some (.tup xs) → H2 a = some (.tup xs)) : ∀ {ds : List D} {vs : List V}, Reps c H ι ds vs → Reps c H2 ι ds vs
  | _, _, .nil => .nil
  | _, _, .cons a b => .cons (Rep.un p a) (Reps.un p b)
end
theorem RepKV.un (p : ∀ a xs, H a = some (.tup xs) → H2 a = some (.tup xs)) {κ : Type} : ∀ {ds : List (κ × D)} {vs : List (κ × V)}, RepKV c H ι ds vs → RepKV c H2 ι ds vs
  | _, _, .nil => .nil
  | _, _, .cons a b => .cons (Rep.un p a) (RepKV.un p b)
end
section
variable {X : Cx}
def NoF (X : Cx) (d : Addr) : Prop := ∀ (o' : Obj) (u' : HO), X.H_0 d ≠ some (.frz o' u')
def tLk (X : Cx) (t : TE) : TE := fun σ H Q => t σ H fun x H1 => Q x H1 ∨ ∃ d H2 u, Tag H1 d H2 ∧ H2 d = some u ∧ Mut (some u) ∧ ∀ od, NoF X d → Q x (upd H2 d (.frz od u))
theorem PE.lk {e : Expr} {t : TE} (h : PE X e t) : PE X e (tLk X t) := ⟨fun pins s σ H Q I q => thn (h.run pins s σ H _ I q) fun v s1 ⟨x, H1, I1, r1, hq⟩ => by
  rcases hq with hq | ⟨d, H2, u, tg, e, mu, k⟩
  · exact ⟨x, H1, I1, r1, hq⟩
  · have I2 := Inv.tag I1 tg
    obtain ⟨od, I3⟩ := I2.lock e mu
    exact ⟨x, _, I3, r1, k od (I2.nofrz e mu)⟩⟩
end
end Mini
namespace Mini
open PySem L2 PyProof.Rows
section
variable {X : Cx} {W : WX} {fo fe : ME} {fs : Env → M (List D)} {o e value : Expr} {es : List Expr} {pos pos' apos p : Pos} {n f m : Str} {c : Cf} {H : Hp} {ι : List Addr} {S : Store}
theorem RepKV.look {f : Str} : ∀ {fs : List (Str × D)} {vs : List (Str × V)}, RepKV c H ι fs vs → (∀ d, fs.lookup f = some d → ∃ v, vs.lookup f = some v ∧ Rep c H ι d v) ∧ (fs.lookup f = none → vs.lookup f = none)
  | _, _, .nil => ⟨(fun d e => nomatch e), fun _ => rfl⟩
  | (k, d0) :: r, (_, v0) :: s, .cons a b => by
    rw [List.lookup_cons, List.lookup_cons]
    cases f == k with
    | true => exact ⟨(fun d e => by cases e; exact ⟨v0, rfl, a⟩), fun e => by cases e⟩
    | false => exact RepKV.look b
theorem Sim.ob (s : Sim c ι S H) {h : Nat} {a : Addr} {n : Str} {fs : List (Str × D)} {C : Addr} (e : S[h]? = some (.obj n fs)) (ha : ι[h]? = some a) (hm : c.mg n = some (.ref C)) : ∃ dx vs, H a = some (.ins C dx vs) ∧ RepKV c H ι fs vs := by
  obtain ⟨C2, dx, vs, g, m2, r⟩ := s.obj h _ a e ha
  rw [hm] at m2; cases m2
  exact ⟨dx, vs, g, r⟩
end
end Mini
namespace Mini
open PySem L2 PyProof.Rows
def qPopA : PM := fun o xs S => match o, xs with
  | .ref h, [.int i] => match S[h]? with
    | some (.lst ys) => if fits62 i then match ixN ys.length i with
      | some k => match ys[k]? with
        | some d => some (d, S.set h (.lst (ys.eraseIdx k)))
        | none => none
      | none => none
      else none
    | _ => none
  | _, _ => none
def dicO (S : Store) : D → Bool
  | .ref h => match S[h]? with
    | some (.dK _) => true
    | some (.dT _) => true
    | some (.fK _) => true
    | some (.fT _) => true
    | _ => false
  | _ => false
def getO (o k x : D) (S : Store) : Option (D × Store) := match o with
  | .ref h => match S[h]? with
    | some m => (dLook m k).map fun r => (r.getD x, S)
    | none => none
  | _ => none
def eGet (fo fk fx : ME) : ME := fun ρ => bnd (fo ρ) fun o => fun S => if dicO S o = true then bnd (fk ρ) (fun k => bnd (fx ρ) fun x => fun S => lift (getO o k x S)) S else .bad
def eGet1 (fo fk : ME) : ME := fun ρ => bnd (fo ρ) fun o => fun S => if dicO S o = true then bnd (fk ρ) (fun k => fun S => lift (getO o k .non S)) S else .bad
def setdO (o k x : D) (S : Store) : Option (D × Store) := match o with
  | .ref h => match S[h]?, keyOf k with
    | some (.dK kvs), some kk => if kvs.length < lim then match getM kvs kk with
      | some d => some (d, S)
      | none => some (x, S.set h (.dK (putM kvs kk x)))
      else none
    | _, _ => none
  | _ => none
def eSetd (fo fk fx : ME) : ME := fun ρ => bnd (fo ρ) fun o => fun S => if dicO S o = true then bnd (fk ρ) (fun k => bnd (fx ρ) fun x => fun S => lift (setdO o k x S)) S else .bad
section
variable {X : Cx} {W : WX} {fo fk fx fe : ME} {o e f : Expr} {pos pos' apos cpos : Pos}
theorem seqIx {n : Nat} {i : Int} {k : Nat} (h : ixN n i = some k) : seqIndex? i n = some k := by
  unfold L2.ixN at h
  unfold seqIndex?
  by_cases h0 : 0 ≤ i
  · rw [if_pos h0] at h
    split at h
    · rename_i h1
      cases h
      have hn : ¬ i < 0 := by omega
      simp only [if_neg hn]
      rw [if_pos (by simp [h0, h1])]
    · cases h
  · rw [if_neg h0] at h
    split at h
    · rename_i h1
      cases h
      have hn : i < 0 := by omega
      simp only [if_pos hn]
      rw [if_pos (by simp; omega)]
    · cases h
theorem m_popA : MtR X "list.pop" (rM (cf X) qPopA) := by
  refine MtR.imp (show MtR X "list.pop" rPopAt from mt_popAt) ?_
  rintro x xs H Q ⟨ι, S, d, ds, s, r, rs, d', S', e, k⟩
  unfold qPopA at e
  split at e
  · split at e
    · rename_i h i _ ys hy
      split at e
      · rename_i hf
        split at e
        · rename_i kk hk
          split at e
          · rename_i dd hl
            cases e
            cases r with
            | @ref _ p hp =>
              obtain ⟨u, rfl, ru⟩ := reps1 rs
              cases ru
              obtain ⟨vs, g, rv⟩ := s.lst hy hp
              have st : ∀ o', Stp ι H ι (upd H p o') := fun o' => Stp.set (noTup g fun _ z => by cases z)
              obtain ⟨s2, st2⟩ := s.set (m' := .lst (ys.eraseIdx kk)) (o := .lst (vs.eraseIdx kk)) hy hp rfl rfl ⟨_, upd_same, (rv.eraseIdx kk).step (st _)⟩
              obtain ⟨v, h1, h2⟩ := rv.get hl
              have ff := fits62_iff hf
              exact ⟨p, vs, _, kk, v, rfl, rfl, g, by omega, by omega, by rw [rv.length]; exact seqIx hk, h1, k ι _ _ st2 s2 (h2.step st2)⟩
          · cases e
        · cases e
      · cases e
    · cases e
  · cases e
theorem dic_isD {c : Cf} {H : Hp} {ι : List Addr} {S : Store} (s : Sim c ι S H) {d : D} {x : V} (r : Rep c H ι d x) (h : dicO S d = true) : ∃ a, x = .ref a ∧ IsD H a := by
  cases r with
  | @ref h0 a ha =>
    refine ⟨a, rfl, ?_⟩
    simp only [dicO] at h
    split at h
    · rename_i kvs hx; rcases s.obj _ _ a hx ha with ⟨vs, g, _⟩ | ⟨_, g⟩
      · exact .inl ⟨vs, .inl g⟩
      · exact .inr ⟨_, .inl g⟩
    · rename_i kvs hx; rcases s.obj _ _ a hx ha with ⟨vs, g, _⟩ | ⟨_, g⟩
      · exact .inr ⟨vs, .inl g⟩
      · exact .inl ⟨_, .inl g⟩
    · rename_i kvs hx; obtain ⟨o, vs, g, _⟩ := s.obj _ _ a hx ha; exact .inl ⟨vs, .inr ⟨o, g⟩⟩
    · rename_i kvs hx; obtain ⟨o, vs, g, _⟩ := s.obj _ _ a hx ha; exact .inr ⟨vs, .inr ⟨o, g⟩⟩
    · cases h
  | _ => cases h
theorem getO_ok {c : Cf} {H : Hp} {ι : List Addr} {S : Store} (s : Sim c ι S H) {o k x : D} {a : Addr} {y z : V} {p : D × Store} (ro : Rep c H ι o (.ref a)) (rk : Rep c H ι k y) (rx : Rep c H ι x z) (e : getO o k x S = some p) :
    ∃ H2 w, Tag H a H2 ∧ Sim c ι p.2 H2 ∧ Stp ι H ι H2 ∧ DGet H2 a y w ∧ Rep c H2 ι p.1 (w.getD z) := by
  cases ro with
  | @ref h _ ha =>
    unfold getO at e
    simp only at e
    split at e
    · rename_i m hm
      obtain ⟨r, hr, e2⟩ := Option.map_eq_some_iff.mp e
      subst e2
      obtain ⟨g⟩ := dLook_ok s hm ha rk hr
      obtain ⟨w, g1, g2, g3⟩ := g.get
      refine ⟨g.H2, w, g.tag, g.sim, g.stp, g1, ?_⟩
      cases r with
      | none => rw [g3 rfl]; exact rx.step g.stp
      | some d => obtain ⟨v, h3, h4⟩ := g2 _ rfl; rw [h3]; exact h4
    · cases e
  | tup _ _ => cases e
theorem se_get (hu : X.A.units + 1 < cLine) (ho : PE X o (tE (cf X) W fo)) (hk : PE X e (tE (cf X) W fk)) (hx : PE X f (tE (cf X) W fx)) (m : M2 X o (Str.ofString "get") apos e f cpos) : PE X (.Call (.Attribute o "get" apos) [e, f] [] cpos) (tE (cf X) W (eGet fo fk fx)) := by
  refine PE.imp (pe_dget2 hu ho hk (PE.tag hx) m) ?_
  rintro σ H Q ⟨ι, S, ρ, s, en, q⟩
  refine ⟨ι, S, ρ, s, en, post_bnd q fun o S1 ι1 H1 x e1 st1 s1 r1 p1 => ?_⟩
  split at p1
  · rename_i hd
    obtain ⟨a, rfl, hD⟩ := dic_isD s1 r1 hd
    refine ⟨a, rfl, hD, ι1, S1, ρ, s1, en.step st1, post_bnd p1 fun k S2 ι2 H2 y e2 st2 s2 r2 p2 => ?_⟩
    refine ⟨ι2, S2, ρ, s2, en.step (st1.trans st2), post_bnd p2 fun x S3 ι3 H3 z e3 st3 s3 r3 p3 => ?_⟩
    obtain ⟨d, S', ee, kk⟩ := fin_of p3
    obtain ⟨H4, w, tg, s4, st4, g, r4⟩ := getO_ok s3 (r1.step (st2.trans st3)) (r2.step st3) r3 ee
    exact ⟨a, H4, tg, w, g, kk ι3 H4 _ st4 s4 r4⟩
  · exact p1.elim
theorem se_get1 (hu : X.A.units + 1 < cLine) (ho : PE X o (tE (cf X) W fo)) (hk : PE X e (tE (cf X) W fk)) (m : M1 X o (Str.ofString "get") apos e cpos) : PE X (.Call (.Attribute o "get" apos) [e] [] cpos) (tE (cf X) W (eGet1 fo fk)) := by
  refine PE.imp (pe_dget1 hu ho (PE.tag hk) m) ?_
  rintro σ H Q ⟨ι, S, ρ, s, en, q⟩
  refine ⟨ι, S, ρ, s, en, post_bnd q fun o S1 ι1 H1 x e1 st1 s1 r1 p1 => ?_⟩
  split at p1
  · rename_i hd
    obtain ⟨a, rfl, hD⟩ := dic_isD s1 r1 hd
    refine ⟨a, rfl, hD, ι1, S1, ρ, s1, en.step st1, post_bnd p1 fun k S2 ι2 H2 y e2 st2 s2 r2 p2 => ?_⟩
    obtain ⟨d, S', ee, kk⟩ := fin_of p2
    obtain ⟨H4, w, tg, s4, st4, g, r4⟩ := getO_ok s2 (r1.step st2) r2 .non ee
    exact ⟨a, H4, tg, w, g, kk ι2 H4 _ st4 s4 r4⟩
  · exact p1.elim
theorem se_setd (ho : PE X o (tE (cf X) W fo)) (hk : PE X e (tE (cf X) W fk)) (hx : PE X f (tE (cf X) W fx)) (m : M2 X o (Str.ofString "setdefault") apos e f cpos) : PE X (.Call (.Attribute o "setdefault" apos) [e, f] [] cpos) (tE (cf X) W (eSetd fo fk fx)) := by
  refine PE.imp (pe_dsetd ho hk (PE.tag hx) m) ?_
  rintro σ H Q ⟨ι, S, ρ, s, en, q⟩
  refine ⟨ι, S, ρ, s, en, post_bnd q fun o S1 ι1 H1 x e1 st1 s1 r1 p1 => ?_⟩
  split at p1
  · rename_i hd
    obtain ⟨a, rfl, hD⟩ := dic_isD s1 r1 hd
    refine ⟨a, rfl, hD, ι1, S1, ρ, s1, en.step st1, post_bnd p1 fun k S2 ι2 H2 y e2 st2 s2 r2 p2 => ?_⟩
    refine ⟨ι2, S2, ρ, s2, en.step (st1.trans st2), post_bnd p2 fun x S3 ι3 H3 z e3 st3 s3 r3 p3 => ?_⟩
    obtain ⟨d, S', ee, kk⟩ := fin_of p3
    cases r1 with
    | @ref h _ ha =>
      have ha3 := (st2.trans st3).pre _ _ ha
      unfold setdO at ee
      simp only at ee
      split at ee
      · rename_i kvs kx hkv hkk
        have ek := keyOf_rep (r2.step st3) hkk
        obtain ⟨us, H8, tg, g8, r8, s8, st8⟩ : ∃ us H8, Tag H3 a H8 ∧ H8 a = some (.dK us) ∧ RepKV (cf X) H8 ι3 kvs us ∧ Sim (cf X) ι3 S3 H8 ∧ Stp ι3 H3 ι3 H8 := by
          rcases s3.obj _ _ a hkv ha3 with ⟨us, g, rs⟩ | ⟨rfl, g⟩
          · exact ⟨us, H3, .inl rfl, g, rs, s3, .refl⟩
          · have z := s3.set (m' := .dK []) (o := .dK []) hkv ha3 rfl rfl (.inl ⟨[], upd_same, .nil⟩)
            rw [set_self hkv] at z
            exact ⟨[], _, .inr (.inr ⟨g, rfl⟩), upd_same, .nil, z.1, z.2⟩
        obtain ⟨v1, v2⟩ := r8.val kx
        split at ee
        · rename_i hl
          have hl' : us.length < sizeLine := by rw [r8.length]; exact Nat.lt_trans hl lim_lt
          split at ee
          · rename_i dd hg
            cases ee
            obtain ⟨v, hv, rv⟩ := v1 _ hg
            refine ⟨a, H8, tg, us, kx, g8, ek, hl', fun u hu => ?_, fun hn => ?_⟩
            · rw [hv] at hu; cases hu
              exact kk ι3 H8 v st8 s8 rv
            · rw [hv] at hn; cases hn
          · rename_i hg
            cases ee
            refine ⟨a, H8, tg, us, kx, g8, ek, hl', fun u hu => ?_, fun hn => ?_⟩
            · rw [v2 hg] at hu; cases hu
            · have st : Stp ι3 H8 ι3 (upd H8 a (.dK (putK us kx z))) := Stp.set (noTup g8 fun _ z => by cases z)
              obtain ⟨s9, st9⟩ := s8.set (m' := .dK (putM kvs kx x)) (o := .dK (putK us kx z)) hkv ha3 rfl rfl (.inl ⟨_, upd_same, (r8.put kx (r3.step st8)).step st⟩)
              exact kk ι3 _ z (st8.trans st9) s9 (r3.step (st8.trans st9))
        · cases ee
      · cases ee
    | tup _ _ => cases ee
  · exact p1.elim
end
end Mini
namespace C
open PySem L2 Mini
def b_things_by : MS :=
    (sSeq (sSet (.nm 2) eDn)
    (sSeq (sFor (iAny (eOp pIdx (eVar 0) (eC (.int 2)))) (.tp [(.nm 3), (.nm 4), (.nm 5)])
    (sIf (tBl (eOp pEq (eVar 5) (eVar 1)))
    (sExpr (eMt "list" qAppend (eSetd (eVar 2) (eVar 3) (eLst aNil)) (aCons (eVar 4) aNil)))
    sNil))
    (sRet (eVar 2))))
def g_things_by : List D → M D := runF 6 2 b_things_by
def b__law_row_graph : MS :=
    (sSeq (sPar 3 4 (aCons (eOp pAdd (eC (.int 1)) (eCall g__law_draw (aCons (eVar 0) (aCons (eVar 1) aNil)))) (aCons (eCall g__law_draw (aCons (eVar 0) (aCons (eOp pAdd (eVar 2) (eC (.int 1))) aNil))) aNil)))
    (sSeq (sSet (.nm 5) (eCall g__law_names (aCons (eVar 0) (aCons (eOp pAdd (eVar 3) (eVar 4)) aNil))))
    (sSeq (sPar3 6 7 8 (aCons (eB nList (aCons (eVar 5) aNil)) (aCons (eLst aNil) (aCons (eCall g__law_rights (aCons (eVar 0) aNil)) aNil))))
    (sSeq (sSet (.nm 9) (eMt "list" qPopA (eVar 6) (aCons (eCall g__law_draw (aCons (eVar 0) (aCons (eB nLen (aCons (eVar 6) aNil)) aNil))) aNil)))
    (sSeq (sFor (iArgs rng1 (aCons (eOp pSub (eB nLen (aCons (eVar 5) aNil)) (eC (.int 1))) aNil)) (.nm 10)
    (sSeq (sPar 11 12 (aCons (eMt "list" qPopA (eVar 6) (aCons (eCall g__law_draw (aCons (eVar 0) (aCons (eB nLen (aCons (eVar 6) aNil)) aNil))) aNil)) (aCons (eCall g__law_draw (aCons (eVar 0) (aCons (eC (.int 6)) aNil))) aNil)))
    (sSeq (sSet (.nm 13) (eOp pIdx (eLst (aCons (eC (.str "t")) (aCons (eC (.str "g")) aNil))) (eB nInt (aCons (eOp pIn (eVar 12) (eTup (aCons (eC (.int 2)) (aCons (eC (.int 5)) aNil)))) aNil))))
    (sSeq (sExpr (eMt "list" qAppend (eVar 7) (aCons (eIf (tBl (eOp pLt (eVar 12) (eC (.int 3)))) (eTup (aCons (eVar 9) (aCons (eVar 11) (aCons (eVar 13) aNil)))) (eTup (aCons (eVar 11) (aCons (eVar 9) (aCons (eVar 13) aNil))))) aNil)))
    (sSet (.nm 9) (eVar 11))))))
    (sSeq (sFor (iArgs rng1 (aCons (eCall g__law_draw (aCons (eVar 0) (aCons (eC (.int 5)) aNil))) aNil)) (.nm 10)
    (sSeq (sPar 14 15 (aCons (eOp pIdx (eVar 5) (eCall g__law_draw (aCons (eVar 0) (aCons (eB nLen (aCons (eVar 5) aNil)) aNil)))) (aCons (eOp pIdx (eVar 5) (eCall g__law_draw (aCons (eVar 0) (aCons (eB nLen (aCons (eVar 5) aNil)) aNil)))) aNil)))
    (sExpr (eMt "list" qAppend (eVar 7) (aCons (eTup (aCons (eVar 14) (aCons (eVar 15) (aCons (eOp pIdx (eVar 8) (eCall g__law_draw (aCons (eVar 0) (aCons (eC (.int 7)) aNil)))) aNil)))) aNil)))))
    (sRet (eTup (aCons (eB nTuple (aCons (eB nSorted (aCons (eCut (eVar 5) oNone (oSome (eVar 3))) aNil)) aNil)) (aCons (eB nTuple (aCons (eB nSorted (aCons (eCut (eVar 5) (oSome (eVar 3)) oNone) aNil)) aNil)) (aCons (eB nTuple (aCons (eB nSortSet (aCons (eVar 7) aNil)) aNil)) aNil)))))))))))
def g__law_row_graph : List D → M D := runF 16 3 b__law_row_graph
def b__law_any_graph : MS :=
    (sSeq (sIf (tBl (eOp pLt (eCall g__law_draw (aCons (eVar 0) (aCons (eC (.int 5)) aNil))) (eC (.int 2))))
    (sRet (eCall g__law_row_graph (aCons (eVar 0) (aCons (eVar 1) (aCons (eVar 2) aNil)))))
    sNil)
    (sRet (eCall g__law_graph (aCons (eVar 0) (aCons (eVar 1) (aCons (eVar 2) (aCons (eVar 3) aNil)))))))
def g__law_any_graph : List D → M D := runF 4 4 b__law_any_graph
end C


namespace Mini
open PySem L2 PyProof.Rows
def eD1 (fk fv : ME) : ME := fun ρ S => bnd (fk ρ) (fun k => bnd (fv ρ) fun z => fun S2 => match S2[S.length]?, keyOf k with
  | some (.dK []), some kk => .ok (.ref S.length) (S2.set S.length (.dK (putM [] kk z)))
  | _, _ => .bad) (S ++ [.dK []])
section
variable {X : Cx} {W : WX} {fk fv : ME} {k v : Expr} {pos : Pos}
theorem se_d1 (hk : PE X k (tE (cf X) W fk)) (hv : PE X v (tE (cf X) W fv)) : PE X (.Dict [some k] [v] pos) (tE (cf X) W (eD1 fk fv)) :=
  PE.imp (pe_disp (pps_cons hk (PE.tag hv) pps_nil) rfl rfl (by simp) (show 1 ≤ 15 by decide)) fun σ H Q ⟨ι, S, ρ, s, en, q⟩ p hp => by
  obtain ⟨s2, st2⟩ := s.new (m := .dK []) (o := .dK []) hp (.inl ⟨[], upd_same, .nil⟩)
  have hh : (ι ++ [p])[S.length]? = some p := s.newRef p
  refine ⟨_, _, ρ, s2, en.step st2, post_bnd (post_trans st2 q) fun kd S5 ι5 H5 kv e5 st5 s5 r5 p5 => ⟨ι5, S5, ρ, s5, (en.step st2).step st5, post_bnd p5 fun zd S7 ι7 H7 zv e7 st7 s7 r7 p7 => ?_⟩⟩
  split at p7
  · rename_i kk hkv hkk
    have hD7 := st7.pre _ _ (st5.pre _ _ hh)
    have ek := keyOf_rep (r5.step st7) hkk
    obtain ⟨H8, tg, g8, s8, st8⟩ : ∃ H8, Tag H7 p H8 ∧ H8 p = some (.dK []) ∧ Sim (cf X) ι7 S7 H8 ∧ Stp ι7 H7 ι7 H8 := by
      rcases s7.obj _ _ p hkv hD7 with ⟨us, g, rs⟩ | ⟨_, g⟩
      · cases rs
        exact ⟨H7, .inl rfl, g, s7, .refl⟩
      · have z := s7.set (m' := .dK []) (o := .dK []) hkv hD7 rfl rfl (.inl ⟨[], upd_same, .nil⟩)
        rw [set_self hkv] at z
        exact ⟨_, .inr (.inr ⟨g, rfl⟩), upd_same, z.1, z.2⟩
    refine ⟨p, H8, tg, g8, [(kk, zv)], ?_, (show 1 ≤ 15 by decide), ?_⟩
    · rw [ek]; rfl
    · have st : Stp ι7 H8 ι7 (upd H8 p (.dK (putK [] kk zv))) := Stp.set (noTup g8 fun _ z => by cases z)
      obtain ⟨s9, st9⟩ := s8.set (m' := .dK (putM [] kk zd)) (o := .dK (putK [] kk zv)) hkv hD7 rfl rfl (.inl ⟨_, upd_same, ((RepKV.nil.put kk (r7.step st8))).step st⟩)
      exact p7 ι7 _ _ (st8.trans st9) s9 (.ref hD7)
  · exact p7.elim
end
end Mini
namespace Mini
open PySem L2
theorem ok_eLc {wi : Env → M MIt} {g : Tg} {tt : Env → M Bool} {fe : ME} {vs : List Nat} {ρ : Env} {S : Store} {P : D → Store → Prop} {X : XP} : ok (eLc wi g tt fe vs ρ S) P X = ok (wi ρ S) (fun it S1 => ok (lcM g tt fe it S1.length (wipeM ρ vs) turns 0 (S1 ++ [.lst []])) P X) X := by simp [eLc]
theorem Kp.fresh {M : List Nat} {S S1 S2 : Store} {n : Nat} (a : Kp M S S1) (b : Kp (n :: M) S1 S2) (hn : S.length ≤ n) : Kp M S S2 := ⟨Nat.le_trans a.len b.len, fun h m nm e => b.get h m (by
  have hl : h < S.length := (List.getElem?_eq_some_iff.mp e).1
  intro z
  rcases List.mem_cons.mp z with z | z
  · omega
  · exact nm z) (a.get h m nm e)⟩
theorem lc_rule {g : Tg} {tt : Env → M Bool} {fe : ME} {it : MIt} {ρ : Env} {xs : List D} {X : XP} {S : Store} {M : List Nat} (J : Nat → List D → Store → Prop) (hx : xs.length ≤ lim) (hM : S.length ∉ M)
    (nx : ∀ i S', Kp M S S' → nextI it i S' = .of xs[i]?) (stab : ∀ i acc S' m, J i acc S' → J i acc (S'.set S.length m)) (len : ∀ i acc S', J i acc S' → acc.length ≤ i)
    (step : ∀ i x acc S', xs[i]? = some x → J i acc S' → Kp M S S' → ∃ ρ1, setT g x ρ = some ρ1 ∧ ok (tt ρ1 S') (fun b S1 => Kp M S' S1 ∧ if b = true then ok (fe ρ1 S1) (fun y S2 => Kp M S1 S2 ∧ J (i + 1) (acc ++ [y]) S2) X0 else J (i + 1) acc S1) X0)
    (h0 : J 0 [] (S ++ [.lst []])) : ok (lcM g tt fe it S.length ρ turns 0 (S ++ [.lst []])) (fun d S' => d = .ref S.length ∧ ∃ acc, S'[S.length]? = some (.lst acc) ∧ J xs.length acc S' ∧ Kp M S S') X := by
  refine lc_inv (xs := xs) (I := fun i acc S' => S'[S.length]? = some (.lst acc) ∧ J i acc S' ∧ Kp M S S') hx (fun i acc S' _ h => nx i S' h.2.2) (fun i acc S' h => len i acc S' h.2.1) ?_ (fun acc S' h => ⟨rfl, acc, h⟩) ⟨new_get, h0, Kp.new⟩
  intro i x acc S' e ⟨e1, j, k⟩
  obtain ⟨ρ1, e2, h⟩ := step i x acc S' e j k
  refine ⟨ρ1, e2, ok_mono h (fun b S1 hb => ?_) fun _ _ _ z => z⟩
  cases b with
  | false => exact ⟨hb.1.get _ _ hM e1, hb.2, k.trans hb.1⟩
  | true =>
    simp only [if_true] at hb ⊢
    refine ok_mono hb.2 (fun y S2 hy => ?_) fun _ _ _ z => z
    have e3 := hy.1.get _ _ hM (hb.1.get _ _ hM e1)
    refine ⟨e3, set_get e3, stab _ _ _ _ hy.2, ?_⟩
    exact Kp.fresh (k.trans (hb.1.trans hy.1)) (Kp.set.wk (fun h m => by rw [List.mem_singleton.mp m]; exact List.mem_cons_self)) (Nat.le_refl _)
theorem lc_pure {g : Tg} {tt : Env → M Bool} {fe : ME} {it : MIt} {ρ : Env} {xs : List D} {X : XP} {S : Store} (p : D → Bool) (f : D → D) (hx : xs.length ≤ lim)
    (nx : ∀ i S', Kp [] S S' → nextI it i S' = .of xs[i]?)
    (step : ∀ x S', x ∈ xs → Kp [] S S' → ∃ ρ1, setT g x ρ = some ρ1 ∧ ok (tt ρ1 S') (fun b S1 => Kp [] S' S1 ∧ b = p x ∧ (p x = true → ok (fe ρ1 S1) (fun y S2 => Kp [] S1 S2 ∧ y = f x) X0)) X0) :
    ok (lcM g tt fe it S.length ρ turns 0 (S ++ [.lst []])) (fun d S' => d = .ref S.length ∧ S'[S.length]? = some (.lst ((xs.filter p).map f)) ∧ Kp [] S S') X := by
  have h := lc_rule (g := g) (tt := tt) (fe := fe) (it := it) (ρ := ρ) (xs := xs) (X := X) (S := S) (M := []) (fun i acc _ => acc = ((xs.take i).filter p).map f) hx List.not_mem_nil nx (fun _ _ _ _ z => z)
    (fun i acc _ z => by
      rw [z, List.length_map]
      exact Nat.le_trans (List.length_filter_le _ _) (by rw [List.length_take]; exact Nat.min_le_left _ _)) (fun i x acc S' e j k => by
      obtain ⟨ρ1, e1, h1⟩ := step x S' (List.mem_of_getElem? e) k
      have ht : xs.take (i + 1) = xs.take i ++ [x] := by rw [List.take_add_one, e]; rfl
      refine ⟨ρ1, e1, ok_mono h1 (fun b S1 hb => ⟨hb.1, ?_⟩) fun _ _ _ z => z⟩
      obtain ⟨k1, rfl, hb⟩ := hb
      cases hp : p x with
      | false =>
        simp only [Bool.false_eq_true, if_false]
        rw [ht, List.filter_append, j]
        simp [hp]
      | true =>
        simp only [if_true]
        refine ok_mono (hb hp) (fun y S2 hy => ⟨hy.1, ?_⟩) fun _ _ _ z => z
        rw [ht, List.filter_append, j, hy.2]
        simp [hp]) (by simp)
  refine ok_mono h (fun d S' hd => ?_) fun _ _ _ z => z
  obtain ⟨e, acc, e1, j, k⟩ := hd
  rw [List.take_length] at j
  exact ⟨e, j ▸ e1, k⟩
def low (c : Nat) : Bool := decide (97 ≤ c) && decide (c ≤ 122)
def Wd (m : Nat) (x : Str) : Prop := 1 ≤ x.length ∧ x.length ≤ m ∧ ∀ c ∈ x.cps.toList, low c = true
theorem Wd.mono {m n : Nat} {x : Str} (w : Wd m x) (h : m ≤ n) : Wd n x := ⟨w.1, Nat.le_trans w.2.1 h, w.2.2⟩
theorem Wd.strOk {m : Nat} {x : Str} (w : Wd m x) : PyData.strOk x = true := by
  unfold PyData.strOk
  rw [Array.all_eq_true_iff_forall_mem]
  intro c hc
  have := w.2.2 c (Array.mem_toList_iff.mpr hc)
  unfold low at this
  simp only [Bool.and_eq_true, decide_eq_true_eq] at this ⊢
  omega
theorem strAt {x : Str} {r : Int} {S : Store} (h0 : 0 ≤ r) (h : r < x.length) (hl : x.length ≤ lim) : ∃ c, c ∈ x.cps.toList ∧ pIdx (.str x) (.int r) S = some (.str ⟨#[c]⟩, S) := by
  have e0 : x.length = x.cps.toList.length := by simp [Str.length]
  obtain ⟨n, rfl⟩ := Int.eq_ofNat_of_zero_le h0
  have hn : n < x.cps.toList.length := by rw [← e0]; exact_mod_cast h
  refine ⟨x.cps.toList[n], List.getElem_mem _, ?_⟩
  simp only [pIdx, if_pos hl]
  rw [atI_nat (List.getElem?_eq_getElem hn)]; rfl
theorem rng_nx {n : Nat} (i : Nat) (S : Store) : nextI (.rng 0 n) i S = .of ((List.range n).map fun i : Nat => D.int i)[i]? := by
  simp only [nextI]
  rw [List.getElem?_map]
  by_cases h : i < n
  · rw [if_pos h, List.getElem?_range h]; simp [Nxt.of]
  · rw [if_neg h, List.getElem?_eq_none (by simp; omega)]; rfl
theorem rng1_nat {n : Nat} (h : n < 2 ^ 62) : rng1 [.int n] = some (.rng 0 n) := by
  have z : fits62 (n : Int) = true := by
    unfold fits62
    rw [Bool.and_eq_true, decide_eq_true_eq, decide_eq_true_eq]
    omega
  simp only [rng1, z, if_true, Int.toNat_natCast]
theorem tl_joined {parts : List Str} : (Str.join "" parts).cps.toList = (parts.map fun x => x.cps.toList).flatten := by
  have e := TL.tl_join "" parts
  rw [show (Str.join "" parts).cps.toList = TL.tl (Str.join "" parts) from rfl, e]
  have e0 : TL.tl ("" : Str) = [] := rfl
  rw [e0]
  have go : ∀ l : List (List Nat), TL.joinL [] l = l.flatten := by
    intro l
    induction l with
    | nil => rfl
    | cons p r ih =>
      cases r with
      | nil => simp [TL.joinL]
      | cons q r => rw [TL.joinL, ih]; simp
  rw [go]
theorem strsD_sg (cs : List Nat) : strsD (cs.map fun c => D.str ⟨#[c]⟩) = some (cs.map fun c => (⟨#[c]⟩ : Str)) := by
  induction cs with
  | nil => rfl
  | cons c r ih => rw [List.map_cons, strsD, ih]; rfl
theorem pot_draw {S : Store} {h k : Nat} {many : Int} {ρ : Env} {fa fb : ME} {P : D → Store → Prop} {X : XP} (p : PotOk S h (k + 1)) (ha : ∀ Q, ok (fa ρ S) Q X = Q (.ref h) S) (hb : ∀ Q, ok (fb ρ S) Q X = Q (.int many) S) (h1 : 1 ≤ many) (h2 : many < 1000)
    (K : ∀ (r : Int) S', 0 ≤ r → r < many → PotOk S' h k → Kp [h] S S' → P (.int r) S') : ok (eCall C.g__law_draw (aCons fa (aCons fb aNil)) ρ S) P X := by
  simp only [ok_eCall, ok_aCons, ok_aNil, ha, hb]
  refine ok_mono (draw_spec p h1 (by omega)) (fun d S' hd => ?_) fun _ _ _ z => z
  obtain ⟨r, rfl, a, b, c, e⟩ := hd
  exact K r S' a b c e
theorem vr {i : Nat} {ρ : Env} {d : D} {S : Store} {X : XP} (h : ρ[i]? = some (some d)) : ∀ Q, ok (eVar i ρ S) Q X = Q d S := fun Q => ok_eVar h
theorem PotOk.kp {M : List Nat} {S S' : Store} {h k : Nat} (p : PotOk S h k) (q : Kp M S S') (hm : h ∉ M) : PotOk S' h k := let ⟨a, b, c, e, r⟩ := p; ⟨a, b, c, q.get h _ hm e, r⟩
theorem PotOk.lt {S : Store} {h k : Nat} (p : PotOk S h k) : h < S.length := let ⟨_, _, _, e, _⟩ := p; (List.getElem?_eq_some_iff.mp e).1
theorem PotOk.set {S : Store} {h k n : Nat} {m : MO} (p : PotOk S h k) (hn : h ≠ n) : PotOk (S.set n m) h k := let ⟨a, b, c, e, r⟩ := p; ⟨a, b, c, by rw [List.getElem?_set_ne (Ne.symm hn)]; exact e, r⟩
theorem name_spec {S : Store} {h k : Nat} {X : XP} (p : PotOk S h (k + 6)) : ok (C.g__law_name [.ref h] S) (fun d S' => ∃ x, d = .str x ∧ Wd 4 x ∧ PotOk S' h k ∧ Kp [h] S S') X := by
  unfold C.g__law_name
  rw [run1]
  unfold C.b__law_name
  rw [so_seq, so_set]
  simp only [ok_eTup, ok_aCons, ok_aNil, ok_eC]
  refine ⟨_, tupO_eq (show 2 ≤ lim by decide), _, rfl, ?_⟩
  rw [so_seq]
  suffices go : ∀ (ls : Str) (most : Nat) (S1 : Store), 1 ≤ ls.length → ls.length < 1000 → (∀ c ∈ ls.cps.toList, low c = true) → 1 ≤ most → most ≤ 4 → PotOk S1 h (k + 5) → Kp [h] S S1 →
      so (sRet (eMt "str" qJoin (eC (.str "")) (aCons (eLc (iArgs rng1 (aCons (eOp pAdd (eC (.int 1)) (eCall C.g__law_draw (aCons (eVar 0) (aCons (eVar 2) aNil)))) aNil)) (.nm 3) ttYes (eOp pIdx (eVar 1) (eCall C.g__law_draw (aCons (eVar 0) (aCons (eB nLen (aCons (eVar 1) aNil)) aNil)))) [3]) aNil)) [some (.ref h), some (.str ls), some (.int most), none] S1)
        (fun _ S1 => ∃ x, D.non = .str x ∧ Wd 4 x ∧ PotOk S1 h k ∧ Kp [h] S S1) (fun d S' => ∃ x, d = .str x ∧ Wd 4 x ∧ PotOk S' h k ∧ Kp [h] S S') (fun m fs _ S1 => X m fs S1) by
    rw [so_if]
    simp only [ok_tBl, ok_eOp, ok_eC]
    refine pot_draw (many := 3) p (vr rfl) (fun _ => rfl) (by decide) (by decide) fun r S1 r0 r3 p1 k1 => ⟨_, eqI, _, rfl, ?_⟩
    by_cases hr : r = 0
    · simp only [hr, decide_true, if_true, so_set, ok_eTup, ok_aCons, ok_aNil, ok_eC]
      exact ⟨_, tupO_eq (show 2 ≤ lim by decide), _, rfl, go _ 4 S1 (by decide) (by decide) (by decide) (by decide) (by decide) p1 k1⟩
    · simp only [hr, decide_false, Bool.false_eq_true, if_false, so_nil]
      exact go _ 2 S1 (by decide) (by decide) (by decide) (by decide) (by decide) p1 k1
  intro ls most S1 hl hl2 hlow hm hm4 p1 k1
  simp only [so_ret, ok_eMt, ok_eC, ok_aCons, ok_aNil, ok_eLc, ok_iArgs, ok_eOp]
  refine ⟨rfl, ?_⟩
  refine pot_draw (many := most) p1 (vr rfl) (vr rfl) (by omega) (by omega) fun r S2 r0 r3 p2 k2 => ⟨_, addI, ?_⟩
  obtain ⟨n, rfl⟩ := Int.eq_ofNat_of_zero_le r0
  rw [show (1 : Int) + (n : Int) = ((n + 1 : Nat) : Int) from by omega]
  refine ⟨_, rng1_nat (by omega), ?_⟩
  have hM : S2.length ∉ [h] := fun z => by
    have := p2.lt
    rw [List.mem_singleton] at z
    omega
  refine ok_mono (lc_rule (M := [h]) (xs := (List.range (n + 1)).map fun i : Nat => D.int i) (fun i acc S' => ∃ cs : List Nat, acc = cs.map (fun c => D.str ⟨#[c]⟩) ∧ cs.length = i ∧ (∀ c ∈ cs, low c = true) ∧ PotOk S' h (k + (4 - i))) (by rw [List.length_map, List.length_range]; unfold lim; omega) hM (fun i S' _ => rng_nx i S') ?_ ?_ ?_ ?_) ?_ fun _ _ _ z => z
  · rintro i acc S' m ⟨cs, e1, e2, e3, e4⟩
    exact ⟨cs, e1, e2, e3, e4.set fun z => hM (by rw [← z]; exact List.mem_singleton_self _)⟩
  · rintro i acc S' ⟨cs, e1, e2, e3, e4⟩
    rw [e1, List.length_map]; omega
  · rintro i x acc S' ex ⟨cs, e1, e2, e3, e4⟩ kk
    have hi : i < n + 1 := by
      have := (List.getElem?_eq_some_iff.mp ex).1
      simpa using this
    refine ⟨_, rfl, ?_⟩
    simp only [ok_ttYes, if_true, ok_eOp]
    refine ⟨Kp.refl, ?_⟩
    rw [ok_eVar (d := .str ls) (by rfl)]
    have e5 : PotOk S' h (k + (4 - (i + 1)) + 1) := by
      have : k + (4 - (i + 1)) + 1 = k + (4 - i) := by omega
      rw [this]; exact e4
    refine pot_draw (many := ls.length) e5 (vr rfl) (fun Q => ?_) (by omega) (by omega) fun r S3 r0 r3 p3 k3 => ?_
    · simp only [ok_eB, ok_aCons, ok_aNil]
      rw [ok_eVar (d := .str ls) (by rfl), lenS (by unfold lim; omega)]
      exact propext ⟨fun ⟨_, e, q⟩ => by cases e; exact q, fun q => ⟨_, rfl, q⟩⟩
    · obtain ⟨c, hc, ec⟩ := strAt (S := S3) r0 r3 (by unfold lim; omega)
      refine ⟨_, ec, k3, cs ++ [c], ?_, ?_, ?_, p3⟩
      · rw [e1, List.map_append]; rfl
      · rw [List.length_append, e2]; rfl
      · intro d hd
        rcases List.mem_append.mp hd with z | z
        · exact e3 d z
        · rw [List.mem_singleton.mp z]; exact hlow c hc
  · exact ⟨[], rfl, rfl, (fun _ z => nomatch z), (p2.kp Kp.new (M := []) (fun z => nomatch z)).mono (by omega)⟩
  · rintro d S3 ⟨rfl, acc, e1, ⟨cs, e2, e3, e4, e5⟩, k3⟩
    rw [List.length_map, List.length_range] at e3
    have hitems : itemsOf S3 (.ref S2.length) = some (cs.map fun c => D.str ⟨#[c]⟩) := by
      simp only [itemsOf, e1, e2]
    have hsum : ∀ l : List Nat, ((l.map fun c => (⟨#[c]⟩ : Str)).map (·.length)).sum = l.length := by
      intro l
      induction l with
      | nil => rfl
      | cons a r ih => simp only [List.map_cons, List.sum_cons, ih, List.length_cons]; show 1 + _ = _; omega
    refine ⟨(.str (Txt.join "" (cs.map fun c => (⟨#[c]⟩ : Str))), S3), ?_, _, rfl, ?_, PotOk.mono e5 (by omega), k1.trans (k2.trans k3)⟩
    · simp only [qJoin, hitems, strsD_sg]
      rw [if_pos]
      rw [hsum, List.length_map, e3]
      show n + 1 + (n + 1) * 0 ≤ _
      unfold lim; omega
    · rw [TL.join_eq]
      have et := tl_joined (parts := cs.map fun c => (⟨#[c]⟩ : Str))
      have el : (cs.map fun c => (⟨#[c]⟩ : Str)).map (fun x => x.cps.toList) = cs.map fun c => [c] := by rw [List.map_map]; rfl
      have ef : (cs.map fun c => [c]).flatten = cs := by
        clear et el hitems e2 e1 e3 e4
        induction cs with
        | nil => rfl
        | cons a r ih => simpa using ih
      rw [el, ef] at et
      have en : (Str.join "" (cs.map fun c => (⟨#[c]⟩ : Str))).length = cs.length := by
        rw [show (Str.join "" (cs.map fun c => (⟨#[c]⟩ : Str))).length = (Str.join "" (cs.map fun c => (⟨#[c]⟩ : Str))).cps.toList.length from by simp [Str.length], et]
      refine ⟨by omega, by omega, fun c hc => e4 c (et ▸ hc)⟩
end Mini
namespace Mini
open PySem L2
def qN (j : Nat) : Str := "qqqq" ++ (⟨#[97 + j]⟩ : Str)
theorem qN_len (j : Nat) : (qN j).length = 5 := by
  unfold qN
  show (("qqqq" : Str).cps ++ #[97 + j]).size = 5
  rw [Array.size_append]; rfl
theorem qN_tl (j : Nat) : (qN j).cps.toList = [113, 113, 113, 113, 97 + j] := by
  unfold qN
  show (("qqqq" : Str).cps ++ #[97 + j]).toList = _
  rw [Array.toList_append]; rfl
theorem qN_inj {i j : Nat} (h : qN i = qN j) : i = j := by
  have e := congrArg (fun x : Str => x.cps.toList) h
  simp only [qN_tl] at e
  have e2 := (List.cons.inj (List.cons.inj (List.cons.inj (List.cons.inj (List.cons.inj e).2).2).2).2).1
  omega
theorem qN_wd {j : Nat} (h : j < 26) : Wd 5 (qN j) := by
  refine ⟨by rw [qN_len]; decide, by rw [qN_len]; decide, fun c hc => ?_⟩
  rw [qN_tl] at hc
  unfold low
  simp only [List.mem_cons, List.not_mem_nil, or_false] at hc
  rw [Bool.and_eq_true, decide_eq_true_eq, decide_eq_true_eq]
  omega
theorem qN_get {i : Nat} {S : Store} (h : i < 26) : pIdx (.str "abcdefghijklmnopqrstuvwxyz") (.int i) S = some (.str ⟨#[97 + i]⟩, S) := by
  have e : ("abcdefghijklmnopqrstuvwxyz" : Str).cps.toList = (List.range 26).map (97 + ·) := by decide
  have hl : ("abcdefghijklmnopqrstuvwxyz" : Str).length ≤ lim := by decide
  simp only [pIdx, if_pos hl]
  rw [atI_nat (d := 97 + i) (by rw [e, List.getElem?_map, List.getElem?_range h]; rfl)]; rfl
theorem name_in {S : Store} {h k : Nat} {ρ : Env} {fa : ME} {P : D → Store → Prop} {X : XP} (p : PotOk S h (k + 6)) (ha : ∀ Q, ok (fa ρ S) Q X = Q (.ref h) S)
    (K : ∀ x S', Wd 4 x → PotOk S' h k → Kp [h] S S' → P (.str x) S') : ok (eCall C.g__law_name (aCons fa aNil) ρ S) P X := by
  simp only [ok_eCall, ok_aCons, ok_aNil, ha]
  refine ok_mono (name_spec p) (fun d S' hd => ?_) fun _ _ _ z => z
  obtain ⟨r, rfl, a, b, c⟩ := hd
  exact K r S' a b c
theorem Kp.new1 {M : List Nat} {S S1 : Store} {m m' : MO} {n : Nat} (a : Kp M S S1) (hn : S.length ≤ n) : Kp M S (S1.set n m) := a.fresh (Kp.set.wk fun h z => by rw [List.mem_singleton.mp z]; exact List.mem_cons_self) hn
theorem names_spec {S : Store} {h k n : Nat} {X : XP} (p : PotOk S h (k + 6 * n)) (hn : n ≤ 26) :
    ok (C.g__law_names [.ref h, .int n] S) (fun d S' => d = .ref S.length ∧ ∃ xs, S'[S.length]? = some (.lst (nD xs)) ∧ xs.length = n ∧ xs.Nodup ∧ (∀ x ∈ xs, Wd 5 x) ∧ PotOk S' h k ∧ Kp [h] S S') X := by
  unfold C.g__law_names
  rw [run2]
  unfold C.b__law_names
  rw [so_seq, so_set]
  simp only [ok_eLst, ok_aNil]
  refine ⟨_, newL_eq (show 0 ≤ lim by decide), _, rfl, ?_⟩
  rw [so_seq, so_for]
  simp only [ok_iArgs, ok_aCons, ok_aNil]
  rw [ok_eVar (d := .int n) (by rfl)]
  refine ⟨_, rng1_nat (by omega), ?_⟩
  have hne : h ≠ S.length := by have := p.lt; omega
  refine for_inv (xs := (List.range n).map fun i : Nat => D.int i) (fun i ρ S' => ∃ xs a b, ρ = [some (.ref h), some (.int n), some (.ref S.length), a, b] ∧ S'[S.length]? = some (.lst (nD xs)) ∧ xs.length = i ∧ xs.Nodup ∧ (∀ x ∈ xs, Wd 4 x ∨ ∃ j, j < i ∧ x = qN j) ∧ PotOk S' h (k + 6 * (n - i)) ∧ Kp [h] S S') (by rw [List.length_map, List.length_range]; unfold lim; omega) (fun i ρ S' _ _ => rng_nx i S') ?_ ?_ ?_
  · rintro i x ρ S1 ex ⟨xs, a, b, rfl, e1, e2, e3, e4, p1, k1⟩
    have hi : i < n := by
      have := (List.getElem?_eq_some_iff.mp ex).1
      simpa using this
    have hx : x = .int i := by
      rw [List.getElem?_map, List.getElem?_range hi] at ex
      cases ex; rfl
    subst hx
    refine ⟨_, rfl, ?_⟩
    rw [so_seq, so_set]
    have p1' : PotOk S1 h (k + 6 * (n - (i + 1)) + 6) := by
      have : k + 6 * (n - (i + 1)) + 6 = k + 6 * (n - i) := by omega
      rw [this]; exact p1
    refine name_in p1' (vr rfl) fun x S2 w p2 k2 => ⟨_, rfl, ?_⟩
    have e1 := k2.get _ _ (fun z => hne (List.mem_singleton.mp z).symm) e1
    have hok : ∀ x ∈ xs, PyData.strOk x = true := fun x m => by
      rcases e4 x m with w | ⟨j, hj, rfl⟩
      · exact w.strOk
      · exact (qN_wd (by omega)).strOk
    rw [so_seq]
    suffices go : ∀ y : Str, y ∉ xs → (Wd 4 y ∨ y = qN i) → so (sExpr (eMt "list" qAppend (eVar 2) (aCons (eVar 4) aNil)) [some (.ref h), some (.int n), some (.ref S.length), some (.int i), some (.str y)] S2)
        (fun ρ S' => ∃ xs a b, ρ = [some (.ref h), some (.int n), some (.ref S.length), a, b] ∧ S'[S.length]? = some (.lst (nD xs)) ∧ xs.length = i + 1 ∧ xs.Nodup ∧ (∀ x ∈ xs, Wd 4 x ∨ ∃ j, j < i + 1 ∧ x = qN j) ∧ PotOk S' h (k + 6 * (n - (i + 1))) ∧ Kp [h] S S')
        (fun d S' => d = .ref S.length ∧ ∃ xs, S'[S.length]? = some (.lst (nD xs)) ∧ xs.length = n ∧ xs.Nodup ∧ (∀ x ∈ xs, Wd 5 x) ∧ PotOk S' h k ∧ Kp [h] S S') (fun m fs _ S1 => X m fs S1) by
      simp only [so_if, ok_tBl, ok_eOp, ok_var]
      refine ⟨_, rfl, _, rfl, _, inL e1 hok (p := .str x) rfl (shaped_str w.strOk), _, rfl, ?_⟩
      by_cases hm : x ∈ xs
      · rw [show memN xs (.str x) = true from decide_eq_true hm, if_pos rfl]
        simp only [so_set, ok_eOp, ok_eC, ok_var]
        refine ⟨_, rfl, _, qN_get (by omega), _, strO_eq (show (qN i).length ≤ lim by rw [qN_len]; decide), _, rfl, ?_⟩
        refine go (qN i) (fun z => ?_) (.inr rfl)
        rcases e4 _ z with w | ⟨j, hj, e⟩
        · have := w.2.1
          rw [qN_len] at this; omega
        · have := qN_inj e; omega
      · rw [show memN xs (.str x) = false from decide_eq_false hm, if_neg (by decide)]
        exact go x hm (.inl w)
    intro y hy wy
    simp only [so_expr, ok_eMt, ok_aCons, ok_aNil, ok_var]
    refine ⟨_, rfl, ?_, _, rfl, ?_⟩
    · simp only [tyD, e1]
    · refine ⟨(.non, S2.set S.length (.lst (nD xs ++ [.str y]))), ?_, xs ++ [y], _, _, rfl, ?_, ?_, ?_, ?_, p2.set hne, (k1.trans k2).new1 (m' := .lst []) (Nat.le_refl _)⟩
      · simp only [qAppend, e1]
        rw [if_pos (by rw [nD_len, e2]; unfold lim; omega)]
      · rw [nD_app]; exact set_get e1
      · rw [List.length_append, e2]; rfl
      · rw [List.nodup_append]
        refine ⟨e3, by simp, fun a ha b hb e => ?_⟩
        rw [List.mem_singleton] at hb
        exact hy (hb ▸ e ▸ ha)
      · intro z hz
        rcases List.mem_append.mp hz with hz | hz
        · rcases e4 z hz with w | ⟨j, hj, e⟩
          · exact .inl w
          · exact .inr ⟨j, by omega, e⟩
        · rw [List.mem_singleton.mp hz]
          exact wy.imp id fun e => ⟨i, by omega, e⟩
  · rintro ρ S1 ⟨xs, a, b, rfl, e1, e2, e3, e4, p1, k1⟩
    rw [List.length_map, List.length_range] at e2 e4 p1
    rw [so_ret, ok_eVar (d := .ref S.length) (by rfl)]
    refine ⟨rfl, xs, e1, e2, e3, fun x m => ?_, p1.mono (by omega), k1⟩
    rcases e4 x m with w | ⟨j, hj, rfl⟩
    · exact w.mono (by decide)
    · exact qN_wd (by omega)
  · exact ⟨[], none, none, rfl, new_get, rfl, List.nodup_nil, (fun _ z => nomatch z), by
      refine (p.kp Kp.new (M := []) (fun z => nomatch z)).mono ?_
      omega, Kp.new⟩
theorem idxLn {S : Store} {h : Nat} {xs : List Str} {r : Int} (e : S[h]? = some (.lst (nD xs))) (h0 : 0 ≤ r) (h1 : r < xs.length) : ∃ x ∈ xs, pIdx (.ref h) (.int r) S = some (.str x, S) := by
  obtain ⟨n, rfl⟩ := Int.eq_ofNat_of_zero_le h0
  have hn : n < xs.length := by omega
  exact ⟨xs[n], List.getElem_mem _, idxL e (atI_nat (by unfold nD; rw [List.getElem?_map, List.getElem?_eq_getElem hn]; rfl))⟩
theorem rights_spec {S : Store} {h k : Nat} {X : XP} (p : PotOk S h (k + 1)) :
    ok (C.g__law_rights [.ref h] S) (fun d S' => ∃ r xs, d = .ref r ∧ S.length ≤ r ∧ S'[r]? = some (.lst (nD xs)) ∧ xs.length = 7 ∧ (∀ x ∈ xs, Wd 3 x) ∧ PotOk S' h k ∧ Kp [h] S S') X := by
  unfold C.g__law_rights
  rw [run1]
  unfold C.b__law_rights
  simp only [so_ret, ok_eLst, ok_aCons, ok_aNil, ok_eC, ok_eOp]
  refine ⟨_, newL_eq (show 3 ≤ lim by decide), ?_⟩
  have hne : h ≠ S.length := by have := p.lt; omega
  refine pot_draw (many := 3) (p.kp Kp.new (M := []) (fun z => nomatch z)) (vr rfl) (fun _ => rfl) (by decide) (by decide) fun r S1 r0 r3 p1 k1 => ?_
  have e1 := k1.get S.length (.lst (nD ["own", "x", "do"])) (fun z => hne (List.mem_singleton.mp z).symm) new_get
  obtain ⟨x, mx, ex⟩ := idxLn e1 r0 r3
  refine ⟨_, ex, _, newL_eq (show 7 ≤ lim by decide), S1.length, ["t", "g", "t", "g", "r", "w", x], rfl, ?_, new_get, rfl, ?_, p1.kp Kp.new (M := []) (fun z => nomatch z), (Kp.new.trans k1).trans Kp.new⟩
  · have := k1.len
    rw [List.length_append] at this
    simp only [List.length_cons, List.length_nil] at this
    show S.length ≤ S1.length
    omega
  · have w : ∀ y ∈ (["t", "g", "r", "w", "own", "x", "do"] : List Str), Wd 3 y := by
      simp only [List.forall_mem_cons]
      refine ⟨⟨by decide, by decide, by decide⟩, ⟨by decide, by decide, by decide⟩, ⟨by decide, by decide, by decide⟩, ⟨by decide, by decide, by decide⟩, ⟨by decide, by decide, by decide⟩, ⟨by decide, by decide, by decide⟩, ⟨by decide, by decide, by decide⟩, (fun _ z => nomatch z)⟩
    intro y hy
    refine w y ?_
    simp only [List.mem_cons, List.not_mem_nil, or_false] at hy mx ⊢
    rcases hy with z | z | z | z | z | z | z
    · exact .inl z
    · exact .inr (.inl z)
    · exact .inl z
    · exact .inr (.inl z)
    · exact .inr (.inr (.inl z))
    · exact .inr (.inr (.inr (.inl z)))
    · subst z
      rcases mx with z | z | z
      · exact .inr (.inr (.inr (.inr (.inl z))))
      · exact .inr (.inr (.inr (.inr (.inr (.inl z)))))
      · exact .inr (.inr (.inr (.inr (.inr (.inr z)))))
end Mini
namespace Mini
open PySem L2 PySem.W
abbrev Ho := Str × Str × Str
def hD (h : Ho) : D := .tup [.str h.1, .str h.2.1, .str h.2.2]
theorem hD_key (h : Ho) : hD h = tkD [.inr h.1, .inr h.2.1, .inr h.2.2] := rfl
theorem hD_inj {h g : Ho} (e : hD h = hD g) : h = g := by
  obtain ⟨a, b, c⟩ := h
  obtain ⟨x, y, z⟩ := g
  simp only [hD, D.tup.injEq, List.cons.injEq, D.str.injEq, and_true] at e
  obtain ⟨rfl, rfl, rfl⟩ := e
  rfl
theorem hD_clo (h : Ho) : Clo (hD h) := clo_tup fun d m => by
  simp only [List.mem_cons, List.not_mem_nil, or_false] at m
  rcases m with z | z | z <;> rw [z] <;> exact clo_str _
def hsD (hs : List Ho) : List D := hs.map hD
theorem hsD_uni (hs : List Ho) : Uni (hsD hs) := by
  refine ⟨fun d m => ?_, fun a ha b hb e => ?_⟩
  · obtain ⟨x, _, rfl⟩ := List.mem_map.mp m; exact hD_clo x
  · obtain ⟨x, _, rfl⟩ := List.mem_map.mp ha
    obtain ⟨y, _, rfl⟩ := List.mem_map.mp hb
    have q := toks_kPs (ks := [.inr x.1, .inr x.2.1, .inr x.2.2]) (js := [.inr y.1, .inr y.2.1, .inr y.2.2]) e
    rw [hD_key, hD_key, q]
theorem hsD_mem {hs : List Ho} {h : Ho} : hD h ∈ hsD hs ↔ h ∈ hs := by
  unfold hsD
  rw [List.mem_map]
  exact ⟨fun ⟨g, m, e⟩ => hD_inj e ▸ m, fun m => ⟨h, m, rfl⟩⟩
theorem hsD_inv {xs : List D} (h : ∀ d ∈ xs, ∃ x, d = hD x) : ∃ ys, xs = hsD ys := by
  induction xs with
  | nil => exact ⟨[], rfl⟩
  | cons d r ih =>
    obtain ⟨x, rfl⟩ := h d List.mem_cons_self
    obtain ⟨ys, rfl⟩ := ih fun e m => h e (List.mem_cons_of_mem _ m)
    exact ⟨x :: ys, rfl⟩
theorem hsD_kd (hs : List Ho) : ∀ d ∈ hsD hs, Kd d := fun d m => by
  obtain ⟨x, _, rfl⟩ := List.mem_map.mp m
  exact .inr ⟨_, hD_key x⟩
theorem sortOk_holds {S : Store} {hs : List D} (hh : ∀ d ∈ hs, ∃ x, d = hD x) (h : hs.length ≤ lim) : sortOk S hs = true := by
  unfold sortOk
  simp only [Bool.and_eq_true, Bool.or_eq_true, List.all_eq_true, decide_eq_true_eq]
  refine ⟨⟨⟨fun d m => ?_, fun d m e n => ?_⟩, .inl fun d m => ?_⟩, h⟩
  · obtain ⟨x, rfl⟩ := hh d m
    exact ⟨rfl, by show PyData.depth (.tuple [.str x.1, .str x.2.1, .str x.2.2]) ≤ 32; simp [PyData.depth, PyData.depthAll]⟩
  · obtain ⟨x, rfl⟩ := hh d m
    obtain ⟨y, rfl⟩ := hh e n
    rfl
  · obtain ⟨x, rfl⟩ := hh d m
    rfl
theorem setOk_holds {hs : List Ho} (h : hs.length < 64) : setOk (hsD hs) = true := by
  unfold setOk
  rw [Bool.or_eq_true, Bool.and_eq_true, decide_eq_true_eq, List.all_eq_true]
  refine .inl ⟨fun d m => ?_, by unfold hsD; rw [List.length_map]; exact h⟩
  obtain ⟨x, _, rfl⟩ := List.mem_map.mp m
  rw [hD_key, tkeyOf_tkD]; rfl
theorem dedup_len : ∀ ys : List D, (dedup ys).length ≤ ys.length
  | [] => Nat.le_refl _
  | d :: r => by
    unfold dedup
    split
    · exact Nat.le_succ_of_le (dedup_len r)
    · exact Nat.succ_le_succ (dedup_len r)
theorem sortSet_holds {S : Store} {k : Nat} {hs : List Ho} (e : S[k]? = some (.lst (hsD hs))) (h : hs.length < 64) : ∃ gs, nSortSet [.ref k] S = some (.ref S.length, S ++ [.lst (hsD gs)]) ∧ asc (hsD gs) ∧ (∀ g, g ∈ gs ↔ g ∈ hs) ∧ gs.length ≤ hs.length := by
  have ei : itemsOf S (.ref k) = some (hsD hs) := by simp only [itemsOf, e]
  have md := dedup_mem (hsD_kd hs)
  have hh : ∀ d ∈ dedup (hsD hs), ∃ x, d = hD x := fun d m => by
    obtain ⟨x, _, rfl⟩ := List.mem_map.mp ((md d).mp m); exact ⟨x, rfl⟩
  have hl : (dedup (hsD hs)).length ≤ hs.length := Nat.le_trans (dedup_len _) (by unfold hsD; rw [List.length_map]; exact Nat.le_refl _)
  obtain ⟨gs, eg⟩ := hsD_inv (xs := sortD S (dedup (hsD hs))) fun d m => hh d (sortD_mem.mp m)
  have el : gs.length ≤ hs.length := by
    have := congrArg List.length eg
    rw [sortD_len] at this
    unfold hsD at this hl
    rw [List.length_map] at this
    omega
  refine ⟨gs, ?_, ?_, fun g => ?_, el⟩
  · simp only [nSortSet, ei]
    rw [setOk_holds h, sortOk_holds hh (by unfold lim; omega)]
    rw [show (true && true) = true from rfl, if_pos rfl, eg, newL_eq (by unfold hsD; rw [List.length_map]; unfold lim; omega)]
  · rw [← eg]
    exact sort_asc ((hsD_uni hs).sub fun d m => (md d).mp m) (dedup_nodup (hsD_kd hs))
  · rw [← hsD_mem (h := g) (hs := gs), ← eg, sortD_mem, md, hsD_mem]
structure Gr where
  A : List Str
  O : List Str
  H : List Ho
def Gr.d (G : Gr) : D := .tup [.tup (nD G.A), .tup (nD G.O), .tup (hsD G.H)]
structure Gr.Ok (G : Gr) : Prop where
  ascA : asc (nD G.A)
  ascO : asc (nD G.O)
  ascH : asc (hsD G.H)
  dis : ∀ x ∈ G.A, x ∉ G.O
  wd : ∀ x ∈ G.A ++ G.O, Wd 8 x
  of : ∀ h ∈ G.H, h.1 ∈ G.A ++ G.O ∧ h.2.1 ∈ G.A ++ G.O ∧ Wd 3 h.2.2
  len : (G.A ++ G.O).length ≤ 30
  lenH : G.H.length < 64
theorem cut_take {xs : List D} {a : Nat} : cutD xs none (some (a : Int)) = xs.take a := by
  unfold cutD
  rw [HT.sIx_none, HT.sIx_nat, List.drop_zero, Nat.sub_zero]
  by_cases h : a ≤ xs.length
  · rw [Nat.min_eq_left h]
  · rw [Nat.min_eq_right (by omega), List.take_of_length_le (Nat.le_refl _), List.take_of_length_le (by omega)]
theorem cut_drop {xs : List D} {a : Nat} : cutD xs (some (a : Int)) none = xs.drop a := by
  unfold cutD
  rw [HT.sIx_none, HT.sIx_nat]
  by_cases h : a ≤ xs.length
  · rw [Nat.min_eq_left h, List.take_of_length_le (by rw [List.length_drop]; exact Nat.le_refl _)]
  · rw [Nat.min_eq_right (by omega), List.drop_of_length_le (Nat.le_refl _), List.drop_of_length_le (by omega), List.take_nil]
theorem cutL {S : Store} {h : Nat} {xs : List D} {lo hi : Option Int} (e : S[h]? = some (.lst xs)) : pCut (.ref h) lo hi S = some (.ref S.length, S ++ [.lst (cutD xs lo hi)]) := by
  simp only [pCut, e]; rfl
theorem tupleL {S : Store} {h : Nat} {xs : List D} (e : S[h]? = some (.lst xs)) : nTuple [.ref h] S = some (.tup xs, S) := by simp only [nTuple, e]
theorem sortedL {S : Store} {h : Nat} {xs : List Str} (e : S[h]? = some (.lst (nD xs))) (hl : xs.length ≤ lim) : nSorted [.ref h] S = some (.ref S.length, S ++ [.lst (sortD S (nD xs))]) := by
  simp only [nSorted, itemsOf, e]
  rw [if_pos (sortOk_names hl), newL_eq (by rw [sortD_len, nD_len]; exact hl)]
theorem names_in {S : Store} {h k n : Nat} {ρ : Env} {fa fb : ME} {P : D → Store → Prop} {X : XP} (p : PotOk S h (k + 6 * n)) (hn : n ≤ 26) (ha : ∀ Q, ok (fa ρ S) Q X = Q (.ref h) S) (many : Int) (hmn : many = n) (hb : ∀ Q, ok (fb ρ S) Q X = Q (.int many) S)
    (K : ∀ xs S', S'[S.length]? = some (.lst (nD xs)) → xs.length = n → xs.Nodup → (∀ x ∈ xs, Wd 5 x) → PotOk S' h k → Kp [h] S S' → P (.ref S.length) S') : ok (eCall C.g__law_names (aCons fa (aCons fb aNil)) ρ S) P X := by
  simp only [ok_eCall, ok_aCons, ok_aNil, ha, hb]
  subst hmn
  have q := names_spec (k := k) (n := n) (X := X) p hn
  refine ok_mono q (fun d S' hd => ?_) fun _ _ _ z => z
  obtain ⟨rfl, xs, a1, a2, a3, a4, a5, a6⟩ := hd
  exact K xs S' a1 a2 a3 a4 a5 a6
theorem pick {S : Store} {h k v i j : Nat} {xs : List Str} {ρ : Env} {P : D → Store → Prop} {X : XP} (p : PotOk S h (k + 1)) (e : S[v]? = some (.lst (nD xs))) (hv : v ≠ h) (l1 : 1 ≤ xs.length) (l2 : xs.length < 1000) (h0 : ρ[j]? = some (some (.ref h))) (hi : ρ[i]? = some (some (.ref v)))
    (K : ∀ x S', x ∈ xs → PotOk S' h k → Kp [h] S S' → P (.str x) S') : ok (eOp pIdx (eVar i) (eCall C.g__law_draw (aCons (eVar j) (aCons (eB nLen (aCons (eVar i) aNil)) aNil))) ρ S) P X := by
  rw [ok_eOp, ok_eVar hi]
  refine pot_draw (many := xs.length) p (vr h0) (fun Q => ?_) (by omega) (by omega) fun r S1 r0 r3 p1 k1 => ?_
  · simp only [ok_eB, ok_aCons, ok_aNil]
    rw [ok_eVar hi, lenL e, nD_len]
    exact propext ⟨fun ⟨_, e, q⟩ => by cases e; exact q, fun q => ⟨_, rfl, q⟩⟩
  · obtain ⟨x, m, ex⟩ := idxLn (k1.get _ _ (fun z => hv (List.mem_singleton.mp z)) e) r0 (by omega)
    exact ⟨_, ex, K x S1 m p1 k1⟩
theorem graph_spec {S : Store} {h k sm om hm : Nat} {X : XP} (p : PotOk S h (k + 400)) (h1 : 1 ≤ sm) (h2 : sm + om ≤ 26) (h3 : hm ≤ 40) :
    ok (C.g__law_graph [.ref h, .int sm, .int om, .int hm] S) (fun d S' => ∃ G : Gr, d = G.d ∧ G.Ok ∧ 1 ≤ G.A.length ∧ G.A.length ≤ sm ∧ G.O.length ≤ om ∧ G.H.length ≤ hm ∧ (∀ x ∈ G.A ++ G.O, Wd 5 x) ∧ PotOk S' h k ∧ Kp [h] S S') X := by
  unfold C.g__law_graph
  rw [run4]
  unfold C.b__law_graph
  rw [so_seq, so_par, ok_aCons, ok_eOp, ok_eC]
  refine pot_draw (k := k + 399) (many := sm) p (vr rfl) (vr rfl) (by omega) (by omega) fun r1 S1 r10 r11 p1 k1 => ⟨_, addI, ?_⟩
  rw [ok_aCons]
  refine pot_draw (k := k + 398) (many := om + 1) p1 (vr rfl) (fun Q => by
    rw [ok_eOp, ok_eVar (d := .int om) (by rfl), ok_eC]
    exact propext ⟨fun ⟨_, e, q⟩ => by cases e; exact q, fun q => ⟨_, rfl, q⟩⟩) (by omega) (by omega) fun r2 S2 r20 r21 p2 k2 => ?_
  rw [ok_aNil]
  refine ⟨_, _, rfl, ?_⟩
  dsimp only [List.set, List.length_cons, List.length_nil]
  obtain ⟨ac, rfl⟩ : ∃ ac : Nat, r1 = ac := Int.eq_ofNat_of_zero_le r10
  obtain ⟨ly, rfl⟩ : ∃ ly : Nat, r2 = ly := Int.eq_ofNat_of_zero_le r20
  have hac : ac + 1 ≤ sm := by omega
  have hly : ly ≤ om := by omega
  rw [so_seq, so_set]
  have e1n : (1 : Int) + (ac : Int) = ((ac + 1 : Nat) : Int) := by omega
  rw [e1n]
  refine names_in (k := k + 200) (n := ac + 1 + ly) (p2.mono (by omega)) (by omega) (vr rfl) (((ac + 1 : Nat) : Int) + (ly : Int)) (by omega) (fun Q => by
    rw [ok_eOp, ok_eVar (d := .int (ac + 1 : Nat)) (by rfl), ok_eVar (d := .int ly) (by rfl)]
    exact propext ⟨fun ⟨_, e, q⟩ => by cases e; exact q, fun q => ⟨_, rfl, q⟩⟩) fun ns S3 en nlen nnd nwd p3 k3 => ⟨_, rfl, ?_⟩
  have hn2 : S2.length ≠ h := by have := p2.lt; omega
  dsimp only [List.set, List.length_cons, List.length_nil, List.replicate]
  rw [so_seq, so_par, ok_aCons, ok_eCall, ok_aCons, ok_eVar (d := .ref h) (by rfl), ok_aNil]
  refine ok_mono (rights_spec (k := k + 199) p3) (fun d S4 hd => ?_) fun _ _ _ z => z
  obtain ⟨rh, rs, rfl, hrh, er, rlen, rwd, p4, k4⟩ := hd
  simp only [ok_aCons, ok_eLst, ok_aNil]
  refine ⟨_, newL_eq (show 0 ≤ lim by decide), _, _, rfl, ?_⟩
  dsimp only [List.set, List.length_cons, List.length_nil, List.replicate]
  have hrh2 : rh ≠ h := by have := p3.lt; omega
  have hh4 : S4.length ≠ h := by have := p4.lt; omega
  have en4 := k4.get _ _ (fun z => hn2 (List.mem_singleton.mp z)) en
  have hl2 : S2.length < S4.length := (List.getElem?_eq_some_iff.mp en4).1
  have hlr : rh < S4.length := (List.getElem?_eq_some_iff.mp er).1
  have K04 : Kp [h] S S4 := ((k1.trans k2).trans k3).trans k4
  rw [so_seq, so_for]
  simp only [ok_iArgs, ok_aCons, ok_aNil]
  refine pot_draw (k := k + 198) (many := hm + 1) (p4.kp Kp.new (M := []) (fun z => nomatch z)) (vr rfl) (fun Q => by
    rw [ok_eOp, ok_eVar (d := .int hm) (by rfl), ok_eC]
    exact propext ⟨fun ⟨_, e, q⟩ => by cases e; exact q, fun q => ⟨_, rfl, q⟩⟩) (by omega) (by omega) fun r3 S5 r30 r31 p5 k5 => ?_
  obtain ⟨tn, rfl⟩ : ∃ tn : Nat, r3 = tn := Int.eq_ofNat_of_zero_le r30
  refine ⟨_, rng1_nat (by omega), ?_⟩
  refine for_inv (xs := (List.range tn).map fun i : Nat => D.int i) (fun i ρ S' => ∃ hs a b c, ρ = [some (.ref h), some (.int sm), some (.int om), some (.int hm), some (.int (ac + 1 : Nat)), some (.int ly), some (.ref S2.length), some (.ref rh), some (.ref S4.length), a, b, c] ∧ S'[S2.length]? = some (.lst (nD ns)) ∧ S'[rh]? = some (.lst (nD rs)) ∧ S'[S4.length]? = some (.lst (hsD hs)) ∧ hs.length = i ∧ (∀ g ∈ hs, g.1 ∈ ns ∧ g.2.1 ∈ ns ∧ g.2.2 ∈ rs) ∧ PotOk S' h (k + 3 * (tn - i)) ∧ Kp [h] S S') (by rw [List.length_map, List.length_range]; unfold lim; omega) (fun i ρ S' _ _ => rng_nx i S') ?_ ?_ ?_
  · rintro i x ρ T1 ex ⟨hs, a, b, c, rfl, e1, e2, e3, e4, e5, q1, kk⟩
    have hi : i < tn := by
      have := (List.getElem?_eq_some_iff.mp ex).1
      simpa using this
    refine ⟨_, rfl, ?_⟩
    dsimp only [List.set]
    rw [so_seq, so_par, ok_aCons]
    have q1 : PotOk T1 h (k + 3 * (tn - (i + 1)) + 3) := by
      have : k + 3 * (tn - (i + 1)) + 3 = k + 3 * (tn - i) := by omega
      rw [this]; exact q1
    refine pick (k := k + 3 * (tn - (i + 1)) + 2) q1 e1 hn2 (by omega) (by omega) rfl rfl fun y1 T2 m1 q2 kk2 => ?_
    have e1 := kk2.get _ _ (fun z => hn2 (List.mem_singleton.mp z)) e1
    rw [ok_aCons]
    refine pick (k := k + 3 * (tn - (i + 1)) + 1) q2 e1 hn2 (by omega) (by omega) rfl rfl fun y2 T3 m2 q3 kk3 => ?_
    have e1 := kk3.get _ _ (fun z => hn2 (List.mem_singleton.mp z)) e1
    have e2 := kk3.get _ _ (fun z => hrh2 (List.mem_singleton.mp z)) (kk2.get _ _ (fun z => hrh2 (List.mem_singleton.mp z)) e2)
    have e3 := kk3.get _ _ (fun z => hh4 (List.mem_singleton.mp z)) (kk2.get _ _ (fun z => hh4 (List.mem_singleton.mp z)) e3)
    rw [ok_aNil]
    refine ⟨_, _, rfl, ?_⟩
    dsimp only [List.set]
    rw [so_expr, ok_eMt, ok_eVar (d := .ref S4.length) (by rfl)]
    refine ⟨by simp only [tyD, e3], ?_⟩
    rw [ok_aCons, ok_eTup, ok_aCons, ok_eVar (d := .str y1) (by rfl), ok_aCons, ok_eVar (d := .str y2) (by rfl), ok_aCons]
    refine pick (k := k + 3 * (tn - (i + 1))) q3 e2 hrh2 (by omega) (by omega) rfl rfl fun y3 T4 m3 q4 kk4 => ?_
    have e1 := kk4.get _ _ (fun z => hn2 (List.mem_singleton.mp z)) e1
    have e2 := kk4.get _ _ (fun z => hrh2 (List.mem_singleton.mp z)) e2
    have e3 := kk4.get _ _ (fun z => hh4 (List.mem_singleton.mp z)) e3
    rw [ok_aNil]
    refine ⟨_, tupO_eq (show 3 ≤ lim by decide), ?_⟩
    rw [ok_aNil]
    refine ⟨(.non, T4.set S4.length (.lst (hsD hs ++ [hD (y1, y2, y3)]))), ?_, hs ++ [(y1, y2, y3)], _, _, _, rfl, ?_, ?_, ?_, ?_, ?_, q4.set (Ne.symm hh4), ?_⟩
    · simp only [qAppend, e3]
      rw [if_pos (by unfold hsD; rw [List.length_map, e4]; unfold lim; omega)]; rfl
    · rw [List.getElem?_set_ne (by omega)]; exact e1
    · rw [List.getElem?_set_ne (by omega)]; exact e2
    · rw [set_get e3]; unfold hsD; rw [List.map_append]; rfl
    · rw [List.length_append, e4]; rfl
    · intro g hg
      rcases List.mem_append.mp hg with z | z
      · exact e5 g z
      · rw [List.mem_singleton.mp z]; exact ⟨m1, m2, m3⟩
    · exact (((kk.trans kk2).trans kk3).trans kk4).new1 (m' := .lst []) K04.len
  · rintro ρ T1 ⟨hs, a, b, c, rfl, e1, e2, e3, e4, e5, q1, kk⟩
    rw [List.length_map, List.length_range] at e4 q1
    simp only [so_ret, ok_eTup, ok_aCons, ok_aNil, ok_eB, ok_eCut, ok_oNone, ok_oSome]
    have l1 : (nD ns).length = ac + 1 + ly := by rw [nD_len, nlen]
    rw [ok_eVar (d := .ref S2.length) (by rfl), ok_eVar (d := .int (ac + 1 : Nat)) (by rfl)]
    have ct : (nD ns).take (ac + 1) = nD (ns.take (ac + 1)) := by unfold nD; rw [List.map_take]
    have cd : (nD ns).drop (ac + 1) = nD (ns.drop (ac + 1)) := by unfold nD; rw [List.map_drop]
    refine ⟨_, rfl, _, cutL e1, ?_⟩
    rw [cut_take, ct]
    refine ⟨_, sortedL new_get (by rw [List.length_take]; unfold lim; omega), _, tupleL new_get, ?_⟩
    generalize eU : (T1 ++ [MO.lst (nD (ns.take (ac + 1)))]) = U1
    have k6 : Kp [] T1 U1 := eU ▸ Kp.new
    obtain ⟨A, eA, pA⟩ := sort_names (S := U1) (xs := ns.take (ac + 1))
    rw [eA]
    generalize eU2 : (U1 ++ [MO.lst (nD A)]) = U2
    have k7 : Kp [] T1 U2 := k6.trans (eU2 ▸ Kp.new)
    have e1 := k7.get _ _ (fun z => nomatch z) e1
    rw [ok_eVar (d := .ref S2.length) (by rfl), ok_eVar (d := .int (ac + 1 : Nat)) (by rfl)]
    refine ⟨_, rfl, _, cutL e1, ?_⟩
    rw [cut_drop, cd]
    refine ⟨_, sortedL new_get (by rw [List.length_drop]; unfold lim; omega), _, tupleL new_get, ?_⟩
    generalize eU3 : (U2 ++ [MO.lst (nD (ns.drop (ac + 1)))]) = U3
    have k8 : Kp [] T1 U3 := k7.trans (eU3 ▸ Kp.new)
    obtain ⟨O, eO, pO⟩ := sort_names (S := U3) (xs := ns.drop (ac + 1))
    rw [eO]
    generalize eU4 : (U3 ++ [MO.lst (nD O)]) = U4
    have k9 : Kp [] T1 U4 := k8.trans (eU4 ▸ Kp.new)
    have e3 := k9.get _ _ (fun z => nomatch z) e3
    rw [ok_eVar (d := .ref S4.length) (by rfl)]
    obtain ⟨gs, eg, ga, gm, gl⟩ := sortSet_holds e3 (by omega)
    refine ⟨_, eg, _, tupleL new_get, _, tupO_eq (show 3 ≤ lim by decide), ⟨A, O, gs⟩, rfl, ?_, ?_, ?_, ?_, ?_, ?_, ?_, ?_⟩
    · have nd1 : (ns.take (ac + 1)).Nodup := nnd.sublist (List.take_sublist _ _)
      have nd2 : (ns.drop (ac + 1)).Nodup := nnd.sublist (List.drop_sublist _ _)
      have mAll : ∀ x, x ∈ A ++ O ↔ x ∈ ns := fun x => by
        rw [List.mem_append, pA.mem_iff, pO.mem_iff, ← List.mem_append, List.take_append_drop]
      refine ⟨?_, ?_, ga, ?_, fun x m => (nwd x ((mAll x).mp m)).mono (by decide), fun g m => ?_, ?_, by show gs.length < 64; omega⟩
      · rw [← eA]; exact sort_asc (nD_uni _) (nD_nodup.mpr nd1)
      · rw [← eO]; exact sort_asc (nD_uni _) (nD_nodup.mpr nd2)
      · intro x mA mO
        have mA := pA.mem_iff.mp mA
        have mO := pO.mem_iff.mp mO
        have := nnd
        rw [← List.take_append_drop (ac + 1) ns, List.nodup_append] at this
        exact this.2.2 x mA x mO rfl
      · have := e5 g ((gm g).mp m)
        exact ⟨(mAll _).mpr this.1, (mAll _).mpr this.2.1, rwd _ this.2.2⟩
      · show (A ++ O).length ≤ 30
        rw [List.length_append, pA.length_eq, pO.length_eq, List.length_take, List.length_drop]
        omega
    · show 1 ≤ A.length
      rw [pA.length_eq, List.length_take]; omega
    · show A.length ≤ sm
      rw [pA.length_eq, List.length_take]; omega
    · show O.length ≤ om
      rw [pO.length_eq, List.length_drop]; omega
    · show gs.length ≤ hm
      omega
    · intro x m
      have : x ∈ ns := by
        rcases List.mem_append.mp m with z | z
        · exact List.mem_of_mem_take (pA.mem_iff.mp z)
        · exact List.mem_of_mem_drop (pO.mem_iff.mp z)
      exact nwd x this
    · exact ((q1.kp k9 (fun z => nomatch z)).kp Kp.new (M := []) (fun z => nomatch z)).mono (by omega)
    · exact kk.trans ((k9.trans Kp.new).wk (fun _ z => nomatch z))
  · have e0 := k5.get S4.length (.lst []) (fun z => hh4 (List.mem_singleton.mp z)) new_get
    have g5 : ∀ j m, j ≠ h → S4[j]? = some m → S5[j]? = some m := fun j m hj z => k5.get j m (fun y => hj (List.mem_singleton.mp y)) ((Kp.new (M := [])).get j m (fun y => nomatch y) z)
    exact ⟨[], none, none, none, rfl, g5 _ _ hn2 en4, g5 _ _ hrh2 er, e0, rfl, (fun _ z => nomatch z), p5.mono (by omega), K04.trans (Kp.new.trans k5)⟩
end Mini
namespace Mini
open PySem L2
section
variable {wi : Env → M MIt} {g : Tg} {tt : Env → M Bool} {fe : ME} {vs : List Nat} {ρ : Env} {S : Store} {P : D → Store → Prop} {X : XP} {it : MIt} {xs : List D}
theorem ok_lc (p : D → Bool) (f : D → D) (hw : ∀ Q, ok (wi ρ S) Q X = Q it S) (hx : xs.length ≤ lim) (nx : ∀ i S', Kp [] S S' → nextI it i S' = .of xs[i]?)
    (step : ∀ x S', x ∈ xs → Kp [] S S' → ∃ ρ1, setT g x (wipeM ρ vs) = some ρ1 ∧ ok (tt ρ1 S') (fun b S1 => Kp [] S' S1 ∧ b = p x ∧ (p x = true → ok (fe ρ1 S1) (fun y S2 => Kp [] S1 S2 ∧ y = f x) X0)) X0)
    (K : ∀ S', S'[S.length]? = some (.lst ((xs.filter p).map f)) → Kp [] S S' → P (.ref S.length) S') : ok (eLc wi g tt fe vs ρ S) P X := by
  rw [ok_eLc, hw]
  refine ok_mono (lc_pure (xs := xs) p f hx nx step) (fun d S' hd => ?_) fun _ _ _ z => z
  obtain ⟨rfl, e, k⟩ := hd
  exact K S' e k
theorem blsD_map (q : D → Bool) : ∀ xs : List D, blsD (xs.map fun d => D.bl (q d)) = some (xs.map q)
  | [] => rfl
  | x :: r => by rw [List.map_cons, blsD, blsD_map q r]; rfl
theorem allL {h : Nat} (q : D → Bool) (e : S[h]? = some (.lst (xs.map fun d => D.bl (q d)))) : nAll [.ref h] S = some (.bl (xs.all q), S) := by
  simp only [nAll, seqOf, e, Option.bind_some, blsD_map, Option.map_some]
  rw [List.all_map]; rfl
theorem ok_all (q : D → Bool) (hw : ∀ Q, ok (wi ρ S) Q X = Q it S) (hx : xs.length ≤ lim) (nx : ∀ i S', Kp [] S S' → nextI it i S' = .of xs[i]?)
    (step : ∀ x S', x ∈ xs → Kp [] S S' → ∃ ρ1, setT g x (wipeM ρ vs) = some ρ1 ∧ ok (fe ρ1 S') (fun y S2 => Kp [] S' S2 ∧ y = .bl (q x)) X0)
    (K : ∀ S', Kp [] S S' → P (.bl (xs.all q)) S') : ok (eB nAll (aCons (eLc wi g ttYes fe vs) aNil) ρ S) P X := by
  rw [ok_eB, ok_aCons]
  refine ok_lc (fun _ => true) (fun d => .bl (q d)) hw hx nx (fun x S' m k => ?_) fun S' e k => ?_
  · obtain ⟨ρ1, e, h⟩ := step x S' m k
    exact ⟨ρ1, e, Kp.refl, rfl, fun _ => h⟩
  · rw [List.filter_eq_self.mpr (fun _ _ => rfl)] at e
    rw [ok_aNil]
    exact ⟨_, allL q e, K S' k⟩
theorem anyV {i : Nat} {d : D} (h : ρ[i]? = some (some d)) (e : itOf S d = some it) : ∀ Q, ok (iAny (eVar i) ρ S) Q X = Q it S := fun Q => by
  rw [ok_iAny, ok_eVar h]
  exact propext ⟨fun ⟨_, e2, q⟩ => by rw [e] at e2; cases e2; exact q, fun q => ⟨_, e, q⟩⟩
theorem enuV {i : Nat} {d : D} (h : ρ[i]? = some (some d)) (e : enuOf S d = some it) : ∀ Q, ok (iEnu (eVar i) ρ S) Q X = Q it S := fun Q => by
  rw [ok_iEnu, ok_eVar h]
  exact propext ⟨fun ⟨_, e2, q⟩ => by rw [e] at e2; cases e2; exact q, fun q => ⟨_, e, q⟩⟩
end
def isWd (m : Nat) : D → Bool
  | .str x => decide (1 ≤ x.length) && decide (x.length ≤ m) && x.cps.toList.all low
  | _ => false
theorem isWd_iff {m : Nat} {x : Str} : isWd m (.str x) = true ↔ Wd m x := by
  simp only [isWd, Bool.and_eq_true, decide_eq_true_eq, List.all_eq_true, and_assoc, Wd]
def Dat (S : Store) : D → Prop
  | .str x => x.length ≤ lim
  | .ref h => ∃ xs, S[h]? = some (.lst xs)
  | _ => True
theorem isi_str {S : Store} {d : D} (h : Dat S d) (n : ∀ x, d ≠ .str x) : pIsi "str" d S = some (.bl false, S) := by
  cases d with
  | str x => exact absurd rfl (n x)
  | ref k => obtain ⟨xs, e⟩ := h; simp only [pIsi, tyD, e]; rfl
  | _ => rfl
theorem sgIn {S : Store} {c : Nat} : pIn (.str ⟨#[c]⟩) (.str "abcdefghijklmnopqrstuvwxyz") S = some (.bl (low c), S) := by
  have e : ("abcdefghijklmnopqrstuvwxyz" : Str).cps.toList = (List.range 26).map (97 + ·) := by decide
  show some (D.bl (decide (c ∈ ("abcdefghijklmnopqrstuvwxyz" : Str).cps.toList)), S) = _
  congr 3
  rw [e]
  unfold low
  rw [Bool.eq_iff_iff, decide_eq_true_eq, Bool.and_eq_true, decide_eq_true_eq, decide_eq_true_eq, List.mem_map]
  constructor
  · rintro ⟨a, ha, rfl⟩
    have := List.mem_range.mp ha
    omega
  · intro h
    exact ⟨c - 97, List.mem_range.mpr (by omega), by omega⟩
theorem sgs_nx {x : Str} (i : Nat) (S : Store) : nextI (.sgn x) i S = .of (x.cps.toList.map fun c => D.str ⟨#[c]⟩)[i]? := by
  simp only [nextI]
  rw [List.getElem?_map]
  cases x.cps.toList[i]? <;> rfl
def lowD : D → Bool
  | .str x => x.cps.toList.all low
  | _ => false
theorem is_word_spec {S : Store} {d : D} {m : Nat} {X : XP} (hs : Dat S d) : ok (C.g_is_word [d, .int m] S) (fun r S' => r = .bl (isWd m d) ∧ Kp [] S S') X := by
  unfold C.g_is_word
  rw [run2]
  unfold C.b_is_word
  rw [so_ret, ok_eAnd, ok_eIsi, ok_eVar (d := d) (by rfl)]
  by_cases hx : ∃ x, d = .str x
  · obtain ⟨x, rfl⟩ := hx
    refine ⟨(.bl true, S), rfl, _, rfl, ?_⟩
    rw [if_pos rfl, ok_eAnd, ok_eChain, ok_eC, ok_eB, ok_aCons, ok_eVar (d := .str x) (by rfl), ok_aNil]
    refine ⟨_, lenS hs, _, leI, _, rfl, ?_⟩
    by_cases h1 : 1 ≤ x.length
    · rw [show (!decide ((x.length : Int) < 1)) = true from by rw [decide_eq_false (by omega)]; rfl, if_pos rfl]
      simp only [ok_bnd, ok_var, ok_lift]
      refine ⟨_, rfl, _, leI, _, rfl, ?_⟩
      by_cases h2 : x.length ≤ m
      · rw [show (!decide ((m : Int) < (x.length : Int))) = true from by rw [decide_eq_false (by omega)]; rfl, if_pos rfl]
        refine ok_all (xs := x.cps.toList.map fun c => D.str ⟨#[c]⟩) (it := .sgn x) lowD (anyV rfl rfl) (by rw [List.length_map]; have := hs; rw [show x.cps.toList.length = x.length from by simp [Str.length]]; exact hs) (fun i S' _ => sgs_nx i S') (fun y S' my k => ?_) fun S' k => ⟨?_, k⟩
        · obtain ⟨c, hc, rfl⟩ := List.mem_map.mp my
          refine ⟨_, rfl, ?_⟩
          rw [ok_eOp, ok_eVar (d := .str ⟨#[c]⟩) (by rfl), ok_eC]
          refine ⟨_, sgIn, Kp.refl, ?_⟩
          show D.bl (low c) = .bl ([c].all low)
          simp
        · rw [List.all_map]
          simp only [isWd, decide_eq_true h1, decide_eq_true h2, Bool.true_and]
          congr 1
          have : ∀ l : List Nat, l.all (lowD ∘ fun c => D.str ⟨#[c]⟩) = l.all low := fun l => by
            congr 1; funext c; simp [lowD]
          exact this _
      · rw [show (!decide ((m : Int) < (x.length : Int))) = false from by rw [decide_eq_true (by omega)]; rfl, if_neg (by decide)]
        refine ⟨?_, Kp.refl⟩
        simp only [isWd, decide_eq_false h2, Bool.and_false, Bool.false_and]
    · rw [show (!decide ((x.length : Int) < 1)) = false from by rw [decide_eq_true (by omega)]; rfl, if_neg (by decide)]
      rw [ok_pur]
      refine ⟨_, rfl, ?_⟩
      rw [if_neg (by decide), ok_pur]
      refine ⟨?_, Kp.refl⟩
      simp only [isWd, decide_eq_false h1, Bool.false_and]
  · refine ⟨_, isi_str hs (fun x e => hx ⟨x, e⟩), _, rfl, ?_⟩
    rw [if_neg (by decide), ok_pur]
    refine ⟨?_, Kp.refl⟩
    cases d with
    | str x => exact absurd ⟨x, rfl⟩ hx
    | _ => rfl
theorem is_name_spec {S : Store} {d : D} {X : XP} (hs : Dat S d) : ok (C.g_is_name [d] S) (fun r S' => r = .bl (isWd 8 d) ∧ Kp [] S S') X := by
  unfold C.g_is_name
  rw [run1]
  unfold C.b_is_name
  rw [so_ret, ok_eCall, ok_aCons, ok_eVar (d := d) (by rfl), ok_aCons, ok_eC, ok_aNil]
  exact is_word_spec (m := 8) hs
theorem is_right_spec {S : Store} {d : D} {X : XP} (hs : Dat S d) : ok (C.g_is_right [d] S) (fun r S' => r = .bl (isWd 3 d) ∧ Kp [] S S') X := by
  unfold C.g_is_right
  rw [run1]
  unfold C.b_is_right
  rw [so_ret, ok_eCall, ok_aCons, ok_eVar (d := d) (by rfl), ok_aCons, ok_eC, ok_aNil]
  exact is_word_spec (m := 3) hs
end Mini
namespace Mini
open PySem L2 PySem.W
def numd (xs : List D) : List D := xs.mapIdx fun i d => .tup [.int i, d]
theorem enu_nx {xs : List D} (i : Nat) (S : Store) : nextI (.enuT xs) i S = .of (numd xs)[i]? := by
  simp only [nextI, numd]
  rw [List.getElem?_mapIdx]
theorem numd_len (xs : List D) : (numd xs).length = xs.length := List.length_mapIdx
theorem numd_get {xs : List D} {i : Nat} {x : D} (h : (numd xs)[i]? = some x) : ∃ d, xs[i]? = some d ∧ x = .tup [.int i, d] := by
  unfold numd at h
  rw [List.getElem?_mapIdx] at h
  obtain ⟨d, e, rfl⟩ := Option.map_eq_some_iff.mp h
  exact ⟨d, e, rfl⟩
theorem leS {x y : Str} {S : Store} : pLe (.str x) (.str y) S = some (.bl (!decide (y.cps.toList < x.cps.toList)), S) := rfl
theorem nD_get {xs : List Str} {i : Nat} {d : D} (h : (nD xs)[i]? = some d) : ∃ x, xs[i]? = some x ∧ d = .str x := by
  unfold nD at h
  rw [List.getElem?_map] at h
  obtain ⟨x, e, rfl⟩ := Option.map_eq_some_iff.mp h
  exact ⟨x, e, rfl⟩
theorem asc_get {xs : List D} (a : asc xs) {i j : Nat} {d e : D} (hi : xs[i]? = some d) (hj : xs[j]? = some e) (h : i < j) : dataLt (eP d) (eP e) = true := by
  obtain ⟨li, ei⟩ := List.getElem?_eq_some_iff.mp hi
  obtain ⟨lj, ej⟩ := List.getElem?_eq_some_iff.mp hj
  rw [← ei, ← ej]
  exact List.pairwise_iff_getElem.mp a i j li lj h
theorem lt_names {x y : Str} (h : dataLt (eP (.str x)) (eP (.str y)) = true) : x.cps.toList < y.cps.toList := by
  rw [eP_str, eP_str, dataLt_str] at h
  exact of_decide_eq_true h
theorem Wd.fits {m : Nat} {x : Str} (w : Wd m x) (h : m ≤ lim) : x.length ≤ lim := Nat.le_trans w.2.1 h
theorem names_fault_none {S : Store} {part : D} {xs os : List Str} {X : XP} (a : asc (nD xs)) (w : ∀ x ∈ xs, Wd 8 x) (wo : ∀ x ∈ os, PyData.strOk x = true) (n : ∀ x ∈ xs, x ∉ os) (hl : xs.length ≤ lim) :
    ok (C.g_names_fault [part, .tup (nD xs), .tup (nD os)] S) (fun d S' => d = .non ∧ Kp [] S S') X := by
  unfold C.g_names_fault
  rw [run3]
  unfold C.b_names_fault
  rw [so_seq, so_for, enuV (d := .tup (nD xs)) (it := .enuT (nD xs)) (by rfl) rfl]
  refine for_inv (xs := numd (nD xs)) (fun i ρ S' => (∃ a b, ρ = [some part, some (.tup (nD xs)), some (.tup (nD os)), a, b]) ∧ Kp [] S S') (by rw [numd_len, nD_len]; exact hl) (fun i ρ S' _ _ => enu_nx i S') ?_ ?_ ⟨⟨_, _, rfl⟩, Kp.refl⟩
  · rintro i x ρ S1 ex ⟨⟨p, q, rfl⟩, k1⟩
    obtain ⟨d, ed, rfl⟩ := numd_get ex
    obtain ⟨y, ey, rfl⟩ := nD_get ed
    have my := List.mem_of_getElem? ey
    refine ⟨_, rfl, ?_⟩
    dsimp only [List.set]
    rw [so_if, ok_tOr, ok_tNot, ok_tTru, ok_eCall, ok_aCons, ok_eVar (d := .str y) (by rfl), ok_aNil]
    refine ok_mono (is_name_spec (d := .str y) ((w y my).fits (by decide))) (fun r S2 hr => ?_) fun _ _ _ z => z
    obtain ⟨rfl, k2⟩ := hr
    rw [isWd_iff.mpr (w y my)]
    refine ⟨_, rfl, ?_⟩
    rw [if_neg (by decide), ok_tOr, ok_tAnd, ok_tBl, ok_eOp, ok_eVar (d := .int i) (by rfl), ok_eC]
    refine ⟨_, gtI, _, rfl, ?_⟩
    have last : ok (tBl (eOp pIn (eVar 4) (eVar 2)) [some part, some (.tup (nD xs)), some (.tup (nD os)), some (.int i), some (.str y)] S2) (fun b S3 => so (if b = true then sRet (eTup (aCons (eVar 0) (aCons (eVar 3) aNil))) [some part, some (.tup (nD xs)), some (.tup (nD os)), some (.int i), some (.str y)] S3 else sNil [some part, some (.tup (nD xs)), some (.tup (nD os)), some (.int i), some (.str y)] S3)
        (fun ρ S' => (∃ a b, ρ = [some part, some (.tup (nD xs)), some (.tup (nD os)), a, b]) ∧ Kp [] S S') (fun d S' => d = .non ∧ Kp [] S S') (fun m fs _ S1 => X m fs S1)) (fun n fs S1 => X n fs S1) := by
      rw [ok_tBl, ok_eOp, ok_eVar (d := .str y) (by rfl), ok_eVar (d := .tup (nD os)) (by rfl)]
      refine ⟨_, inT wo (p := .str y) rfl (shaped_str (w y my).strOk), _, rfl, ?_⟩
      rw [show memN os (.str y) = false from decide_eq_false (n y my), if_neg (by decide)]
      exact ⟨⟨_, _, rfl⟩, k1.trans k2⟩
    by_cases h0 : 0 < i
    · rw [decide_eq_true (show (0 : Int) < (i : Int) by omega), if_pos rfl, ok_tBl, ok_eOp, ok_eVar (d := .str y) (by rfl), ok_eOp, ok_eVar (d := .tup (nD xs)) (by rfl), ok_eOp, ok_eVar (d := .int i) (by rfl), ok_eC]
      have li : i < xs.length := (List.getElem?_eq_some_iff.mp ey).1
      have ep : (nD xs)[i - 1]? = some (.str xs[i - 1]) := by unfold nD; rw [List.getElem?_map, List.getElem?_eq_getElem (by omega)]; rfl
      refine ⟨_, subI, _, idxT (d := .str xs[i - 1]) (by rw [show (i : Int) - 1 = ((i - 1 : Nat) : Int) by omega]; exact atI_nat ep), _, leS, _, rfl, ?_⟩
      have hlt := lt_names (asc_get a ep ed (by omega))
      rw [decide_eq_true hlt, show (!true) = false from rfl, if_neg (by decide)]
      exact last
    · rw [decide_eq_false (show ¬ (0 : Int) < (i : Int) by omega), if_neg (by decide), ok_pur, if_neg (by decide)]
      exact last
  · rintro ρ S1 ⟨⟨p, q, rfl⟩, k1⟩
    rw [so_ret, ok_eC]
    exact ⟨rfl, k1⟩
theorem getM_put {κ : Type} [DecidableEq κ] {kvs : List (κ × D)} {k j : κ} {v : D} (h : (getM kvs j).isSome = true ∨ j = k) : (getM (putM kvs k v) j).isSome = true := by
  unfold putM
  split
  · rename_i hk
    rcases h with h | h
    · unfold getM at h ⊢
      rw [Option.isSome_map, List.find?_isSome] at h ⊢
      obtain ⟨p, m, e⟩ := h
      have e := of_decide_eq_true e
      by_cases hp : p.1 = k
      · exact ⟨(k, v), List.mem_map.mpr ⟨p, m, by simp [hp]⟩, by simp [← e, hp]⟩
      · exact ⟨p, List.mem_map.mpr ⟨p, m, by simp [hp]⟩, by simp [e]⟩
    · subst h
      unfold getM
      rw [Option.isSome_map, List.find?_isSome]
      obtain ⟨p, m, e⟩ := List.any_eq_true.mp hk
      have e := of_decide_eq_true e
      exact ⟨(j, v), List.mem_map.mpr ⟨p, m, by simp [e]⟩, by simp⟩
  · unfold getM at h ⊢
    rw [Option.isSome_map, List.find?_isSome] at h ⊢
    rcases h with ⟨p, m, e⟩ | h
    · exact ⟨p, List.mem_append_left _ m, e⟩
    · exact ⟨(k, v), List.mem_append_right _ (List.mem_singleton_self _), by simp [h]⟩
def Knows (S : Store) (h : Nat) (xs : List Str) : Prop := ∃ kvs : List (Key × D), S[h]? = some (.dK kvs) ∧ kvs.length ≤ xs.length ∧ ∀ x ∈ xs, (getM kvs (.inr x)).isSome = true
end Mini
namespace Mini
open PySem L2 PySem.W
theorem ok_eDc {wi : Env → M MIt} {g : Tg} {tt : Env → M Bool} {fk fv : ME} {vs : List Nat} {ρ : Env} {S : Store} {P : D → Store → Prop} {X : XP} : ok (eDc wi g tt fk fv vs ρ S) P X = ok (wi ρ S) (fun it S1 => ok (dcM g tt fk fv it S1.length (wipeM ρ vs) turns 0 (S1 ++ [.dK []])) P X) X := by simp [eDc]
theorem dc_inv {g : Tg} {tt : Env → M Bool} {fk fv : ME} {it : MIt} {h : Nat} {ρ : Env} {xs : List D} {P : D → Store → Prop} {X : XP} (I : Nat → Store → Prop) (hx : xs.length ≤ lim)
    (nx : ∀ i S, i ≤ xs.length → I i S → nextI it i S = .of xs[i]?)
    (step : ∀ i x S, xs[i]? = some x → I i S → ∃ ρ1, setT g x ρ = some ρ1 ∧ ok (tt ρ1 S) (fun b S1 => if b = true then ok (fk ρ1 S1) (fun y S2 => ok (fv ρ1 S2) (fun z S3 => ∃ kvs kk, S3[h]? = some (.dK kvs) ∧ keyOf y = some kk ∧ kvs.length < lim ∧ I (i + 1) (S3.set h (.dK (putM kvs kk z)))) X0) X0 else I (i + 1) S1) X0)
    (done : ∀ S, I xs.length S → P (.ref h) S) {S : Store} (h0 : I 0 S) : ok (dcM g tt fk fv it h ρ turns 0 S) P X := by
  have go : ∀ (k i : Nat) (S : Store), i + k = xs.length → ∀ n, k < n → I i S → ok (dcM g tt fk fv it h ρ n i S) P X := by
    intro k
    induction k with
    | zero =>
      intro i S hi n hn hI
      obtain ⟨n, rfl⟩ : ∃ m, n = m + 1 := ⟨n - 1, by omega⟩
      unfold dcM
      have e : xs[i]? = none := List.getElem?_eq_none (by omega)
      simp only [nx i S (by omega) hI, e, Nxt.of]
      obtain rfl : i = xs.length := by omega
      exact done S hI
    | succ k ih =>
      intro i S hi n hn hI
      obtain ⟨n, rfl⟩ : ∃ m, n = m + 1 := ⟨n - 1, by omega⟩
      have hl : i < xs.length := by omega
      obtain ⟨ρ1, e1, h1⟩ := step i _ S (List.getElem?_eq_getElem hl) hI
      unfold dcM
      simp only [nx i S (by omega) hI, List.getElem?_eq_getElem hl, Nxt.of, e1]
      rw [ok_bnd, ok_nox]
      refine ok_mono h1 (fun b S1 hb => ?_) fun _ _ _ z => z.elim
      cases b with
      | false => exact ih (i + 1) S1 (by omega) n (by omega) hb
      | true =>
        simp only [if_true] at hb ⊢
        rw [ok_bnd, ok_nox]
        refine ok_mono hb (fun y S2 hy => ?_) fun _ _ _ z => z.elim
        rw [ok_bnd, ok_nox]
        refine ok_mono hy (fun z S3 hz => ?_) fun _ _ _ z => z.elim
        obtain ⟨kvs, kk, e2, e3, e4, e5⟩ := hz
        simp only [e2, e3]
        rw [if_pos e4]
        exact ih (i + 1) _ (by omega) n (by omega) e5
  exact go xs.length 0 S (by omega) turns (by unfold turns; unfold lim at hx; omega) h0
theorem putM_len {κ : Type} [DecidableEq κ] {kvs : List (κ × D)} {k : κ} {v : D} : (putM kvs k v).length ≤ kvs.length + 1 := by
  unfold putM
  split
  · rw [List.length_map]; omega
  · rw [List.length_append]; exact Nat.le_refl _
theorem dict_names {S : Store} {j : Nat} {xs : List Str} {ρ : Env} {X : XP} (hj : j < ρ.length) (hl : xs.length ≤ 1000) :
    ok (dcM (.nm j) ttYes (eVar j) (eC (.bl true)) (.tup (nD xs)) S.length ρ turns 0 (S ++ [.dK []])) (fun d S' => d = .ref S.length ∧ Knows S' S.length xs ∧ Kp [] S S') X := by
  refine dc_inv (xs := nD xs) (fun i S' => (∃ kvs : List (Key × D), S'[S.length]? = some (.dK kvs) ∧ kvs.length ≤ i ∧ ∀ x ∈ xs.take i, (getM kvs (.inr x)).isSome = true) ∧ Kp [] S S') (by rw [nD_len]; unfold lim; omega) (fun i S' _ _ => rfl) ?_ ?_ ⟨⟨[], new_get, Nat.le_refl _, (fun _ z => by simp at z)⟩, Kp.new⟩
  · rintro i x S1 ex ⟨⟨kvs, e1, e2, e3⟩, k1⟩
    obtain ⟨y, ey, rfl⟩ := nD_get ex
    have li : i < xs.length := (List.getElem?_eq_some_iff.mp ey).1
    refine ⟨_, rfl, ?_⟩
    rw [ok_ttYes, if_pos rfl, ok_eVar (d := .str y) (by rw [List.getElem?_set_self hj]), ok_eC]
    refine ⟨kvs, .inr y, e1, rfl, by unfold lim; omega, ⟨_, set_get e1, Nat.le_trans putM_len (by omega), fun x m => ?_⟩, k1.new1 (m' := .dK []) (Nat.le_refl _)⟩
    rw [List.take_add_one, ey] at m
    rcases List.mem_append.mp m with m | m
    · exact getM_put (.inl (e3 x m))
    · simp only [Option.toList_some, List.mem_singleton] at m
      exact getM_put (.inr (by rw [m]))
  · rintro S1 ⟨⟨kvs, e1, e2, e3⟩, k1⟩
    rw [nD_len] at e2 e3
    rw [List.take_length] at e3
    exact ⟨rfl, ⟨kvs, e1, e2, e3⟩, k1⟩
theorem Knows.kp {M : List Nat} {S S' : Store} {h : Nat} {xs : List Str} (q : Knows S h xs) (k : Kp M S S') (hm : h ∉ M) : Knows S' h xs := let ⟨kvs, e, r⟩ := q; ⟨kvs, k.get h _ hm e, r⟩
theorem Knows.mem {S : Store} {h : Nat} {xs : List Str} {x : Str} (q : Knows S h xs) (m : x ∈ xs) : pIn (.str x) (.ref h) S = some (.bl true, S) := by
  obtain ⟨kvs, e, _, r⟩ := q
  show (inD S (.str x) (.ref h)).map _ = _
  simp only [inD, e, dLook, keyOf, Option.map_some, r x m]
theorem is_tuple_of_spec {S : Store} {xs : List D} {n : Nat} {X : XP} : ok (C.g_is_tuple_of [.int n, .tup xs] S) (fun r S' => r = .bl (decide (xs.length = n)) ∧ S' = S) X := by
  unfold C.g_is_tuple_of
  rw [run2]
  unfold C.b_is_tuple_of
  rw [so_ret, ok_eAnd, ok_eIsi, ok_eVar (d := .tup xs) (by rfl)]
  refine ⟨(.bl true, S), rfl, _, rfl, ?_⟩
  rw [if_pos rfl, ok_eOp, ok_eB, ok_aCons, ok_eVar (d := .tup xs) (by rfl), ok_aNil]
  refine ⟨_, lenT, ?_⟩
  rw [ok_eVar (d := .int n) (by rfl)]
  refine ⟨_, eqI, ?_, rfl⟩
  show D.bl (decide ((xs.length : Int) = (n : Int))) = _
  by_cases h : xs.length = n
  · rw [decide_eq_true h, decide_eq_true (by omega)]
  · rw [decide_eq_false h, decide_eq_false (by omega)]
theorem is_hold_of_spec {S : Store} {k : Nat} {ns : List Str} {h : Ho} {X : XP} (q : Knows S k ns) (m1 : h.1 ∈ ns) (m2 : h.2.1 ∈ ns) (w1 : Wd 8 h.1) (w2 : Wd 8 h.2.1) (w3 : Wd 3 h.2.2) : ok (C.g_is_hold_of [.ref k, hD h] S) (fun r S' => r = .bl true ∧ Kp [] S S') X := by
  unfold C.g_is_hold_of
  rw [run2]
  unfold C.b_is_hold_of
  rw [so_seq, so_if, ok_tOr, ok_tNot, ok_tTru, ok_eCall, ok_aCons, ok_eC, ok_aCons, ok_eVar (d := hD h) (by rfl), ok_aNil]
  refine ok_mono (is_tuple_of_spec (n := 3) (xs := [.str h.1, .str h.2.1, .str h.2.2])) (fun r S1 hr => ?_) fun _ _ _ z => z
  obtain ⟨rfl, rfl⟩ := hr
  refine ⟨true, rfl, ?_⟩
  rw [if_neg (by decide), ok_tNot, ok_tTru]
  refine ok_all (xs := [.str h.1, .str h.2.1]) (it := .tup [.str h.1, .str h.2.1]) (fun _ => true) (fun Q => ?_) (show 2 ≤ lim by decide) (fun i S' _ => rfl) (fun x S2 mx k2 => ?_) fun S2 k2 => ⟨true, rfl, ?_⟩
  · rw [ok_iAny, ok_eCut, ok_eVar (d := hD h) (by rfl), ok_oNone, ok_oSome, ok_eC]
    exact propext ⟨fun ⟨_, e, p, e2, it, e3, q⟩ => by cases e; cases e2; cases e3; exact q, fun q => ⟨_, rfl, _, rfl, _, rfl, q⟩⟩
  · obtain ⟨y, rfl, wy, my⟩ : ∃ y, x = .str y ∧ Wd 8 y ∧ y ∈ ns := by
      simp only [List.mem_cons, List.not_mem_nil, or_false] at mx
      rcases mx with rfl | rfl
      · exact ⟨_, rfl, w1, m1⟩
      · exact ⟨_, rfl, w2, m2⟩
    refine ⟨_, rfl, ?_⟩
    rw [ok_eAnd, ok_eCall, ok_aCons, ok_eVar (d := .str y) (by rfl), ok_aNil]
    refine ok_mono (is_name_spec (d := .str y) (wy.fits (by decide))) (fun r S3 hr => ?_) fun _ _ _ z => z
    obtain ⟨rfl, k3⟩ := hr
    rw [isWd_iff.mpr wy]
    refine ⟨_, rfl, ?_⟩
    rw [if_pos rfl, ok_eOp, ok_eVar (d := .str y) (by rfl), ok_eVar (d := .ref k) (by rfl)]
    exact ⟨_, ((q.kp k2 (fun z => nomatch z)).kp k3 (fun z => nomatch z)).mem my, k3, rfl⟩
  · rw [show (!true) = false from rfl, if_neg (by decide), so_nil, so_ret, ok_eCall, ok_aCons, ok_eOp, ok_eVar (d := hD h) (by rfl), ok_eC]
    refine ⟨(.str h.2.2, S2), rfl, ?_⟩
    rw [ok_aNil]
    refine ok_mono (is_right_spec (d := .str h.2.2) (w3.fits (by decide))) (fun r S3 hr => ?_) fun _ _ _ z => z
    obtain ⟨rfl, k3⟩ := hr
    exact ⟨by rw [isWd_iff.mpr w3], k2.trans k3⟩
theorem shaped_hold {h : Ho} (w1 : PyData.strOk h.1 = true) (w2 : PyData.strOk h.2.1 = true) (w3 : PyData.strOk h.2.2 = true) : SeqAt.shaped (eP (hD h)) = true := by
  have := (shaped_names (xs := [h.1, h.2.1, h.2.2]) (by simp [w1, w2, w3])).2
  exact this
theorem leH {S : Store} {g h : Ho} (sg : SeqAt.shaped (eP (hD g)) = true) (sh : SeqAt.shaped (eP (hD h)) = true) : pLe (hD h) (hD g) S = some (.bl (!dataLt (eP (hD g)) (eP (hD h))), S) := by
  have e : ltD S (hD g) (hD h) = some (dataLt (eP (hD g)) (eP (hD h))) := by
    have e1 : toP S (hD g) = some (eP (hD g)) := ((hD_clo g).enc S).2
    have e2 : toP S (hD h) = some (eP (hD h)) := ((hD_clo h).enc S).2
    unfold hD at e1 e2 ⊢
    simp only [ltD, e1, e2]
    have al : PySem.W.alike (eP (.tup [.str g.1, .str g.2.1, .str g.2.2])) (eP (.tup [.str h.1, .str h.2.1, .str h.2.2])) = true := rfl
    unfold hD at sg sh
    rw [al, sg, sh]; rfl
  show (ltD S (hD g) (hD h)).map _ = _
  rw [e]; rfl
theorem Gr.Ok.strOk {G : Gr} (o : G.Ok) : ∀ x ∈ G.A ++ G.O, PyData.strOk x = true := fun x m => (o.wd x m).strOk
theorem Gr.Ok.shH {G : Gr} (o : G.Ok) {h : Ho} (m : h ∈ G.H) : SeqAt.shaped (eP (hD h)) = true := shaped_hold (o.strOk _ (o.of h m).1) (o.strOk _ (o.of h m).2.1) (o.of h m).2.2.strOk
theorem hsD_get {xs : List Ho} {i : Nat} {d : D} (h : (hsD xs)[i]? = some d) : ∃ x, xs[i]? = some x ∧ d = hD x := by
  unfold hsD at h
  rw [List.getElem?_map] at h
  obtain ⟨x, e, rfl⟩ := Option.map_eq_some_iff.mp h
  exact ⟨x, e, rfl⟩
theorem hsD_len (xs : List Ho) : (hsD xs).length = xs.length := List.length_map ..
theorem graph_fault_none {S : Store} {G : Gr} {X : XP} (o : G.Ok) : ok (C.g_graph_fault [G.d] S) (fun d S' => d = .non ∧ Kp [] S S') X := by
  have lA : G.A.length ≤ 30 := by have := o.len; rw [List.length_append] at this; omega
  have lO : G.O.length ≤ 30 := by have := o.len; rw [List.length_append] at this; omega
  unfold C.g_graph_fault
  rw [run1]
  unfold C.b_graph_fault
  rw [so_seq, so_if, ok_tOr, ok_tNot, ok_tTru, ok_eCall, ok_aCons, ok_eC, ok_aCons, ok_eVar (d := G.d) (by rfl), ok_aNil]
  refine ok_mono (is_tuple_of_spec (n := 3) (xs := [.tup (nD G.A), .tup (nD G.O), .tup (hsD G.H)])) (fun r S1 hr => ?_) fun _ _ _ z => z
  obtain ⟨rfl, rfl⟩ := hr
  refine ⟨true, rfl, ?_⟩
  rw [if_neg (by decide), ok_tNot, ok_tTru]
  refine ok_all (xs := [.tup (nD G.A), .tup (nD G.O), .tup (hsD G.H)]) (it := .tup [.tup (nD G.A), .tup (nD G.O), .tup (hsD G.H)]) (fun _ => true) (anyV (d := G.d) (by rfl) rfl) (show 3 ≤ lim by decide) (fun i S' _ => rfl) (fun x S2 mx k2 => ?_) fun S2 k2 => ⟨true, rfl, ?_⟩
  · obtain ⟨ys, rfl⟩ : ∃ ys, x = .tup ys := by
      simp only [List.mem_cons, List.not_mem_nil, or_false] at mx
      rcases mx with rfl | rfl | rfl <;> exact ⟨_, rfl⟩
    refine ⟨_, rfl, ?_⟩
    rw [ok_eIsi, ok_eVar (d := .tup ys) (by rfl)]
    exact ⟨(.bl true, S2), rfl, Kp.refl, rfl⟩
  rw [show (!true) = false from rfl, if_neg (by decide), so_nil, so_seq, so_set, ok_eVar (d := G.d) (by rfl)]
  refine ⟨_, rfl, ?_⟩
  rw [so_seq, so_set, ok_eCall, ok_aCons, ok_eC, ok_aCons, ok_eVar (d := .tup (nD G.A)) (by rfl), ok_aCons, ok_eTup, ok_aNil]
  refine ⟨_, tupO_eq (show 0 ≤ lim by decide), ?_⟩
  rw [ok_aNil]
  refine ok_mono (names_fault_none (os := []) o.ascA (fun x m => o.wd x (List.mem_append_left _ m)) (fun _ z => nomatch z) (fun _ _ z => nomatch z) (by unfold lim; omega)) (fun r S3 hr => ?_) fun _ _ _ z => z
  obtain ⟨rfl, k3⟩ := hr
  refine ⟨_, rfl, ?_⟩
  rw [so_seq, so_if, ok_tBl, ok_eOp, ok_eVar (d := .non) (by rfl), ok_eC]
  refine ⟨(.bl true, S3), rfl, _, rfl, ?_⟩
  rw [if_pos rfl, so_set, ok_eCall, ok_aCons, ok_eC, ok_aCons, ok_eVar (d := .tup (nD G.O)) (by rfl), ok_aCons, ok_eVar (d := .tup (nD G.A)) (by rfl), ok_aNil]
  refine ok_mono (names_fault_none (os := G.A) o.ascO (fun x m => o.wd x (List.mem_append_right _ m)) (fun x m => o.strOk x (List.mem_append_left _ m)) (fun x m z => o.dis x z m) (by unfold lim; omega)) (fun r S4 hr => ?_) fun _ _ _ z => z
  obtain ⟨rfl, k4⟩ := hr
  refine ⟨_, rfl, ?_⟩
  rw [so_seq, so_if, ok_tBl, ok_eOp, ok_eVar (d := .non) (by rfl), ok_eC]
  refine ⟨(.bl false, S4), rfl, _, rfl, ?_⟩
  rw [if_neg (by decide), so_nil, so_seq, so_set, ok_eDc, ok_iAny, ok_eOp, ok_eVar (d := .tup (nD G.A)) (by rfl), ok_eVar (d := .tup (nD G.O)) (by rfl)]
  refine ⟨(.tup (nD (G.A ++ G.O)), S4), ?_, .tup (nD (G.A ++ G.O)), rfl, ?_⟩
  · rw [nD_app]
    exact tupO_eq (by rw [List.length_append, nD_len, nD_len]; unfold lim; omega)
  refine ok_mono (dict_names (by simp [wipeM, setT, setTs]) (by have := o.len; omega)) (fun r S5 hr => ?_) fun _ _ _ z => z
  obtain ⟨rfl, kn, k5⟩ := hr
  refine ⟨_, rfl, ?_⟩
  dsimp only [List.set, List.replicate]
  rw [so_seq, so_for, enuV (d := .tup (hsD G.H)) (it := .enuT (hsD G.H)) (by rfl) rfl]
  refine for_inv (xs := numd (hsD G.H)) (fun i ρ S' => (∃ a b, ρ = [some G.d, none, some (.tup (nD G.A)), some (.tup (nD G.O)), some (.tup (hsD G.H)), some .non, some (.ref S4.length), none, a, b]) ∧ Kp [] S5 S') (by rw [numd_len, hsD_len]; have := o.lenH; unfold lim; omega) (fun i ρ S' _ _ => enu_nx i S') ?_ ?_ ⟨⟨none, none, rfl⟩, Kp.refl⟩
  · rintro i x ρ T1 ex ⟨⟨p, q, rfl⟩, k6⟩
    obtain ⟨d, ed, rfl⟩ := numd_get ex
    obtain ⟨y, ey, rfl⟩ := hsD_get ed
    have my := List.mem_of_getElem? ey
    have oy := o.of y my
    refine ⟨_, rfl, ?_⟩
    dsimp only [List.set]
    rw [so_if, ok_tOr, ok_tNot, ok_tTru, ok_eCall, ok_aCons, ok_eVar (d := .ref S4.length) (by rfl), ok_aCons, ok_eVar (d := hD y) (by rfl), ok_aNil]
    refine ok_mono (is_hold_of_spec (kn.kp k6 (fun z => nomatch z)) oy.1 oy.2.1 (o.wd _ oy.1) (o.wd _ oy.2.1) oy.2.2) (fun r T2 hr => ?_) fun _ _ _ z => z
    obtain ⟨rfl, k7⟩ := hr
    refine ⟨true, rfl, ?_⟩
    rw [if_neg (by decide), ok_tAnd, ok_tBl, ok_eOp, ok_eVar (d := .int i) (by rfl), ok_eC]
    refine ⟨_, gtI, _, rfl, ?_⟩
    by_cases h0 : 0 < i
    · rw [decide_eq_true (show (0 : Int) < (i : Int) by omega), if_pos rfl, ok_tBl, ok_eOp, ok_eVar (d := hD y) (by rfl), ok_eOp, ok_eVar (d := .tup (hsD G.H)) (by rfl), ok_eOp, ok_eVar (d := .int i) (by rfl), ok_eC]
      have li : i < G.H.length := (List.getElem?_eq_some_iff.mp ey).1
      have ep : (hsD G.H)[i - 1]? = some (hD G.H[i - 1]) := by unfold hsD; rw [List.getElem?_map, List.getElem?_eq_getElem (by omega)]; rfl
      refine ⟨_, subI, _, idxT (d := hD G.H[i - 1]) (by rw [show (i : Int) - 1 = ((i - 1 : Nat) : Int) by omega]; exact atI_nat ep), _, leH (o.shH (List.getElem_mem _)) (o.shH my), _, rfl, ?_⟩
      rw [asc_get o.ascH ep ed (by omega), show (!true) = false from rfl, if_neg (by decide)]
      exact ⟨⟨_, _, rfl⟩, k6.trans k7⟩
    · rw [decide_eq_false (show ¬ (0 : Int) < (i : Int) by omega), if_neg (by decide), ok_pur, if_neg (by decide)]
      exact ⟨⟨_, _, rfl⟩, k6.trans k7⟩
  · rintro ρ T1 ⟨⟨p, q, rfl⟩, k6⟩
    rw [so_ret, ok_eC]
    exact ⟨rfl, ((((k2.trans k3).trans k4).trans k5).trans k6)⟩
theorem check_graph_ok {S : Store} {G : Gr} {X : XP} (o : G.Ok) : ok (C.g_check_graph [G.d] S) (fun d S' => Kp [] S S') X := by
  unfold C.g_check_graph
  rw [run1]
  unfold C.b_check_graph
  rw [so_seq, so_set, ok_eCall, ok_aCons, ok_eVar (d := G.d) (by rfl), ok_aNil]
  refine ok_mono (graph_fault_none o) (fun r S1 hr => ?_) fun _ _ _ z => z
  obtain ⟨rfl, k1⟩ := hr
  refine ⟨_, rfl, ?_⟩
  rw [so_if, ok_tBl, ok_eOp, ok_eVar (d := .non) (by rfl), ok_eC]
  refine ⟨(.bl false, S1), rfl, _, rfl, ?_⟩
  rw [if_neg (by decide), so_nil]
  exact k1
end Mini
namespace Mini
open PySem L2 PySem.W PyProof.Rows
class En (α : Type) [DecidableEq α] where
  enc : α → D
  pd : α → PyData
  dep : Nat
  clo : ∀ a g, dP g (enc a) = some (pd a)
  lay : ∀ a, (pd a).canLay0 = true
  dle : ∀ a, (pd a).depth ≤ dep
  eqv : ∀ a b, PyData.eqv (pd a) (pd b) = decide (a = b)
open En (enc pd dep)
class EnO (α : Type) [DecidableEq α] [En α] : Prop where
  like : ∀ a b : α, alike (pd a) (pd b) = true
  toks : ∀ (a b : α) l m, keyToks (pd a) ++ l = keyToks (pd b) ++ m → a = b ∧ l = m
  ltd : ∀ (a b : α) S, ltD S (enc a) (enc b) = some (dataLt (pd a) (pd b))
section
variable {α β γ : Type} [DecidableEq α] [DecidableEq β] [DecidableEq γ]
theorem enc_toP [En α] (S : Store) (a : α) : toP S (enc a) = some (pd a) := En.clo a _
theorem enc_encD [En α] (S : Store) (a : α) : encD S (enc a) = pd a := encD_of (enc_toP S a)
theorem enc_shaped [En α] (a : α) (h : dep α ≤ 60 := by decide) : SeqAt.shaped (pd a) = true := by
  unfold SeqAt.shaped
  rw [Bool.and_eq_true, decide_eq_true_eq]
  exact ⟨En.lay a, Nat.le_trans (En.dle a) (Nat.le_trans h (by decide))⟩
theorem enc_inj [En α] {a b : α} (h : enc a = enc b) : a = b := by
  have h1 : (some (pd a) : Option PyData) = some (pd b) := by rw [← En.clo a (fun _ => none), ← En.clo b (fun _ => none), h]
  have h2 := En.eqv a b
  rw [Option.some.inj h1, En.eqv b b] at h2
  simpa using h2
theorem dPs_enc [En α] (g : Nat → Option PyData) : ∀ xs : List α, dPs g (xs.map enc) = some (xs.map pd)
  | [] => rfl
  | x :: r => by rw [List.map_cons, dPs, En.clo, dPs_enc g r]; rfl
theorem layAll_enc [En α] : ∀ xs : List α, PyData.canLayAll0 (xs.map pd) = true
  | [] => rfl
  | x :: r => by rw [List.map_cons, PyData.canLayAll0, En.lay, layAll_enc r]; rfl
theorem depAll_enc [En α] : ∀ xs : List α, PyData.depthAll (xs.map pd) ≤ dep α
  | [] => Nat.zero_le _
  | x :: r => by rw [List.map_cons, PyData.depthAll]; exact Nat.max_le.mpr ⟨En.dle x, depAll_enc r⟩
theorem shapedL_enc [En α] (xs : List α) (h : dep α ≤ 60 := by decide) : SeqAt.shaped (.list (xs.map pd)) = true := by
  unfold SeqAt.shaped
  rw [Bool.and_eq_true, decide_eq_true_eq]
  refine ⟨layAll_enc xs, ?_⟩
  rw [PyData.depth]
  have := depAll_enc xs
  omega
theorem eqvAll_enc [En α] : ∀ xs ys : List α, PyData.eqvAll (xs.map pd) (ys.map pd) = decide (xs = ys)
  | [], [] => rfl
  | [], _ :: _ => rfl
  | _ :: _, [] => rfl
  | x :: xs, y :: ys => by
    rw [List.map_cons, List.map_cons, PyData.eqvAll, En.eqv, eqvAll_enc xs ys, Bool.eq_iff_iff, Bool.and_eq_true]
    simp
structure Wrd (m : Nat) where
  s : Str
  w : Wd m s
instance {m : Nat} : DecidableEq (Wrd m) := fun a b => if h : a.s = b.s then .isTrue (by cases a; cases b; cases h; rfl) else .isFalse fun e => h (e ▸ rfl)
theorem Wrd.ext {m : Nat} {a b : Wrd m} (h : a.s = b.s) : a = b := by cases a; cases b; cases h; rfl
theorem Wrd.len {m : Nat} (a : Wrd m) : a.s.length ≤ m := a.w.2.1
abbrev Nm := Wrd 8
abbrev Rt := Wrd 3
structure Tx where
  s : Str
  ok : PyData.strOk s = true
  len : s.length ≤ lim
instance : DecidableEq Tx := fun a b => if h : a.s = b.s then .isTrue (by cases a; cases b; cases h; rfl) else .isFalse fun e => h (e ▸ rfl)
theorem Tx.ext {a b : Tx} (h : a.s = b.s) : a = b := by cases a; cases b; cases h; rfl
theorem ltd_str (x y : Str) (S : Store) : ltD S (.str x) (.str y) = some (dataLt (.str x) (.str y)) := by rw [dataLt_str]; rfl
theorem toks_str {x y : Str} {l m : List (Int ⊕ List Nat)} (h : keyToks (.str x) ++ l = keyToks (.str y) ++ m) : x = y ∧ l = m := by
  have h : Sum.inr x.cps.toList :: l = Sum.inr y.cps.toList :: m := h
  obtain ⟨h1, h2⟩ := List.cons.inj h
  exact ⟨str_of_cps (Sum.inr.inj h1), h2⟩
instance encWrd {m : Nat} : En (Wrd m) where
  enc a := .str a.s
  pd a := .str a.s
  dep := 0
  clo _ _ := rfl
  lay a := a.w.strOk
  dle _ := by rw [PyData.depth] <;> simp
  eqv a b := by
    rw [eqv_str]
    exact decide_eq_decide.mpr ⟨Wrd.ext, fun e => e ▸ rfl⟩
instance encWrdO {m : Nat} : EnO (Wrd m) where
  like _ _ := rfl
  toks a b l m h := let ⟨e, q⟩ := toks_str h; ⟨Wrd.ext e, q⟩
  ltd _ _ _ := ltd_str _ _ _
instance encTx : En Tx where
  enc a := .str a.s
  pd a := .str a.s
  dep := 0
  clo _ _ := rfl
  lay a := a.ok
  dle _ := by rw [PyData.depth] <;> simp
  eqv a b := by
    rw [eqv_str]
    exact decide_eq_decide.mpr ⟨Tx.ext, fun e => e ▸ rfl⟩
instance encTxO : EnO Tx where
  like _ _ := rfl
  toks a b l m h := let ⟨e, q⟩ := toks_str h; ⟨Tx.ext e, q⟩
  ltd _ _ _ := ltd_str _ _ _
instance encInt : En Int where
  enc a := .int a
  pd a := .int a
  dep := 0
  clo _ _ := rfl
  lay _ := rfl
  dle _ := by rw [PyData.depth] <;> simp
  eqv a b := rfl
instance encIntO : EnO Int where
  like _ _ := rfl
  toks a b l m h := by
    have h : Sum.inl a :: l = Sum.inl b :: m := h
    obtain ⟨h1, h2⟩ := List.cons.inj h
    exact ⟨Sum.inl.inj h1, h2⟩
  ltd a b S := by show _ = some (dataLt (.int _) (.int _)); rw [dataLt_int]; rfl
instance encNat : En Nat where
  enc a := .int a
  pd a := .int a
  dep := 0
  clo _ _ := rfl
  lay _ := rfl
  dle _ := by rw [PyData.depth] <;> simp
  eqv a b := by
    show decide ((a : Int) = b) = _
    exact decide_eq_decide.mpr ⟨fun e => by omega, fun e => by omega⟩
instance encNatO : EnO Nat where
  like _ _ := rfl
  toks a b l m h := by
    have h : Sum.inl (a : Int) :: l = Sum.inl (b : Int) :: m := h
    obtain ⟨h1, h2⟩ := List.cons.inj h
    exact ⟨by have := Sum.inl.inj h1; omega, h2⟩
  ltd a b S := by show _ = some (dataLt (.int _) (.int _)); rw [dataLt_int]; rfl
instance encBool : En Bool where
  enc a := .bl a
  pd a := .bool a
  dep := 0
  clo _ _ := rfl
  lay _ := rfl
  dle _ := by rw [PyData.depth] <;> simp
  eqv a b := by cases a <;> cases b <;> rfl
instance encUnit : En Unit where
  enc _ := .non
  pd _ := .none
  dep := 0
  clo _ _ := rfl
  lay _ := rfl
  dle _ := by rw [PyData.depth] <;> simp
  eqv a b := rfl
theorem tup_clo {xs : List D} {ps : List PyData} {g : Nat → Option PyData} (h : dPs g xs = some ps) : dP g (.tup xs) = some (.tuple ps) := by rw [dP, h]; rfl
theorem toksAll_inj [En α] [EnO α] : ∀ (xs ys : List α) (l m : List (Int ⊕ List Nat)), keyToksAll (xs.map pd) ++ l = keyToksAll (ys.map pd) ++ m → xs = ys ∧ l = m
  | [], [], l, m, h => by simp [keyToksAll] at h; exact ⟨rfl, h⟩
  | [], y :: ys, l, m, h => by
    rw [List.map_cons, keyToksAll] at h
    have h1 := (List.cons.inj (show (Sum.inl 0 : Int ⊕ List Nat) :: l = _ :: _ from h)).1
    cases h1
  | x :: xs, [], l, m, h => by
    rw [List.map_cons, keyToksAll] at h
    have h1 := (List.cons.inj (show _ :: _ = (Sum.inl 0 : Int ⊕ List Nat) :: m from h)).1
    cases h1
  | x :: xs, y :: ys, l, m, h => by
    rw [List.map_cons, List.map_cons, keyToksAll, keyToksAll, List.cons_append, List.cons_append, List.append_assoc, List.append_assoc] at h
    obtain ⟨e1, h2⟩ := EnO.toks x y _ _ (List.cons.inj h).2
    obtain ⟨e2, h3⟩ := toksAll_inj xs ys l m h2
    exact ⟨by rw [e1, e2], h3⟩
theorem alikeAll_enc [En α] [EnO α] : ∀ xs ys : List α, alikeAll (xs.map pd) (ys.map pd) = true
  | [], [] => rfl
  | [], _ :: _ => rfl
  | _ :: _, [] => rfl
  | x :: xs, y :: ys => by rw [List.map_cons, List.map_cons, alikeAll, EnO.like, alikeAll_enc xs ys]; rfl
theorem ltd_tup {S : Store} {xs ys : List D} {p q : PyData} (h1 : toP S (.tup xs) = some p) (h2 : toP S (.tup ys) = some q) (a : alike p q = true) (s1 : SeqAt.shaped p = true) (s2 : SeqAt.shaped q = true) : ltD S (.tup xs) (.tup ys) = some (dataLt p q) := by
  show (match toP S (.tup xs), toP S (.tup ys) with
    | some x, some y => if PySem.W.alike x y && SeqAt.shaped x && SeqAt.shaped y then some (PySem.W.dataLt x y) else none
    | _, _ => none) = _
  rw [h1, h2]
  show (if (alike p q && SeqAt.shaped p && SeqAt.shaped q) = true then _ else _) = _
  rw [a, s1, s2]; rfl
instance encList [En α] : En (List α) where
  enc a := .tup (a.map enc)
  pd a := .tuple (a.map pd)
  dep := dep α + 1
  clo a g := tup_clo (dPs_enc g a)
  lay a := layAll_enc a
  dle a := by rw [PyData.depth]; have := depAll_enc a; omega
  eqv a b := eqvAll_enc a b
class Flat (α : Type) [DecidableEq α] [En α] : Prop where
  le : dep α ≤ 60
instance {m : Nat} : Flat (Wrd m) := ⟨show 0 ≤ 60 by decide⟩
instance : Flat Tx := ⟨by decide⟩
instance : Flat Int := ⟨by decide⟩
instance : Flat Nat := ⟨by decide⟩
structure Tri (α β γ : Type) where
  x : α
  y : β
  z : γ
  deriving DecidableEq
instance encTri [En α] [En β] [En γ] : En (Tri α β γ) where
  enc a := .tup [enc a.x, enc a.y, enc a.z]
  pd a := .tuple [pd a.x, pd a.y, pd a.z]
  dep := dep α + dep β + dep γ + 1
  clo a g := by rw [dP, dPs, dPs, dPs, dPs, En.clo, En.clo, En.clo]; rfl
  lay a := by rw [PyData.canLay0, PyData.canLayAll0, PyData.canLayAll0, PyData.canLayAll0, PyData.canLayAll0, En.lay, En.lay, En.lay]; rfl
  dle a := by
    rw [PyData.depth, PyData.depthAll, PyData.depthAll, PyData.depthAll, PyData.depthAll]
    have := En.dle a.x; have := En.dle a.y; have := En.dle a.z
    omega
  eqv a b := by
    rw [PyData.eqv, PyData.eqvAll, PyData.eqvAll, PyData.eqvAll, PyData.eqvAll, En.eqv, En.eqv, En.eqv, Bool.eq_iff_iff]
    cases a; cases b
    simp
instance encTriO [En α] [En β] [En γ] [EnO α] [EnO β] [EnO γ] [Flat (Tri α β γ)] : EnO (Tri α β γ) where
  like a b := by
    show alike (.tuple _) (.tuple _) = true
    rw [alike, alikeAll, alikeAll, alikeAll, alikeAll, EnO.like, EnO.like, EnO.like]; rfl
  toks a b l m h := by
    have h : keyToks (.tuple _) ++ l = keyToks (.tuple _) ++ m := h
    simp only [keyToks, keyToksAll, List.cons_append, List.append_assoc, List.cons.injEq, true_and] at h
    obtain ⟨e1, h⟩ := EnO.toks _ _ _ _ h
    obtain ⟨e2, h⟩ := EnO.toks _ _ _ _ (List.cons.inj h).2
    obtain ⟨e3, h⟩ := EnO.toks _ _ _ _ (List.cons.inj h).2
    have h4 := (List.cons.inj h).2
    cases a; cases b
    simp only at e1 e2 e3
    exact ⟨by rw [e1, e2, e3], h4⟩
  ltd a b S := ltd_tup (enc_toP S a) (enc_toP S b) (by
    show alike (.tuple _) (.tuple _) = true
    rw [alike, alikeAll, alikeAll, alikeAll, alikeAll, EnO.like, EnO.like, EnO.like]; rfl) (enc_shaped a Flat.le) (enc_shaped b Flat.le)
instance encPair [En α] [En β] : En (α × β) where
  enc a := .tup [enc a.1, enc a.2]
  pd a := .tuple [pd a.1, pd a.2]
  dep := dep α + dep β + 1
  clo a g := by rw [dP, dPs, dPs, dPs, En.clo, En.clo]; rfl
  lay a := by rw [PyData.canLay0, PyData.canLayAll0, PyData.canLayAll0, PyData.canLayAll0, En.lay, En.lay]; rfl
  dle a := by
    rw [PyData.depth, PyData.depthAll, PyData.depthAll, PyData.depthAll]
    have := En.dle a.1; have := En.dle a.2
    omega
  eqv a b := by
    rw [PyData.eqv, PyData.eqvAll, PyData.eqvAll, PyData.eqvAll, En.eqv, En.eqv, Bool.eq_iff_iff]
    cases a; cases b
    simp
instance encPairO [En α] [En β] [EnO α] [EnO β] [Flat (α × β)] : EnO (α × β) where
  like a b := by
    show alike (.tuple _) (.tuple _) = true
    rw [alike, alikeAll, alikeAll, alikeAll, EnO.like, EnO.like]; rfl
  toks a b l m h := by
    have h : keyToks (.tuple _) ++ l = keyToks (.tuple _) ++ m := h
    simp only [keyToks, keyToksAll, List.cons_append, List.append_assoc, List.cons.injEq, true_and] at h
    obtain ⟨e1, h⟩ := EnO.toks _ _ _ _ h
    obtain ⟨e2, h⟩ := EnO.toks _ _ _ _ (List.cons.inj h).2
    have h4 := (List.cons.inj h).2
    cases a; cases b
    simp only at e1 e2
    exact ⟨by rw [e1, e2], h4⟩
  ltd a b S := ltd_tup (enc_toP S a) (enc_toP S b) (by
    show alike (.tuple _) (.tuple _) = true
    rw [alike, alikeAll, alikeAll, alikeAll, EnO.like, EnO.like]; rfl) (enc_shaped a Flat.le) (enc_shaped b Flat.le)
instance encListO [En α] [EnO α] [Flat (List α)] : EnO (List α) where
  like a b := by
    show alike (.tuple _) (.tuple _) = true
    rw [alike]; exact alikeAll_enc a b
  toks a b l m h := by
    have h : keyToks (.tuple _) ++ l = keyToks (.tuple _) ++ m := h
    rw [keyToks, keyToks] at h
    exact toksAll_inj a b l m h
  ltd a b S := ltd_tup (enc_toP S a) (enc_toP S b) (by
    show alike (.tuple _) (.tuple _) = true
    rw [alike]; exact alikeAll_enc a b) (enc_shaped a Flat.le) (enc_shaped b Flat.le)
abbrev Hd := Tri Nm Nm Rt
instance : Flat Hd := ⟨by decide⟩
instance {m : Nat} : Flat (List (Wrd m)) := ⟨show 1 ≤ 60 by decide⟩
instance : Flat (Nm × Nm) := ⟨by decide⟩
def ltE [En α] (a b : α) : Bool := dataLt (pd a) (pd b)
theorem ltE_irr [En α] (a : α) : ltE a a = false := lt_irr _
theorem ltE_trans [En α] {a b c : α} (h1 : ltE a b = true) (h2 : ltE b c = true) : ltE a c = true := (listOrd itemOrd).trans (keyToks (pd a)) (keyToks (pd b)) (keyToks (pd c)) h1 h2
theorem toks_inj [En α] [EnO α] {a b : α} (h : keyToks (pd a) = keyToks (pd b)) : a = b := (EnO.toks a b [] [] (by rw [h])).1
theorem ltE_tot [En α] [EnO α] (a b : α) : ltE a b = true ∨ a = b ∨ ltE b a = true := by
  cases h1 : ltE a b with
  | true => exact .inl rfl
  | false =>
    cases h2 : ltE b a with
    | true => exact .inr (.inr rfl)
    | false => exact .inr (.inl (toks_inj ((listOrd itemOrd).total (keyToks (pd a)) (keyToks (pd b)) h1 h2)))
end
end Mini
namespace Mini
open PySem L2 PySem.W PyProof.Rows
open En (enc pd dep)
section
variable {α β γ : Type} [DecidableEq α] [DecidableEq β] [DecidableEq γ]
def IsSq (S : Store) (d : D) (ds : List D) : Prop := d = .tup ds ∨ ∃ h, d = .ref h ∧ (S[h]? = some (.lst ds) ∨ S[h]? = some (.rol ds))
theorem IsSq.kp {S S' : Store} {d : D} {ds : List D} (q : IsSq S d ds) (k : Kp [] S S') : IsSq S' d ds := q.imp id fun ⟨h, e, r⟩ => ⟨h, e, r.imp (k.get _ _ (fun z => nomatch z)) (k.get _ _ (fun z => nomatch z))⟩
theorem IsSq.tup {S : Store} {ds : List D} : IsSq S (.tup ds) ds := .inl rfl
theorem IsSq.lst {S : Store} {h : Nat} {ds : List D} (e : S[h]? = some (.lst ds)) : IsSq S (.ref h) ds := .inr ⟨h, rfl, .inl e⟩
theorem IsSq.items {S : Store} {d : D} {ds : List D} (q : IsSq S d ds) : itemsOf S d = some ds := by
  rcases q with rfl | ⟨h, rfl, e | e⟩
  · rfl
  · simp only [itemsOf, e]
  · simp only [itemsOf, e]
theorem IsSq.len {S : Store} {d : D} {ds : List D} (q : IsSq S d ds) : nLen [d] S = some (.int ds.length, S) := by
  rcases q with rfl | ⟨h, rfl, e | e⟩
  · rfl
  · exact lenL e
  · exact lenR e
theorem IsSq.tuple {S : Store} {d : D} {ds : List D} (q : IsSq S d ds) : nTuple [d] S = some (.tup ds, S) := by
  rcases q with rfl | ⟨h, rfl, e | e⟩
  · rfl
  · exact tupleL e
  · simp only [nTuple, e]
theorem IsSq.list {S : Store} {d : D} {ds : List D} (q : IsSq S d ds) : nList [d] S = some (.ref S.length, S ++ [.lst ds]) := by
  simp only [nList, q.items]; rfl
theorem IsSq.idx {S : Store} {d e : D} {ds : List D} {i : Int} (q : IsSq S d ds) (h : L2.atI ds i = some e) : pIdx d (.int i) S = some (e, S) := by
  rcases q with rfl | ⟨k, rfl, g | g⟩
  · exact idxT h
  · exact idxL g h
  · exact idxR g h
theorem IsSq.tru {S : Store} {d : D} {ds : List D} (q : IsSq S d ds) : truD S d = some (!ds.isEmpty) := by
  rcases q with rfl | ⟨k, rfl, g | g⟩
  · rfl
  · simp only [truD, g]
  · simp only [truD, g]
theorem IsSq.it {S : Store} {d : D} {ds : List D} (q : IsSq S d ds) : ∃ it, itOf S d = some it ∧ ∀ i S', Kp [] S S' → nextI it i S' = .of ds[i]? := by
  rcases q with rfl | ⟨k, rfl, g | g⟩
  · exact ⟨.tup ds, rfl, fun _ _ _ => rfl⟩
  · exact ⟨.seq k, by simp only [itOf, g], fun i S' kk => by simp only [nextI, kk.get _ _ (fun z => nomatch z) g]⟩
  · exact ⟨.seq k, by simp only [itOf, g], fun i S' kk => by simp only [nextI, kk.get _ _ (fun z => nomatch z) g]⟩
theorem t_eq [En α] {a b : α} {S : Store} (h : dep α ≤ 60) : pEq (enc a) (enc b) S = some (.bl (decide (a = b)), S) := by
  unfold pEq
  rw [eqP (enc_toP S a) (enc_toP S b) (enc_shaped a h) (enc_shaped b h), En.eqv]; rfl
theorem t_ne [En α] {a b : α} {S : Store} (h : dep α ≤ 60) : pNe (enc a) (enc b) S = some (.bl (!decide (a = b)), S) := by
  unfold pNe
  rw [eqP (enc_toP S a) (enc_toP S b) (enc_shaped a h) (enc_shaped b h), En.eqv]; rfl
theorem any_enc [En α] {S : Store} {a : α} {xs : List α} (h : dep α ≤ 60) : anyEq S (enc a) (xs.map enc) = some (decide (a ∈ xs)) := by
  unfold anyEq
  rw [enc_toP, dPs_enc]
  show (if (SeqAt.shaped (pd a) && SeqAt.shaped (.list (xs.map pd))) = true then _ else _) = _
  rw [enc_shaped a h, shapedL_enc xs h]
  show some _ = some _
  congr 1
  rw [Bool.eq_iff_iff, List.any_eq_true, decide_eq_true_eq]
  constructor
  · rintro ⟨p, m, e⟩
    obtain ⟨x, mx, rfl⟩ := List.mem_map.mp m
    rw [En.eqv, decide_eq_true_eq] at e
    exact e ▸ mx
  · intro m
    exact ⟨pd a, List.mem_map.mpr ⟨a, m, rfl⟩, by rw [En.eqv]; simp⟩
theorem IsSq.inn [En α] {S : Store} {d : D} {a : α} {xs : List α} (q : IsSq S d (xs.map enc)) (h : dep α ≤ 60) : pIn (enc a) d S = some (.bl (decide (a ∈ xs)), S) := by
  unfold pIn
  rcases q with rfl | ⟨k, rfl, g | g⟩
  · rw [show inD S (enc a) (.tup (xs.map enc)) = anyEq S (enc a) (xs.map enc) from rfl, any_enc h]; rfl
  · rw [show inD S (enc a) (.ref k) = anyEq S (enc a) (xs.map enc) by simp only [inD, g], any_enc h]; rfl
  · rw [show inD S (enc a) (.ref k) = anyEq S (enc a) (xs.map enc) by simp only [inD, g], any_enc h]; rfl
theorem IsSq.nin [En α] {S : Store} {d : D} {a : α} {xs : List α} (q : IsSq S d (xs.map enc)) (h : dep α ≤ 60) : pNotIn (enc a) d S = some (.bl (!decide (a ∈ xs)), S) := by
  unfold pNotIn
  rcases q with rfl | ⟨k, rfl, g | g⟩
  · rw [show inD S (enc a) (.tup (xs.map enc)) = anyEq S (enc a) (xs.map enc) from rfl, any_enc h]; rfl
  · rw [show inD S (enc a) (.ref k) = anyEq S (enc a) (xs.map enc) by simp only [inD, g], any_enc h]; rfl
  · rw [show inD S (enc a) (.ref k) = anyEq S (enc a) (xs.map enc) by simp only [inD, g], any_enc h]; rfl
theorem t_lt [En α] [EnO α] {a b : α} {S : Store} : pLt (enc a) (enc b) S = some (.bl (ltE a b), S) := by unfold pLt; rw [EnO.ltd]; rfl
theorem t_gt [En α] [EnO α] {a b : α} {S : Store} : pGt (enc a) (enc b) S = some (.bl (ltE b a), S) := by unfold pGt; rw [EnO.ltd]; rfl
theorem t_le [En α] [EnO α] {a b : α} {S : Store} : pLe (enc a) (enc b) S = some (.bl (!ltE b a), S) := by unfold pLe; rw [EnO.ltd]; rfl
theorem t_ge [En α] [EnO α] {a b : α} {S : Store} : pGe (enc a) (enc b) S = some (.bl (!ltE a b), S) := by unfold pGe; rw [EnO.ltd]; rfl
theorem ltE_nat {a b : Nat} : ltE a b = decide (a < b) := by
  show dataLt (.int a) (.int b) = _
  rw [dataLt_int]
  exact decide_eq_decide.mpr (by omega)
def ascE [En α] (l : List α) : Prop := l.Pairwise fun a b => ltE a b = true
def sortE [En α] (l : List α) : List α := l.mergeSort fun a b => !ltE b a
theorem leE_trans [En α] [EnO α] (a b c : α) (h1 : (!ltE b a) = true) (h2 : (!ltE c b) = true) : (!ltE c a) = true := by
  rw [Bool.not_eq_true'] at *
  cases h : ltE c a with
  | false => rfl
  | true =>
    rcases ltE_tot a b with z | z | z
    · rw [ltE_trans h z] at h2; cases h2
    · subst z; rw [h] at h2; cases h2
    · rw [z] at h1; cases h1
theorem leE_total [En α] [EnO α] (a b : α) : ((!ltE b a) || (!ltE a b)) = true := by
  cases h : ltE b a with
  | false => rfl
  | true =>
    cases h2 : ltE a b with
    | false => rfl
    | true => have := ltE_trans h h2; rw [ltE_irr] at this; cases this
theorem mem_sortE [En α] [EnO α] {l : List α} {a : α} : a ∈ sortE l ↔ a ∈ l := (List.mergeSort_perm l _).mem_iff
theorem sortE_perm [En α] [EnO α] (l : List α) : (sortE l).Perm l := List.mergeSort_perm l _
theorem len_sortE [En α] [EnO α] {l : List α} : (sortE l).length = l.length := List.length_mergeSort l
theorem ascE.nodup [En α] [EnO α] {l : List α} (h : ascE l) : l.Nodup := h.imp fun z e => by subst e; rw [ltE_irr] at z; cases z
theorem ascE.filter [En α] [EnO α] {l : List α} (p : α → Bool) (h : ascE l) : ascE (l.filter p) := List.Pairwise.filter p h
theorem ascE_sortE [En α] [EnO α] {l : List α} (n : l.Nodup) : ascE (sortE l) := by
  have s : (sortE l).Pairwise fun a b => (!ltE b a) = true := List.pairwise_mergeSort leE_trans leE_total l
  have n2 : (sortE l).Nodup := (sortE_perm l).nodup_iff.mpr n
  refine (s.and n2).imp fun {a b} h => ?_
  rcases ltE_tot a b with z | z | z
  · exact z
  · exact absurd z h.2
  · rw [z] at h; exact absurd h.1 (by decide)
theorem sortD_enc [En α] [EnO α] {S : Store} {xs : List α} : sortD S (xs.map enc) = (sortE xs).map enc := by
  unfold sortD sortE
  symm
  refine List.map_mergeSort fun a _ b _ => ?_
  show (!dataLt (pd b) (pd a)) = (!dataLt (encD S (enc b)) (encD S (enc a)))
  rw [enc_encD, enc_encD]
class Srt (α : Type) [DecidableEq α] [En α] : Prop where
  ok : (∀ a : α, tupNe (pd a) = true) ∨ ∀ a : α, notTN (pd a) = true
  le : dep α ≤ 32
instance {m : Nat} : Srt (Wrd m) := ⟨.inr fun _ => rfl, show 0 ≤ 32 by decide⟩
instance : Srt Tx := ⟨.inr fun _ => rfl, show 0 ≤ 32 by decide⟩
instance : Srt Int := ⟨.inr fun _ => rfl, show 0 ≤ 32 by decide⟩
instance : Srt Nat := ⟨.inr fun _ => rfl, show 0 ≤ 32 by decide⟩
instance : Srt Hd := ⟨.inl fun _ => rfl, show 1 ≤ 32 by decide⟩
instance : Srt (Nm × Nm) := ⟨.inl fun _ => rfl, show 1 ≤ 32 by decide⟩
theorem sortOk_enc [En α] [EnO α] {S : Store} {xs : List α} (h : (∀ a ∈ xs, tupNe (pd a) = true) ∨ ∀ a ∈ xs, notTN (pd a) = true) (hd : dep α ≤ 32) (l : xs.length ≤ lim) : sortOk S (xs.map enc) = true := by
  unfold sortOk
  simp only [Bool.and_eq_true, Bool.or_eq_true, List.all_eq_true, decide_eq_true_eq, List.forall_mem_map, enc_encD, enc_toP]
  refine ⟨⟨⟨fun a m => ⟨rfl, Nat.le_trans (En.dle a) hd⟩, fun a m b n => EnO.like a b⟩, ?_⟩, by rw [List.length_map]; exact l⟩
  exact h
theorem sorted_enc [En α] [EnO α] {S : Store} {d : D} {xs : List α} (q : IsSq S d (xs.map enc)) (h : (∀ a ∈ xs, tupNe (pd a) = true) ∨ ∀ a ∈ xs, notTN (pd a) = true) (hd : dep α ≤ 32) (l : xs.length ≤ lim) : nSorted [d] S = some (.ref S.length, S ++ [.lst ((sortE xs).map enc)]) := by
  simp only [nSorted, q.items]
  rw [if_pos (sortOk_enc h hd l), sortD_enc, newL_eq (by rw [List.length_map, len_sortE]; exact l)]
class Kyd (α : Type) [DecidableEq α] [En α] where
  mx : Nat
  ok : ((∀ a : α, (tkeyOf (enc a)).isSome = true) ∧ mx ≤ 64) ∨ ((∀ a : α, (keyOf (enc a)).isSome = true) ∧ mx ≤ 4096)
instance {m : Nat} : Kyd (Wrd m) := ⟨4096, .inr ⟨fun _ => rfl, Nat.le_refl _⟩⟩
instance : Kyd Tx := ⟨4096, .inr ⟨fun _ => rfl, Nat.le_refl _⟩⟩
instance : Kyd Int := ⟨4096, .inr ⟨fun _ => rfl, Nat.le_refl _⟩⟩
instance : Kyd Nat := ⟨4096, .inr ⟨fun _ => rfl, Nat.le_refl _⟩⟩
instance : Kyd Hd := ⟨64, .inl ⟨fun _ => rfl, Nat.le_refl _⟩⟩
instance : Kyd (Nm × Nm) := ⟨64, .inl ⟨fun _ => rfl, Nat.le_refl _⟩⟩
theorem keysOf_words {m : Nat} : ∀ l : List (Wrd m), keysOf (l.map enc) = some (l.map fun x => .inr x.s)
  | [] => rfl
  | x :: r => by rw [List.map_cons, keysOf, keysOf_words r]; rfl
instance {m : Nat} : Kyd (List (Wrd m)) := ⟨64, .inl ⟨fun l => by show (keysOf (l.map enc)).isSome = true; rw [keysOf_words]; rfl, Nat.le_refl _⟩⟩
theorem kyd_kd [En α] [Kyd α] (a : α) : Kd (enc a) := by
  rcases Kyd.ok (α := α) with ⟨h, _⟩ | ⟨h, _⟩
  · obtain ⟨k, e⟩ := Option.isSome_iff_exists.mp (h a)
    exact .inr ⟨k, tkeyOf_eq e⟩
  · obtain ⟨k, e⟩ := Option.isSome_iff_exists.mp (h a)
    exact .inl ⟨k, keyOf_eq e⟩
theorem sameK_enc [En α] [Kyd α] (a b : α) : sameK (enc a) (enc b) = decide (a = b) := by
  by_cases h : a = b
  · subst h; rw [sameK_refl]; simp
  · rw [decide_eq_false h]
    cases e : sameK (enc a) (enc b) with
    | false => rfl
    | true => exact absurd (enc_inj (sameK_eq (kyd_kd a) (kyd_kd b) e)) h
def dedE : List α → List α
  | [] => []
  | x :: r => if x ∈ r then dedE r else x :: dedE r
theorem mem_dedE {a : α} : ∀ {l : List α}, a ∈ dedE l ↔ a ∈ l
  | [] => Iff.rfl
  | x :: r => by
    rw [dedE]
    split
    · rename_i h
      rw [mem_dedE (l := r), List.mem_cons]
      exact ⟨.inr, fun z => z.elim (fun e => e ▸ h) id⟩
    · rw [List.mem_cons, List.mem_cons, mem_dedE (l := r)]
theorem nodup_dedE : ∀ l : List α, (dedE l).Nodup
  | [] => List.nodup_nil
  | x :: r => by
    rw [dedE]
    split
    · exact nodup_dedE r
    · rename_i h
      exact List.nodup_cons.mpr ⟨fun z => h (mem_dedE.mp z), nodup_dedE r⟩
theorem len_dedE : ∀ l : List α, (dedE l).length ≤ l.length
  | [] => Nat.le_refl _
  | x :: r => by
    rw [dedE]
    have := len_dedE r
    split <;> simp <;> omega
theorem dedup_enc [En α] [Kyd α] : ∀ xs : List α, dedup (xs.map enc) = (dedE xs).map enc
  | [] => rfl
  | x :: r => by
    rw [List.map_cons, dedup, dedE, dedup_enc r]
    have : (r.map enc).any (sameK (enc x)) = decide (x ∈ r) := by
      rw [Bool.eq_iff_iff, List.any_eq_true, decide_eq_true_eq]
      constructor
      · rintro ⟨d, m, e⟩
        obtain ⟨y, my, rfl⟩ := List.mem_map.mp m
        rw [sameK_enc, decide_eq_true_eq] at e
        exact e ▸ my
      · exact fun m => ⟨_, List.mem_map.mpr ⟨x, m, rfl⟩, sameK_refl _⟩
    rw [this]
    by_cases h : x ∈ r
    · rw [if_pos (decide_eq_true h), if_pos h]
    · rw [if_neg (by simpa using h), if_neg h]; rfl
def setE [En α] (l : List α) : List α := sortE (dedE l)
theorem mem_setE [En α] [EnO α] {a : α} {l : List α} : a ∈ setE l ↔ a ∈ l := mem_sortE.trans mem_dedE
theorem ascE_setE [En α] [EnO α] (l : List α) : ascE (setE l) := ascE_sortE (nodup_dedE l)
theorem len_setE [En α] [EnO α] (l : List α) : (setE l).length ≤ l.length := by unfold setE; rw [len_sortE]; exact len_dedE l
theorem setOk_enc [En α] [Kyd α] {xs : List α} (h : xs.length < Kyd.mx α) : setOk (xs.map enc) = true := by
  unfold setOk
  rw [Bool.or_eq_true, Bool.and_eq_true, Bool.and_eq_true, decide_eq_true_eq, decide_eq_true_eq, List.length_map]
  simp only [List.all_eq_true, List.forall_mem_map]
  rcases Kyd.ok (α := α) with ⟨q, e⟩ | ⟨q, e⟩
  · exact .inl ⟨fun a _ => q a, by omega⟩
  · exact .inr ⟨fun a _ => q a, by omega⟩
theorem sortSet_enc [En α] [EnO α] [Kyd α] {S : Store} {d : D} {xs : List α} (q : IsSq S d (xs.map enc)) (h : (∀ a ∈ xs, tupNe (pd a) = true) ∨ ∀ a ∈ xs, notTN (pd a) = true) (hd : dep α ≤ 32) (l : xs.length < Kyd.mx α) : nSortSet [d] S = some (.ref S.length, S ++ [.lst ((setE xs).map enc)]) := by
  have hl : xs.length ≤ lim := by
    have : Kyd.mx α ≤ 4096 := by
      rcases Kyd.ok (α := α) with ⟨_, e⟩ | ⟨_, e⟩ <;> omega
    unfold lim; omega
  have h2 : (dedE xs).length ≤ lim := Nat.le_trans (len_dedE xs) hl
  simp only [nSortSet, q.items]
  rw [dedup_enc, setOk_enc l, sortOk_enc (h.imp (fun z a m => z a (mem_dedE.mp m)) (fun z a m => z a (mem_dedE.mp m))) hd h2]
  rw [show (true && true) = true from rfl, if_pos rfl, sortD_enc, newL_eq (by rw [List.length_map, len_sortE]; exact h2)]; rfl
theorem atI_enc [En α] {xs : List α} {i : Nat} {a : α} (h : xs[i]? = some a) : L2.atI (xs.map enc) (i : Int) = some (enc a) := atI_nat (by rw [List.getElem?_map, h]; rfl)
theorem blsD_enc : ∀ bs : List Bool, blsD (bs.map enc) = some bs
  | [] => rfl
  | b :: r => by rw [List.map_cons, show blsD (enc b :: r.map enc) = (blsD (r.map enc)).map (b :: ·) from rfl, blsD_enc r]; rfl
theorem all_enc {S : Store} {h : Nat} {bs : List Bool} (e : S[h]? = some (.lst (bs.map enc))) : nAll [.ref h] S = some (.bl (bs.all id), S) := by
  simp only [nAll, seqOf, e, Option.bind_some, blsD_enc, Option.map_some]
theorem any_bl_enc {S : Store} {h : Nat} {bs : List Bool} (e : S[h]? = some (.lst (bs.map enc))) : nAny [.ref h] S = some (.bl (bs.any id), S) := by
  simp only [nAny, seqOf, e, Option.bind_some, blsD_enc, Option.map_some]
end
end Mini
namespace Mini
open PySem L2 PySem.W PyProof.Rows
open En (enc pd dep)
section
variable {α β γ : Type} {_ : DecidableEq α} {_ : DecidableEq β} {_ : DecidableEq γ}
def EvP {τ : Type} (f : M τ) (S : Store) (Φ : τ → Store → Prop) : Prop := ∀ S1, Kp [] S S1 → ok (f S1) (fun d S2 => Φ d S2 ∧ Kp [] S1 S2) X0
def Ev {τ : Type} (f : M τ) (S : Store) (d : τ) : Prop := EvP f S fun e _ => e = d
def Es [En α] (f : M D) (S : Store) (xs : List α) : Prop := EvP f S fun d S2 => IsSq S2 d (xs.map enc)
def El [En α] (f : M D) (S : Store) (xs : List α) : Prop := EvP f S fun d S2 => ∃ h, d = .ref h ∧ S2[h]? = some (.lst (xs.map enc)) ∧ S.length ≤ h
def Ei (f : M MIt) (S : Store) (ds : List D) : Prop := EvP f S fun it S2 => ∀ i S3, Kp [] S2 S3 → nextI it i S3 = .of ds[i]?
theorem EvP.mono {τ : Type} {f : M τ} {S : Store} {Φ Ψ : τ → Store → Prop} (h : EvP f S Φ) (i : ∀ d T, Kp [] S T → Φ d T → Ψ d T) : EvP f S Ψ := fun S1 k => ok_mono (h S1 k) (fun d S2 q => ⟨i d S2 (k.trans q.2) q.1, q.2⟩) fun _ _ _ z => z
theorem EvP.kp {τ : Type} {f : M τ} {S T : Store} {Φ : τ → Store → Prop} (h : EvP f S Φ) (k : Kp [] S T) : EvP f T Φ := fun S1 k1 => h S1 (k.trans k1)
theorem El.kp {_ : En α} {f : M D} {S : Store} {xs : List α} (h : El f S xs) : EvP f S fun d S2 => ∃ h, d = .ref h ∧ S2[h]? = some (.lst (xs.map enc)) ∧ S.length ≤ h := h
theorem EvP.ok {τ : Type} {f : M τ} {S : Store} {Φ : τ → Store → Prop} {P : τ → Store → Prop} {X : XP} (h : EvP f S Φ) (K : ∀ d S', Φ d S' → Kp [] S S' → P d S') : ok (f S) P X := ok_mono (h S .refl) (fun d S' q => K d S' q.1 q.2) fun _ _ _ z => z.elim
theorem Ev.ok {τ : Type} {f : M τ} {S : Store} {d : τ} {P : τ → Store → Prop} {X : XP} (h : Ev f S d) (K : ∀ S', Kp [] S S' → P d S') : Mini.ok (f S) P X := EvP.ok h fun _ S' e k => e ▸ K S' k
theorem El.ok {_ : En α} {f : M D} {S : Store} {xs : List α} {P : D → Store → Prop} {X : XP} (h : El f S xs) (K : ∀ h S', S'[h]? = some (.lst (xs.map enc)) → S.length ≤ h → Kp [] S S' → P (.ref h) S') : Mini.ok (f S) P X := EvP.ok h fun _ S' ⟨h, e, g, l⟩ k => e ▸ K h S' g l k
theorem EvP.bnd {τ υ : Type} {x : M υ} {g : υ → M τ} {S : Store} {Φ : υ → Store → Prop} {Ψ : τ → Store → Prop} (h : EvP x S Φ) (k : ∀ u T, Kp [] S T → Φ u T → EvP (g u) T Ψ) : EvP (bnd x g) S Ψ := fun S1 k1 => by
  rw [ok_bnd]
  refine ok_mono (h S1 k1) (fun u S2 q => ?_) fun _ _ _ z => z
  exact ok_mono (k u S2 (k1.trans q.2) q.1 S2 .refl) (fun d S3 r => ⟨r.1, q.2.trans r.2⟩) fun _ _ _ z => z
theorem EvP.lift {τ : Type} {g : Store → Option (τ × Store)} {S : Store} {Φ : τ → Store → Prop} (h : ∀ T, Kp [] S T → ∃ p, g T = some p ∧ Φ p.1 p.2 ∧ Kp [] T p.2) : EvP (fun S => Mini.lift (g S)) S Φ := fun S1 k1 => by
  show Mini.ok (Mini.lift (g S1)) _ _
  rw [ok_lift]
  exact h S1 k1
theorem Ev.pure {τ : Type} {d : τ} {S : Store} : Ev (pur d) S d := fun S1 _ => ⟨rfl, .refl⟩
variable {S : Store} {ρ : Env} {fa fb fc : ME} {fs : Env → M (List D)} {t u : Env → M Bool}
theorem ev_var {i : Nat} {d : D} (h : ρ[i]? = some (some d)) : Ev (eVar i ρ) S d := fun S1 _ => by rw [ok_eVar h]; exact ⟨rfl, .refl⟩
theorem ev_C {d : D} : Ev (eC d ρ) S d := fun S1 _ => ⟨rfl, .refl⟩
theorem es_of {_ : En α} {f : M D} {xs : List α} (h : Ev f S (enc xs)) : Es f S xs := h.mono fun _ _ _ e => e ▸ .tup
theorem es_el {_ : En α} {f : M D} {xs : List α} (h : El f S xs) : Es f S xs := h.mono fun _ _ _ ⟨h, e, g, _⟩ => e ▸ .lst g
theorem es_var {_ : En α} {i : Nat} {d : D} {xs : List α} (h : ρ[i]? = some (some d)) (q : IsSq S d (xs.map enc)) : Es (eVar i ρ) S xs := (ev_var h).mono fun _ T k e => e ▸ q.kp k
theorem es_ref {_ : En α} {i h : Nat} {xs : List α} (e : ρ[i]? = some (some (.ref h))) (q : S[h]? = some (.lst (xs.map enc))) : Es (eVar i ρ) S xs := es_var e (.lst q)
theorem ev_op {g : P2} {a b d : D} (ha : Ev (fa ρ) S a) (hb : Ev (fb ρ) S b) (h : ∀ T, g a b T = some (d, T)) : Ev (eOp g fa fb ρ) S d :=
  EvP.bnd ha fun _ T k e => e ▸ EvP.bnd (hb.kp k) fun _ T2 k2 e2 => e2 ▸ EvP.lift fun T3 _ => ⟨_, h T3, rfl, .refl⟩
theorem ev_eq {_ : En α} {a b : α} (ha : Ev (fa ρ) S (enc a)) (hb : Ev (fb ρ) S (enc b)) (h : dep α ≤ 60) : Ev (eOp pEq fa fb ρ) S (enc (decide (a = b))) := ev_op ha hb fun _ => t_eq h
theorem ev_ne {_ : En α} {a b : α} (ha : Ev (fa ρ) S (enc a)) (hb : Ev (fb ρ) S (enc b)) (h : dep α ≤ 60) : Ev (eOp pNe fa fb ρ) S (enc (!decide (a = b))) := ev_op ha hb fun _ => t_ne h
theorem ev_lt {_ : En α} {a b : α} (ha : Ev (fa ρ) S (enc a)) (hb : Ev (fb ρ) S (enc b)) (eo : EnO α) : Ev (eOp pLt fa fb ρ) S (enc (ltE a b)) := ev_op ha hb fun _ => t_lt
theorem ev_gt {_ : En α} {a b : α} (ha : Ev (fa ρ) S (enc a)) (hb : Ev (fb ρ) S (enc b)) (eo : EnO α) : Ev (eOp pGt fa fb ρ) S (enc (ltE b a)) := ev_op ha hb fun _ => t_gt
theorem ev_le {_ : En α} {a b : α} (ha : Ev (fa ρ) S (enc a)) (hb : Ev (fb ρ) S (enc b)) (eo : EnO α) : Ev (eOp pLe fa fb ρ) S (enc (!ltE b a)) := ev_op ha hb fun _ => t_le
theorem ev_ge {_ : En α} {a b : α} (ha : Ev (fa ρ) S (enc a)) (hb : Ev (fb ρ) S (enc b)) (eo : EnO α) : Ev (eOp pGe fa fb ρ) S (enc (!ltE a b)) := ev_op ha hb fun _ => t_ge
theorem ev_addI {a b : Int} (ha : Ev (fa ρ) S (enc (a : Int))) (hb : Ev (fb ρ) S (enc (b : Int))) : Ev (eOp pAdd fa fb ρ) S (enc (a + b)) := ev_op ha hb fun _ => addI
theorem ev_subI {a b : Int} (ha : Ev (fa ρ) S (enc (a : Int))) (hb : Ev (fb ρ) S (enc (b : Int))) : Ev (eOp pSub fa fb ρ) S (enc (a - b)) := ev_op ha hb fun _ => subI
theorem ev_addT {_ : En α} {a b : List α} (ha : Ev (fa ρ) S (enc a)) (hb : Ev (fb ρ) S (enc b)) (h : (a ++ b).length ≤ lim) : Ev (eOp pAdd fa fb ρ) S (enc (a ++ b)) := ev_op ha hb fun T => by
  show tupO (a.map enc ++ b.map enc) T = _
  rw [← List.map_append, tupO_eq (by rw [List.length_map]; exact h)]; rfl
theorem ev_in {_ : En α} {a : α} {xs : List α} (hb : Es (fb ρ) S xs) (ha : Ev (fa ρ) S (enc a)) (h : dep α ≤ 60) : Ev (eOp pIn fa fb ρ) S (enc (decide (a ∈ xs))) :=
  EvP.bnd ha fun _ T k e => e ▸ EvP.bnd (hb.kp k) fun _ T2 _ q => EvP.lift fun T3 k3 => ⟨_, (q.kp k3).inn h, rfl, .refl⟩
theorem ev_nin {_ : En α} {a : α} {xs : List α} (hb : Es (fb ρ) S xs) (ha : Ev (fa ρ) S (enc a)) (h : dep α ≤ 60) : Ev (eOp pNotIn fa fb ρ) S (enc (!decide (a ∈ xs))) :=
  EvP.bnd ha fun _ T k e => e ▸ EvP.bnd (hb.kp k) fun _ T2 _ q => EvP.lift fun T3 k3 => ⟨_, (q.kp k3).nin h, rfl, .refl⟩
theorem ev_ix {ds : List D} {i : Int} {d : D} (ha : Ev (fa ρ) S (.tup ds)) (h : L2.atI ds i = some d) : Ev (eOp pIdx fa (eC (.int i)) ρ) S d := ev_op ha ev_C fun _ => idxT h
theorem ev_ixE {_ : En α} {xs : List α} {i : Nat} {a : α} (ha : Es (fa ρ) S xs) (hb : Ev (fb ρ) S (enc (i : Nat))) (h : xs[i]? = some a) : Ev (eOp pIdx fa fb ρ) S (enc a) :=
  EvP.bnd ha fun _ T k q => EvP.bnd (hb.kp k) fun _ T2 k2 e2 => e2 ▸ EvP.lift fun T3 k3 => ⟨_, ((q.kp k2).kp k3).idx (atI_enc h), rfl, .refl⟩
theorem ev_isNon {d : D} {b : Bool} (ha : Ev (fa ρ) S d) (h : isD d .non = some b) : Ev (eOp pIs fa (eC .non) ρ) S (enc b) := ev_op ha ev_C fun T => by unfold pIs; rw [h]; rfl
theorem ev_neg {i : Int} (ha : Ev (fa ρ) S (enc (i : Int))) : Ev (eUn pNeg fa ρ) S (enc (-i)) := EvP.bnd ha fun _ T k e => e ▸ EvP.lift fun T3 _ => ⟨_, rfl, rfl, .refl⟩
theorem ev_and {a b : Bool} (ha : Ev (fa ρ) S (enc a)) (hb : a = true → Ev (fb ρ) S (enc b)) : Ev (eAnd fa fb ρ) S (enc (a && b)) := EvP.bnd ha fun _ T k e => by
  subst e
  cases a with
  | true => exact (hb rfl).kp k
  | false => exact Ev.pure
theorem ev_or {a b : Bool} (ha : Ev (fa ρ) S (enc a)) (hb : a = false → Ev (fb ρ) S (enc b)) : Ev (eOr fa fb ρ) S (enc (a || b)) := EvP.bnd ha fun _ T k e => by
  subst e
  cases a with
  | false => exact (hb rfl).kp k
  | true => exact Ev.pure
theorem ev_not {a : Bool} (ha : Ev (fa ρ) S (enc a)) : Ev (eNot fa ρ) S (enc (!a)) := EvP.bnd ha fun _ T k e => by subst e; exact Ev.pure
theorem et_bl {a : Bool} (ha : Ev (fa ρ) S (enc a)) : Ev (tBl fa ρ) S a := EvP.bnd ha fun _ T k e => by subst e; exact Ev.pure
theorem et_tru {a : Bool} (ha : Ev (fa ρ) S (enc a)) : Ev (tTru fa ρ) S a := EvP.bnd ha fun _ T k e => by
  subst e
  exact fun S1 _ => ⟨rfl, .refl⟩
theorem et_truL {_ : En α} {xs : List α} (ha : Es (fa ρ) S xs) : Ev (tTru fa ρ) S (!xs.isEmpty) := EvP.bnd ha fun d T k q S1 k1 => by
  have e := (q.kp k1).tru
  show Mini.ok (match truD S1 d with
    | some b => .ok b S1
    | none => .bad) _ _
  rw [e]
  refine ⟨?_, .refl⟩
  cases xs <;> rfl
theorem et_and {a b : Bool} (ha : Ev (t ρ) S a) (hb : a = true → Ev (u ρ) S b) : Ev (tAnd' t u ρ) S (a && b) := EvP.bnd ha fun _ T k e => by
  rw [e]
  cases a with
  | true => exact (hb rfl).kp k
  | false => exact Ev.pure
theorem et_or {a b : Bool} (ha : Ev (t ρ) S a) (hb : a = false → Ev (u ρ) S b) : Ev (tOr' t u ρ) S (a || b) := EvP.bnd ha fun _ T k e => by
  rw [e]
  cases a with
  | false => exact (hb rfl).kp k
  | true => exact Ev.pure
theorem et_not {a : Bool} (ha : Ev (t ρ) S a) : Ev (tNot' t ρ) S (!a) := EvP.bnd ha fun _ T k e => by subst e; exact Ev.pure
theorem et_yes : Ev (ttYes ρ) S true := Ev.pure
theorem ev_if {b : Bool} {c d : D} (ht : Ev (t ρ) S b) (ha : b = true → Ev (fa ρ) S c) (hb : b = false → Ev (fb ρ) S d) : Ev (eIf t fa fb ρ) S (if b = true then c else d) := EvP.bnd ht fun _ T k e => by
  rw [e]
  cases b with
  | true => exact (ha rfl).kp k
  | false => exact (hb rfl).kp k
theorem ev_ifE {_ : En α} {b : Bool} {c d : α} (ht : Ev (t ρ) S b) (ha : b = true → Ev (fa ρ) S (enc c)) (hb : b = false → Ev (fb ρ) S (enc d)) : Ev (eIf t fa fb ρ) S (enc (if b = true then c else d)) := by
  have := ev_if ht ha hb
  cases b <;> exact this
theorem ea_nil : Ev (aNil ρ) S ([] : List D) := fun S1 _ => ⟨rfl, .refl⟩
theorem ea_cons {a : D} {as : List D} (ha : Ev (fa ρ) S a) (hb : Ev (fs ρ) S as) : Ev (aCons fa fs ρ) S (a :: as) := EvP.bnd ha fun _ T k e => e ▸ EvP.bnd (hb.kp k) fun _ T2 k2 e2 => e2 ▸ fun S1 _ => ⟨rfl, .refl⟩
theorem ev_tup {as : List D} (h : Ev (fs ρ) S as) (l : as.length ≤ lim) : Ev (eTup fs ρ) S (.tup as) := EvP.bnd h fun _ T k e => by
  rw [e]
  exact EvP.lift fun T3 _ => ⟨_, tupO_eq l, rfl, .refl⟩
theorem ev_pair {_ : En α} {_ : En β} {a : α} {b : β} (ha : Ev (fa ρ) S (enc a)) (hb : Ev (fb ρ) S (enc b)) : Ev (eTup (aCons fa (aCons fb aNil)) ρ) S (enc (a, b)) := ev_tup (ea_cons ha (ea_cons hb ea_nil)) (show 2 ≤ lim by decide)
theorem ev_tri {_ : En α} {_ : En β} {_ : En γ} {a : α} {b : β} {c : γ} (ha : Ev (fa ρ) S (enc a)) (hb : Ev (fb ρ) S (enc b)) (hc : Ev (fc ρ) S (enc c)) : Ev (eTup (aCons fa (aCons fb (aCons fc aNil))) ρ) S (enc (Tri.mk a b c)) := ev_tup (ea_cons ha (ea_cons hb (ea_cons hc ea_nil))) (show 3 ≤ lim by decide)
theorem ev_nilT {_ : En α} : Ev (eTup aNil ρ) S (enc ([] : List α)) := ev_tup ea_nil (show 0 ≤ lim by decide)
theorem ev_oneT {_ : En α} {a : α} (ha : Ev (fa ρ) S (enc a)) : Ev (eTup (aCons fa aNil) ρ) S (enc [a]) := ev_tup (ea_cons ha ea_nil) (show 1 ≤ lim by decide)
theorem el_lst {_ : En α} {xs : List α} (h : Ev (fs ρ) S (xs.map enc)) (l : xs.length ≤ lim) : El (eLst fs ρ) S xs := EvP.bnd h fun _ T k e => by
  rw [e]
  exact EvP.lift fun T3 k3 => ⟨_, newL_eq (by rw [List.length_map]; exact l), ⟨_, rfl, new_get, Nat.le_trans k.len k3.len⟩, Kp.new⟩
theorem el_nil {_ : En α} : El (α := α) (eLst aNil ρ) S [] := el_lst ea_nil (show 0 ≤ lim by decide)
theorem el_one {_ : En α} {a : α} (ha : Ev (fa ρ) S (enc a)) : El (eLst (aCons fa aNil) ρ) S [a] := el_lst (ea_cons ha ea_nil) (show 1 ≤ lim by decide)
theorem eb1 {g : PN} {Φ Ψ : D → Store → Prop} (h : EvP (fa ρ) S Φ) (k : ∀ d T, Kp [] S T → Φ d T → ∃ p, g [d] T = some p ∧ Ψ p.1 p.2 ∧ Kp [] T p.2) : EvP (eB g (aCons fa aNil) ρ) S Ψ := fun S1 k1 => by
  rw [ok_eB, ok_aCons]
  refine ok_mono (h S1 k1) (fun d S2 q => ?_) fun _ _ _ z => z
  rw [ok_aNil]
  obtain ⟨p, e, r, k2⟩ := k d S2 (k1.trans q.2) q.1
  exact ⟨p, e, r, q.2.trans k2⟩
theorem ev_tuple {_ : En α} {xs : List α} (h : Es (fa ρ) S xs) : Ev (eB nTuple (aCons fa aNil) ρ) S (enc xs) := eb1 h fun d T _ q => ⟨_, q.tuple, rfl, .refl⟩
theorem el_list {_ : En α} {xs : List α} (h : Es (fa ρ) S xs) : El (eB nList (aCons fa aNil) ρ) S xs := eb1 h fun d T k q => ⟨_, q.list, ⟨_, rfl, new_get, k.len⟩, Kp.new⟩
theorem ev_len {_ : En α} {xs : List α} (h : Es (fa ρ) S xs) : Ev (eB nLen (aCons fa aNil) ρ) S (enc xs.length) := eb1 h fun d T _ q => ⟨_, q.len, by rw [List.length_map]; rfl, .refl⟩
theorem el_sorted' {_ : En α} {xs : List α} (h : Es (fa ρ) S xs) (eo : EnO α) (o : (∀ a ∈ xs, tupNe (pd a) = true) ∨ ∀ a ∈ xs, notTN (pd a) = true) (hd : dep α ≤ 32) (l : xs.length ≤ lim) : El (eB nSorted (aCons fa aNil) ρ) S (sortE xs) := eb1 h fun d T k q => ⟨_, sorted_enc q o hd l, ⟨_, rfl, new_get, k.len⟩, Kp.new⟩
theorem el_sorted {_ : En α} {xs : List α} (h : Es (fa ρ) S xs) (eo : EnO α) (sr : Srt α) (l : xs.length ≤ lim) : El (eB nSorted (aCons fa aNil) ρ) S (sortE xs) := el_sorted' h eo (Srt.ok.imp (fun z a _ => z a) (fun z a _ => z a)) Srt.le l
theorem el_sortSet {_ : En α} {xs : List α} (h : Es (fa ρ) S xs) (eo : EnO α) (sr : Srt α) (ky : Kyd α) (l : xs.length < Kyd.mx α) : El (eB nSortSet (aCons fa aNil) ρ) S (setE xs) := eb1 h fun d T k q => ⟨_, sortSet_enc q (Srt.ok.imp (fun z a _ => z a) (fun z a _ => z a)) Srt.le l, ⟨_, rfl, new_get, k.len⟩, Kp.new⟩
theorem ev_all {bs : List Bool} (h : El (fa ρ) S bs) : Ev (eB nAll (aCons fa aNil) ρ) S (enc (bs.all id)) := eb1 h fun d T _ ⟨n, e, g, _⟩ => ⟨(.bl (bs.all id), T), by subst e; exact all_enc g, rfl, .refl⟩
theorem ev_any {bs : List Bool} (h : El (fa ρ) S bs) : Ev (eB nAny (aCons fa aNil) ρ) S (enc (bs.any id)) := eb1 h fun d T _ ⟨n, e, g, _⟩ => ⟨(.bl (bs.any id), T), by subst e; exact any_bl_enc g, rfl, .refl⟩
theorem ev_intB {b : Bool} (h : Ev (fa ρ) S (enc b)) : Ev (eB nInt (aCons fa aNil) ρ) S (enc (if b then (1 : Int) else 0)) := eb1 h fun d T _ e => ⟨(.int (if b then 1 else 0), T), by subst e; rfl, rfl, .refl⟩
theorem ev_isi {ty : String} {d : D} {T : String} (h : Ev (fa ρ) S d) (e : ∀ S', tyD S' d = some T) : Ev (eIsi ty fa ρ) S (enc (isiT T ty)) := EvP.bnd h fun _ T k e1 => e1 ▸ EvP.lift fun T3 _ => ⟨_, by unfold pIsi; rw [e]; rfl, rfl, .refl⟩
theorem ei_any {_ : En α} {xs : List α} (h : Es (fa ρ) S xs) : Ei (iAny fa ρ) S (xs.map enc) := EvP.bnd h fun d T k q S1 k1 => by
  obtain ⟨it, e, nx⟩ := (q.kp k1).it
  show Mini.ok (liftI S1 (itOf S1 d)) _ _
  rw [e]
  exact ⟨nx, .refl⟩
theorem ei_range {n : Nat} (h : Ev (fa ρ) S (enc (n : Nat))) (l : n < 2 ^ 62) : Ei (iArgs rng1 (aCons fa aNil) ρ) S ((List.range n).map enc) := fun S1 k1 => by
  rw [ok_iArgs, ok_aCons]
  refine ok_mono (h S1 k1) (fun d S2 q => ?_) fun _ _ _ z => z
  rw [ok_aNil, q.1]
  exact ⟨_, rng1_nat l, fun i S3 _ => rng_nx i S3, q.2⟩
theorem evP_lc {wi : Env → M MIt} {g : Tg} {tt : Env → M Bool} {fe : ME} {vs : List Nat} {ds : List D} (p : D → Bool) (f : D → D) (hi : Ei (wi ρ) S ds) (hl : ds.length ≤ lim)
    (step : ∀ x ∈ ds, ∃ ρ1, setT g x (wipeM ρ vs) = some ρ1 ∧ Ev (tt ρ1) S (p x) ∧ (p x = true → Ev (fe ρ1) S (f x))) : EvP (eLc wi g tt fe vs ρ) S fun d S2 => ∃ h, d = .ref h ∧ S2[h]? = some (.lst ((ds.filter p).map f)) ∧ S.length ≤ h := fun S1 k1 => by
  rw [ok_eLc]
  refine ok_mono (hi S1 k1) (fun it S2 q => ?_) fun _ _ _ z => z
  refine ok_mono (lc_pure (xs := ds) (X := X0) (S := S2) p f hl (fun i S' k => q.1 i S' k) (fun x S' m k => ?_)) (fun d S3 r => ?_) fun _ _ _ z => z
  · obtain ⟨ρ1, e, ht, hf⟩ := step x m
    have kk : Kp [] S S' := k1.trans (q.2.trans k)
    refine ⟨ρ1, e, ok_mono (ht S' kk) (fun b S4 r => ⟨r.2, r.1, fun hp => ?_⟩) fun _ _ _ z => z⟩
    exact ok_mono (hf hp S4 (kk.trans r.2)) (fun y S5 w => ⟨w.2, w.1⟩) fun _ _ _ z => z
  · obtain ⟨e, g1, k⟩ := r
    exact ⟨⟨_, e, g1, Nat.le_trans k1.len q.2.len⟩, q.2.trans k⟩
theorem el_lc {_ : En α} {_ : En β} {wi : Env → M MIt} {g : Tg} {tt : Env → M Bool} {fe : ME} {vs : List Nat} {xs : List α} {p : α → Bool} {f : α → β} (hi : Ei (wi ρ) S (xs.map enc)) (hl : xs.length ≤ lim)
    (step : ∀ x, x ∈ xs → ∃ ρ1, setT g (enc x) (wipeM ρ vs) = some ρ1 ∧ (∃ b, Ev (tt ρ1) S b ∧ p x = b) ∧ (p x = true → ∃ y, Ev (fe ρ1) S (enc y) ∧ f x = y)) : El (eLc wi g tt fe vs ρ) S ((xs.filter p).map f) := by
  haveI dc : ∀ d : D, Decidable (∃ x : α, enc x = d) := fun d => Classical.propDecidable _
  let P : D → Bool := fun d => if h : ∃ x : α, enc x = d then p (Classical.choose h) else false
  let F : D → D := fun d => if h : ∃ x : α, enc x = d then enc (f (Classical.choose h)) else .non
  have eP' : ∀ x, P (enc x) = p x := fun x => by
    have h : ∃ y : α, enc y = enc x := ⟨x, rfl⟩
    show (if h : ∃ y : α, enc y = enc x then p (Classical.choose h) else false) = _
    rw [dif_pos h, enc_inj (Classical.choose_spec h)]
  have eF' : ∀ x, F (enc x) = enc (f x) := fun x => by
    have h : ∃ y : α, enc y = enc x := ⟨x, rfl⟩
    show (if h : ∃ y : α, enc y = enc x then enc (f (Classical.choose h)) else .non) = _
    rw [dif_pos h, enc_inj (Classical.choose_spec h)]
  refine (evP_lc P F hi (by rw [List.length_map]; exact hl) fun d m => ?_).mono fun d T _ q => ?_
  · obtain ⟨x, mx, rfl⟩ := List.mem_map.mp m
    obtain ⟨ρ1, e, ⟨b, h1, e1⟩, h2⟩ := step x mx
    refine ⟨ρ1, e, by rw [eP', e1]; exact h1, fun hp => ?_⟩
    rw [eP'] at hp
    obtain ⟨y, h3, e3⟩ := h2 hp
    rw [eF', e3]; exact h3
  · obtain ⟨h, e, g1, l⟩ := q
    refine ⟨h, e, ?_, l⟩
    rw [g1, List.filter_map, List.map_map, List.map_map]
    congr 2
    rw [show P ∘ enc = p from funext eP']
    exact List.map_congr_left fun x _ => eF' x
theorem el_lc1 {_ : En α} {_ : En β} {wi : Env → M MIt} {g : Tg} {fe : ME} {vs : List Nat} {xs : List α} {f : α → β} (hi : Ei (wi ρ) S (xs.map enc)) (hl : xs.length ≤ lim)
    (step : ∀ x, x ∈ xs → ∃ ρ1, setT g (enc x) (wipeM ρ vs) = some ρ1 ∧ ∃ y, Ev (fe ρ1) S (enc y) ∧ f x = y) : El (eLc wi g ttYes fe vs ρ) S (xs.map f) := by
  have := el_lc (p := fun _ => true) (f := f) (tt := ttYes) (g := g) (fe := fe) (vs := vs) hi hl fun x m => by
    obtain ⟨ρ1, e, h⟩ := step x m
    exact ⟨ρ1, e, ⟨true, et_yes, rfl⟩, fun _ => h⟩
  rwa [List.filter_eq_self.mpr (fun _ _ => rfl)] at this
theorem evP_call {g : List D → M D} {ds : List D} {Φ : D → Store → Prop} (h : Ev (fs ρ) S ds) (k : EvP (g ds) S Φ) : EvP (eCall g fs ρ) S Φ := EvP.bnd h fun _ T kk e => by
  rw [e]; exact k.kp kk
end
end Mini
namespace Mini
open PySem L2 PySem.W PyProof.Rows
open En (enc pd dep)
section
variable {α β γ : Type} {_ : DecidableEq α} {_ : DecidableEq β} {_ : DecidableEq γ}
variable {N : Env → Store → Prop} {R : D → Store → Prop} {X : XPs} {S : Store} {ρ : Env} {f g : MS} {fa fb fc : ME} {fs : Env → M (List D)} {t : Env → M Bool}
theorem s_seq (h : so (f ρ S) (fun ρ1 S1 => so (g ρ1 S1) N R X) R X) : so (sSeq f g ρ S) N R X := by rw [so_seq]; exact h
theorem s_nil (h : N ρ S) : so (sNil ρ S) N R X := h
theorem s_set {j : Nat} {d : D} (h : Ev (fa ρ) S d) (k : ∀ S', Kp [] S S' → N (ρ.set j (some d)) S') : so (sSet (.nm j) fa ρ S) N R X := by
  rw [so_set]
  exact h.ok fun S' kk => ⟨_, rfl, k S' kk⟩
theorem s_setL {j : Nat} {_ : En α} {xs : List α} (h : El (fa ρ) S xs) (k : ∀ h S', S'[h]? = some (.lst (xs.map enc)) → S.length ≤ h → Kp [] S S' → N (ρ.set j (some (.ref h))) S') : so (sSet (.nm j) fa ρ S) N R X := by
  rw [so_set]
  exact h.ok fun n S' e l kk => ⟨_, rfl, k n S' e l kk⟩
theorem s_setP {j : Nat} {Φ : D → Store → Prop} (h : EvP (fa ρ) S Φ) (k : ∀ d S', Φ d S' → Kp [] S S' → N (ρ.set j (some d)) S') : so (sSet (.nm j) fa ρ S) N R X := by
  rw [so_set]
  exact h.ok fun d S' q kk => ⟨_, rfl, k d S' q kk⟩
theorem s_ret {d : D} (h : Ev (fa ρ) S d) (k : ∀ S', Kp [] S S' → R d S') : so (sRet fa ρ S) N R X := by
  rw [so_ret]
  exact h.ok k
theorem s_if {b : Bool} (h : Ev (t ρ) S b) (k1 : b = true → ∀ S', Kp [] S S' → so (f ρ S') N R X) (k2 : b = false → ∀ S', Kp [] S S' → so (g ρ S') N R X) : so (sIf t f g ρ S) N R X := by
  rw [so_if]
  refine h.ok fun S' kk => ?_
  cases b with
  | true => exact k1 rfl S' kk
  | false => exact k2 rfl S' kk
theorem s_expr {Φ : D → Store → Prop} (h : EvP (fa ρ) S Φ) (k : ∀ d S', Φ d S' → Kp [] S S' → N ρ S') : so (sExpr fa ρ S) N R X := by
  rw [so_expr]
  exact h.ok k
theorem s_append {i n : Nat} {ds : List D} {d : D} (e : ρ[i]? = some (some (.ref n))) (q : S[n]? = some (.lst ds)) (h : Ev (fa ρ) S d) (l : ds.length < lim) (k : ∀ S', S'[n]? = some (.lst (ds ++ [d])) → Kp [n] S S' → N ρ S') : so (sExpr (eMt "list" qAppend (eVar i) (aCons fa aNil)) ρ S) N R X := by
  rw [so_expr, ok_eMt, ok_eVar e]
  refine ⟨by simp only [tyD, q], ?_⟩
  rw [ok_aCons]
  refine h.ok fun S' kk => ?_
  rw [ok_aNil]
  have q' := kk.get _ _ (fun z => nomatch z) q
  refine ⟨(.non, S'.set n (.lst (ds ++ [d]))), ?_, k _ (set_get q') ?_⟩
  · simp only [qAppend, q']; rw [if_pos l]
  · exact (kk.wk fun _ z => nomatch z).trans Kp.set
theorem split_at {xs : List α} {i : Nat} {x : α} (h : xs[i]? = some x) : xs = xs.take i ++ x :: xs.drop (i + 1) ∧ xs.take (i + 1) = xs.take i ++ [x] := by
  obtain ⟨l, e⟩ := List.getElem?_eq_some_iff.mp h
  refine ⟨?_, by rw [List.take_add_one, h]; rfl⟩
  rw [← e]
  simp
theorem s_forT {_ : En α} {t : Tg} {xs : List α} (I : List α → Env → Store → Prop) (h : Ev (fa ρ) S (enc xs)) (l : xs.length ≤ lim) (h0 : ∀ S', Kp [] S S' → I [] ρ S')
    (step : ∀ pre x suf ρ1 S1, xs = pre ++ x :: suf → I pre ρ1 S1 → ∃ ρ2, setT t (enc x) ρ1 = some ρ2 ∧ so (f ρ2 S1) (I (pre ++ [x])) R X) (done : ∀ ρ1 S1, I xs ρ1 S1 → N ρ1 S1) : so (sFor (iAny fa) t f ρ S) N R X := by
  rw [so_for, ok_iAny]
  refine h.ok fun S' kk => ⟨.tup (xs.map enc), rfl, ?_⟩
  refine for_inv (xs := xs.map enc) (fun i ρ1 S1 => I (xs.take i) ρ1 S1) (by rw [List.length_map]; exact l) (fun i ρ1 S1 _ q => rfl) (fun i x ρ1 S1 e q => ?_) (fun ρ1 S1 q => done _ _ (by rw [List.length_map, List.take_length] at q; exact q)) (h0 S' kk)
  rw [List.getElem?_map] at e
  obtain ⟨y, ey, rfl⟩ := Option.map_eq_some_iff.mp e
  obtain ⟨e1, e2⟩ := split_at ey
  rw [e2]
  exact step _ _ _ _ _ e1 q
theorem s_forR {t : Tg} {n : Nat} (I : Nat → Env → Store → Prop) (h : Ev (fa ρ) S (enc n)) (l : n ≤ lim) (h0 : ∀ S', Kp [] S S' → I 0 ρ S')
    (step : ∀ i ρ1 S1, i < n → I i ρ1 S1 → ∃ ρ2, setT t (enc i) ρ1 = some ρ2 ∧ so (f ρ2 S1) (I (i + 1)) R X) (done : ∀ ρ1 S1, I n ρ1 S1 → N ρ1 S1) : so (sFor (iArgs rng1 (aCons fa aNil)) t f ρ S) N R X := by
  rw [so_for, ok_iArgs, ok_aCons]
  refine h.ok fun S' kk => ?_
  rw [ok_aNil]
  refine ⟨_, rng1_nat (by unfold lim at l; omega), ?_⟩
  refine for_inv (xs := (List.range n).map fun i : Nat => D.int i) I (by rw [List.length_map, List.length_range]; exact l) (fun i ρ1 S1 _ _ => rng_nx i S1) (fun i x ρ1 S1 e q => ?_) (fun ρ1 S1 q => done _ _ (by rw [List.length_map, List.length_range] at q; exact q)) (h0 S' kk)
  have hi : i < n := by
    have := (List.getElem?_eq_some_iff.mp e).1
    simpa using this
  rw [List.getElem?_map, List.getElem?_range hi] at e
  cases e
  exact step i ρ1 S1 hi q
theorem evF {n m : Nat} {b : MS} {ds : List D} {S : Store} {Φ : D → Store → Prop} (h : ds.length = m) (k : ∀ S1, Kp [] S S1 → so (b (ds.map some ++ List.replicate (n - m) none) S1) (fun _ S2 => Φ .non S2 ∧ Kp [] S1 S2) (fun d S2 => Φ d S2 ∧ Kp [] S1 S2) (fun _ _ _ _ => False)) : EvP (runF n m b ds) S Φ := fun S1 k1 => by
  rw [ok_runF h]
  exact k S1 k1
instance {m : Nat} {x : Str} : Decidable (Wd m x) := by unfold Wd; infer_instance
theorem enc_w {m : Nat} {x : Str} (w : Wd m x) : D.str x = enc (⟨x, w⟩ : Wrd m) := rfl
theorem ev_Ce {d e : D} (h : d = e) : Ev (eC d ρ) S e := fun S1 _ => ⟨h, .refl⟩
theorem ev_addN {a b : Nat} (ha : Ev (fa ρ) S (enc a)) (hb : Ev (fb ρ) S (enc b)) : Ev (eOp pAdd fa fb ρ) S (enc (a + b)) := ev_op ha hb fun T => by
  show some (D.int ((a : Int) + (b : Int)), T) = some (D.int ((a + b : Nat) : Int), T)
  rw [Int.natCast_add]
theorem ev_subN {a b : Nat} (ha : Ev (fa ρ) S (enc a)) (hb : Ev (fb ρ) S (enc b)) (h : b ≤ a) : Ev (eOp pSub fa fb ρ) S (enc (a - b)) := ev_op ha hb fun T => by
  show some (D.int ((a : Int) - (b : Int)), T) = some (D.int ((a - b : Nat) : Int), T)
  rw [Int.ofNat_sub h]
end
end Mini
namespace Mini
open PySem L2 PySem.W PyProof.Rows
open En (enc pd dep)
structure Gt where
  A : List Nm
  O : List Nm
  H : List Hd
  deriving DecidableEq
instance encGt : En Gt where
  enc g := .tup [enc g.A, enc g.O, enc g.H]
  pd g := .tuple [pd g.A, pd g.O, pd g.H]
  dep := 3
  clo a g := by rw [dP, dPs, dPs, dPs, dPs, En.clo, En.clo, En.clo]; rfl
  lay a := by rw [PyData.canLay0, PyData.canLayAll0, PyData.canLayAll0, PyData.canLayAll0, PyData.canLayAll0, En.lay, En.lay, En.lay]; rfl
  dle a := by
    rw [PyData.depth, PyData.depthAll, PyData.depthAll, PyData.depthAll, PyData.depthAll]
    have h1 : (pd a.A).depth ≤ 1 := En.dle a.A
    have h2 : (pd a.O).depth ≤ 1 := En.dle a.O
    have h3 : (pd a.H).depth ≤ 2 := En.dle a.H
    omega
  eqv a b := by
    rw [PyData.eqv, PyData.eqvAll, PyData.eqvAll, PyData.eqvAll, PyData.eqvAll, En.eqv, En.eqv, En.eqv, Bool.eq_iff_iff]
    cases a; cases b
    simp
def Gt.N (g : Gt) : List Nm := g.A ++ g.O
structure GOk (g : Gt) : Prop where
  ascA : ascE g.A
  ascO : ascE g.O
  ascH : ascE g.H
  dis : ∀ x ∈ g.A, x ∉ g.O
  of : ∀ h ∈ g.H, h.x ∈ g.N ∧ h.y ∈ g.N
  len : g.N.length ≤ 30
  lenH : g.H.length < 64
theorem GOk.lenA {g : Gt} (o : GOk g) : g.A.length ≤ 30 := by have := o.len; unfold Gt.N at this; rw [List.length_append] at this; omega
theorem GOk.lenO {g : Gt} (o : GOk g) : g.O.length ≤ 30 := by have := o.len; unfold Gt.N at this; rw [List.length_append] at this; omega
theorem GOk.nodup {g : Gt} (o : GOk g) : g.N.Nodup := List.nodup_append.mpr ⟨o.ascA.nodup, o.ascO.nodup, fun a ha b hb e => o.dis a ha (e ▸ hb)⟩
theorem eP_enc {α : Type} [DecidableEq α] [En α] (a : α) : eP (enc a) = pd a := by unfold eP; rw [En.clo]; rfl
theorem asc_enc {α : Type} [DecidableEq α] [En α] (l : List α) : asc (l.map enc) ↔ ascE l := by
  unfold asc ascE
  rw [List.pairwise_map]
  simp only [eP_enc]
  rfl
def wS {m : Nat} (l : List (Wrd m)) : List Str := l.map (·.s)
theorem nD_wS {m : Nat} (l : List (Wrd m)) : nD (wS l) = l.map enc := by unfold nD wS; rw [List.map_map]; rfl
def Hd.ho (h : Hd) : Ho := (h.x.s, h.y.s, h.z.s)
def Gt.gr (g : Gt) : Gr := ⟨wS g.A, wS g.O, g.H.map Hd.ho⟩
theorem Gt.gr_d (g : Gt) : g.gr.d = enc g := by
  unfold Gr.d Gt.gr
  simp only [nD_wS]
  unfold hsD
  rw [List.map_map]; rfl
theorem mem_wS {m : Nat} {l : List (Wrd m)} {x : Wrd m} : x.s ∈ wS l ↔ x ∈ l := by
  unfold wS
  rw [List.mem_map]
  exact ⟨fun ⟨y, my, e⟩ => Wrd.ext e ▸ my, fun h => ⟨x, h, rfl⟩⟩
theorem GOk.gr {g : Gt} (o : GOk g) : g.gr.Ok where
  ascA := by show asc (nD (wS g.A)); rw [nD_wS]; exact (asc_enc _).mpr o.ascA
  ascO := by show asc (nD (wS g.O)); rw [nD_wS]; exact (asc_enc _).mpr o.ascO
  ascH := by
    show asc ((g.H.map Hd.ho).map hD)
    rw [List.map_map]
    exact (asc_enc _).mpr o.ascH
  dis x hx := by
    obtain ⟨y, my, rfl⟩ := List.mem_map.mp hx
    exact fun z => o.dis y my (mem_wS.mp z)
  wd x hx := by
    rcases List.mem_append.mp hx with z | z <;>
    · obtain ⟨y, my, rfl⟩ := List.mem_map.mp z
      exact y.w
  of h hh := by
    obtain ⟨k, mk, rfl⟩ := List.mem_map.mp hh
    have := o.of k mk
    have f : ∀ {x : Nm}, x ∈ g.N → x.s ∈ wS g.A ++ wS g.O := fun {x} m => by
      rcases List.mem_append.mp m with z | z
      · exact List.mem_append_left _ (mem_wS.mpr z)
      · exact List.mem_append_right _ (mem_wS.mpr z)
    exact ⟨f this.1, f this.2, k.z.w⟩
  len := by
    have := o.len
    unfold Gt.N at this
    show (wS g.A ++ wS g.O).length ≤ 30
    unfold wS
    rw [← List.map_append, List.length_map]; exact this
  lenH := by show (g.H.map Hd.ho).length < 64; rw [List.length_map]; exact o.lenH
theorem words_of {m : Nat} : ∀ {l : List Str}, (∀ x ∈ l, Wd m x) → ∃ k : List (Wrd m), wS k = l
  | [], _ => ⟨[], rfl⟩
  | x :: r, h => by
    obtain ⟨k, e⟩ := words_of (l := r) fun y my => h y (List.mem_cons_of_mem _ my)
    exact ⟨⟨x, h x List.mem_cons_self⟩ :: k, by show x :: wS k = _; rw [e]⟩
theorem holds_of : ∀ {l : List Ho}, (∀ h ∈ l, Wd 8 h.1 ∧ Wd 8 h.2.1 ∧ Wd 3 h.2.2) → ∃ k : List Hd, k.map Hd.ho = l
  | [], _ => ⟨[], rfl⟩
  | x :: r, h => by
    obtain ⟨k, e⟩ := holds_of (l := r) fun y my => h y (List.mem_cons_of_mem _ my)
    obtain ⟨h1, h2, h3⟩ := h x List.mem_cons_self
    exact ⟨⟨⟨x.1, h1⟩, ⟨x.2.1, h2⟩, ⟨x.2.2, h3⟩⟩ :: k, by rw [List.map_cons, e]; rfl⟩
theorem typed {G : Gr} (o : G.Ok) : ∃ g : Gt, g.gr = G ∧ GOk g := by
  obtain ⟨A, eA⟩ := words_of (m := 8) (l := G.A) fun x m => o.wd x (List.mem_append_left _ m)
  obtain ⟨O, eO⟩ := words_of (m := 8) (l := G.O) fun x m => o.wd x (List.mem_append_right _ m)
  obtain ⟨H, eH⟩ := holds_of (l := G.H) fun h m => ⟨o.wd _ (o.of h m).1, o.wd _ (o.of h m).2.1, (o.of h m).2.2⟩
  have f : ∀ {x : Nm}, x.s ∈ G.A ++ G.O → x ∈ A ++ O := fun {x} m => by
    rw [← eA, ← eO] at m
    rcases List.mem_append.mp m with z | z
    · exact List.mem_append_left _ (mem_wS.mp z)
    · exact List.mem_append_right _ (mem_wS.mp z)
  refine ⟨⟨A, O, H⟩, by unfold Gt.gr; rw [eA, eO, eH], ?_, ?_, ?_, ?_, ?_, ?_, ?_⟩
  · rw [← asc_enc, ← nD_wS, eA]; exact o.ascA
  · rw [← asc_enc, ← nD_wS, eO]; exact o.ascO
  · rw [← asc_enc]
    have := o.ascH
    rw [← eH] at this
    unfold hsD at this
    rw [List.map_map] at this
    exact this
  · intro x hx z
    exact o.dis x.s (by rw [← eA]; exact mem_wS.mpr hx) (by rw [← eO]; exact mem_wS.mpr z)
  · intro h m
    have := o.of h.ho (by rw [← eH]; exact List.mem_map.mpr ⟨h, m, rfl⟩)
    exact ⟨f this.1, f this.2.1⟩
  · have := o.len
    rw [← eA, ← eO] at this
    unfold wS at this
    rw [← List.map_append, List.length_map] at this
    exact this
  · have := o.lenH
    rw [← eH, List.length_map] at this
    exact this
def Short (g : Gt) : Prop := ∀ x ∈ g.N, x.s.length ≤ 5
theorem graph_K {S : Store} {h k sm om hm : Nat} {P : D → Store → Prop} {X : XP} (p : PotOk S h (k + 400)) (h1 : 1 ≤ sm) (h2 : sm + om ≤ 26) (h3 : hm ≤ 40)
    (K : ∀ (g : Gt) S', GOk g → 1 ≤ g.A.length → g.A.length ≤ sm → g.O.length ≤ om → g.H.length ≤ hm → Short g → PotOk S' h k → Kp [h] S S' → P (enc g) S') :
    ok (C.g__law_graph [.ref h, .int sm, .int om, .int hm] S) P X := by
  refine ok_mono (graph_spec p h1 h2 h3) (fun d S' hd => ?_) fun _ _ _ z => z
  obtain ⟨G, rfl, o, a1, a2, a3, a4, a5, p', k'⟩ := hd
  obtain ⟨g, rfl, og⟩ := typed o
  rw [Gt.gr_d]
  have la : (wS g.A).length = g.A.length := List.length_map _
  have lo : (wS g.O).length = g.O.length := List.length_map _
  have lh : (g.H.map Hd.ho).length = g.H.length := List.length_map _
  refine K g S' og (la ▸ a1) (la ▸ a2) (lo ▸ a3) (lh ▸ a4) (fun x m => ?_) p' k'
  have : x.s ∈ wS g.A ++ wS g.O := by
    rcases List.mem_append.mp m with z | z
    · exact List.mem_append_left _ (mem_wS.mpr z)
    · exact List.mem_append_right _ (mem_wS.mpr z)
  exact (a5 x.s this).2.1
theorem check_graph_ev {S : Store} {g : Gt} (o : GOk g) : EvP (C.g_check_graph [enc g]) S fun _ _ => True := fun S1 _ => by
  rw [← Gt.gr_d]
  exact ok_mono (check_graph_ok o.gr) (fun d S2 k => ⟨trivial, k⟩) fun _ _ _ z => z
end Mini
namespace Mini
open PySem L2 PySem.W PyProof.Rows
open En (enc pd dep)
structure Qua (α β γ δ : Type) where
  a1 : α
  a2 : β
  a3 : γ
  a4 : δ
  deriving DecidableEq
section
variable {α β γ δ : Type} [DecidableEq α] [DecidableEq β] [DecidableEq γ] [DecidableEq δ]
instance encQua [En α] [En β] [En γ] [En δ] : En (Qua α β γ δ) where
  enc a := .tup [enc a.a1, enc a.a2, enc a.a3, enc a.a4]
  pd a := .tuple [pd a.a1, pd a.a2, pd a.a3, pd a.a4]
  dep := dep α + dep β + dep γ + dep δ + 1
  clo a g := by rw [dP, dPs, dPs, dPs, dPs, dPs, En.clo, En.clo, En.clo, En.clo]; rfl
  lay a := by rw [PyData.canLay0, PyData.canLayAll0, PyData.canLayAll0, PyData.canLayAll0, PyData.canLayAll0, PyData.canLayAll0, En.lay, En.lay, En.lay, En.lay]; rfl
  dle a := by
    rw [PyData.depth, PyData.depthAll, PyData.depthAll, PyData.depthAll, PyData.depthAll, PyData.depthAll]
    have := En.dle a.a1; have := En.dle a.a2; have := En.dle a.a3; have := En.dle a.a4
    omega
  eqv a b := by
    rw [PyData.eqv, PyData.eqvAll, PyData.eqvAll, PyData.eqvAll, PyData.eqvAll, PyData.eqvAll, En.eqv, En.eqv, En.eqv, En.eqv, Bool.eq_iff_iff]
    cases a; cases b
    simp
instance encQuaO [En α] [En β] [En γ] [En δ] [EnO α] [EnO β] [EnO γ] [EnO δ] [Flat (Qua α β γ δ)] : EnO (Qua α β γ δ) where
  like a b := by
    show alike (.tuple _) (.tuple _) = true
    rw [alike, alikeAll, alikeAll, alikeAll, alikeAll, alikeAll, EnO.like, EnO.like, EnO.like, EnO.like]; rfl
  toks a b l m h := by
    have h : keyToks (.tuple _) ++ l = keyToks (.tuple _) ++ m := h
    simp only [keyToks, keyToksAll, List.cons_append, List.append_assoc, List.cons.injEq, true_and] at h
    obtain ⟨e1, h⟩ := EnO.toks _ _ _ _ h
    obtain ⟨e2, h⟩ := EnO.toks _ _ _ _ (List.cons.inj h).2
    obtain ⟨e3, h⟩ := EnO.toks _ _ _ _ (List.cons.inj h).2
    obtain ⟨e4, h⟩ := EnO.toks _ _ _ _ (List.cons.inj h).2
    have h4 := (List.cons.inj h).2
    cases a; cases b
    simp only at e1 e2 e3 e4
    exact ⟨by rw [e1, e2, e3, e4], h4⟩
  ltd a b S := ltd_tup (enc_toP S a) (enc_toP S b) (by
    show alike (.tuple _) (.tuple _) = true
    rw [alike, alikeAll, alikeAll, alikeAll, alikeAll, alikeAll, EnO.like, EnO.like, EnO.like, EnO.like]; rfl) (enc_shaped a Flat.le) (enc_shaped b Flat.le)
end
structure Qui (α β γ δ ε : Type) where
  a1 : α
  a2 : β
  a3 : γ
  a4 : δ
  a5 : ε
  deriving DecidableEq
section
variable {α β γ δ ε : Type} [DecidableEq α] [DecidableEq β] [DecidableEq γ] [DecidableEq δ] [DecidableEq ε]
instance encQui [En α] [En β] [En γ] [En δ] [En ε] : En (Qui α β γ δ ε) where
  enc a := .tup [enc a.a1, enc a.a2, enc a.a3, enc a.a4, enc a.a5]
  pd a := .tuple [pd a.a1, pd a.a2, pd a.a3, pd a.a4, pd a.a5]
  dep := dep α + dep β + dep γ + dep δ + dep ε + 1
  clo a g := by rw [dP, dPs, dPs, dPs, dPs, dPs, dPs, En.clo, En.clo, En.clo, En.clo, En.clo]; rfl
  lay a := by rw [PyData.canLay0, PyData.canLayAll0, PyData.canLayAll0, PyData.canLayAll0, PyData.canLayAll0, PyData.canLayAll0, PyData.canLayAll0, En.lay, En.lay, En.lay, En.lay, En.lay]; rfl
  dle a := by
    rw [PyData.depth, PyData.depthAll, PyData.depthAll, PyData.depthAll, PyData.depthAll, PyData.depthAll, PyData.depthAll]
    have := En.dle a.a1; have := En.dle a.a2; have := En.dle a.a3; have := En.dle a.a4; have := En.dle a.a5
    omega
  eqv a b := by
    rw [PyData.eqv, PyData.eqvAll, PyData.eqvAll, PyData.eqvAll, PyData.eqvAll, PyData.eqvAll, PyData.eqvAll, En.eqv, En.eqv, En.eqv, En.eqv, En.eqv, Bool.eq_iff_iff]
    cases a; cases b
    simp
instance encQuiO [En α] [En β] [En γ] [En δ] [En ε] [EnO α] [EnO β] [EnO γ] [EnO δ] [EnO ε] [Flat (Qui α β γ δ ε)] : EnO (Qui α β γ δ ε) where
  like a b := by
    show alike (.tuple _) (.tuple _) = true
    rw [alike, alikeAll, alikeAll, alikeAll, alikeAll, alikeAll, alikeAll, EnO.like, EnO.like, EnO.like, EnO.like, EnO.like]; rfl
  toks a b l m h := by
    have h : keyToks (.tuple _) ++ l = keyToks (.tuple _) ++ m := h
    simp only [keyToks, keyToksAll, List.cons_append, List.append_assoc, List.cons.injEq, true_and] at h
    obtain ⟨e1, h⟩ := EnO.toks _ _ _ _ h
    obtain ⟨e2, h⟩ := EnO.toks _ _ _ _ (List.cons.inj h).2
    obtain ⟨e3, h⟩ := EnO.toks _ _ _ _ (List.cons.inj h).2
    obtain ⟨e4, h⟩ := EnO.toks _ _ _ _ (List.cons.inj h).2
    obtain ⟨e5, h⟩ := EnO.toks _ _ _ _ (List.cons.inj h).2
    have h4 := (List.cons.inj h).2
    cases a; cases b
    simp only at e1 e2 e3 e4 e5
    exact ⟨by rw [e1, e2, e3, e4, e5], h4⟩
  ltd a b S := ltd_tup (enc_toP S a) (enc_toP S b) (by
    show alike (.tuple _) (.tuple _) = true
    rw [alike, alikeAll, alikeAll, alikeAll, alikeAll, alikeAll, alikeAll, EnO.like, EnO.like, EnO.like, EnO.like, EnO.like]; rfl) (enc_shaped a Flat.le) (enc_shaped b Flat.le)
end
section
variable {α β γ δ ε : Type} {_ : DecidableEq α} {_ : DecidableEq β} {_ : DecidableEq γ} {_ : DecidableEq δ} {_ : DecidableEq ε} {S : Store} {ρ : Env} {fa fb fc fd fe : ME}
theorem ev_qua {_ : En α} {_ : En β} {_ : En γ} {_ : En δ} {a : α} {b : β} {c : γ} {d : δ} (ha : Ev (fa ρ) S (enc a)) (hb : Ev (fb ρ) S (enc b)) (hc : Ev (fc ρ) S (enc c)) (hd : Ev (fd ρ) S (enc d)) : Ev (eTup (aCons fa (aCons fb (aCons fc (aCons fd aNil)))) ρ) S (enc (Qua.mk a b c d)) := ev_tup (ea_cons ha (ea_cons hb (ea_cons hc (ea_cons hd ea_nil)))) (show 4 ≤ lim by decide)
theorem ev_qui {_ : En α} {_ : En β} {_ : En γ} {_ : En δ} {_ : En ε} {a : α} {b : β} {c : γ} {d : δ} {e : ε} (ha : Ev (fa ρ) S (enc a)) (hb : Ev (fb ρ) S (enc b)) (hc : Ev (fc ρ) S (enc c)) (hd : Ev (fd ρ) S (enc d)) (he : Ev (fe ρ) S (enc e)) : Ev (eTup (aCons fa (aCons fb (aCons fc (aCons fd (aCons fe aNil))))) ρ) S (enc (Qui.mk a b c d e)) := ev_tup (ea_cons ha (ea_cons hb (ea_cons hc (ea_cons hd (ea_cons he ea_nil))))) (show 5 ≤ lim by decide)
end
end Mini
namespace Mini
open PySem L2 PySem.W PyProof.Rows
-- side goals
local macro_rules | `(tactic| bv_omega) => `(tactic| first | decide | assumption | exact Flat.le | infer_instance | omega | (simp only [List.length_append, List.length_map, List.length_filter]; omega) | (simp; omega))
-- what an expression evaluates to
local macro_rules | `(tactic| array_get_dec) => `(tactic| first
  | assumption
  | ((with_reducible apply ev_var); rfl)
  | ((with_reducible apply ev_Ce); first | rfl | exact enc_w (by decide))
  | ((with_reducible apply ea_nil))
  | ((with_reducible apply et_yes))
  | ((with_reducible apply et_and); array_get_dec; (intro _; array_get_dec))
  | ((with_reducible apply et_or); array_get_dec; (intro _; array_get_dec))
  | ((with_reducible apply et_not); array_get_dec)
  | ((with_reducible apply et_bl); array_get_dec)
  | ((with_reducible apply et_tru); array_get_dec)
  | ((with_reducible apply et_truL); array_get_dec)
  | ((with_reducible apply ev_and); array_get_dec; (intro _; array_get_dec))
  | ((with_reducible apply ev_or); array_get_dec; (intro _; array_get_dec))
  | ((with_reducible apply ev_not); array_get_dec)
  | ((with_reducible apply ev_eq); array_get_dec; array_get_dec; bv_omega)
  | ((with_reducible apply ev_ne); array_get_dec; array_get_dec; bv_omega)
  | ((with_reducible apply ev_in); array_get_dec; array_get_dec; bv_omega)
  | ((with_reducible apply ev_nin); array_get_dec; array_get_dec; bv_omega)
  | ((with_reducible apply ev_ix); array_get_dec; rfl)
  | ((with_reducible apply ev_lt); array_get_dec; array_get_dec; bv_omega)
  | ((with_reducible apply ev_gt); array_get_dec; array_get_dec; bv_omega)
  | ((with_reducible apply ev_le); array_get_dec; array_get_dec; bv_omega)
  | ((with_reducible apply ev_ge); array_get_dec; array_get_dec; bv_omega)
  | ((with_reducible apply ev_addT); array_get_dec; array_get_dec; bv_omega)
  | ((with_reducible apply ev_addN); array_get_dec; array_get_dec)
  | ((with_reducible apply ev_addI); array_get_dec; array_get_dec)
  | ((with_reducible apply ev_subI); array_get_dec; array_get_dec)
  | ((with_reducible apply ev_qui); array_get_dec; array_get_dec; array_get_dec; array_get_dec; array_get_dec)
  | ((with_reducible apply ev_qua); array_get_dec; array_get_dec; array_get_dec; array_get_dec)
  | ((with_reducible apply ev_ifE); array_get_dec; (intro _; array_get_dec); (intro _; array_get_dec))
  | ((with_reducible apply ev_tri); array_get_dec; array_get_dec; array_get_dec)
  | ((with_reducible apply ev_pair); array_get_dec; array_get_dec)
  | ((with_reducible apply ev_len); array_get_dec)
  | ((with_reducible apply ev_tuple); array_get_dec)
  | ((with_reducible apply ev_all); array_get_dec)
  | ((with_reducible apply ev_any); array_get_dec)
  | ((with_reducible apply ea_cons); array_get_dec; array_get_dec)
  | ((with_reducible apply ei_any); array_get_dec)
  | ((with_reducible apply el_lc1); array_get_dec; bv_omega; (intro x hx; refine ⟨_, rfl, ?_⟩; apply Exists.intro; apply And.intro; array_get_dec; rfl))
  | ((with_reducible apply el_lc); array_get_dec; bv_omega; (intro x hx; refine ⟨_, rfl, ?_, ?_⟩; (apply Exists.intro; apply And.intro; array_get_dec; rfl); (intro hp; apply Exists.intro; apply And.intro; array_get_dec; rfl)))
  | ((with_reducible apply el_sortSet); array_get_dec; infer_instance; infer_instance; infer_instance; bv_omega)
  | ((with_reducible apply el_sorted); array_get_dec; infer_instance; infer_instance; bv_omega)
  | ((with_reducible apply el_list); array_get_dec)
  | ((with_reducible apply el_nil))
  | ((with_reducible apply el_one); array_get_dec)
  | ((with_reducible apply ev_oneT); array_get_dec)
  | ((with_reducible apply ev_nilT))
  | ((with_reducible apply es_ref); rfl; assumption)
  | ((with_reducible apply es_of); array_get_dec)
  | ((with_reducible apply es_el); array_get_dec))
section
open PySem L2 PySem.W PyProof.Rows
open En (enc pd dep)
def rT : Rt := ⟨"t", by decide⟩
def rG : Rt := ⟨"g", by decide⟩
theorem lim_big : 1000000 = lim := rfl
theorem ev_call {g : List D → M D} {fs : Env → M (List D)} {ρ : Env} {S : Store} {ds : List D} {d : D} (h : Ev (fs ρ) S ds) (k : Ev (g ds) S d) : Ev (eCall g fs ρ) S d := evP_call h k
end
end Mini

namespace Mini
open PySem L2 PySem.W PyProof.Rows
-- side goals
local macro_rules | `(tactic| bv_omega) => `(tactic| first | decide | assumption | exact Flat.le | infer_instance | omega | (simp only [List.length_append, List.length_map, List.length_filter]; omega) | (simp; omega))
-- what an expression evaluates to
local macro_rules | `(tactic| array_get_dec) => `(tactic| first
  | assumption
  | ((with_reducible apply ev_var); rfl)
  | ((with_reducible apply ev_Ce); first | rfl | exact enc_w (by decide))
  | ((with_reducible apply ea_nil))
  | ((with_reducible apply et_yes))
  | ((with_reducible apply et_and); array_get_dec; (intro _; array_get_dec))
  | ((with_reducible apply et_or); array_get_dec; (intro _; array_get_dec))
  | ((with_reducible apply et_not); array_get_dec)
  | ((with_reducible apply et_bl); array_get_dec)
  | ((with_reducible apply et_tru); array_get_dec)
  | ((with_reducible apply et_truL); array_get_dec)
  | ((with_reducible apply ev_and); array_get_dec; (intro _; array_get_dec))
  | ((with_reducible apply ev_or); array_get_dec; (intro _; array_get_dec))
  | ((with_reducible apply ev_not); array_get_dec)
  | ((with_reducible apply ev_eq); array_get_dec; array_get_dec; bv_omega)
  | ((with_reducible apply ev_ne); array_get_dec; array_get_dec; bv_omega)
  | ((with_reducible apply ev_in); array_get_dec; array_get_dec; bv_omega)
  | ((with_reducible apply ev_nin); array_get_dec; array_get_dec; bv_omega)
  | ((with_reducible apply ev_ix); array_get_dec; rfl)
  | ((with_reducible apply ev_lt); array_get_dec; array_get_dec; bv_omega)
  | ((with_reducible apply ev_gt); array_get_dec; array_get_dec; bv_omega)
  | ((with_reducible apply ev_le); array_get_dec; array_get_dec; bv_omega)
  | ((with_reducible apply ev_ge); array_get_dec; array_get_dec; bv_omega)
  | ((with_reducible apply ev_addT); array_get_dec; array_get_dec; bv_omega)
  | ((with_reducible apply ev_addN); array_get_dec; array_get_dec)
  | ((with_reducible apply ev_addI); array_get_dec; array_get_dec)
  | ((with_reducible apply ev_subI); array_get_dec; array_get_dec)
  | ((with_reducible apply ev_qui); array_get_dec; array_get_dec; array_get_dec; array_get_dec; array_get_dec)
  | ((with_reducible apply ev_qua); array_get_dec; array_get_dec; array_get_dec; array_get_dec)
  | ((with_reducible apply ev_ifE); array_get_dec; (intro _; array_get_dec); (intro _; array_get_dec))
  | ((with_reducible apply ev_tri); array_get_dec; array_get_dec; array_get_dec)
  | ((with_reducible apply ev_pair); array_get_dec; array_get_dec)
  | ((with_reducible apply ev_len); array_get_dec)
  | ((with_reducible apply ev_tuple); array_get_dec)
  | ((with_reducible apply ev_all); array_get_dec)
  | ((with_reducible apply ev_any); array_get_dec)
  | ((with_reducible apply ea_cons); array_get_dec; array_get_dec)
  | ((with_reducible apply ei_any); array_get_dec)
  | ((with_reducible apply el_lc1); array_get_dec; bv_omega; (intro x hx; refine ⟨_, rfl, ?_⟩; apply Exists.intro; apply And.intro; array_get_dec; rfl))
  | ((with_reducible apply el_lc); array_get_dec; bv_omega; (intro x hx; refine ⟨_, rfl, ?_, ?_⟩; (apply Exists.intro; apply And.intro; array_get_dec; rfl); (intro hp; apply Exists.intro; apply And.intro; array_get_dec; rfl)))
  | ((with_reducible apply el_sortSet); array_get_dec; infer_instance; infer_instance; infer_instance; bv_omega)
  | ((with_reducible apply el_sorted); array_get_dec; infer_instance; infer_instance; bv_omega)
  | ((with_reducible apply el_list); array_get_dec)
  | ((with_reducible apply el_nil))
  | ((with_reducible apply el_one); array_get_dec)
  | ((with_reducible apply ev_oneT); array_get_dec)
  | ((with_reducible apply ev_nilT))
  | ((with_reducible apply es_ref); rfl; assumption)
  | ((with_reducible apply es_of); array_get_dec)
  | ((with_reducible apply es_el); array_get_dec))
section
open PySem L2 PySem.W PyProof.Rows
open En (enc pd dep)
section
variable {α : Type} [DecidableEq α] [En α] [EnO α]
instance (xs : List α) : Decidable (ascE xs) := by unfold ascE; infer_instance
end
end
end Mini

namespace Mini
open PySem L2 PySem.W PyProof.Rows
-- side goals
local macro_rules | `(tactic| bv_omega) => `(tactic| first | decide | assumption | exact Flat.le | infer_instance | omega | (simp only [List.length_append, List.length_map, List.length_filter]; omega) | (simp; omega))
-- what an expression evaluates to
local macro_rules | `(tactic| array_get_dec) => `(tactic| first
  | assumption
  | ((with_reducible apply ev_var); rfl)
  | ((with_reducible apply ev_Ce); first | rfl | exact enc_w (by decide))
  | ((with_reducible apply ea_nil))
  | ((with_reducible apply et_yes))
  | ((with_reducible apply et_and); array_get_dec; (intro _; array_get_dec))
  | ((with_reducible apply et_or); array_get_dec; (intro _; array_get_dec))
  | ((with_reducible apply et_not); array_get_dec)
  | ((with_reducible apply et_bl); array_get_dec)
  | ((with_reducible apply et_tru); array_get_dec)
  | ((with_reducible apply et_truL); array_get_dec)
  | ((with_reducible apply ev_and); array_get_dec; (intro _; array_get_dec))
  | ((with_reducible apply ev_or); array_get_dec; (intro _; array_get_dec))
  | ((with_reducible apply ev_not); array_get_dec)
  | ((with_reducible apply ev_eq); array_get_dec; array_get_dec; bv_omega)
  | ((with_reducible apply ev_ne); array_get_dec; array_get_dec; bv_omega)
  | ((with_reducible apply ev_in); array_get_dec; array_get_dec; bv_omega)
  | ((with_reducible apply ev_nin); array_get_dec; array_get_dec; bv_omega)
  | ((with_reducible apply ev_ix); array_get_dec; rfl)
  | ((with_reducible apply ev_lt); array_get_dec; array_get_dec; bv_omega)
  | ((with_reducible apply ev_gt); array_get_dec; array_get_dec; bv_omega)
  | ((with_reducible apply ev_le); array_get_dec; array_get_dec; bv_omega)
  | ((with_reducible apply ev_ge); array_get_dec; array_get_dec; bv_omega)
  | ((with_reducible apply ev_addT); array_get_dec; array_get_dec; bv_omega)
  | ((with_reducible apply ev_addN); array_get_dec; array_get_dec)
  | ((with_reducible apply ev_addI); array_get_dec; array_get_dec)
  | ((with_reducible apply ev_subI); array_get_dec; array_get_dec)
  | ((with_reducible apply ev_qui); array_get_dec; array_get_dec; array_get_dec; array_get_dec; array_get_dec)
  | ((with_reducible apply ev_qua); array_get_dec; array_get_dec; array_get_dec; array_get_dec)
  | ((with_reducible apply ev_ifE); array_get_dec; (intro _; array_get_dec); (intro _; array_get_dec))
  | ((with_reducible apply ev_tri); array_get_dec; array_get_dec; array_get_dec)
  | ((with_reducible apply ev_pair); array_get_dec; array_get_dec)
  | ((with_reducible apply ev_len); array_get_dec)
  | ((with_reducible apply ev_tuple); array_get_dec)
  | ((with_reducible apply ev_all); array_get_dec)
  | ((with_reducible apply ev_any); array_get_dec)
  | ((with_reducible apply ea_cons); array_get_dec; array_get_dec)
  | ((with_reducible apply ei_any); array_get_dec)
  | ((with_reducible apply el_lc1); array_get_dec; bv_omega; (intro x hx; refine ⟨_, rfl, ?_⟩; apply Exists.intro; apply And.intro; array_get_dec; rfl))
  | ((with_reducible apply el_lc); array_get_dec; bv_omega; (intro x hx; refine ⟨_, rfl, ?_, ?_⟩; (apply Exists.intro; apply And.intro; array_get_dec; rfl); (intro hp; apply Exists.intro; apply And.intro; array_get_dec; rfl)))
  | ((with_reducible apply el_sortSet); array_get_dec; infer_instance; infer_instance; infer_instance; bv_omega)
  | ((with_reducible apply el_sorted); array_get_dec; infer_instance; infer_instance; bv_omega)
  | ((with_reducible apply el_list); array_get_dec)
  | ((with_reducible apply el_nil))
  | ((with_reducible apply el_one); array_get_dec)
  | ((with_reducible apply ev_oneT); array_get_dec)
  | ((with_reducible apply ev_nilT))
  | ((with_reducible apply es_ref); rfl; assumption)
  | ((with_reducible apply es_of); array_get_dec)
  | ((with_reducible apply es_el); array_get_dec))
section
open PySem L2 PySem.W PyProof.Rows
open En (enc pd dep)
def Gt.put (g : Gt) (h : Hd) : Gt := ⟨g.A, g.O, if decide (h ∈ g.H) = true then g.H else sortE (g.H ++ [h])⟩
structure Small (g : Gt) : Prop where
  a : g.A.length < 900
  o : g.O.length < 900
  h : g.H.length < 900
theorem GOk.small {g : Gt} (o : GOk g) : Small g := ⟨by have := o.lenA; omega, by have := o.lenO; omega, by have := o.lenH; omega⟩
end
section
open PySem L2 PySem.W PyProof.Rows
open En (enc pd dep)
def SmN (n : Nat) (S : Store) (a b : D) : Prop := Ev (C.f__law_same n [a, b]) S (enc true)
section
variable {S : Store} {ρ : Env} {fa fb : ME} {n : Nat}
theorem ev_isiK {ty : String} {d : D} {T : String} (h : Ev (fa ρ) S d) (e : ∀ S', Kp [] S S' → tyD S' d = some T) : Ev (eIsi ty fa ρ) S (enc (isiT T ty)) := EvP.bnd h fun _ S1 k e1 => e1 ▸ EvP.lift fun T3 k3 => ⟨_, by unfold pIsi; rw [e T3 (k.trans k3)]; rfl, rfl, .refl⟩
theorem ev_lenD {d : D} {ds : List D} (h : Ev (fa ρ) S d) (q : IsSq S d ds) : Ev (eB nLen (aCons fa aNil) ρ) S (enc ds.length) := eb1 h fun e T k he => ⟨(enc ds.length, T), by subst he; exact (q.kp k).len, rfl, .refl⟩
theorem ev_idxD {d e : D} {ds : List D} {i : Nat} (h : Ev (fa ρ) S d) (q : IsSq S d ds) (hb : Ev (fb ρ) S (enc i)) (g : ds[i]? = some e) : Ev (eOp pIdx fa fb ρ) S e := EvP.bnd h fun _ T k h1 => EvP.bnd (hb.kp k) fun _ T2 k2 e2 => e2 ▸ EvP.lift fun T3 k3 => ⟨(e, T3), by subst h1; exact (q.kp (k.trans (k2.trans k3))).idx (atI_nat g), rfl, .refl⟩
theorem sm_atom {a : D} {T : String} (h0 : T ≠ "tuple") (h1 : T ≠ "list") (ty : ∀ S', tyD S' a = some T) (eq : ∀ S', pEq a a S' = some (.bl true, S')) (non : isD a .non = some (decide (T = "NoneType"))) (hb : T = "bool" ∨ T = "int" ∨ T = "str" ∨ T = "NoneType") : SmN (n + 1) S a a := by
  show Ev (runF 3 2 (C.b__law_same (C.f__law_same n)) [a, a]) S _
  refine evF rfl fun S1 k1 => ?_
  unfold C.b__law_same
  have isi : ∀ (S2 : Store) (i : Nat) (ρ : Env) (u : String), ρ[i]? = some (some a) → Ev (eIsi u (eVar i) ρ) S2 (enc (isiT T u)) := fun S2 i ρ u h => ev_isi (ev_var h) ty
  apply s_seq
  apply s_if (b := false)
  · have := et_or (et_tru (isi S1 1 [some a, some a, none] "tuple" rfl)) fun _ => et_tru (isi S1 1 [some a, some a, none] "list" rfl)
    have e : (isiT T "tuple" || isiT T "list") = false := by rcases hb with h | h | h | h <;> subst h <;> rfl
    rw [e] at this; exact this
  · intro h; cases h
  intro _ S2 k2
  apply s_nil
  apply s_seq
  apply s_if
  · exact et_bl (ev_isNon (ev_var rfl) non)
  · intro h S3 k3
    have hT : T = "NoneType" := of_decide_eq_true h
    exact s_ret (ev_isNon (ev_var rfl) non) fun S4 k4 => ⟨by rw [h], k2.trans (k3.trans k4)⟩
  intro hN S3 k3
  have hN : T ≠ "NoneType" := of_decide_eq_false hN
  apply s_nil
  apply s_seq
  have last : ∀ S4, Ev (eOp pEq (eVar 0) (eVar 1) [some a, some a, none]) S4 (enc true) := fun S4 => ev_op (ev_var rfl) (ev_var rfl) eq
  apply s_if
  · exact et_tru (isi S3 1 _ "bool" rfl)
  · intro h S4 k4
    exact s_ret (ev_and (a := true) (by have := isi S4 0 [some a, some a, none] "bool" rfl; rw [h] at this; exact this) fun _ => last S4) fun S5 k5 => ⟨rfl, k2.trans (k3.trans (k4.trans k5))⟩
  intro hB S4 k4
  apply s_nil
  apply s_seq
  apply s_if (b := false)
  · have := et_or (et_tru (isi S4 0 [some a, some a, none] "bool" rfl)) fun _ => et_or (et_bl (ev_ne (isi S4 0 [some a, some a, none] "int" rfl) (isi S4 1 [some a, some a, none] "int" rfl) (by decide))) fun _ => et_bl (ev_ne (isi S4 0 [some a, some a, none] "str" rfl) (isi S4 1 [some a, some a, none] "str" rfl) (by decide))
    rw [hB] at this
    simpa using this
  · intro h; cases h
  intro _ S5 k5
  apply s_nil
  exact s_ret (last S5) fun S6 k6 => ⟨rfl, k2.trans (k3.trans (k4.trans (k5.trans k6)))⟩
theorem sm_w {m : Nat} {x : Wrd m} : SmN (n + 1) S (enc x) (enc x) := sm_atom (T := "str") (by decide) (by decide) (fun _ => rfl) (fun _ => by have := t_eq (S := ‹_›) (a := x) (b := x) (show dep (Wrd m) ≤ 60 from Nat.zero_le _); simpa using this) rfl (by decide)
theorem sm_b {x : Bool} : SmN (n + 1) S (enc x) (enc x) := sm_atom (T := "bool") (by decide) (by decide) (fun _ => rfl) (fun _ => by have := t_eq (S := ‹_›) (a := x) (b := x) (by decide); simpa using this) rfl (by decide)
theorem sm_i {x : Int} : SmN (n + 1) S (enc x) (enc x) := sm_atom (T := "int") (by decide) (by decide) (fun _ => rfl) (fun _ => by have := t_eq (S := ‹_›) (a := x) (b := x) (by decide); simpa using this) rfl (by decide)
theorem sm_non : SmN (n + 1) S .non .non := sm_atom (T := "NoneType") (by decide) (by decide) (fun _ => rfl) (fun _ => by have := t_eq (S := ‹_›) (a := ()) (b := ()) (by decide); simp at this; exact this) rfl (by decide)
theorem sm_seq {a b : D} {ds es : List D} (h : (a = .tup ds ∧ b = .tup es) ∨ ∃ h k, a = .ref h ∧ b = .ref k ∧ S[h]? = some (.lst ds) ∧ S[k]? = some (.lst es)) (hl : ds.length = es.length) (l : es.length ≤ 100000) (hs : ∀ (i : Nat) d e, ds[i]? = some d → es[i]? = some e → SmN n S d e) : SmN (n + 1) S a b := by
  have lim' := lim_big
  show Ev (runF 3 2 (C.b__law_same (C.f__law_same n)) [a, b]) S _
  have qa : IsSq S a ds := by
    rcases h with ⟨e, _⟩ | ⟨h, k, e, _, g, _⟩
    · exact .inl e
    · exact .inr ⟨h, e, .inl g⟩
  have qb : IsSq S b es := by
    rcases h with ⟨_, e⟩ | ⟨h, k, _, e, _, g⟩
    · exact .inl e
    · exact .inr ⟨k, e, .inl g⟩
  obtain ⟨T, ta, tb, hT⟩ : ∃ T, (∀ S', Kp [] S S' → tyD S' a = some T) ∧ (∀ S', Kp [] S S' → tyD S' b = some T) ∧ (T = "tuple" ∨ T = "list") := by
    rcases h with ⟨rfl, rfl⟩ | ⟨h, k, rfl, rfl, g1, g2⟩
    · exact ⟨"tuple", fun _ _ => rfl, fun _ _ => rfl, .inl rfl⟩
    · exact ⟨"list", fun S' kk => by simp only [tyD, kk.get _ _ (fun z => nomatch z) g1], fun S' kk => by simp only [tyD, kk.get _ _ (fun z => nomatch z) g2], .inr rfl⟩
  refine evF rfl fun S1 k1 => ?_
  have isi : ∀ (S2 : Store) (i : Nat) (ρ : Env) (u : String) (d : D), Kp [] S1 S2 → d = a ∨ d = b → ρ[i]? = some (some d) → Ev (eIsi u (eVar i) ρ) S2 (enc (isiT T u)) := fun S2 i ρ u d kk hd h => ev_isiK (ev_var h) fun S' k' => by
    rcases hd with rfl | rfl
    · exact ta S' (k1.trans (kk.trans k'))
    · exact tb S' (k1.trans (kk.trans k'))
  unfold C.b__law_same
  apply s_seq
  apply s_if (b := true)
  · have := et_or (et_tru (isi S1 1 [some a, some b, none] "tuple" b .refl (.inr rfl) rfl)) fun _ => et_tru (isi S1 1 [some a, some b, none] "list" b .refl (.inr rfl) rfl)
    have e : (isiT T "tuple" || isiT T "list") = true := by rcases hT with h | h <;> subst h <;> rfl
    rw [e] at this; exact this
  · intro _ S2 k2
    apply s_seq
    apply s_if (b := false)
    · have := et_or (et_bl (ev_ne (isi S2 1 [some a, some b, none] "tuple" b k2 (.inr rfl) rfl) (isi S2 0 [some a, some b, none] "tuple" a k2 (.inl rfl) rfl) (by decide))) fun _ => et_bl (ev_ne (isi S2 1 [some a, some b, none] "list" b k2 (.inr rfl) rfl) (isi S2 0 [some a, some b, none] "list" a k2 (.inl rfl) rfl) (by decide))
      simpa using this
    · intro h; cases h
    intro _ S3 k3
    have kk : Kp [] S S3 := k1.trans (k2.trans k3)
    have kk1 : Kp [] S1 S3 := k2.trans k3
    apply s_nil
    apply s_ret
    · apply ev_and
      · exact ev_eq (α := Nat) (ev_lenD (ev_var rfl) (qa.kp kk)) (ev_lenD (ev_var rfl) (qb.kp kk)) (by decide)
      intro _
      apply ev_all
      apply el_lc1 (α := Nat) (β := Bool) (f := fun _ => true)
      · exact ei_range (ev_lenD (ev_var rfl) (qb.kp kk)) (by omega)
      · rw [List.length_range]; omega
      · intro i hi
        have hi := List.mem_range.mp hi
        refine ⟨_, rfl, true, ?_, rfl⟩
        have e1 : ds[i]? = some ds[i] := List.getElem?_eq_getElem (by omega)
        have e2 : es[i]? = some es[i] := List.getElem?_eq_getElem hi
        exact ev_call (ea_cons (ev_idxD (ev_var rfl) (qa.kp kk) (ev_var rfl) e1) (ea_cons (ev_idxD (ev_var rfl) (qb.kp kk) (ev_var rfl) e2) ea_nil)) (EvP.kp (hs i _ _ e1 e2) kk)
    · refine fun S4 k4 => ⟨congrArg enc ?_, kk1.trans k4⟩
      rw [hl]
      simp
  · intro h; cases h
theorem sm_tup {ds : List D} (l : ds.length ≤ 100000) (h : ∀ d ∈ ds, SmN n S d d) : SmN (n + 1) S (.tup ds) (.tup ds) := sm_seq (.inl ⟨rfl, rfl⟩) rfl l fun i d e h1 h2 => by
  rw [h1] at h2; cases h2
  exact h d (List.mem_of_getElem? h1)
theorem sm_lst {ds : List D} {h k : Nat} (e1 : S[h]? = some (.lst ds)) (e2 : S[k]? = some (.lst ds)) (l : ds.length ≤ 100000) (hh : ∀ d ∈ ds, SmN n S d d) : SmN (n + 1) S (.ref h) (.ref k) := sm_seq (.inr ⟨h, k, rfl, rfl, e1, e2⟩) rfl l fun i d e h1 h2 => by
  rw [h1] at h2; cases h2
  exact hh d (List.mem_of_getElem? h1)
theorem sm_T {α : Type} [DecidableEq α] [En α] {xs : List α} (l : xs.length ≤ 100000) (h : ∀ x ∈ xs, SmN n S (enc x) (enc x)) : SmN (n + 1) S (enc xs) (enc xs) := sm_tup (by rw [List.length_map]; exact l) fun d m => by
  obtain ⟨x, mx, rfl⟩ := List.mem_map.mp m
  exact h x mx
theorem same_ev {a b : D} (h : SmN 16 S a b) : Ev (C.g__law_same [a, b]) S (enc true) := h
end
end
section
open PySem L2 PySem.W PyProof.Rows
open En (enc pd dep)
section
variable {α : Type} {_ : DecidableEq α} {S : Store} {ρ : Env} {fa fb fo fi : ME} {fs : Env → M (List D)} {N : Env → Store → Prop} {R : D → Store → Prop} {X : XPs} {f g : MS} {P : D → Store → Prop} {Y : XP}
theorem s_mid (M : Env → Store → Prop) (h : so (f ρ S) M R X) (k : ∀ ρ1 S1, M ρ1 S1 → so (g ρ1 S1) N R X) : so (sSeq f g ρ S) N R X := by
  rw [so_seq]
  exact so_mono h k (fun _ _ z => z) fun _ _ _ _ z => z
theorem s_setK {j : Nat} (h : ok (fa ρ S) (fun d S' => N (ρ.set j (some d)) S') (fun n fs S1 => X n fs ρ S1)) : so (sSet (.nm j) fa ρ S) N R X := by
  rw [so_set]
  exact ok_mono h (fun d S' q => ⟨_, rfl, q⟩) fun _ _ _ z => z
theorem s_parK {i j : Nat} (h : ok (fs ρ S) (fun ds S' => ∃ a b, ds = [a, b] ∧ N ((ρ.set i (some a)).set j (some b)) S') (fun n fs S1 => X n fs ρ S1)) : so (sPar i j fs ρ S) N R X := by
  rw [so_par]; exact h
theorem s_ifK {t : Env → M Bool} (h : ok (t ρ S) (fun b S' => (b = true → so (f ρ S') N R X) ∧ (b = false → so (g ρ S') N R X)) (fun n fs S1 => X n fs ρ S1)) : so (sIf t f g ρ S) N R X := by
  rw [so_if]
  refine ok_mono h (fun b S' q => ?_) fun _ _ _ z => z
  cases b with
  | true => exact q.1 rfl
  | false => exact q.2 rfl
theorem s_retK (h : ok (fa ρ S) R (fun n fs S1 => X n fs ρ S1)) : so (sRet fa ρ S) N R X := by rw [so_ret]; exact h
theorem k_call {g : List D → M D} {ds : List D} (h : Ev (fs ρ) S ds) (k : ∀ S', Kp [] S S' → ok (g ds S') P Y) : ok (eCall g fs ρ S) P Y := by
  rw [ok_eCall]
  exact h.ok k
theorem k_nil {Q : List D → Store → Prop} (h : Q [] S) : ok (aNil ρ S) Q Y := h
theorem k_cons {Q : List D → Store → Prop} (h : ok (fa ρ S) (fun a S1 => ok (fs ρ S1) (fun as S2 => Q (a :: as) S2) Y) Y) : ok (aCons fa fs ρ S) Q Y := by rw [ok_aCons]; exact h
theorem k_op {g : P2} (h : ok (fa ρ S) (fun a S1 => ok (fb ρ S1) (fun b S2 => ∃ p, g a b S2 = some p ∧ P p.1 p.2) Y) Y) : ok (eOp g fa fb ρ S) P Y := by rw [ok_eOp]; exact h
theorem k_var {i : Nat} {d : D} (h : ρ[i]? = some (some d)) (q : P d S) : ok (eVar i ρ S) P Y := by rw [ok_eVar h]; exact q
theorem k_bl {t : Bool → Store → Prop} (h : ok (fa ρ S) (fun d S' => ∃ b : Bool, d = enc b ∧ t b S') Y) : ok (tBl fa ρ S) t Y := by rw [ok_tBl]; exact h
theorem k_draw {i h k many : Nat} (p : PotOk S h (k + 1)) (hi : ρ[i]? = some (some (.ref h))) (hb : Ev (fb ρ) S (enc many)) (h1 : 1 ≤ many) (h2 : many < 1000000) (K : ∀ (r : Nat) S', r < many → PotOk S' h k → Kp [h] S S' → P (enc r) S') : ok (eCall C.g__law_draw (aCons (eVar i) (aCons fb aNil)) ρ S) P Y := by
  rw [ok_eCall, ok_aCons, ok_eVar hi, ok_aCons]
  refine hb.ok fun S1 k1 => ?_
  rw [ok_aNil]
  refine ok_mono (draw_spec (many := (many : Int)) (p.kp k1 (fun z => nomatch z)) (by omega) (by omega)) (fun d S' hd => ?_) fun _ _ _ z => z
  obtain ⟨r, rfl, a, b, c, e⟩ := hd
  obtain ⟨n, rfl⟩ := Int.eq_ofNat_of_zero_le a
  exact K n S' (by omega) c ((k1.wk fun _ z => nomatch z).trans e)
theorem ev_maxN {a b : Nat} (ha : Ev (fa ρ) S (enc a)) (hb : Ev (fb ρ) S (enc b)) : Ev (eB nMax (aCons fa (aCons fb aNil)) ρ) S (enc (max a b)) := EvP.bnd (ea_cons ha (ea_cons hb ea_nil)) fun _ T k e => by
  rw [e]
  refine EvP.lift fun T3 _ => ⟨(enc (max a b), T3), ?_, rfl, .refl⟩
  show some (D.int (if (b : Int) > a then (b : Int) else a), T3) = _
  congr 3
  split <;> omega
theorem ev_minN {a b : Nat} (ha : Ev (fa ρ) S (enc a)) (hb : Ev (fb ρ) S (enc b)) : Ev (eB nMin (aCons fa (aCons fb aNil)) ρ) S (enc (min a b)) := EvP.bnd (ea_cons ha (ea_cons hb ea_nil)) fun _ T k e => by
  rw [e]
  refine EvP.lift fun T3 _ => ⟨(enc (min a b), T3), ?_, rfl, .refl⟩
  show some (D.int (if (b : Int) < a then (b : Int) else a), T3) = _
  congr 3
  split <;> omega
theorem Scr.sq {h : Nat} {ns : List Int} (s : Scr S h ns) : IsSq S (.ref h) (ns.map D.int) := .inr ⟨h, rfl, s⟩
theorem kp_l {M : List Nat} {S S' : Store} (k : Kp [] S S') : Kp M S S' := k.wk fun _ z => nomatch z
end
end
section
open PySem L2 PySem.W PyProof.Rows
open En (enc pd dep)
inductive OdD (M : List Nat) (S : Store) : Nat → D → Prop
  | non {n : Nat} : OdD M S n .non
  | bl {n : Nat} (b : Bool) : OdD M S n (.bl b)
  | int {n : Nat} (i : Int) : OdD M S n (.int i)
  | str {n : Nat} {x : Str} : PyData.strOk x = true → x.length ≤ lim → OdD M S n (.str x)
  | tup {n : Nat} {ds : List D} : ds.length ≤ 100000 → (∀ d ∈ ds, OdD M S n d) → OdD M S (n + 1) (.tup ds)
  | lst {n h : Nat} {ds : List D} : h ∉ M → S[h]? = some (.lst ds) → ds.length ≤ 100000 → (∀ d ∈ ds, OdD M S n d) → OdD M S (n + 1) (.ref h)
theorem OdD.kp {M L : List Nat} {S S' : Store} {n : Nat} {d : D} (o : OdD M S n d) (k : Kp L S S') (hL : ∀ x ∈ L, x ∈ M := by intro x hx; first | exact hx | exact nomatch hx) : OdD M S' n d := by
  induction o with
  | non => exact .non
  | bl b => exact .bl b
  | int i => exact .int i
  | str a b => exact .str a b
  | tup a _ ih => exact .tup a ih
  | lst f e a _ ih => exact .lst f (k.get _ _ (fun z => f (hL _ z)) e) a ih
theorem OdD.up {M : List Nat} {S : Store} {n : Nat} {d : D} (o : OdD M S n d) : ∀ {m : Nat}, n ≤ m → OdD M S m d := by
  induction o with
  | non => exact fun _ => .non
  | bl b => exact fun _ => .bl b
  | int i => exact fun _ => .int i
  | str a b => exact fun _ => .str a b
  | tup a _ ih =>
    intro m h
    obtain ⟨j, rfl⟩ : ∃ j, m = j + 1 := ⟨m - 1, by omega⟩
    exact .tup a fun d q => ih d q (by omega)
  | lst f e a _ ih =>
    intro m h
    obtain ⟨j, rfl⟩ : ∃ j, m = j + 1 := ⟨m - 1, by omega⟩
    exact .lst f e a fun d q => ih d q (by omega)
theorem OdD.dat {M : List Nat} {S : Store} {n : Nat} {d : D} (o : OdD M S n d) : Dat S d := by
  cases o with
  | str a b => exact b
  | lst f e a b => exact ⟨_, e⟩
  | _ => trivial
theorem dPs_all {f : Nat → Option PyData} {n : Nat} : ∀ {ds : List D}, (∀ d ∈ ds, ∃ p, dP f d = some p ∧ p.canLay0 = true ∧ p.depth ≤ n) → ∃ ps, dPs f ds = some ps ∧ PyData.canLayAll0 ps = true ∧ PyData.depthAll ps ≤ n
  | [], _ => ⟨[], rfl, rfl, Nat.zero_le _⟩
  | d :: ds, h => by
    obtain ⟨p, e1, c1, l1⟩ := h d List.mem_cons_self
    obtain ⟨ps, e2, c2, l2⟩ := dPs_all fun x m => h x (List.mem_cons_of_mem _ m)
    refine ⟨p :: ps, by rw [dPs, e1, e2]; rfl, ?_, ?_⟩
    · rw [PyData.canLayAll0, c1, c2]; rfl
    · rw [PyData.depthAll]; exact Nat.max_le.mpr ⟨l1, l2⟩
theorem OdD.dp {M : List Nat} {S : Store} {n : Nat} {d : D} (o : OdD M S n d) : ∀ k, n ≤ k → ∃ p, dP (deref k S) d = some p ∧ p.canLay0 = true ∧ p.depth ≤ n := by
  induction o with
  | non => exact fun k _ => ⟨_, rfl, rfl, by rw [PyData.depth] <;> simp⟩
  | bl b => exact fun k _ => ⟨_, rfl, rfl, by rw [PyData.depth] <;> simp⟩
  | int i => exact fun k _ => ⟨_, rfl, rfl, by rw [PyData.depth] <;> simp⟩
  | str a b => exact fun k _ => ⟨_, rfl, a, by rw [PyData.depth] <;> simp⟩
  | tup a _ ih =>
    intro k h
    obtain ⟨ps, e, c, l⟩ := dPs_all fun d m => ih d m k (by omega)
    exact ⟨.tuple ps, by rw [dP, e]; rfl, c, by rw [PyData.depth]; omega⟩
  | @lst n h ds f e a _ ih =>
    intro k hk
    obtain ⟨j, rfl⟩ : ∃ j, k = j + 1 := ⟨k - 1, by omega⟩
    obtain ⟨ps, e2, c, l⟩ := dPs_all fun d m => ih d m j (by omega)
    exact ⟨.list ps, by show deref (j + 1) S h = _; rw [deref, e]; simp only [e2]; rfl, c, by rw [PyData.depth]; omega⟩
theorem OdD.reads {M : List Nat} {S : Store} {n : Nat} {d : D} (o : OdD M S n d) (h : n ≤ 7) : ∃ p, toP S d = some p ∧ SeqAt.shaped p = true := by
  obtain ⟨p, e, c, l⟩ := o.dp 8 (by omega)
  refine ⟨p, e, ?_⟩
  unfold SeqAt.shaped
  rw [c, decide_eq_true (by omega)]; rfl
theorem sm_str {S : Store} {n : Nat} {x : Str} (o : PyData.strOk x = true) (l : x.length ≤ lim) : SmN (n + 1) S (.str x) (.str x) := sm_atom (T := "str") (by decide) (by decide) (fun _ => rfl) (fun _ => by have := t_eq (S := ‹_›) (a := (⟨x, o, l⟩ : Tx)) (b := ⟨x, o, l⟩) (by decide); rw [decide_eq_true rfl] at this; exact this) rfl (by decide)
theorem OdD.sm {M : List Nat} {S : Store} {n : Nat} {d : D} (o : OdD M S n d) : SmN (n + 1) S d d := by
  induction o with
  | non => exact sm_non
  | bl b => exact sm_b
  | int i => exact sm_i
  | str a b => exact sm_str a b
  | tup a _ ih => exact sm_tup a fun d m => ih d m
  | lst f e a _ ih => exact sm_lst e e a fun d m => ih d m
theorem OdD.w {M : List Nat} {S : Store} {n m : Nat} (x : Wrd m) (h : m ≤ 1000 := by decide) : OdD M S n (enc x) := .str x.w.strOk (by have := x.len; unfold lim; omega)
def asW (m : Nat) : D → Option (Wrd m)
  | .str x => if h : isWd m (.str x) = true then some ⟨x, isWd_iff.mp h⟩ else none
  | _ => none
theorem asW_str {m : Nat} {x : Str} : asW m (.str x) = if h : isWd m (.str x) = true then some ⟨x, isWd_iff.mp h⟩ else none := rfl
theorem asW_iff {m : Nat} {d : D} {w : Wrd m} : asW m d = some w ↔ d = enc w := by
  cases d with
  | str x =>
    rw [asW_str]
    by_cases h : isWd m (.str x) = true
    · rw [dif_pos h]
      exact ⟨fun e => by cases e; rfl, fun e => by
        obtain rfl : x = w.s := D.str.inj e
        rfl⟩
    · rw [dif_neg h]
      exact ⟨fun e => (by cases e), fun e => by
        obtain rfl : x = w.s := D.str.inj e
        exact absurd (isWd_iff.mpr w.w) h⟩
  | _ => constructor <;> intro h <;> cases h
theorem asW_is {m : Nat} {d : D} : (asW m d).isSome = isWd m d := by
  cases d with
  | str x =>
    rw [asW_str]
    by_cases h : isWd m (.str x) = true
    · rw [dif_pos h]; exact h.symm
    · rw [dif_neg h]; exact (Bool.eq_false_iff.mpr h).symm
  | _ => rfl
section
variable {M : List Nat} {S : Store} {d : D} {n : Nat}
theorem name_od (o : OdD M S n d) : Ev (C.g_is_name [d]) S (enc (isWd 8 d)) := fun S1 k => ok_mono (is_name_spec (o.kp k).dat) (fun d S2 q => q) fun _ _ _ z => z
def inW {m : Nat} (d : D) (xs : List (Wrd m)) : Bool := memN (xs.map (·.s)) d
theorem inW_enc {m : Nat} {x : Wrd m} {xs : List (Wrd m)} : inW (enc x) xs = decide (x ∈ xs) := by
  show decide _ = _
  refine decide_eq_decide.mpr ⟨fun h => ?_, fun h => List.mem_map_of_mem h⟩
  obtain ⟨y, my, e⟩ := List.mem_map.mp h
  exact Wrd.ext e ▸ my
theorem encL {m : Nat} {xs : List (Wrd m)} : (enc xs : D) = .tup (nD (xs.map (·.s))) := by
  show D.tup (xs.map enc) = .tup ((xs.map (·.s)).map D.str)
  rw [List.map_map]; rfl
theorem strOk_all {m : Nat} {xs : List (Wrd m)} : ∀ x ∈ xs.map (·.s), PyData.strOk x = true := fun x h => by
  obtain ⟨y, _, rfl⟩ := List.mem_map.mp h
  exact y.w.strOk
variable {ρ : Env} {fa fb : ME}
theorem ev_inD {m : Nat} {xs : List (Wrd m)} (ha : Ev (fa ρ) S d) (hb : Ev (fb ρ) S (enc xs)) (o : OdD M S n d) (h : n ≤ 7) : Ev (eOp pIn fa fb ρ) S (enc (inW d xs)) := EvP.bnd ha fun _ T k e => e ▸ EvP.bnd (hb.kp k) fun _ T2 k2 e2 => e2 ▸ EvP.lift fun T3 k3 => by
  subst e
  obtain ⟨p, e1, s1⟩ := ((o.kp k).kp (k2.trans k3)).reads h
  exact ⟨_, by rw [encL]; exact inT strOk_all e1 s1, rfl, .refl⟩
theorem OdD.ty (o : OdD M S n d) : ∃ T, tyD S d = some T ∧ (T = "tuple" ↔ ∃ ds, d = .tup ds) ∧ (T = "str" ↔ ∃ x, d = .str x) := by
  cases o with
  | lst f e a b => exact ⟨"list", by simp only [tyD, e], by simp, by simp⟩
  | tup a b => exact ⟨"tuple", rfl, by simp, by simp⟩
  | non => exact ⟨"NoneType", rfl, by simp, by simp⟩
  | bl b => exact ⟨"bool", rfl, by simp, by simp⟩
  | int b => exact ⟨"int", rfl, by simp, by simp⟩
  | str a b => exact ⟨"str", rfl, by simp, by simp⟩
def isTp : D → Bool
  | .tup _ => true
  | _ => false
end
end
section
open PySem L2 PySem.W PyProof.Rows
open En (enc pd dep)
theorem OdD.items {M : List Nat} {S : Store} {n : Nat} {ds : List D} (o : OdD M S n (.tup ds)) : ∀ d ∈ ds, OdD M S n d := by
  cases o with
  | tup a b => exact fun d m => (b d m).up (Nat.le_succ _)
section
variable {M : List Nat} {S : Store} {d : D} {n : Nat} {ρ : Env} {fa fb : ME}
theorem law_word_spec {S : Store} {x : Str} {m : Nat} {X : XP} (hs : x.length ≤ lim) : ok (C.g__law_is_word [.str x, .int m] S) (fun r S' => r = .bl (isWd m (.str x)) ∧ Kp [] S S') X := by
  unfold C.g__law_is_word
  rw [run2]
  unfold C.b__law_is_word
  rw [so_seq, so_set, ok_eC]
  refine ⟨_, rfl, ?_⟩
  dsimp only [List.set, List.replicate]
  rw [so_ret, ok_eAnd, ok_eIsi, ok_eVar (d := .str x) (by rfl)]
  refine ⟨(.bl true, S), rfl, _, rfl, ?_⟩
  rw [if_pos rfl, ok_eAnd, ok_eChain, ok_eC, ok_eB, ok_aCons, ok_eVar (d := .str x) (by rfl), ok_aNil]
  refine ⟨_, lenS hs, _, leI, _, rfl, ?_⟩
  by_cases h1 : 1 ≤ x.length
  · rw [show (!decide ((x.length : Int) < 1)) = true from by rw [decide_eq_false (by omega)]; rfl, if_pos rfl]
    simp only [ok_bnd, ok_var, ok_lift]
    refine ⟨_, rfl, _, leI, _, rfl, ?_⟩
    by_cases h2 : x.length ≤ m
    · rw [show (!decide ((m : Int) < (x.length : Int))) = true from by rw [decide_eq_false (by omega)]; rfl, if_pos rfl]
      refine ok_all (xs := x.cps.toList.map fun c => D.str ⟨#[c]⟩) (it := .sgn x) lowD (anyV rfl rfl) (by rw [List.length_map]; rw [show x.cps.toList.length = x.length from by simp [Str.length]]; exact hs) (fun i S' _ => sgs_nx i S') (fun y S' my k => ?_) fun S' k => ⟨?_, k⟩
      · obtain ⟨c, hc, rfl⟩ := List.mem_map.mp my
        refine ⟨_, rfl, ?_⟩
        rw [ok_eOp, ok_eVar (d := .str ⟨#[c]⟩) (by rfl), ok_eVar (d := .str "abcdefghijklmnopqrstuvwxyz") (by rfl)]
        refine ⟨_, sgIn, Kp.refl, ?_⟩
        show D.bl (low c) = .bl ([c].all low)
        simp
      · rw [List.all_map]
        simp only [isWd, decide_eq_true h1, decide_eq_true h2, Bool.true_and]
        congr 1
        have : ∀ l : List Nat, l.all (lowD ∘ fun c => D.str ⟨#[c]⟩) = l.all low := fun l => by
          congr 1; funext c; simp [lowD]
        exact this _
    · rw [show (!decide ((m : Int) < (x.length : Int))) = false from by rw [decide_eq_true (by omega)]; rfl, if_neg (by decide)]
      refine ⟨?_, Kp.refl⟩
      simp only [isWd, decide_eq_false h2, Bool.and_false, Bool.false_and]
  · rw [show (!decide ((x.length : Int) < 1)) = false from by rw [decide_eq_true (by omega)]; rfl, if_neg (by decide)]
    rw [ok_pur]
    refine ⟨_, rfl, ?_⟩
    rw [if_neg (by decide), ok_pur]
    refine ⟨?_, Kp.refl⟩
    simp only [isWd, decide_eq_false h1, Bool.false_and]
end
end
section
open PySem L2 PySem.W
theorem eqvAll_names : ∀ {xs ys : List Str}, PyData.eqvAll (xs.map PyData.str) (ys.map PyData.str) = decide (xs = ys)
  | [], [] => rfl
  | [], _ :: _ => rfl
  | _ :: _, [] => rfl
  | x :: xs, y :: ys => by
    rw [List.map_cons, List.map_cons, PyData.eqvAll, eqvAll_names, eqv_str]
    by_cases h1 : x = y <;> by_cases h2 : xs = ys <;> simp [h1, h2]
theorem namesOf {S : Store} {G : Gr} {ρ : Env} {i : Nat} {P : D → Store → Prop} {X : XP} (o : G.Ok) (h : ρ[i]? = some (some G.d)) (K : P (.tup (nD (G.A ++ G.O))) S) : ok (eOp pAdd (eOp pIdx (eVar i) (eC (.int 0))) (eOp pIdx (eVar i) (eC (.int 1))) ρ S) P X := by
  rw [ok_eOp, ok_eOp, ok_eVar h, ok_eC]
  refine ⟨(.tup (nD G.A), S), rfl, ?_⟩
  rw [ok_eOp, ok_eVar h, ok_eC]
  refine ⟨(.tup (nD G.O), S), rfl, (.tup (nD (G.A ++ G.O)), S), ?_, K⟩
  rw [nD_app]
  have := o.len
  rw [List.length_append] at this
  exact tupO_eq (by rw [List.length_append, nD_len, nD_len]; unfold lim; omega)
theorem idxNT {S : Store} {ys : List Str} {i : Nat} (h : i < ys.length) : pIdx (.tup (nD ys)) (.int i) S = some (.str ys[i], S) := idxT (atI_nat (by unfold nD; rw [List.getElem?_map, List.getElem?_eq_getElem h]; rfl))
theorem addL {S : Store} {h k : Nat} {xs ys : List Str} (e1 : S[h]? = some (.lst (nD xs))) (e2 : S[k]? = some (.lst (nD ys))) (l : xs.length + ys.length ≤ 1000) : pAdd (.ref h) (.ref k) S = some (.ref S.length, S ++ [.lst (nD (xs ++ ys))]) := by
  simp only [pAdd, e1, e2]
  rw [nD_app, newL_eq (by rw [List.length_append, nD_len, nD_len]; unfold lim; omega)]
theorem seq_nx {S : Store} {h : Nat} {xs : List D} (e : S[h]? = some (.lst xs)) : ∀ i S', Kp [] S S' → nextI (.seq h) i S' = .of xs[i]? := fun i S' k => by
  simp only [nextI, k.get _ _ (fun z => nomatch z) e]
theorem ninN {S : Store} {xs : List Str} {x : Str} (h : ∀ y ∈ xs, PyData.strOk y = true) (w : PyData.strOk x = true) : pNotIn (.str x) (.tup (nD xs)) S = some (.bl (!decide (x ∈ xs)), S) := ninT h (p := .str x) rfl (shaped_str w)
theorem neT {S : Store} {ns : List Str} (w : ∀ x ∈ ns, PyData.strOk x = true) : pNe (.tup (nD ns)) (.tup []) S = some (.bl (!ns.isEmpty), S) := by
  have e1 : toP S (.tup (nD ns)) = some (.tuple (ns.map PyData.str)) := by
    show dP (deref 8 S) (.tup (nD ns)) = _
    rw [dP, dPs_names]; rfl
  have e2 : toP S (.tup []) = some (.tuple []) := rfl
  show (eqD S _ _).map _ = _
  rw [eqP e1 e2 (shaped_names w).2 (shaped_names (xs := []) (fun _ z => nomatch z)).2]
  show some (D.bl (!PyData.eqvAll (ns.map PyData.str) (([] : List Str).map PyData.str)), S) = _
  rw [eqvAll_names]
  cases ns <;> rfl
theorem cutS_len {x : Str} {lo hi : Option Int} : (cutS x lo hi).length ≤ x.length := by
  unfold cutS
  have e : x.length = x.cps.toList.length := by simp [Str.length]
  simp only [Str.length, List.size_toArray, List.length_take, List.length_drop]
  simp only [Str.length] at e
  omega
theorem addS {x y : Str} {S : Store} (h : x.length + y.length ≤ lim) : pAdd (.str x) (.str y) S = some (.str (x ++ y), S) := strO_eq (by show (x.cps ++ y.cps).size ≤ lim; rw [Array.size_append]; exact h)
theorem appS_len {x y : Str} : (x ++ y).length = x.length + y.length := Array.size_append
theorem cutSt {x : Str} {lo hi : Option Int} {S : Store} (h : x.length ≤ lim) : pCut (.str x) lo hi S = some (.str (cutS x lo hi), S) := by
  show (if x.length ≤ lim then _ else _) = _
  rw [if_pos h]
theorem stranger_spec {S : Store} {h k : Nat} {G : Gr} {X : XP} (p : PotOk S h (k + 2)) (o : G.Ok) (w5 : ∀ x ∈ G.A ++ G.O, Wd 5 x) : ok (C.g__law_stranger [.ref h, G.d] S) (fun d S' => ∃ y, d = .str y ∧ Wd 8 y ∧ y ∉ G.A ++ G.O ∧ PotOk S' h k ∧ Kp [h] S S') X := by
  unfold C.g__law_stranger
  rw [run2]
  unfold C.b__law_stranger
  rw [so_seq, so_set]
  refine namesOf o (by rfl) ⟨_, rfl, ?_⟩
  dsimp only [List.set, List.replicate]
  rw [so_seq, so_set, ok_eC]
  refine ⟨_, rfl, ?_⟩
  dsimp only [List.set]
  rw [so_seq]
  have lAll := o.len
  suffices go : ∀ (near : Str) (S1 : Store), near.length ≤ 5 → PotOk S1 h (k + 1) → Kp [h] S S1 → so (sSeq (sSet (.nm 4) (eLst (aCons (eOp pAdd (eVar 3) (eC (.str "k"))) (aCons (eCut (eVar 3) oNone (oSome (eUn pNeg (eC (.int 1))))) (aCons (eOp pAdd (eVar 3) (eC (.str "kk"))) (aCons (eCut (eVar 3) (oSome (eC (.int 1))) oNone) (aCons (eC (.str "strange")) aNil)))))))
      (sSeq (sSet (.nm 5) (eCall C.g__law_draw (aCons (eVar 0) (aCons (eC (.int 4)) aNil))))
      (sSeq (sSet (.nm 4) (eOp pAdd (eCut (eVar 4) (oSome (eVar 5)) oNone) (eLst (aCons (eC (.str "strange")) aNil))))
      (sRet (eOp pIdx (eLc (iAny (eVar 4)) (.nm 6) (tAnd' (tTru (eCall C.g__law_is_word (aCons (eVar 6) (aCons (eC (.int 8)) aNil)))) (tBl (eOp pNotIn (eVar 6) (eVar 2)))) (eVar 6) [6]) (eC (.int 0)))))) [some (.ref h), some G.d, some (.tup (nD (G.A ++ G.O))), some (.str near), none, none, none] S1)
      (fun _ S1 => ∃ y, D.non = .str y ∧ Wd 8 y ∧ y ∉ G.A ++ G.O ∧ PotOk S1 h k ∧ Kp [h] S S1) (fun d S' => ∃ y, d = .str y ∧ Wd 8 y ∧ y ∉ G.A ++ G.O ∧ PotOk S' h k ∧ Kp [h] S S') (fun m fs _ S1 => X m fs S1) by
    rw [so_if, ok_tBl, ok_eOp, ok_eVar (d := .tup (nD (G.A ++ G.O))) (by rfl), ok_eTup, ok_aNil]
    refine ⟨_, tupO_eq (show 0 ≤ lim by decide), _, neT o.strOk, _, rfl, ?_⟩
    by_cases he : (G.A ++ G.O).isEmpty = true
    · rw [he, show (!true) = false from rfl, if_neg (by decide), so_nil]
      exact go "b" S (by decide) (p.mono (by omega)) Kp.refl
    · rw [Bool.not_eq_true] at he
      have ln : 1 ≤ (G.A ++ G.O).length := by
        cases e : G.A ++ G.O with
        | nil => rw [e] at he; cases he
        | cons a b => simp
      rw [he, show (!false) = true from rfl, if_pos rfl, so_set, ok_eOp, ok_eVar (d := .tup (nD (G.A ++ G.O))) (by rfl)]
      refine pot_draw (k := k + 1) (many := ((G.A ++ G.O).length : Nat)) p (vr rfl) (fun Q => ?_) (by omega) (by omega) fun r S1 r0 r3 p1 k1 => ?_
      · rw [ok_eB, ok_aCons, ok_eVar (d := .tup (nD (G.A ++ G.O))) (by rfl), ok_aNil, lenT, nD_len]
        exact propext ⟨fun ⟨_, e, q⟩ => by cases e; exact q, fun q => ⟨_, rfl, q⟩⟩
      · obtain ⟨n, rfl⟩ := Int.eq_ofNat_of_zero_le r0
        have hn : n < (G.A ++ G.O).length := by omega
        refine ⟨_, idxNT hn, _, rfl, ?_⟩
        exact go _ S1 (w5 _ (List.getElem_mem hn)).2.1 p1 k1
  intro near S1 ln p1 k1
  have nl : near.length ≤ lim := by unfold lim; omega
  rw [so_seq, so_set, ok_eLst, ok_aCons, ok_eOp, ok_eVar (d := .str near) (by rfl), ok_eC]
  refine ⟨_, addS (show near.length + 1 ≤ lim by unfold lim; omega), ?_⟩
  rw [ok_aCons, ok_eCut, ok_eVar (d := .str near) (by rfl), ok_oNone, ok_oSome, ok_eUn, ok_eC]
  refine ⟨(.int (-1), S1), rfl, _, rfl, _, cutSt nl, ?_⟩
  rw [ok_aCons, ok_eOp, ok_eVar (d := .str near) (by rfl), ok_eC]
  refine ⟨_, addS (show near.length + 2 ≤ lim by unfold lim; omega), ?_⟩
  rw [ok_aCons, ok_eCut, ok_eVar (d := .str near) (by rfl), ok_oSome, ok_eC]
  refine ⟨_, rfl, ?_⟩
  rw [ok_oNone]
  refine ⟨_, cutSt nl, ?_⟩
  rw [ok_aCons, ok_eC, ok_aNil]
  generalize efs : [near ++ "k", cutS near none (some (-1)), near ++ "kk", cutS near (some 1) none, ("strange" : Str)] = fs
  have lfs : fs.length = 5 := by rw [← efs]; rfl
  have sfs : ∀ x ∈ fs, x.length ≤ 100 := by
    rw [← efs]
    simp only [List.forall_mem_cons]
    have c1 : (cutS near none (some (-1))).length ≤ near.length := cutS_len
    have c2 : (cutS near (some 1) none).length ≤ near.length := cutS_len
    have a1 : (near ++ ("k" : Str)).length = near.length + 1 := appS_len
    have a2 : (near ++ ("kk" : Str)).length = near.length + 2 := appS_len
    refine ⟨by omega, by omega, by omega, by omega, by decide, (fun _ z => nomatch z)⟩
  have enD : [D.str (near ++ "k"), D.str (cutS near none (some (-1))), D.str (near ++ "kk"), D.str (cutS near (some 1) none), D.str "strange"] = nD fs := by rw [← efs]; rfl
  dsimp only
  rw [enD]
  refine ⟨_, newL_eq (by rw [nD_len, lfs]; decide), _, rfl, ?_⟩
  dsimp only [List.set]
  have hS1 : S1.length ≠ h := by have := p1.lt; omega
  rw [so_seq, so_set]
  refine pot_draw (k := k) (many := 4) (p1.kp Kp.new (M := []) (fun z => nomatch z)) (vr rfl) (fun _ => rfl) (by decide) (by decide) fun r S2 r0 r3 p2 k2 => ⟨_, rfl, ?_⟩
  obtain ⟨n, rfl⟩ := Int.eq_ofNat_of_zero_le r0
  have e2 : S2[S1.length]? = some (.lst (nD fs)) := k2.get _ _ (fun z => hS1 (List.mem_singleton.mp z)) new_get
  have K2 : Kp [h] S S2 := k1.trans (Kp.new.trans k2)
  dsimp only [List.set]
  rw [so_seq, so_set, ok_eOp, ok_eCut, ok_eVar (d := .ref S1.length) (by rfl), ok_oSome, ok_eVar (d := .int n) (by rfl)]
  refine ⟨_, rfl, ?_⟩
  rw [ok_oNone]
  refine ⟨_, cutL e2, ?_⟩
  rw [cut_drop, show (nD fs).drop n = nD (fs.drop n) from by unfold nD; rw [List.map_drop]]
  have e3 : (S2 ++ [MO.lst (nD (fs.drop n))])[S2.length]? = some (.lst (nD (fs.drop n))) := new_get
  have K3 : Kp [] S2 (S2 ++ [MO.lst (nD (fs.drop n))]) := Kp.new
  dsimp only
  generalize (S2 ++ [MO.lst (nD (fs.drop n))]) = S3 at e3 K3
  rw [ok_eLst, ok_aCons, ok_eC, ok_aNil]
  refine ⟨_, newL_eq (show 1 ≤ lim by decide), ?_⟩
  have e4 : (S3 ++ [MO.lst [D.str "strange"]])[S3.length]? = some (.lst (nD ["strange"])) := new_get
  have K4 : Kp [] S3 (S3 ++ [MO.lst [D.str "strange"]]) := Kp.new
  dsimp only
  generalize (S3 ++ [MO.lst [D.str "strange"]]) = S4 at e4 K4
  refine ⟨_, addL (K4.get _ _ (fun z => nomatch z) e3) e4 (by rw [List.length_drop]; simp; omega), _, rfl, ?_⟩
  have e5 : (S4 ++ [MO.lst (nD (fs.drop n ++ [("strange" : Str)]))])[S4.length]? = some (.lst (nD (fs.drop n ++ [("strange" : Str)]))) := new_get
  have K5 : Kp [] S4 (S4 ++ [MO.lst (nD (fs.drop n ++ [("strange" : Str)]))]) := Kp.new
  dsimp only
  generalize (S4 ++ [MO.lst (nD (fs.drop n ++ [("strange" : Str)]))]) = S5 at e5 K5
  have lgs : (fs.drop n ++ [("strange" : Str)]).length ≤ 6 := by rw [List.length_append, List.length_drop]; simp; omega
  have sgs : ∀ x ∈ fs.drop n ++ [("strange" : Str)], x.length ≤ 100 := fun x m => by
    rcases List.mem_append.mp m with m | m
    · exact sfs x (List.mem_of_mem_drop m)
    · rw [List.mem_singleton.mp m]; decide
  have lastg : ("strange" : Str) ∈ fs.drop n ++ [("strange" : Str)] := List.mem_append_right _ (List.mem_singleton_self _)
  generalize fs.drop n ++ [("strange" : Str)] = gs at e5 lgs sgs lastg
  dsimp only [List.set]
  rw [so_ret, ok_eOp]
  refine ok_lc (xs := nD gs) (it := .seq S4.length) (fun d => isWd 8 d && !memN (G.A ++ G.O) d) (fun d => d) (anyV (d := .ref S4.length) (by rfl) (by simp only [itOf, e5])) (by rw [nD_len]; unfold lim; omega) (seq_nx e5) (fun x S6 mx k6 => ?_) fun S6 e6 k6 => ?_
  · obtain ⟨y, my, rfl⟩ := List.mem_map.mp mx
    refine ⟨_, rfl, ?_⟩
    dsimp only [wipeM, List.set]
    rw [ok_tAnd, ok_tTru, ok_eCall, ok_aCons, ok_eVar (d := .str y) (by rfl), ok_aCons, ok_eC, ok_aNil]
    refine ok_mono (law_word_spec (m := 8) (x := y) (Nat.le_trans (sgs y my) (by decide))) (fun r S7 hr => ?_) fun _ _ _ z => z
    obtain ⟨rfl, k7⟩ := hr
    refine ⟨_, rfl, ?_⟩
    by_cases hw : Wd 8 y
    · rw [isWd_iff.mpr hw, if_pos rfl, ok_tBl, ok_eOp, ok_eVar (d := .str y) (by rfl), ok_eVar (d := .tup (nD (G.A ++ G.O))) (by rfl)]
      refine ⟨_, ninN o.strOk hw.strOk, _, rfl, k7, ?_, fun _ => ?_⟩
      · rfl
      · rw [ok_eVar (d := .str y) (by rfl)]
        exact ⟨Kp.refl, rfl⟩
    · have hf : isWd 8 (.str y) = false := by
        rw [Bool.eq_false_iff]
        exact fun z => hw (isWd_iff.mp z)
      rw [hf, if_neg (by decide), ok_pur]
      exact ⟨k7, rfl, fun z => nomatch z⟩
  · rw [List.map_id'] at e6
    rw [ok_eC]
    have mz : D.str "strange" ∈ (nD gs).filter fun d => isWd 8 d && !memN (G.A ++ G.O) d := by
      rw [List.mem_filter]
      refine ⟨nD_mem.mpr lastg, ?_⟩
      rw [isWd_iff.mpr ⟨by decide, by decide, by decide⟩]
      have : memN (G.A ++ G.O) (.str "strange") = false := by
        rw [Bool.eq_false_iff]
        intro z
        have := (w5 _ (nD_mem.mp (memN_iff.mp z))).2.1
        exact absurd this (by decide)
      rw [this]; rfl
    have mem0 : ∀ z zs, (nD gs).filter (fun d => isWd 8 d && !memN (G.A ++ G.O) d) = z :: zs → ∃ y, z = .str y ∧ Wd 8 y ∧ y ∉ G.A ++ G.O := by
      intro z zs e
      have m : z ∈ (nD gs).filter fun d => isWd 8 d && !memN (G.A ++ G.O) d := by rw [e]; exact List.mem_cons_self
      rw [List.mem_filter, Bool.and_eq_true] at m
      obtain ⟨y, my, rfl⟩ := List.mem_map.mp m.1
      exact ⟨y, rfl, isWd_iff.mp m.2.1, fun q => by
        have h2 := m.2.2
        rw [memN_iff.mpr (nD_mem.mpr q)] at h2
        cases h2⟩
    generalize (nD gs).filter (fun d => isWd 8 d && !memN (G.A ++ G.O) d) = zs at e6 mz mem0
    cases zs with
    | nil => cases mz
    | cons z zs =>
      obtain ⟨y, rfl, wy, ny⟩ := mem0 _ _ rfl
      have KK : Kp [] S2 S6 := K3.trans (K4.trans (K5.trans k6))
      exact ⟨_, idxL e6 (show L2.atI (D.str y :: zs) ((0 : Nat) : Int) = some (.str y) from atI_nat rfl), y, rfl, wy, ny, p2.kp KK (fun z => nomatch z), K2.trans (KK.wk (fun _ z => nomatch z))⟩
theorem odd_spec {S : Store} {h k : Nat} {X : XP} (p : PotOk S h (k + 1)) : ok (C.g__law_odd [.ref h] S) (fun d S' => OdD [h] S' 1 d ∧ (isWd 8 d = false ∧ (isTp d = true → d = .tup [] ∨ d = .tup [.str "a"])) ∧ PotOk S' h k ∧ Kp [h] S S') X := by
  unfold C.g__law_odd
  rw [run1]
  unfold C.b__law_odd
  have hne : h ≠ S.length := by have := p.lt; omega
  have hlt := p.lt
  simp only [so_seq, so_set, ok_eLst, ok_aCons, ok_aNil, ok_eC, ok_eUn, ok_eOp, ok_eTup]
  refine ⟨(.int (-1), S), rfl, _, powI rfl, _, tupO_eq (show 1 ≤ lim by decide), _, newL_eq (show 1 ≤ lim by decide), _, newL_eq (show 0 ≤ lim by decide), _, tupO_eq (show 0 ≤ lim by decide), _, newL_eq (show 20 ≤ lim by decide), _, rfl, ?_⟩
  have eA : ((S ++ [MO.lst [D.str "a"]]) ++ [MO.lst []])[S.length]? = some (.lst [.str "a"]) := (Kp.new (M := [])).get _ _ (fun z => nomatch z) new_get
  have eB : ((S ++ [MO.lst [D.str "a"]]) ++ [MO.lst []])[(S ++ [MO.lst [D.str "a"]]).length]? = some (.lst []) := new_get
  have k0 : Kp [] S ((S ++ [MO.lst [D.str "a"]]) ++ [MO.lst []]) := Kp.new.trans Kp.new
  have hB : (S ++ [MO.lst [D.str "a"]]).length ≠ h := by rw [List.length_append]; simp only [List.length_cons, List.length_nil]; omega
  generalize (S ++ [MO.lst [D.str "a"]]).length = nB at eB hB
  generalize ((S ++ [MO.lst [D.str "a"]]) ++ [MO.lst []]) = S1 at eA eB k0
  dsimp only
  generalize eds : ([D.non, .bl true, .bl false, .int 0, .int 7, .int (-1), .int (10 ^ (30 : Int).toNat), .str "", .str "A", .str "a b", .str "abcdefghi", .str "a1", .str "t-", .tup [.str "a"], .ref S.length, .ref nB, .tup [], .str "Zz", .str " a", .str "a\n"] : List D) = ds
  have lds : ds.length = 20 := by rw [← eds]; rfl
  have k1 : Kp [] S1 (S1 ++ [MO.lst ds]) := Kp.new
  have eD : (S1 ++ [MO.lst ds])[S1.length]? = some (.lst ds) := new_get
  have hS1 : S1.length ≠ h := by have := k0.len; omega
  generalize (S1 ++ [MO.lst ds]) = S2 at k1 eD
  dsimp only [List.set, List.replicate]
  rw [so_ret, ok_eOp, ok_eVar (d := .ref S1.length) (by rfl)]
  refine pot_draw (many := 20) ((p.kp k0 (fun z => nomatch z)).kp k1 (fun z => nomatch z)) (vr rfl) (fun Q => ?_) (by decide) (by decide) fun r S3 r0 r3 p3 k3 => ?_
  · rw [ok_eB, ok_aCons, ok_eVar (d := .ref S1.length) (by rfl), ok_aNil, lenL eD, lds]
    exact propext ⟨fun ⟨_, e, q⟩ => by cases e; exact q, fun q => ⟨_, rfl, q⟩⟩
  · obtain ⟨n, rfl⟩ := Int.eq_ofNat_of_zero_le r0
    have hn : n < ds.length := by omega
    refine ⟨_, idxL (k3.get _ _ (fun z => hS1 (List.mem_singleton.mp z)) eD) (atI_nat (List.getElem?_eq_getElem hn)), ?_, ?_, p3, ((k0.trans k1).wk (fun _ z => nomatch z)).trans k3⟩
    all_goals have m : ds[n] ∈ ds := List.getElem_mem hn
    rotate_left
    · have all : ∀ d ∈ ds, isWd 8 d = false ∧ (isTp d = true → d = .tup [] ∨ d = .tup [.str "a"]) := by
        rw [← eds]
        simp only [List.forall_mem_cons]
        refine ⟨⟨rfl, fun z => nomatch z⟩, ⟨rfl, fun z => nomatch z⟩, ⟨rfl, fun z => nomatch z⟩, ⟨rfl, fun z => nomatch z⟩, ⟨rfl, fun z => nomatch z⟩, ⟨rfl, fun z => nomatch z⟩, ⟨rfl, fun z => nomatch z⟩, ⟨by decide, fun z => nomatch z⟩, ⟨by decide, fun z => nomatch z⟩, ⟨by decide, fun z => nomatch z⟩, ⟨by decide, fun z => nomatch z⟩, ⟨by decide, fun z => nomatch z⟩, ⟨by decide, fun z => nomatch z⟩, ⟨rfl, fun _ => by simp⟩, ⟨rfl, fun z => nomatch z⟩, ⟨rfl, fun z => nomatch z⟩, ⟨rfl, fun _ => by simp⟩, ⟨by decide, fun z => nomatch z⟩, ⟨by decide, fun z => nomatch z⟩, ⟨by decide, fun z => nomatch z⟩, (fun _ z => nomatch z)⟩
      exact all _ m
    have gA : S3[S.length]? = some (.lst [.str "a"]) := k3.get _ _ (fun z => hne (List.mem_singleton.mp z).symm) (k1.get _ _ (fun z => nomatch z) eA)
    have gB : S3[nB]? = some (.lst []) := k3.get _ _ (fun z => hB (List.mem_singleton.mp z)) (k1.get _ _ (fun z => nomatch z) eB)
    have all : ∀ d ∈ ds, OdD [h] S3 1 d := by
      rw [← eds]
      have st : ∀ x : Str, x.length ≤ 20 → PyData.strOk x = true → OdD [h] S3 1 (.str x) := fun x l o => .str o (by unfold lim; omega)
      have st0 : ∀ x : Str, x.length ≤ 20 → PyData.strOk x = true → OdD [h] S3 0 (.str x) := fun x l o => .str o (by unfold lim; omega)
      simp only [List.forall_mem_cons]
      refine ⟨.non, .bl _, .bl _, .int _, .int _, .int _, .int _, st _ (by decide) (by decide +kernel), st _ (by decide) (by decide +kernel), st _ (by decide) (by decide +kernel), st _ (by decide) (by decide +kernel), st _ (by decide) (by decide +kernel), st _ (by decide) (by decide +kernel), ?_, ?_, ?_, ?_, st _ (by decide) (by decide +kernel), st _ (by decide) (by decide +kernel), st _ (by decide) (by decide +kernel), (fun _ z => nomatch z)⟩
      · exact .tup (by decide) fun d m => by rw [List.mem_singleton.mp m]; exact st0 _ (by decide) (by decide +kernel)
      · exact .lst (fun z => hne (List.mem_singleton.mp z).symm) gA (by decide) fun d m => by rw [List.mem_singleton.mp m]; exact st0 _ (by decide) (by decide +kernel)
      · exact .lst (fun z => hB (List.mem_singleton.mp z)) gB (by decide) fun d m => nomatch m
      · exact .tup (by decide) fun d m => nomatch m
    exact all _ m
end
section
open PySem L2 PySem.W PyProof.Rows
open En (enc pd dep)
theorem odd_K {S : Store} {h k : Nat} {P : D → Store → Prop} {X : XP} (p : PotOk S h (k + 1)) (K : ∀ d S', OdD [h] S' 1 d → isWd 8 d = false → PotOk S' h k → Kp [h] S S' → P d S') : ok (C.g__law_odd [.ref h] S) P X :=
  ok_mono (odd_spec p) (fun d S' ⟨a, b, c, e⟩ => K d S' a b.1 c e) fun _ _ _ z => z
theorem stranger_K {S : Store} {h k : Nat} {g : Gt} {P : D → Store → Prop} {X : XP} (p : PotOk S h (k + 2)) (o : GOk g) (sh : Short g) (K : ∀ (y : Nm) S', y ∉ g.N → PotOk S' h k → Kp [h] S S' → P (enc y) S') : ok (C.g__law_stranger [.ref h, enc g] S) P X := by
  rw [← Gt.gr_d]
  have mem : ∀ {x : Str}, x ∈ g.gr.A ++ g.gr.O ↔ ∃ y ∈ g.N, y.s = x := fun {x} => by
    show x ∈ wS g.A ++ wS g.O ↔ _
    unfold wS Gt.N
    rw [← List.map_append]
    exact List.mem_map
  refine ok_mono (stranger_spec p o.gr fun x m => ?_) (fun d S' hd => ?_) fun _ _ _ z => z
  · obtain ⟨y, my, rfl⟩ := mem.mp m
    exact ⟨y.w.1, sh y my, y.w.2.2⟩
  · obtain ⟨y, rfl, wy, ny, p2, k2⟩ := hd
    exact K ⟨y, wy⟩ S' (fun m => ny (mem.mpr ⟨_, m, rfl⟩)) p2 k2
end
section
open PySem L2 PySem.W PyProof.Rows
open En (enc pd dep)
section
variable {L : List Nat} {S : Store} {ρ : Env} {fa fb : ME} {fs : Env → M (List D)} {d : D} {n m h k : Nat}
theorem k_pick {i j : Nat} {ds : List D} {P : D → Store → Prop} {Y : XP} (p : PotOk S h (k + 1)) (hi : ρ[i]? = some (some (.ref h))) (hj : ρ[j]? = some (some d)) (q : ∀ S', Kp [h] S S' → IsSq S' d ds) (l1 : 1 ≤ ds.length) (l2 : ds.length < 1000000)
    (K : ∀ x ∈ ds, ∀ S', PotOk S' h k → Kp [h] S S' → P x S') : ok (eOp pIdx (eVar j) (eCall C.g__law_draw (aCons (eVar i) (aCons (eB nLen (aCons (eVar j) aNil)) aNil))) ρ S) P Y := by
  apply k_op
  apply k_var hj
  refine k_draw p hi (ev_lenD (ev_var hj) (q S .refl)) l1 l2 fun r S' hr p' k' => ?_
  exact ⟨_, (q S' k').idx (atI_nat (List.getElem?_eq_getElem hr)), K _ (List.getElem_mem hr) S' p' k'⟩
theorem lstq {n : Nat} {ds : List D} (e : S[n]? = some (.lst ds)) (hn : n ≠ h) : ∀ S', Kp [h] S S' → IsSq S' (.ref n) ds := fun S' k => .lst (k.get _ _ (fun z => hn (List.mem_singleton.mp z)) e)
end
end
section
open PySem L2 PySem.W PyProof.Rows
open En (enc pd dep)
def keyW {m : Nat} (x : Wrd m) : Key := .inr x.s
theorem keyW_inj {m : Nat} {x y : Wrd m} : keyW x = keyW y ↔ x = y := ⟨fun h => Wrd.ext (Sum.inr.inj h), fun h => h ▸ rfl⟩
abbrev Dc (m : Nat) := List (Wrd m × D)
section
variable {m : Nat}
def dicE (l : Dc m) : List (Key × D) := l.map fun p => (keyW p.1, p.2)
def lookT (l : Dc m) (x : Wrd m) : Option D := (l.find? fun p => decide (p.1 = x)).map (·.2)
def putT (l : Dc m) (x : Wrd m) (v : D) : Dc m := if l.any (fun p => decide (p.1 = x)) = true then l.map (fun p => if p.1 = x then (p.1, v) else p) else l ++ [(x, v)]
abbrev keysT (l : Dc m) : List (Wrd m) := l.map (·.1)
theorem getM_dicE (l : Dc m) (x : Wrd m) : getM (dicE l) (keyW x) = lookT l x := by
  unfold getM lookT dicE
  induction l with
  | nil => rfl
  | cons p l ih =>
    rw [List.map_cons, List.find?_cons, List.find?_cons]
    by_cases h : p.1 = x
    · rw [decide_eq_true h, decide_eq_true (keyW_inj.mpr h)]; rfl
    · rw [decide_eq_false h, decide_eq_false fun z => h (keyW_inj.mp z)]
      exact ih
theorem putM_dicE (l : Dc m) (x : Wrd m) (v : D) : putM (dicE l) (keyW x) v = dicE (putT l x v) := by
  unfold putM putT dicE
  have e : (List.map (fun p : Wrd m × D => (keyW p.1, p.2)) l).any (fun kv => decide (kv.1 = keyW x)) = l.any (fun p => decide (p.1 = x)) := by
    rw [List.any_map]
    congr 1
    funext p
    exact decide_eq_decide.mpr keyW_inj
  rw [e]
  split
  · rw [List.map_map, List.map_map]
    refine List.map_congr_left fun p _ => ?_
    show (if keyW p.1 = keyW x then (keyW p.1, v) else (keyW p.1, p.2)) = _
    by_cases h : p.1 = x
    · rw [if_pos (keyW_inj.mpr h)]
      show _ = (fun p : Wrd m × D => (keyW p.1, p.2)) (if p.1 = x then (p.1, v) else p)
      rw [if_pos h]
    · rw [if_neg fun z => h (keyW_inj.mp z)]
      show _ = (fun p : Wrd m × D => (keyW p.1, p.2)) (if p.1 = x then (p.1, v) else p)
      rw [if_neg h]
  · rw [List.map_append]; rfl
theorem any_keys {l : Dc m} {x : Wrd m} : l.any (fun p => decide (p.1 = x)) = decide (x ∈ keysT l) := by
  rw [Bool.eq_iff_iff, List.any_eq_true, decide_eq_true_eq, List.mem_map]
  exact ⟨fun ⟨p, h, e⟩ => ⟨p, h, of_decide_eq_true e⟩, fun ⟨p, h, e⟩ => ⟨p, h, decide_eq_true e⟩⟩
theorem look_put {l : Dc m} {x y : Wrd m} {v : D} : lookT (putT l x v) y = if y = x then some v else lookT l y := by
  unfold putT
  rw [any_keys]
  simp only [decide_eq_true_eq]
  unfold lookT
  split
  · rename_i hx
    induction l with
    | nil => cases hx
    | cons p l ih =>
      rw [List.map_cons, List.find?_cons, List.find?_cons]
      by_cases hp : p.1 = x
      · rw [if_pos hp]
        by_cases hy : y = x
        · rw [if_pos hy, decide_eq_true (show (p.1, v).1 = y from hp.trans hy.symm)]; rfl
        · rw [if_neg hy, decide_eq_false (show ¬ (p.1, v).1 = y from fun z => hy (z.symm.trans hp))]
          dsimp only
          by_cases h2 : x ∈ keysT l
          · rw [ih h2, if_neg hy]
          · have : l.map (fun p => if p.1 = x then (p.1, v) else p) = l := by
              conv => rhs; rw [← List.map_id l]
              refine List.map_congr_left fun q hq => ?_
              rw [if_neg fun z => h2 (List.mem_map.mpr ⟨q, hq, z⟩)]; rfl
            rw [this]
      · rw [if_neg hp]
        have h2 : x ∈ keysT l := by
          rcases List.mem_cons.mp hx with h | h
          · exact absurd h.symm hp
          · exact h
        by_cases h3 : p.1 = y
        · rw [decide_eq_true h3, if_neg (fun z => hp (h3.trans z))]
        · rw [decide_eq_false h3]
          exact ih h2
  · rename_i hx
    rw [List.find?_append]
    by_cases hy : y = x
    · subst hy
      rw [if_pos rfl]
      have : l.find? (fun p => decide (p.1 = y)) = none := List.find?_eq_none.mpr fun p hp z => hx (List.mem_map.mpr ⟨p, hp, of_decide_eq_true z⟩)
      rw [this]
      simp
    · rw [if_neg hy]
      have : List.find? (fun p : Wrd m × D => decide (p.1 = y)) [(x, v)] = none := by simp [Ne.symm hy]
      rw [this, Option.or_none]
theorem look_mem {l : Dc m} {x : Wrd m} : (lookT l x).isSome = decide (x ∈ keysT l) := by
  rw [← any_keys, Bool.eq_iff_iff]
  unfold lookT
  rw [Option.isSome_map, List.find?_isSome, List.any_eq_true]
def Dic (S : Store) (h : Nat) (l : Dc m) : Prop := S[h]? = some (.dK (dicE l))
theorem Dic.kp {M : List Nat} {S S' : Store} {h : Nat} {l : Dc m} (d : Dic S h l) (k : Kp M S S') (hm : h ∉ M) : Dic S' h l := k.get _ _ hm d
variable {S : Store} {ρ : Env} {fa fb fv fo fi : ME} {h : Nat} {l : Dc m} {x : Wrd m}
theorem Dic.inn (d : Dic S h l) : pIn (enc x) (.ref h) S = some (.bl (decide (x ∈ keysT l)), S) := by
  show (inD S (.str x.s) (.ref h)).map _ = _
  have : inD S (.str x.s) (.ref h) = some (decide (x ∈ keysT l)) := by
    have e : S[h]? = some (.dK (dicE l)) := d
    simp only [inD, e, dLook, keyOf, Option.map_some]
    rw [← look_mem, ← getM_dicE]; rfl
  rw [this]; rfl
theorem Dic.nin (d : Dic S h l) : pNotIn (enc x) (.ref h) S = some (.bl (!decide (x ∈ keysT l)), S) := by
  show (inD S (.str x.s) (.ref h)).map _ = _
  have : inD S (.str x.s) (.ref h) = some (decide (x ∈ keysT l)) := by
    have e : S[h]? = some (.dK (dicE l)) := d
    simp only [inD, e, dLook, keyOf, Option.map_some]
    rw [← look_mem, ← getM_dicE]; rfl
  rw [this]; rfl
theorem Dic.idx (d : Dic S h l) {v : D} (e : lookT l x = some v) : pIdx (.ref h) (enc x) S = some (v, S) := by
  have e1 : S[h]? = some (.dK (dicE l)) := d
  have e2 : dLook (.dK (dicE l)) (.str x.s) = some (some v) := by
    show some (getM (dicE l) (keyW x)) = _
    rw [getM_dicE, e]
  show pIdx (.ref h) (.str x.s) S = _
  simp only [pIdx, e1, e2]
theorem Dic.set (d : Dic S h l) (hl : l.length < lim) {v : D} : pSet (.ref h) (enc x) v S = some (S.set h (.dK (dicE (putT l x v)))) := by
  have e1 : S[h]? = some (.dK (dicE l)) := d
  show pSet (.ref h) (.str x.s) v S = _
  simp only [pSet, e1, keyOf]
  rw [if_pos (by unfold dicE; rw [List.length_map]; exact hl), ← putM_dicE]; rfl
theorem Dic.put (d : Dic S h l) {v : D} : Dic (S.set h (.dK (dicE (putT l x v)))) h (putT l x v) := set_get d
theorem ev_dn : EvP (eDn ρ) S fun d T => ∃ h, d = .ref h ∧ Dic T h ([] : Dc m) ∧ S.length ≤ h := fun S1 k => ⟨⟨S1.length, rfl, new_get, k.len⟩, Kp.new⟩
theorem len_put (l : Dc m) (x : Wrd m) (v : D) : (putT l x v).length ≤ l.length + 1 := by
  unfold putT
  split
  · rw [List.length_map]; omega
  · rw [List.length_append]; exact Nat.le_refl _
end
end
end Mini


namespace Mini
open PySem L2 PySem.W PyProof.Rows
-- side goals
local macro_rules | `(tactic| bv_omega) => `(tactic| first | decide | assumption | exact Flat.le | infer_instance | omega | (simp only [List.length_append, List.length_map, List.length_filter]; omega) | (simp; omega))
-- what an expression evaluates to
local macro_rules | `(tactic| array_get_dec) => `(tactic| first
  | assumption
  | ((with_reducible apply ev_var); rfl)
  | ((with_reducible apply ev_Ce); first | rfl | exact enc_w (by decide))
  | ((with_reducible apply ea_nil))
  | ((with_reducible apply et_yes))
  | ((with_reducible apply et_and); array_get_dec; (intro _; array_get_dec))
  | ((with_reducible apply et_or); array_get_dec; (intro _; array_get_dec))
  | ((with_reducible apply et_not); array_get_dec)
  | ((with_reducible apply et_bl); array_get_dec)
  | ((with_reducible apply et_tru); array_get_dec)
  | ((with_reducible apply et_truL); array_get_dec)
  | ((with_reducible apply ev_and); array_get_dec; (intro _; array_get_dec))
  | ((with_reducible apply ev_or); array_get_dec; (intro _; array_get_dec))
  | ((with_reducible apply ev_not); array_get_dec)
  | ((with_reducible apply ev_eq); array_get_dec; array_get_dec; bv_omega)
  | ((with_reducible apply ev_ne); array_get_dec; array_get_dec; bv_omega)
  | ((with_reducible apply ev_in); array_get_dec; array_get_dec; bv_omega)
  | ((with_reducible apply ev_nin); array_get_dec; array_get_dec; bv_omega)
  | ((with_reducible apply ev_ix); array_get_dec; rfl)
  | ((with_reducible apply ev_lt); array_get_dec; array_get_dec; bv_omega)
  | ((with_reducible apply ev_gt); array_get_dec; array_get_dec; bv_omega)
  | ((with_reducible apply ev_le); array_get_dec; array_get_dec; bv_omega)
  | ((with_reducible apply ev_ge); array_get_dec; array_get_dec; bv_omega)
  | ((with_reducible apply ev_addT); array_get_dec; array_get_dec; bv_omega)
  | ((with_reducible apply ev_addN); array_get_dec; array_get_dec)
  | ((with_reducible apply ev_addI); array_get_dec; array_get_dec)
  | ((with_reducible apply ev_subI); array_get_dec; array_get_dec)
  | ((with_reducible apply ev_qui); array_get_dec; array_get_dec; array_get_dec; array_get_dec; array_get_dec)
  | ((with_reducible apply ev_qua); array_get_dec; array_get_dec; array_get_dec; array_get_dec)
  | ((with_reducible apply ev_ifE); array_get_dec; (intro _; array_get_dec); (intro _; array_get_dec))
  | ((with_reducible apply ev_tri); array_get_dec; array_get_dec; array_get_dec)
  | ((with_reducible apply ev_pair); array_get_dec; array_get_dec)
  | ((with_reducible apply ev_len); array_get_dec)
  | ((with_reducible apply ev_tuple); array_get_dec)
  | ((with_reducible apply ev_all); array_get_dec)
  | ((with_reducible apply ev_any); array_get_dec)
  | ((with_reducible apply ea_cons); array_get_dec; array_get_dec)
  | ((with_reducible apply ei_any); array_get_dec)
  | ((with_reducible apply el_lc1); array_get_dec; bv_omega; (intro x hx; refine ⟨_, rfl, ?_⟩; apply Exists.intro; apply And.intro; array_get_dec; rfl))
  | ((with_reducible apply el_lc); array_get_dec; bv_omega; (intro x hx; refine ⟨_, rfl, ?_, ?_⟩; (apply Exists.intro; apply And.intro; array_get_dec; rfl); (intro hp; apply Exists.intro; apply And.intro; array_get_dec; rfl)))
  | ((with_reducible apply el_sortSet); array_get_dec; infer_instance; infer_instance; infer_instance; bv_omega)
  | ((with_reducible apply el_sorted); array_get_dec; infer_instance; infer_instance; bv_omega)
  | ((with_reducible apply el_list); array_get_dec)
  | ((with_reducible apply el_nil))
  | ((with_reducible apply el_one); array_get_dec)
  | ((with_reducible apply ev_oneT); array_get_dec)
  | ((with_reducible apply ev_nilT))
  | ((with_reducible apply es_ref); rfl; assumption)
  | ((with_reducible apply es_of); array_get_dec)
  | ((with_reducible apply es_el); array_get_dec))
section
open PySem L2 PySem.W PyProof.Rows
open En (enc pd dep)
inductive Rc (E : Nm → List Nm) (x : Nm) : Nm → Prop
  | refl : Rc E x x
  | step {y z : Nm} : Rc E x y → z ∈ E y → Rc E x z
theorem nodup_len {N xs : List Nm} (n : xs.Nodup) (s : ∀ y ∈ xs, y ∈ N) : xs.length ≤ N.length := by
  induction xs generalizing N with
  | nil => exact Nat.zero_le _
  | cons x xs ih =>
    obtain ⟨a, b, rfl⟩ := List.append_of_mem (s x List.mem_cons_self)
    obtain ⟨n1, n2⟩ := List.nodup_cons.mp n
    have := ih (N := a ++ b) n2 fun y m => by
      have h := s y (List.mem_cons_of_mem _ m)
      rw [List.mem_append, List.mem_cons] at h
      rw [List.mem_append]
      rcases h with h | rfl | h
      · exact .inl h
      · exact absurd m n1
      · exact .inr h
    rw [List.length_append] at this
    rw [List.length_cons, List.length_append, List.length_cons]
    omega
end
section
open PySem L2 PySem.W PyProof.Rows
open En (enc pd dep)
section
variable {P : D → Store → Prop} {X : XP} {S : Store} {ρ : Env} {fo fa fb fe : ME} {fs : Env → M (List D)} {n f : Str} {g : List D → M D}
theorem ok_eGet : ok (eGet fo fa fb ρ S) P X = ok (fo ρ S) (fun o S1 => dicO S1 o = true ∧ ok (fa ρ S1) (fun k S2 => ok (fb ρ S2) (fun x S3 => ∃ p, getO o k x S3 = some p ∧ P p.1 p.2) X) X) X := by
  simp only [eGet, ok_bnd]
  congr 1; funext o S1
  by_cases h : dicO S1 o = true
  · rw [if_pos h]; simp [h]
  · rw [if_neg h]; simp [h]
theorem ok_eSetd : ok (eSetd fo fa fb ρ S) P X = ok (fo ρ S) (fun o S1 => dicO S1 o = true ∧ ok (fa ρ S1) (fun k S2 => ok (fb ρ S2) (fun x S3 => ∃ p, setdO o k x S3 = some p ∧ P p.1 p.2) X) X) X := by
  simp only [eSetd, ok_bnd]
  congr 1; funext o S1
  by_cases h : dicO S1 o = true
  · rw [if_pos h]; simp [h]
  · rw [if_neg h]; simp [h]
end
section
variable {m : Nat}
def DiL (b : Bool) (S : Store) (h : Nat) (l : Dc m) : Prop := S[h]? = some (if b = true then .fK (dicE l) else .dK (dicE l))
theorem DiL.kp {M : List Nat} {S S' : Store} {b : Bool} {h : Nat} {l : Dc m} (d : DiL b S h l) (k : Kp M S S') (hm : h ∉ M) : DiL b S' h l := k.get _ _ hm d
theorem Dic.dil {S : Store} {h : Nat} {l : Dc m} (d : Dic S h l) : DiL false S h l := d
theorem DiL.look {b : Bool} {S : Store} {h : Nat} {l : Dc m} (d : DiL b S h l) (x : Wrd m) : ∃ mo, S[h]? = some mo ∧ dLook mo (enc x) = some (lookT l x) ∧ dicO S (.ref h) = true := by
  cases b with
  | false =>
    have e : S[h]? = some (.dK (dicE l)) := d
    refine ⟨_, e, ?_, by simp only [dicO, e]⟩
    show some (getM (dicE l) (keyW x)) = _
    rw [getM_dicE]
  | true =>
    have e : S[h]? = some (.fK (dicE l)) := d
    refine ⟨_, e, ?_, by simp only [dicO, e]⟩
    show some (getM (dicE l) (keyW x)) = _
    rw [getM_dicE]
theorem DiL.get {b : Bool} {S : Store} {h : Nat} {l : Dc m} (d : DiL b S h l) {x : Wrd m} {v : D} : getO (.ref h) (enc x) v S = some ((lookT l x).getD v, S) := by
  obtain ⟨mo, e, lk, _⟩ := d.look x
  simp only [getO, e, lk]; rfl
theorem DiL.inn {b : Bool} {S : Store} {h : Nat} {l : Dc m} (d : DiL b S h l) {x : Wrd m} : inD S (enc x) (.ref h) = some (decide (x ∈ keysT l)) := by
  rw [← look_mem]
  show inD S (.str x.s) (.ref h) = _
  cases b with
  | false =>
    have e : S[h]? = some (.dK (dicE l)) := d
    simp only [inD, e, dLook, keyOf, Option.map_some]
    rw [← getM_dicE]; rfl
  | true =>
    have e : S[h]? = some (.fK (dicE l)) := d
    simp only [inD, e, dLook, keyOf, Option.map_some]
    rw [← getM_dicE]; rfl
theorem Dic.setd {S : Store} {h : Nat} {l : Dc m} (d : Dic S h l) (hl : l.length < lim) {x : Wrd m} {v : D} : setdO (.ref h) (enc x) v S = some (match lookT l x with
    | some w => (w, S)
    | none => (v, S.set h (.dK (dicE (putT l x v))))) := by
  have e : S[h]? = some (.dK (dicE l)) := d
  show setdO (.ref h) (.str x.s) v S = _
  have hl' : (dicE l).length < lim := by unfold dicE; rw [List.length_map]; exact hl
  simp only [setdO, e, keyOf]
  rw [if_pos hl', show getM (dicE l) (Sum.inr x.s) = lookT l x from getM_dicE l x]
  cases lookT l x with
  | some w => rfl
  | none => rw [show putM (dicE l) (Sum.inr x.s) v = dicE (putT l x v) from putM_dicE l x v]
end
def thgs (H : List Hd) (r : Rt) (x : Nm) : List Nm := (H.filter fun k => decide (k.z = r) && decide (k.x = x)).map (·.y)
structure Tab (S : Store) (k : Nat) (l : Dc 8) (E : Nm → List Nm) (B C : Nat) : Prop where
  d : Dic S k l
  kB : B ≤ k
  kC : k < C
  no : ∀ x, lookT l x = none → E x = []
  row : ∀ x d, lookT l x = some d → ∃ r, d = .ref r ∧ B ≤ r ∧ r < C ∧ S[r]? = some (.lst ((E x).map enc))
theorem Tab.kp {S S' : Store} {k B C : Nat} {l : Dc 8} {E : Nm → List Nm} {L : List Nat} (q : Tab S k l E B C) (kk : Kp L S S') (h : ∀ i ∈ L, i < B ∨ C ≤ i) : Tab S' k l E B C :=
  ⟨q.d.kp kk (fun z => by have := h k z; have := q.kB; have := q.kC; omega), q.kB, q.kC, q.no, fun x d e => let ⟨r, e1, e2, e3, e4⟩ := q.row x d e; ⟨r, e1, e2, e3, kk.get _ _ (fun z => by have := h r z; omega) e4⟩⟩
theorem Tab.wk {S : Store} {k B C B' C' : Nat} {l : Dc 8} {E : Nm → List Nm} (q : Tab S k l E B C) (h1 : B' ≤ B) (h2 : C ≤ C') : Tab S k l E B' C' :=
  ⟨q.d, by have := q.kB; omega, by have := q.kC; omega, q.no, fun x d e => let ⟨r, e1, e2, e3, e4⟩ := q.row x d e; ⟨r, e1, by omega, by omega, e4⟩⟩
theorem thgs_snoc {H : List Hd} {h : Hd} {r : Rt} {x : Nm} : thgs (H ++ [h]) r x = if h.z = r ∧ h.x = x then thgs H r x ++ [h.y] else thgs H r x := by
  unfold thgs
  rw [List.filter_append, List.map_append]
  by_cases c : h.z = r ∧ h.x = x
  · rw [if_pos c, List.filter_cons_of_pos (by simp [c.1, c.2])]; rfl
  · rw [if_neg c, List.filter_cons_of_neg (by simp only [Bool.and_eq_true, decide_eq_true_eq]; exact c)]; simp
theorem thgs_len {H : List Hd} {r : Rt} {x : Nm} : (thgs H r x).length ≤ H.length := by
  unfold thgs
  rw [List.length_map]
  exact List.length_filter_le _ _
theorem things_by_ok {S : Store} {g : Gt} {r : Rt} (lH : g.H.length < 1000) : EvP (C.g_things_by [enc g, enc r]) S fun d T => ∃ k l, d = .ref k ∧ Tab T k l (thgs g.H r) S.length T.length := by
  have lim' := lim_big
  refine evF rfl fun S1 k1 => ?_
  unfold C.b_things_by
  apply s_seq
  apply s_setP (ev_dn (m := 8))
  intro d S2 ⟨k, ed, dk, lk⟩ k2
  subst ed
  dsimp only [List.set, List.map, List.replicate, List.append]
  apply s_seq
  refine s_forT (xs := g.H) (fun pre ρ S' => ∃ b3 b4 b5 l, ρ = [some (enc g), some (enc r), some (.ref k), b3, b4, b5] ∧ Tab S' k l (thgs pre r) S1.length S'.length ∧ l.length ≤ pre.length ∧ (∀ x y q, lookT l x = some (.ref q) → lookT l y = some (.ref q) → x = y) ∧ (∀ x, lookT l x ≠ some (.ref k)) ∧ Kp [] S1 S') (ev_ix (ev_var rfl) rfl) (by omega) (fun S' kk => ?_) ?_ ?_
  · have dk' := dk.kp kk (fun z => nomatch z)
    exact ⟨_, _, _, [], rfl, ⟨dk', lk, (List.getElem?_eq_some_iff.mp dk').1, fun x _ => rfl, (fun x d e => nomatch e)⟩, Nat.zero_le _, (fun x y q e => nomatch e), (fun x e => nomatch e), k2.trans kk⟩
  · rintro pre h suf ρ S3 eH ⟨b3, b4, b5, l, rfl, tb, ll, inj, nk, k3⟩
    refine ⟨_, rfl, ?_⟩
    dsimp only [List.set]
    have lp : pre.length < g.H.length := by rw [eH]; simp
    apply s_if (et_bl (ev_eq (α := Rt) (a := h.z) (b := r) (ev_var rfl) (ev_var rfl) (by decide)))
    · intro hz S4 k4
      have hz : h.z = r := of_decide_eq_true hz
      have tb4 := (tb.kp k4 (fun _ z => nomatch z)).wk (Nat.le_refl _) k4.len
      have k14 := k3.trans k4
      rw [so_expr, ok_eMt, ok_eSetd, ok_eVar (d := .ref k) (by rfl)]
      obtain ⟨_, _, _, dO⟩ := (Dic.dil tb4.d).look h.x
      refine ⟨dO, ?_⟩
      rw [ok_eVar (d := enc h.x) (by rfl), ok_eLst, ok_aNil]
      refine ⟨_, newL_eq (show 0 ≤ lim by decide), ?_⟩
      have gN : (S4 ++ [MO.lst []])[S4.length]? = some (.lst []) := new_get
      have kN : Kp [] S4 (S4 ++ [MO.lst []]) := Kp.new
      have lN : (S4 ++ [MO.lst []]).length = S4.length + 1 := by simp
      dsimp only
      generalize S4 ++ [MO.lst []] = S5 at gN kN lN
      have tb5 := (tb4.kp kN (fun _ z => nomatch z)).wk (Nat.le_refl _) kN.len
      refine ⟨_, tb5.d.setd (by omega), ?_⟩
      cases lk : lookT l h.x with
      | some w =>
        obtain ⟨q, rfl, qB, qC, qe⟩ := tb4.row _ _ lk
        have qe5 := kN.get _ _ (fun z => nomatch z) qe
        refine ⟨by simp only [tyD, qe5], ?_⟩
        rw [ok_aCons, ok_eVar (d := enc h.y) (by rfl), ok_aNil]
        refine ⟨(.non, S5.set q (.lst ((thgs pre r h.x).map enc ++ [enc h.y]))), ?_, ?_⟩
        · simp only [qAppend, qe5]
          rw [if_pos (by rw [List.length_map]; have := thgs_len (H := pre) (r := r) (x := h.x); omega)]
        · have hqk : q ≠ k := fun z => nk h.x (by rw [lk, z])
          have k6 : Kp [q] S5 (S5.set q (.lst ((thgs pre r h.x).map enc ++ [enc h.y]))) := Kp.set
          have g6 : (S5.set q (.lst ((thgs pre r h.x).map enc ++ [enc h.y])))[q]? = some (.lst ((thgs pre r h.x).map enc ++ [enc h.y])) := set_get qe5
          dsimp only
          generalize S5.set q (.lst ((thgs pre r h.x).map enc ++ [enc h.y])) = S6 at k6 g6
          refine ⟨_, _, _, l, rfl, ⟨tb5.d.kp k6 (fun z => hqk (List.mem_singleton.mp z).symm), tb5.kB, by have := tb5.kC; have := k6.len; omega, fun x e => ?_, fun x d e => ?_⟩, by rw [List.length_append, List.length_singleton]; omega, inj, nk, ?_⟩
          · rw [thgs_snoc, if_neg fun z => by rw [← z.2, lk] at e; cases e]; exact tb5.no x e
          · obtain ⟨q2, rfl, b1, b2, e2⟩ := tb5.row x d e
            refine ⟨q2, rfl, b1, by have := k6.len; omega, ?_⟩
            rw [thgs_snoc]
            by_cases hx : h.x = x
            · subst hx
              rw [lk] at e
              cases e
              rw [if_pos ⟨hz, rfl⟩, List.map_append]; exact g6
            · rw [if_neg fun z => hx z.2]
              refine k6.get _ _ (fun z => hx ?_) e2
              rw [List.mem_singleton.mp z] at e
              exact inj _ _ _ lk e
          · refine ⟨Nat.le_trans (k14.trans kN).len k6.len, fun i o ni e => ?_⟩
            have hi : i < S1.length := (List.getElem?_eq_some_iff.mp e).1
            exact k6.get _ _ (fun z => by have := List.mem_singleton.mp z; omega) ((k14.trans kN).get _ _ ni e)
      | none =>
        dsimp only
        have d6 := tb5.d.put (x := h.x) (v := .ref S4.length)
        have k6 : Kp [k] S5 (S5.set k (.dK (dicE (putT l h.x (.ref S4.length))))) := Kp.set
        have hk4 : k < S4.length := by have := tb4.kC; omega
        have g6 := k6.get _ _ (fun z => by have := List.mem_singleton.mp z; omega) gN
        generalize S5.set k (.dK (dicE (putT l h.x (.ref S4.length)))) = S6 at d6 k6 g6
        refine ⟨by simp only [tyD, g6], ?_⟩
        rw [ok_aCons, ok_eVar (d := enc h.y) (by rfl), ok_aNil]
        refine ⟨(.non, S6.set S4.length (.lst [enc h.y])), ?_, ?_⟩
        · simp only [qAppend, g6]
          rw [if_pos (show ([] : List D).length < lim by decide)]; rfl
        · have k7 : Kp [S4.length] S6 (S6.set S4.length (.lst [enc h.y])) := Kp.set
          have g7 : (S6.set S4.length (.lst [enc h.y]))[S4.length]? = some (.lst [enc h.y]) := set_get g6
          dsimp only
          generalize S6.set S4.length (.lst [enc h.y]) = S7 at k7 g7
          have kk : Kp [k, S4.length] S5 S7 := (k6.wk fun i m => by rw [List.mem_singleton.mp m]; simp).trans (k7.wk fun i m => by rw [List.mem_singleton.mp m]; simp)
          have e0 : thgs pre r h.x = [] := tb5.no _ lk
          refine ⟨_, _, _, putT l h.x (.ref S4.length), rfl, ⟨d6.kp k7 (fun z => by have := List.mem_singleton.mp z; omega), tb5.kB, by have := tb5.kC; have := kk.len; omega, fun x e => ?_, fun x d e => ?_⟩, ?_, fun x y q e1 e2 => ?_, fun x e => ?_, ?_⟩
          · rw [look_put] at e
            by_cases hx : x = h.x
            · rw [if_pos hx] at e; cases e
            · rw [if_neg hx] at e
              rw [thgs_snoc, if_neg fun z => hx z.2.symm]; exact tb5.no x e
          · rw [look_put] at e
            by_cases hx : x = h.x
            · rw [if_pos hx] at e
              cases e
              subst hx
              refine ⟨_, rfl, by have := k14.len; omega, by have := kk.len; omega, ?_⟩
              rw [thgs_snoc, if_pos ⟨hz, rfl⟩, e0]; exact g7
            · rw [if_neg hx] at e
              obtain ⟨q2, rfl, b1, b2, e2⟩ := tb4.row x d e
              refine ⟨q2, rfl, b1, by have := kk.len; omega, ?_⟩
              rw [thgs_snoc, if_neg fun z => hx z.2.symm]
              refine kk.get _ _ (fun z => ?_) (kN.get _ _ (fun z => nomatch z) e2)
              simp only [List.mem_cons, List.not_mem_nil, or_false] at z
              rcases z with rfl | rfl
              · exact nk x e
              · omega
          · have := len_put l h.x (.ref S4.length)
            rw [List.length_append, List.length_singleton]; omega
          · rw [look_put] at e1 e2
            have far : ∀ {x : Nm}, lookT l x ≠ some (.ref S4.length) := fun {x} e => by
              obtain ⟨q2, e3, _, b2, _⟩ := tb4.row x _ e
              cases e3; omega
            by_cases hx : x = h.x <;> by_cases hy : y = h.x
            · rw [hx, hy]
            · rw [if_pos hx] at e1; rw [if_neg hy] at e2; cases e1; exact absurd e2 far
            · rw [if_neg hx] at e1; rw [if_pos hy] at e2; cases e2; exact absurd e1 far
            · rw [if_neg hx] at e1; rw [if_neg hy] at e2; exact inj _ _ _ e1 e2
          · rw [look_put] at e
            by_cases hx : x = h.x
            · rw [if_pos hx] at e; cases e; omega
            · rw [if_neg hx] at e; exact nk x e
          · refine ⟨Nat.le_trans (k14.trans kN).len kk.len, fun i o ni e => ?_⟩
            have hi : i < S1.length := (List.getElem?_eq_some_iff.mp e).1
            refine kk.get _ _ (fun z => ?_) ((k14.trans kN).get _ _ ni e)
            simp only [List.mem_cons, List.not_mem_nil, or_false] at z
            have := k14.len
            have := tb5.kB
            rcases z with rfl | rfl <;> omega
    · intro hz S4 k4
      have hz : h.z ≠ r := by simpa using hz
      refine s_nil ⟨_, _, _, l, rfl, ⟨tb.d.kp k4 (fun z => nomatch z), tb.kB, by have := tb.kC; have := k4.len; omega, fun x e => ?_, fun x d e => ?_⟩, by rw [List.length_append, List.length_singleton]; omega, inj, nk, k3.trans k4⟩
      · rw [thgs_snoc, if_neg fun z => hz z.1]; exact tb.no x e
      · obtain ⟨q2, rfl, b1, b2, e2⟩ := tb.row x d e
        rw [thgs_snoc, if_neg fun z => hz z.1]
        exact ⟨q2, rfl, b1, by have := k4.len; omega, k4.get _ _ (fun z => nomatch z) e2⟩
  · rintro ρ S3 ⟨b3, b4, b5, l, rfl, tb, ll, inj, nk, k3⟩
    refine s_ret (ev_var rfl) fun S4 k4 => ⟨⟨k, l, rfl, (tb.kp k4 (fun _ z => nomatch z)).wk k1.len k4.len⟩, k3.trans k4⟩
end
section
open PySem L2 PySem.W PyProof.Rows
open En (enc pd dep)
structure SpH where
  sh : Nat
  th : Nat
  gh : Nat
  C : Nat
def Sub (S : Store) (LK F : List Nat) (C : Nat) (d : D) (Φ : Nm → Prop) : Prop := ∃ (k : Nat) (m : Dc 8), d = .ref k ∧ C + 3 ≤ k ∧ k ∉ F ∧ DiL (decide (k ∈ LK)) S k m ∧ (keysT m).Nodup ∧ ∀ y, y ∈ keysT m ↔ Φ y
section
variable {S S' : Store} {h : SpH} {g : Gt} {LK F F' L : List Nat}
theorem at_lt {i : Nat} {m : MO} (e : S[i]? = some m) : i < S.length := (List.getElem?_eq_some_iff.mp e).1
theorem DiL.lt {b : Bool} {k : Nat} {m : Dc 8} (d : DiL b S k m) : k < S.length := at_lt d
theorem Sub.kp {C : Nat} {d : D} {Φ : Nm → Prop} (q : Sub S LK F C d Φ) (k : Kp L S S') (hL : ∀ i ∈ L, S.length ≤ i ∨ i < C + 3 ∨ i ∈ F) (hF : ∀ i ∈ F', i ∈ F ∨ S.length ≤ i) : Sub S' LK F' C d Φ :=
  let ⟨j, m, e, c, f0, dl, n, f⟩ := q
  ⟨j, m, e, c, (fun z => by have := dl.lt; rcases hF j z with z | z <;> first | exact f0 z | omega), dl.kp k (fun z => by have := dl.lt; rcases hL j z with z | z | z <;> first | exact f0 z | omega), n, f⟩
end
end
section
open PySem L2 PySem.W PyProof.Rows
open En (enc pd dep)
section
variable {S S' : Store} {h : SpH} {g : Gt} {LK F L : List Nat} {x : Nm}
theorem thgs_mem {H : List Hd} {r : Rt} {x y : Nm} : y ∈ thgs H r x ↔ Tri.mk x y r ∈ H := by
  unfold thgs
  rw [List.mem_map]
  constructor
  · rintro ⟨k, mk, rfl⟩
    obtain ⟨m, hb⟩ := List.mem_filter.mp mk
    rw [Bool.and_eq_true, decide_eq_true_eq, decide_eq_true_eq] at hb
    rw [← hb.1, ← hb.2]; exact m
  · intro m
    exact ⟨_, List.mem_filter.mpr ⟨m, by simp⟩, rfl⟩
theorem thgs_N (o : GOk g) {r : Rt} {x y : Nm} (m : y ∈ thgs g.H r x) : y ∈ g.N := (o.of _ (thgs_mem.mp m)).2
end
end
section
open PySem L2 PySem.W PyProof.Rows
open En (enc pd dep)
section
variable {S S' : Store} {h : SpH} {g : Gt} {LK F L : List Nat} {x : Nm}
theorem get_row {T : Store} {ρ : Env} {fo fk : ME} {k B C : Nat} {lt : Dc 8} {E : Nm → List Nm} {y : Nm} (hfo : Ev (fo ρ) T (.ref k)) (hfk : Ev (fk ρ) T (enc y)) (tt : Tab T k lt E B C) :
    EvP (eGet fo fk (eLst aNil) ρ) T fun d T2 => ∃ r, d = .ref r ∧ T2[r]? = some (.lst ((E y).map enc)) ∧ (r < C ∨ T.length ≤ r) := fun T1 k1 => by
  rw [ok_eGet]
  refine ok_mono (hfo T1 k1) (fun d T2 q => ?_) fun _ _ _ z => z
  obtain ⟨rfl, k2⟩ := q
  have t2 := (tt.kp k1 (fun _ z => nomatch z)).kp k2 (fun _ z => nomatch z)
  refine ⟨((Dic.dil t2.d).look y).choose_spec.2.2, ?_⟩
  refine ok_mono (hfk T2 (k1.trans k2)) (fun d T3 q => ?_) fun _ _ _ z => z
  obtain ⟨rfl, k3⟩ := q
  have t3 := t2.kp k3 (fun _ z => nomatch z)
  rw [ok_eLst, ok_aNil]
  refine ⟨_, newL_eq (show 0 ≤ lim by decide), ?_⟩
  have gN : (T3 ++ [MO.lst []])[T3.length]? = some (.lst []) := new_get
  have kN : Kp [] T3 (T3 ++ [MO.lst []]) := Kp.new
  dsimp only
  have t4 := t3.kp kN (fun _ z => nomatch z)
  refine ⟨_, (Dic.dil t4.d).get, ⟨?_, k2.trans (k3.trans kN)⟩⟩
  cases lk : lookT lt y with
  | none => exact ⟨_, rfl, by rw [t4.no y lk]; exact gN, .inr (by have := k1.len; have := k2.len; have := k3.len; omega)⟩
  | some d =>
    obtain ⟨r, rfl, _, rC, e⟩ := t4.row y _ lk
    exact ⟨r, rfl, e, .inl rC⟩
end
end
section
open PySem L2 PySem.W PyProof.Rows
open En (enc pd dep)
def asN (N : List Nm) (d : D) : Option Nm := (asW 8 d).bind fun x => if x ∈ N then some x else none
theorem asN_iff {N : List Nm} {d : D} {x : Nm} : asN N d = some x ↔ d = enc x ∧ x ∈ N := by
  unfold asN
  rw [Option.bind_eq_some_iff]
  constructor
  · rintro ⟨y, h1, h2⟩
    split at h2
    · rename_i m
      cases h2
      exact ⟨asW_iff.mp h1, m⟩
    · cases h2
  · rintro ⟨rfl, m⟩
    exact ⟨x, asW_iff.mpr rfl, if_pos m⟩
theorem asN_is {g : Gt} {d : D} : (asN g.N d).isSome = (isWd 8 d && (inW d g.A || inW d g.O)) := by
  unfold asN
  rw [← asW_is]
  cases h : asW 8 d with
  | none => rfl
  | some x =>
    rw [asW_iff.mp h, inW_enc, inW_enc]
    show (if x ∈ g.A ++ g.O then some x else none).isSome = _
    by_cases h1 : x ∈ g.A <;> by_cases h2 : x ∈ g.O <;> simp [h1, h2]
theorem asN_no {N : List Nm} {d : D} (h : isWd 8 d = false) : asN N d = none := by
  unfold asN
  rw [← asW_is, Option.isSome_eq_false_iff, Option.isNone_iff_eq_none] at h
  rw [h]; rfl
theorem asN_some {N : List Nm} {x : Nm} (h : x ∈ N) : asN N (enc x) = some x := asN_iff.mpr ⟨rfl, h⟩
theorem asN_none {N : List Nm} {x : Nm} (h : x ∉ N) : asN N (enc x) = none := by
  cases e : asN N (enc x) with
  | none => rfl
  | some y =>
    obtain ⟨e1, m⟩ := asN_iff.mp e
    exact absurd (enc_inj e1 ▸ m) h
section
variable {M : List Nat} {S : Store} {ρ : Env} {fe : ME} {d : D} {n : Nat} {g : Gt} {N : Env → Store → Prop} {RR : D → Store → Prop} {X : XPs}
theorem s_raiseF {c fld : Str} (h : Ev (fe ρ) S d) (k : ∀ S', Kp [] S S' → X c [(fld, d)] ρ S') : so (sRaiseF c fld fe ρ S) N RR X := by
  unfold sRaiseF
  rw [so_ev]
  exact h.ok k
theorem has_name_od (o : OdD M S n d) (hn : n ≤ 7) : Ev (C.g_has_name [enc g, d]) S (enc (asN g.N d).isSome) := by
  rw [asN_is]
  refine evF rfl fun S1 k1 => ?_
  have o := o.kp k1
  unfold C.b_has_name
  refine s_ret ?_ fun S2 k2 => ⟨rfl, k2⟩
  exact ev_and (ev_call (ds := [d]) (ea_cons (ev_var rfl) ea_nil) (name_od o)) fun _ => ev_or (ev_inD (ev_var rfl) (by array_get_dec) o hn) fun _ => ev_inD (ev_var rfl) (by array_get_dec) o hn
theorem check_name_ok (o : OdD M S n d) (hn : n ≤ 7) : ok (C.g_check_name [enc g, d] S) (fun _ S' => (∃ x, asN g.N d = some x) ∧ Kp [] S S') (fun m fs S' => m = ("UnknownName" : Str) ∧ fs = [(("name" : Str), d)] ∧ asN g.N d = none ∧ Kp [] S S') := by
  unfold C.g_check_name
  rw [run2]
  unfold C.b_check_name
  apply s_if
  · exact et_not (et_tru (ev_call (ds := [enc g, d]) (ea_cons (ev_var rfl) (ea_cons (ev_var rfl) ea_nil)) (has_name_od o hn)))
  · intro h S2 k2
    rw [Bool.not_eq_true', Option.isSome_eq_false_iff, Option.isNone_iff_eq_none] at h
    exact s_raiseF (ev_var rfl) fun S3 k3 => ⟨rfl, rfl, h, k2.trans k3⟩
  · intro h S2 k2
    rw [Bool.not_eq_false', Option.isSome_iff_exists] at h
    exact s_nil ⟨h, k2⟩
end
end
end Mini

namespace Mini
open PySem L2 PySem.W PyProof.Rows
-- side goals
local macro_rules | `(tactic| bv_omega) => `(tactic| first | decide | assumption | exact Flat.le | infer_instance | omega | (simp only [List.length_append, List.length_map, List.length_filter]; omega) | (simp; omega))
-- what an expression evaluates to
local macro_rules | `(tactic| array_get_dec) => `(tactic| first
  | assumption
  | ((with_reducible apply ev_var); rfl)
  | ((with_reducible apply ev_Ce); first | rfl | exact enc_w (by decide))
  | ((with_reducible apply ea_nil))
  | ((with_reducible apply et_yes))
  | ((with_reducible apply et_and); array_get_dec; (intro _; array_get_dec))
  | ((with_reducible apply et_or); array_get_dec; (intro _; array_get_dec))
  | ((with_reducible apply et_not); array_get_dec)
  | ((with_reducible apply et_bl); array_get_dec)
  | ((with_reducible apply et_tru); array_get_dec)
  | ((with_reducible apply et_truL); array_get_dec)
  | ((with_reducible apply ev_and); array_get_dec; (intro _; array_get_dec))
  | ((with_reducible apply ev_or); array_get_dec; (intro _; array_get_dec))
  | ((with_reducible apply ev_not); array_get_dec)
  | ((with_reducible apply ev_eq); array_get_dec; array_get_dec; bv_omega)
  | ((with_reducible apply ev_ne); array_get_dec; array_get_dec; bv_omega)
  | ((with_reducible apply ev_in); array_get_dec; array_get_dec; bv_omega)
  | ((with_reducible apply ev_nin); array_get_dec; array_get_dec; bv_omega)
  | ((with_reducible apply ev_ix); array_get_dec; rfl)
  | ((with_reducible apply ev_lt); array_get_dec; array_get_dec; bv_omega)
  | ((with_reducible apply ev_gt); array_get_dec; array_get_dec; bv_omega)
  | ((with_reducible apply ev_le); array_get_dec; array_get_dec; bv_omega)
  | ((with_reducible apply ev_ge); array_get_dec; array_get_dec; bv_omega)
  | ((with_reducible apply ev_addT); array_get_dec; array_get_dec; bv_omega)
  | ((with_reducible apply ev_addN); array_get_dec; array_get_dec)
  | ((with_reducible apply ev_addI); array_get_dec; array_get_dec)
  | ((with_reducible apply ev_subI); array_get_dec; array_get_dec)
  | ((with_reducible apply ev_qui); array_get_dec; array_get_dec; array_get_dec; array_get_dec; array_get_dec)
  | ((with_reducible apply ev_qua); array_get_dec; array_get_dec; array_get_dec; array_get_dec)
  | ((with_reducible apply ev_ifE); array_get_dec; (intro _; array_get_dec); (intro _; array_get_dec))
  | ((with_reducible apply ev_tri); array_get_dec; array_get_dec; array_get_dec)
  | ((with_reducible apply ev_pair); array_get_dec; array_get_dec)
  | ((with_reducible apply ev_len); array_get_dec)
  | ((with_reducible apply ev_tuple); array_get_dec)
  | ((with_reducible apply ev_all); array_get_dec)
  | ((with_reducible apply ev_any); array_get_dec)
  | ((with_reducible apply ea_cons); array_get_dec; array_get_dec)
  | ((with_reducible apply ei_any); array_get_dec)
  | ((with_reducible apply el_lc1); array_get_dec; bv_omega; (intro x hx; refine ⟨_, rfl, ?_⟩; apply Exists.intro; apply And.intro; array_get_dec; rfl))
  | ((with_reducible apply el_lc); array_get_dec; bv_omega; (intro x hx; refine ⟨_, rfl, ?_, ?_⟩; (apply Exists.intro; apply And.intro; array_get_dec; rfl); (intro hp; apply Exists.intro; apply And.intro; array_get_dec; rfl)))
  | ((with_reducible apply el_sortSet); array_get_dec; infer_instance; infer_instance; infer_instance; bv_omega)
  | ((with_reducible apply el_sorted); array_get_dec; infer_instance; infer_instance; bv_omega)
  | ((with_reducible apply el_list); array_get_dec)
  | ((with_reducible apply el_nil))
  | ((with_reducible apply el_one); array_get_dec)
  | ((with_reducible apply ev_oneT); array_get_dec)
  | ((with_reducible apply ev_nilT))
  | ((with_reducible apply es_ref); rfl; assumption)
  | ((with_reducible apply es_of); array_get_dec)
  | ((with_reducible apply es_el); array_get_dec))
section
open PySem L2 PySem.W PyProof.Rows
open En (enc pd dep)
section
variable {S : Store} {ρ : Env} {g : Gt} {x : Nm}
theorem thgs_nodup (o : GOk g) {r : Rt} {y : Nm} : (thgs g.H r y).Nodup := by
  unfold thgs
  refine List.pairwise_map.mpr ?_
  refine List.Pairwise.imp_of_mem (R := fun a b => a ≠ b) (fun {a b} ma mb ne e => ne ?_) (List.Pairwise.filter _ o.ascH.nodup)
  have ha := (List.mem_filter.mp ma).2
  have hb := (List.mem_filter.mp mb).2
  simp only [Bool.and_eq_true, decide_eq_true_eq] at ha hb
  cases a; cases b
  simp only at ha hb e
  rw [ha.1, ha.2, hb.1, hb.2, e]
theorem thgs_el {r : Rt} {y : Nm} (o : GOk g) {i j k : Nat} {vs : List Nat} {tt : Env → M Bool} {wi : Env → M MIt} (hw : Ei (wi ρ) S (g.H.map enc)) (hp : ∀ h : Hd, ∃ ρ1, setT (.tp [.nm i, .nm j, .nm k]) (enc h) (wipeM ρ vs) = some ρ1 ∧ Ev (tt ρ1) S (decide (h.x = y) && decide (h.z = r)) ∧ Ev (eVar j ρ1) S (enc h.y)) :
    El (eLc wi (.tp [.nm i, .nm j, .nm k]) tt (eVar j) vs ρ) S (thgs g.H r y) := by
  have := el_lc (S := S) (ρ := ρ) (wi := wi) (g := .tp [.nm i, .nm j, .nm k]) (tt := tt) (fe := eVar j) (vs := vs) (xs := g.H) (p := fun h => decide (h.x = y) && decide (h.z = r)) (f := fun h : Hd => h.y) hw (by have := o.lenH; unfold lim; omega) fun h _ => by
    obtain ⟨ρ1, e, h1, h2⟩ := hp h
    exact ⟨ρ1, e, ⟨_, h1, rfl⟩, fun _ => ⟨_, h2, rfl⟩⟩
  have e : (g.H.filter fun h => decide (h.x = y) && decide (h.z = r)) = g.H.filter fun k => decide (k.z = r) && decide (k.x = y) := List.filter_congr fun h _ => Bool.and_comm _ _
  rw [e] at this
  exact this
end
end
section
open PySem L2 PySem.W PyProof.Rows
open En (enc pd dep)
section
variable {S : Store} {ρ : Env} {h : Nat} {P : D → Store → Prop} {Y : XP} {N : Env → Store → Prop} {RR : D → Store → Prop} {X : XPs} {fs : Env → Mini.M (List D)}
theorem s_par3K {i j l : Nat} (h : ok (fs ρ S) (fun ds S' => ∃ a b c, ds = [a, b, c] ∧ N (((ρ.set i (some a)).set j (some b)).set l (some c)) S') (fun n fs S1 => X n fs ρ S1)) : so (sPar3 i j l fs ρ S) N RR X := by
  unfold sPar3
  rw [so_ev]
  refine ok_mono h (fun ds S' q => ?_) fun _ _ _ z => z
  obtain ⟨a, b, c, rfl, q⟩ := q
  exact q
theorem names_K {k n : Nat} {ρ : Env} {fa fb : ME} (p : PotOk S h (k + 6 * n)) (hn : n ≤ 26) (ha : Ev (fa ρ) S (.ref h)) (hb : Ev (fb ρ) S (enc n))
    (K : ∀ nh (ns : List Nm) S', S.length ≤ nh → S'[nh]? = some (.lst (ns.map enc)) → ns.length = n → ns.Nodup → (∀ x ∈ ns, x.s.length ≤ 5) → PotOk S' h k → Kp [h] S S' → P (.ref nh) S') : ok (eCall C.g__law_names (aCons fa (aCons fb aNil)) ρ S) P Y := by
  rw [ok_eCall]
  refine Ev.ok (ea_cons ha (ea_cons hb ea_nil)) fun S1 k1 => ?_
  refine ok_mono (names_spec (k := k) (n := n) (X := Y) (p.kp k1 (fun z => nomatch z)) hn) (fun d S' hd => ?_) fun _ _ _ z => z
  obtain ⟨rfl, xs, a1, a2, a3, a4, a5, a6⟩ := hd
  obtain ⟨ns, rfl⟩ := words_of (m := 8) fun x m => (a4 x m).mono (by decide)
  have ln : (wS ns).length = ns.length := List.length_map _
  rw [nD_wS] at a1
  refine K _ ns S' k1.len a1 (by omega) ?_ (fun x m => (a4 x.s (mem_wS.mpr m)).2.1) a5 ((kp_l k1).trans a6)
  exact List.Pairwise.of_map (f := fun x : Nm => x.s) (S := (· ≠ ·)) (fun a b ne e => ne (by rw [e])) a3
theorem rights_K {k : Nat} {ρ : Env} {i : Nat} (p : PotOk S h (k + 1)) (e : ρ[i]? = some (some (.ref h)))
    (K : ∀ rh (rs : List Rt) S', S.length ≤ rh → S'[rh]? = some (.lst (rs.map enc)) → rs.length = 7 → PotOk S' h k → Kp [h] S S' → P (.ref rh) S') : ok (eCall C.g__law_rights (aCons (eVar i) aNil) ρ S) P Y := by
  rw [ok_eCall, ok_aCons, ok_eVar e, ok_aNil]
  refine ok_mono (rights_spec (k := k) p) (fun d S' hd => ?_) fun _ _ _ z => z
  obtain ⟨r, xs, rfl, a1, a2, a3, a4, a5, a6⟩ := hd
  obtain ⟨rs, rfl⟩ := words_of (m := 3) a4
  have ln : (wS rs).length = rs.length := List.length_map _
  rw [nD_wS] at a2
  exact K r rs S' a1 a2 (by omega) a5 a6
theorem eraseIdx_map' {α β : Type} {f : α → β} : ∀ (l : List α) (i : Nat), (l.map f).eraseIdx i = (l.eraseIdx i).map f
  | [], _ => rfl
  | _ :: _, 0 => rfl
  | a :: l, i + 1 => congrArg (f a :: ·) (eraseIdx_map' l i)
theorem ixN_nat {n r : Nat} (hr : r < n) : L2.ixN n (r : Int) = some r := by
  unfold L2.ixN
  rw [if_pos (by omega), if_pos (by omega)]
  simp
theorem fits_nat {r : Nat} (hr : r < 1000000) : fits62 (r : Int) = true := by
  unfold fits62
  rw [Bool.and_eq_true, decide_eq_true_eq, decide_eq_true_eq]
  omega
theorem k_pop {k i j lh : Nat} {α : Type} [DecidableEq α] [En α] {ls : List α} (p : PotOk S h (k + 1)) (hj : ρ[j]? = some (some (.ref h))) (hi : ρ[i]? = some (some (.ref lh))) (e : S[lh]? = some (.lst (ls.map enc))) (hn : lh ≠ h) (l1 : 1 ≤ ls.length) (l2 : ls.length < 1000)
    (K : ∀ r y S', ls[r]? = some y → S'[lh]? = some (.lst ((ls.eraseIdx r).map enc)) → PotOk S' h k → Kp [h, lh] S S' → P (enc y) S') :
    ok (eMt "list" qPopA (eVar i) (aCons (eCall C.g__law_draw (aCons (eVar j) (aCons (eB nLen (aCons (eVar i) aNil)) aNil))) aNil) ρ S) P Y := by
  rw [ok_eMt, ok_eVar hi]
  refine ⟨by simp only [tyD, e], ?_⟩
  rw [ok_aCons]
  refine k_draw (k := k) (many := ls.length) p hj (ev_len (es_ref hi e)) l1 (by omega) fun r S' hr p' k' => ?_
  rw [ok_aNil]
  have e' := k'.get _ _ (fun z => hn (List.mem_singleton.mp z)) e
  have er : ls[r]? = some ls[r] := List.getElem?_eq_getElem hr
  refine ⟨(enc ls[r], S'.set lh (.lst ((ls.map enc).eraseIdx r))), ?_, ?_⟩
  · show qPopA (.ref lh) [.int (r : Int)] S' = _
    simp only [qPopA, e']
    rw [if_pos (fits_nat (by omega)), List.length_map, ixN_nat hr]
    simp only [List.getElem?_map, er, Option.map_some]
  · refine K r _ _ er ?_ (p'.set (Ne.symm hn)) ((k'.wk fun i m => by simp [List.mem_singleton.mp m]).trans (Kp.set.wk fun i m => by simp [List.mem_singleton.mp m]))
    rw [set_get e']
    congr 2
    exact eraseIdx_map' _ _
theorem el_cutTake {i j n a : Nat} {α : Type} [DecidableEq α] [En α] {xs : List α} (hi : ρ[i]? = some (some (.ref n))) (hj : ρ[j]? = some (some (enc a))) (e : S[n]? = some (.lst (xs.map enc))) : El (eCut (eVar i) oNone (oSome (eVar j)) ρ) S (xs.take a) := fun S1 k1 => by
  rw [ok_eCut, ok_eVar hi, ok_oNone, ok_oSome, ok_eVar hj]
  refine ⟨(a : Int), rfl, _, cutL (k1.get _ _ (fun z => nomatch z) e), ⟨S1.length, rfl, ?_, k1.len⟩, Kp.new⟩
  rw [new_get, cut_take, List.map_take]
theorem el_cutDrop {i j n a : Nat} {α : Type} [DecidableEq α] [En α] {xs : List α} (hi : ρ[i]? = some (some (.ref n))) (hj : ρ[j]? = some (some (enc a))) (e : S[n]? = some (.lst (xs.map enc))) : El (eCut (eVar i) (oSome (eVar j)) oNone ρ) S (xs.drop a) := fun S1 k1 => by
  rw [ok_eCut, ok_eVar hi, ok_oSome, ok_eVar hj]
  refine ⟨(a : Int), rfl, ?_⟩
  rw [ok_oNone]
  refine ⟨_, cutL (k1.get _ _ (fun z => nomatch z) e), ⟨S1.length, rfl, ?_, k1.len⟩, Kp.new⟩
  rw [new_get, cut_drop, List.map_drop]
end
theorem row_graph_K {S : Store} {h k sm om : Nat} {P : D → Store → Prop} {X : XP} (p : PotOk S h (k + 400)) (h1 : 1 ≤ sm) (h2 : sm + om ≤ 26)
    (K : ∀ (g : Gt) S', GOk g → 1 ≤ g.A.length → g.A.length ≤ sm → g.O.length ≤ om → g.H.length ≤ 30 → Short g → PotOk S' h k → Kp [h] S S' → P (enc g) S') :
    ok (C.g__law_row_graph [.ref h, .int sm, .int om] S) P X := by
  have lim' := lim_big
  unfold C.g__law_row_graph
  rw [run3]
  unfold C.b__law_row_graph
  apply s_seq
  apply s_parK
  apply k_cons
  rw [ok_eOp, ok_eC]
  refine k_draw (k := k + 399) (many := sm) p rfl (ev_var rfl) h1 (by omega) fun r1 S1 hr1 p1 k1 => ?_
  refine ⟨(enc (1 + r1), S1), by show some (D.int (1 + (r1 : Int)), S1) = some (D.int ((1 + r1 : Nat) : Int), S1); rw [show ((1 + r1 : Nat) : Int) = 1 + (r1 : Int) by omega], ?_⟩
  apply k_cons
  refine k_draw (k := k + 398) (many := om + 1) p1 rfl (ev_addN (a := om) (b := 1) (ev_var rfl) ev_C) (by omega) (by omega) fun ly S2 hly p2 k2 => ?_
  apply k_nil
  refine ⟨_, _, rfl, ?_⟩
  dsimp only [List.set, List.replicate]
  generalize hac : 1 + r1 = ac
  apply s_seq
  apply s_setK
  refine names_K (k := k + 200) (n := ac + ly) (p2.mono (by omega)) (by omega) (ev_var rfl) (ev_addN (a := ac) (b := ly) (ev_var rfl) (ev_var rfl)) fun nh ns S3 hnh en nlen nnd nsh p3 k3 => ?_
  dsimp only [List.set]
  have k03 : Kp [h] S S3 := k1.trans (k2.trans k3)
  have nhh : nh ≠ h := by have := p2.lt; omega
  apply s_seq
  apply s_par3K
  apply k_cons
  refine El.ok (el_list (xs := ns) (es_ref rfl en)) fun lh S4 e4 l4 k4 => ?_
  apply k_cons
  refine El.ok (show El _ _ ([] : List Hd) from el_nil) fun hh S5 e5 l5 k5 => ?_
  apply k_cons
  have p5 := (p3.kp k4 (fun z => nomatch z)).kp k5 (fun z => nomatch z)
  refine rights_K (k := k + 199) p5 rfl fun rh rs S6 l6 e6 rlen p6 k6 => ?_
  apply k_nil
  refine ⟨_, _, _, rfl, ?_⟩
  dsimp only [List.set]
  have hp5 := p5.lt
  have hh0 := p3.lt
  have lS3 := k03.len
  have lhh : lh ≠ h := by omega
  have hhh : hh ≠ h := by have := k4.len; omega
  have rhh : rh ≠ h := by omega
  have s4 := at_lt e4
  have s5 := at_lt e5
  have s3 := at_lt en
  have lhhh : lh ≠ hh := by omega
  have nS : S.length ≤ lh := by omega
  have hS : S.length ≤ hh := by have := k4.len; omega
  have en6 := k6.get _ _ (fun z => nhh (List.mem_singleton.mp z)) (k5.get _ _ (fun z => nomatch z) (k4.get _ _ (fun z => nomatch z) en))
  have el6 := k6.get _ _ (fun z => lhh (List.mem_singleton.mp z)) (k5.get _ _ (fun z => nomatch z) e4)
  have eh6 := k6.get _ _ (fun z => hhh (List.mem_singleton.mp z)) e5
  have k06 : Kp [h, lh, hh] S S6 := (k03.trans ((kp_l (k4.trans k5)).trans k6)).wk fun i m => by simp [List.mem_singleton.mp m]
  have w1 : ∀ {T T' : Store}, Kp [h] T T' → Kp [h, lh, hh] T T' := fun kk => kk.wk fun i m => by simp [List.mem_singleton.mp m]
  have w2 : ∀ {T T' : Store}, Kp [h, lh] T T' → Kp [h, lh, hh] T T' := fun kk => kk.wk fun i m => by simp only [List.mem_cons, List.not_mem_nil, or_false] at m ⊢; omega
  have w3 : ∀ {T T' : Store}, Kp [hh] T T' → Kp [h, lh, hh] T T' := fun kk => kk.wk fun i m => by simp [List.mem_singleton.mp m]
  have w0 : ∀ {T T' : Store}, Kp [] T T' → Kp [h, lh, hh] T T' := fun kk => kk.wk fun i m => nomatch m
  have nl4 : nh ≠ lh := by omega
  have nh4 : nh ≠ hh := by have := k4.len; omega
  have rl : rh ≠ lh := by have := k4.len; have := k5.len; omega
  have rhh2 : rh ≠ hh := by omega
  have nN : ∀ {i : Nat}, i = nh ∨ i = rh → i ∉ [h, lh, hh] := fun hi m => by
    simp only [List.mem_cons, List.not_mem_nil, or_false] at m
    omega
  apply s_seq
  apply s_setK
  refine k_pop (k := k + 198) (ls := ns) p6 rfl rfl el6 lhh (by omega) (by omega) fun r a0 S7 ea el7 p7 k7 => ?_
  dsimp only [List.set]
  have ma0 : a0 ∈ ns := List.mem_of_getElem? ea
  have hrl : r < ns.length := (List.getElem?_eq_some_iff.mp ea).1
  apply s_seq
  refine s_forR (n := ac + ly - 1) (fun t ρ S' => ∃ b10 b11 b12 b13 ls a hs, ρ = [some (.ref h), some (.int sm), some (.int om), some (enc ac), some (enc ly), some (.ref nh), some (.ref lh), some (.ref hh), some (.ref rh), some (enc a), b10, b11, b12, b13, none, none] ∧ S'[nh]? = some (.lst (ns.map enc)) ∧ S'[rh]? = some (.lst (rs.map enc)) ∧ S'[lh]? = some (.lst ((ls : List Nm).map enc)) ∧ ls.length = ac + ly - 1 - t ∧ (∀ y ∈ ls, y ∈ ns) ∧ a ∈ ns ∧ S'[hh]? = some (.lst ((hs : List Hd).map enc)) ∧ hs.length = t ∧ (∀ x ∈ hs, x.x ∈ ns ∧ x.y ∈ ns) ∧ PotOk S' h (k + 20 + 2 * (ac + ly - 1 - t)) ∧ Kp [h, lh, hh] S S') ?_ (by omega) ?_ ?_ ?_
  · have := ev_subI (S := S7) (ρ := [some (.ref h), some (.int sm), some (.int om), some (enc ac), some (enc ly), some (.ref nh), some (.ref lh), some (.ref hh), some (.ref rh), some (enc a0), none, none, none, none, none, none]) (fa := eB nLen (aCons (eVar 5) aNil)) (fb := eC (.int 1)) (a := (ns.length : Int)) (b := 1) (ev_len (es_ref rfl ((w2 k7).get _ _ (nN (.inl rfl)) en6))) ev_C
    rw [show ((ns.length : Int) - 1) = ((ac + ly - 1 : Nat) : Int) by omega] at this
    exact this
  · intro S' kk
    refine ⟨_, _, _, _, ns.eraseIdx r, a0, [], rfl, kk.get _ _ (fun z => nomatch z) ((w2 k7).get _ _ (nN (.inl rfl)) en6), kk.get _ _ (fun z => nomatch z) ((w2 k7).get _ _ (nN (.inr rfl)) e6), kk.get _ _ (fun z => nomatch z) el7, by rw [List.length_eraseIdx_of_lt hrl]; omega, fun y m => List.mem_of_mem_eraseIdx m, ma0, kk.get _ _ (fun z => nomatch z) (k7.get _ _ (fun z => by simp only [List.mem_cons, List.not_mem_nil, or_false] at z; omega) eh6), rfl, fun x m => (nomatch m), (p7.kp kk (fun z => nomatch z)).mono (by omega), k06.trans ((w2 k7).trans (w0 kk))⟩
  · rintro t ρ T1 ht ⟨b10, b11, b12, b13, ls, a, hs, rfl, f1, f2, f3, f4, f5, f6, f7, f8, f9, q1, kk1⟩
    refine ⟨_, rfl, ?_⟩
    dsimp only [List.set]
    have q1 : PotOk T1 h (k + 20 + 2 * (ac + ly - 1 - (t + 1)) + 2) := q1.mono (by omega)
    apply s_seq
    apply s_parK
    apply k_cons
    refine k_pop (k := k + 20 + 2 * (ac + ly - 1 - (t + 1)) + 1) (ls := ls) q1 rfl rfl f3 lhh (by omega) (by omega) fun r y T2 ey g3 q2 kk2 => ?_
    have my : y ∈ ns := f5 y (List.mem_of_getElem? ey)
    have hrl : r < ls.length := (List.getElem?_eq_some_iff.mp ey).1
    apply k_cons
    refine k_draw (k := k + 20 + 2 * (ac + ly - 1 - (t + 1))) (many := 6) q2 rfl ev_C (by decide) (by decide) fun kind T3 hkind q3 kk3 => ?_
    apply k_nil
    refine ⟨_, _, rfl, ?_⟩
    dsimp only [List.set]
    have g3' := kk3.get _ _ (fun z => lhh (List.mem_singleton.mp z)) g3
    have f1' := (w1 kk3).get _ _ (nN (.inl rfl)) ((w2 kk2).get _ _ (nN (.inl rfl)) f1)
    have f2' := (w1 kk3).get _ _ (nN (.inr rfl)) ((w2 kk2).get _ _ (nN (.inr rfl)) f2)
    have f7' := kk3.get _ _ (fun z => hhh (List.mem_singleton.mp z)) (kk2.get _ _ (fun z => by simp only [List.mem_cons, List.not_mem_nil, or_false] at z; omega) f7)
    apply s_seq
    refine s_set (d := enc (if decide (kind ∈ [2, 5]) = true then rG else rT)) ?_ fun T4 kk4 => ?_
    · have hi := ev_intB (S := T3) (ρ := [some (.ref h), some (.int sm), some (.int om), some (enc ac), some (enc ly), some (.ref nh), some (.ref lh), some (.ref hh), some (.ref rh), some (enc a), some (enc t), some (enc y), some (enc kind), b13, none, none]) (ev_in (α := Nat) (xs := [2, 5]) (a := kind) (es_of (ev_tup (as := [enc (2 : Nat), enc (5 : Nat)]) (ea_cons ev_C (ea_cons ev_C ea_nil)) (show 2 ≤ lim by decide))) (ev_var (i := 12) rfl) (by decide))
      refine ev_ixE (xs := [rT, rG]) (i := if decide (kind ∈ [2, 5]) = true then 1 else 0) (es_el (el_lst (ea_cons (ev_Ce rfl) (ea_cons (ev_Ce rfl) ea_nil)) (by decide))) ?_ ?_
      · cases hb : decide (kind ∈ [2, 5]) with
        | true => rw [hb] at hi; exact hi
        | false => rw [hb] at hi; exact hi
      · cases decide (kind ∈ [2, 5]) <;> rfl
    generalize (if decide (kind ∈ [2, 5]) = true then rG else rT) = rt
    dsimp only [List.set]
    apply s_seq
    have f7'' := kk4.get _ _ (fun z => nomatch z) f7'
    refine s_append (i := 7) (n := hh) (ds := hs.map enc) (d := enc (if ltE kind 3 = true then (Tri.mk a y rt : Hd) else Tri.mk y a rt)) rfl f7'' (ev_ifE (et_bl (ev_lt (α := Nat) (b := 3) (ev_var rfl) ev_C inferInstance)) (fun _ => ev_tri (ev_var rfl) (ev_var rfl) (ev_var rfl)) fun _ => ev_tri (ev_var rfl) (ev_var rfl) (ev_var rfl)) (by rw [List.length_map]; omega) fun T5 g7 kk5 => ?_
    refine s_set (d := enc y) (ev_var rfl) fun T6 kk6 => ?_
    have kk46 : Kp [hh] T3 T6 := (kp_l kk4).trans (kk5.trans (kp_l kk6))
    refine ⟨_, _, _, _, ls.eraseIdx r, y, hs ++ [if ltE kind 3 = true then (Tri.mk a y rt : Hd) else Tri.mk y a rt], rfl, (w3 kk46).get _ _ (nN (.inl rfl)) f1', (w3 kk46).get _ _ (nN (.inr rfl)) f2', kk46.get _ _ (fun z => lhhh (List.mem_singleton.mp z)) g3', by rw [List.length_eraseIdx_of_lt hrl]; omega, fun z m => f5 z (List.mem_of_mem_eraseIdx m), my, by rw [kk6.get _ _ (fun z => nomatch z) g7, List.map_append]; rfl, by rw [List.length_append, f8]; rfl, fun z m => ?_, q3.kp kk46 (fun z => hhh (List.mem_singleton.mp z).symm), kk1.trans ((w2 kk2).trans ((w1 kk3).trans (w3 kk46)))⟩
    rcases List.mem_append.mp m with m | m
    · exact f9 z m
    · rw [List.mem_singleton.mp m]
      split
      · exact ⟨f6, my⟩
      · exact ⟨my, f6⟩
  · rintro ρ T1 ⟨b10, b11, b12, b13, ls, a, hs, rfl, f1, f2, _, _, _, f6, f7, f8, f9, q1, kk1⟩
    have q1 : PotOk T1 h (k + 20) := q1.mono (by omega)
    apply s_seq
    rw [so_for, ok_iArgs, ok_aCons]
    refine k_draw (k := k + 19) (many := 5) q1 rfl ev_C (by decide) (by decide) fun tn T2 htn q2 kk2 => ?_
    rw [ok_aNil]
    refine ⟨_, rng1_nat (by omega), ?_⟩
    have f1' := (w1 kk2).get _ _ (nN (.inl rfl)) f1
    have f2' := (w1 kk2).get _ _ (nN (.inr rfl)) f2
    have f7' := kk2.get _ _ (fun z => hhh (List.mem_singleton.mp z)) f7
    refine for_inv (xs := (List.range tn).map fun i : Nat => D.int i) (fun i ρ S' => ∃ b10 b14 b15 hs, ρ = [some (.ref h), some (.int sm), some (.int om), some (enc ac), some (enc ly), some (.ref nh), some (.ref lh), some (.ref hh), some (.ref rh), some (enc a), b10, b11, b12, b13, b14, b15] ∧ S'[nh]? = some (.lst (ns.map enc)) ∧ S'[rh]? = some (.lst (rs.map enc)) ∧ S'[hh]? = some (.lst ((hs : List Hd).map enc)) ∧ hs.length = ac + ly - 1 + i ∧ (∀ x ∈ hs, x.x ∈ ns ∧ x.y ∈ ns) ∧ PotOk S' h (k + 3 * (tn - i)) ∧ Kp [h, lh, hh] S S') (by rw [List.length_map, List.length_range]; omega) (fun i ρ S' _ _ => rng_nx i S') ?_ ?_ ⟨_, _, _, hs, rfl, f1', f2', f7', f8, f9, q2.mono (by omega), kk1.trans (w1 kk2)⟩
    · rintro i x ρ T3 ex ⟨b10, b14, b15, hs, rfl, g1, g2, g7, g8, g9, q3, kk3⟩
      have hi : i < tn := by
        have := (List.getElem?_eq_some_iff.mp ex).1
        simpa using this
      have q3 : PotOk T3 h (k + 3 * (tn - (i + 1)) + 3) := q3.mono (by omega)
      refine ⟨_, rfl, ?_⟩
      dsimp only [List.set]
      apply s_seq
      apply s_parK
      apply k_cons
      refine k_pick (k := k + 3 * (tn - (i + 1)) + 2) (ds := ns.map enc) q3 rfl rfl (lstq g1 nhh) (by rw [List.length_map]; omega) (by rw [List.length_map]; omega) fun d md T4 q4 kk4 => ?_
      obtain ⟨y1, m1, rfl⟩ := List.mem_map.mp md
      have g1' := (w1 kk4).get _ _ (nN (.inl rfl)) g1
      apply k_cons
      refine k_pick (k := k + 3 * (tn - (i + 1)) + 1) (ds := ns.map enc) q4 rfl rfl (lstq g1' nhh) (by rw [List.length_map]; omega) (by rw [List.length_map]; omega) fun d md T5 q5 kk5 => ?_
      obtain ⟨y2, m2, rfl⟩ := List.mem_map.mp md
      apply k_nil
      refine ⟨_, _, rfl, ?_⟩
      dsimp only [List.set]
      have g1'' := (w1 kk5).get _ _ (nN (.inl rfl)) g1'
      have g2'' := (w1 kk5).get _ _ (nN (.inr rfl)) ((w1 kk4).get _ _ (nN (.inr rfl)) g2)
      have g7'' := kk5.get _ _ (fun z => hhh (List.mem_singleton.mp z)) (kk4.get _ _ (fun z => hhh (List.mem_singleton.mp z)) g7)
      rw [so_expr, ok_eMt, ok_eVar (d := .ref hh) (by rfl)]
      refine ⟨by simp only [tyD, g7''], ?_⟩
      apply k_cons
      rw [ok_eTup, ok_aCons, ok_eVar (d := enc y1) (by rfl), ok_aCons, ok_eVar (d := enc y2) (by rfl), ok_aCons, ok_eOp, ok_eVar (d := .ref rh) (by rfl)]
      refine k_draw (k := k + 3 * (tn - (i + 1))) (many := 7) q5 rfl ev_C (by decide) (by decide) fun r T6 hr q6 kk6 => ?_
      have g1s := (w1 kk6).get _ _ (nN (.inl rfl)) g1''
      have g2s := (w1 kk6).get _ _ (nN (.inr rfl)) g2''
      have g7s := kk6.get _ _ (fun z => hhh (List.mem_singleton.mp z)) g7''
      have hr' : r < rs.length := by omega
      have er : rs[r]? = some rs[r] := List.getElem?_eq_getElem hr'
      refine ⟨(enc rs[r], T6), idxL g2s (atI_enc er), ?_⟩
      rw [ok_aNil]
      refine ⟨(enc (Tri.mk y1 y2 rs[r]), T6), tupO_eq (show 3 ≤ lim by decide), ?_⟩
      apply k_nil
      refine ⟨(.non, T6.set hh (.lst (hs.map enc ++ [enc (Tri.mk y1 y2 rs[r])]))), ?_, ?_⟩
      · simp only [qAppend, g7s]
        rw [if_pos (by rw [List.length_map]; omega)]
      · have k7 : Kp [hh] T6 (T6.set hh (.lst (hs.map enc ++ [enc (Tri.mk y1 y2 rs[r])]))) := Kp.set
        refine ⟨_, _, _, hs ++ [Tri.mk y1 y2 rs[r]], rfl, (w3 k7).get _ _ (nN (.inl rfl)) g1s, (w3 k7).get _ _ (nN (.inr rfl)) g2s, by rw [set_get g7s, List.map_append]; rfl, by rw [List.length_append, g8, List.length_singleton]; omega, fun z m => ?_, q6.set (Ne.symm hhh), kk3.trans ((w1 (kk4.trans (kk5.trans kk6))).trans (w3 k7))⟩
        rcases List.mem_append.mp m with m | m
        · exact g9 z m
        · rw [List.mem_singleton.mp m]; exact ⟨m1, m2⟩
    · rintro ρ T3 ⟨b10, b14, b15, hs, rfl, g1, g2, g7, g8, g9, q3, kk3⟩
      rw [List.length_map, List.length_range] at g8 q3
      have nd1 : (ns.take ac).Nodup := nnd.sublist (List.take_sublist _ _)
      have nd2 : (ns.drop ac).Nodup := nnd.sublist (List.drop_sublist _ _)
      refine s_ret (d := enc (⟨sortE (ns.take ac), sortE (ns.drop ac), setE hs⟩ : Gt)) ?_ fun T4 kk4 => ?_
      · exact ev_tup (ea_cons (ev_tuple (es_el (el_sorted (es_el (el_cutTake rfl rfl g1)) inferInstance inferInstance (by rw [List.length_take]; omega)))) (ea_cons (ev_tuple (es_el (el_sorted (es_el (el_cutDrop rfl rfl g1)) inferInstance inferInstance (by rw [List.length_drop]; omega)))) (ea_cons (ev_tuple (es_el (el_sortSet (es_ref rfl g7) inferInstance inferInstance inferInstance (by show hs.length < 64; omega)))) ea_nil))) (show 3 ≤ lim by decide)
      have mN : ∀ y, y ∈ sortE (ns.take ac) ++ sortE (ns.drop ac) ↔ y ∈ ns := fun y => by
        rw [List.mem_append, mem_sortE, mem_sortE, ← List.mem_append, List.take_append_drop]
      refine K _ T4 ⟨ascE_sortE nd1, ascE_sortE nd2, ascE_setE _, fun y m m2 => ?_, fun z m => ?_, ?_, ?_⟩ ?_ ?_ ?_ ?_ (fun y m => nsh y ((mN y).mp m)) ((q3.mono (by omega)).kp kk4 (fun z => nomatch z)) ?_
      · have h12 := nnd
        rw [← List.take_append_drop ac ns] at h12
        exact (List.nodup_append.mp h12).2.2 y (mem_sortE.mp m) y (mem_sortE.mp m2) rfl
      · have := g9 z (mem_setE.mp m)
        exact ⟨(mN _).mpr this.1, (mN _).mpr this.2⟩
      · show (sortE (ns.take ac) ++ sortE (ns.drop ac)).length ≤ 30
        rw [List.length_append, len_sortE, len_sortE, List.length_take, List.length_drop]; omega
      · show (setE hs).length < 64
        have := len_setE hs
        omega
      · show 1 ≤ (sortE (ns.take ac)).length
        rw [len_sortE, List.length_take]; omega
      · show (sortE (ns.take ac)).length ≤ sm
        rw [len_sortE, List.length_take]; omega
      · show (sortE (ns.drop ac)).length ≤ om
        rw [len_sortE, List.length_drop]; omega
      · show (setE hs).length ≤ 30
        have := len_setE hs
        omega
      · refine ⟨Nat.le_trans kk3.len kk4.len, fun i o ni e => kk4.get _ _ (fun z => nomatch z) (kk3.get _ _ (fun z => ?_) e)⟩
        have hi := at_lt e
        simp only [List.mem_cons, List.not_mem_nil, or_false] at z
        rcases z with rfl | rfl | rfl
        · exact ni (by simp)
        · omega
        · omega
end
end Mini


namespace Mini
open PySem L2 PySem.W PyProof.Rows
-- side goals
local macro_rules | `(tactic| bv_omega) => `(tactic| first | decide | assumption | exact Flat.le | infer_instance | omega | (simp only [List.length_append, List.length_map, List.length_filter]; omega) | (simp; omega))
-- what an expression evaluates to
local macro_rules | `(tactic| array_get_dec) => `(tactic| first
  | assumption
  | ((with_reducible apply ev_var); rfl)
  | ((with_reducible apply ev_Ce); first | rfl | exact enc_w (by decide))
  | ((with_reducible apply ea_nil))
  | ((with_reducible apply et_yes))
  | ((with_reducible apply et_and); array_get_dec; (intro _; array_get_dec))
  | ((with_reducible apply et_or); array_get_dec; (intro _; array_get_dec))
  | ((with_reducible apply et_not); array_get_dec)
  | ((with_reducible apply et_bl); array_get_dec)
  | ((with_reducible apply et_tru); array_get_dec)
  | ((with_reducible apply et_truL); array_get_dec)
  | ((with_reducible apply ev_and); array_get_dec; (intro _; array_get_dec))
  | ((with_reducible apply ev_or); array_get_dec; (intro _; array_get_dec))
  | ((with_reducible apply ev_not); array_get_dec)
  | ((with_reducible apply ev_eq); array_get_dec; array_get_dec; bv_omega)
  | ((with_reducible apply ev_ne); array_get_dec; array_get_dec; bv_omega)
  | ((with_reducible apply ev_in); array_get_dec; array_get_dec; bv_omega)
  | ((with_reducible apply ev_nin); array_get_dec; array_get_dec; bv_omega)
  | ((with_reducible apply ev_ix); array_get_dec; rfl)
  | ((with_reducible apply ev_lt); array_get_dec; array_get_dec; bv_omega)
  | ((with_reducible apply ev_gt); array_get_dec; array_get_dec; bv_omega)
  | ((with_reducible apply ev_le); array_get_dec; array_get_dec; bv_omega)
  | ((with_reducible apply ev_ge); array_get_dec; array_get_dec; bv_omega)
  | ((with_reducible apply ev_addT); array_get_dec; array_get_dec; bv_omega)
  | ((with_reducible apply ev_addN); array_get_dec; array_get_dec)
  | ((with_reducible apply ev_addI); array_get_dec; array_get_dec)
  | ((with_reducible apply ev_subI); array_get_dec; array_get_dec)
  | ((with_reducible apply ev_qui); array_get_dec; array_get_dec; array_get_dec; array_get_dec; array_get_dec)
  | ((with_reducible apply ev_qua); array_get_dec; array_get_dec; array_get_dec; array_get_dec)
  | ((with_reducible apply ev_ifE); array_get_dec; (intro _; array_get_dec); (intro _; array_get_dec))
  | ((with_reducible apply ev_tri); array_get_dec; array_get_dec; array_get_dec)
  | ((with_reducible apply ev_pair); array_get_dec; array_get_dec)
  | ((with_reducible apply ev_len); array_get_dec)
  | ((with_reducible apply ev_tuple); array_get_dec)
  | ((with_reducible apply ev_all); array_get_dec)
  | ((with_reducible apply ev_any); array_get_dec)
  | ((with_reducible apply ea_cons); array_get_dec; array_get_dec)
  | ((with_reducible apply ei_any); array_get_dec)
  | ((with_reducible apply el_lc1); array_get_dec; bv_omega; (intro x hx; refine ⟨_, rfl, ?_⟩; apply Exists.intro; apply And.intro; array_get_dec; rfl))
  | ((with_reducible apply el_lc); array_get_dec; bv_omega; (intro x hx; refine ⟨_, rfl, ?_, ?_⟩; (apply Exists.intro; apply And.intro; array_get_dec; rfl); (intro hp; apply Exists.intro; apply And.intro; array_get_dec; rfl)))
  | ((with_reducible apply el_sortSet); array_get_dec; infer_instance; infer_instance; infer_instance; bv_omega)
  | ((with_reducible apply el_sorted); array_get_dec; infer_instance; infer_instance; bv_omega)
  | ((with_reducible apply el_list); array_get_dec)
  | ((with_reducible apply el_nil))
  | ((with_reducible apply el_one); array_get_dec)
  | ((with_reducible apply ev_oneT); array_get_dec)
  | ((with_reducible apply ev_nilT))
  | ((with_reducible apply es_ref); rfl; assumption)
  | ((with_reducible apply es_of); array_get_dec)
  | ((with_reducible apply es_el); array_get_dec))
section
open PySem L2 PySem.W PyProof.Rows
open En (enc pd dep)
theorem Rc.trans {E : Nm → List Nm} {a b c : Nm} (r : Rc E a b) (q : Rc E b c) : Rc E a c := by
  induction q with
  | refl => exact r
  | step _ m ih => exact ih.step m
end
end Mini


namespace Mini
open PySem L2 PySem.W PyProof.Rows
-- side goals
local macro_rules | `(tactic| bv_omega) => `(tactic| first | decide | assumption | exact Flat.le | infer_instance | omega | (simp only [List.length_append, List.length_map, List.length_filter]; omega) | (simp; omega))
-- what an expression evaluates to
local macro_rules | `(tactic| array_get_dec) => `(tactic| first
  | assumption
  | ((with_reducible apply ev_var); rfl)
  | ((with_reducible apply ev_Ce); first | rfl | exact enc_w (by decide))
  | ((with_reducible apply ea_nil))
  | ((with_reducible apply et_yes))
  | ((with_reducible apply et_and); array_get_dec; (intro _; array_get_dec))
  | ((with_reducible apply et_or); array_get_dec; (intro _; array_get_dec))
  | ((with_reducible apply et_not); array_get_dec)
  | ((with_reducible apply et_bl); array_get_dec)
  | ((with_reducible apply et_tru); array_get_dec)
  | ((with_reducible apply et_truL); array_get_dec)
  | ((with_reducible apply ev_and); array_get_dec; (intro _; array_get_dec))
  | ((with_reducible apply ev_or); array_get_dec; (intro _; array_get_dec))
  | ((with_reducible apply ev_not); array_get_dec)
  | ((with_reducible apply ev_eq); array_get_dec; array_get_dec; bv_omega)
  | ((with_reducible apply ev_ne); array_get_dec; array_get_dec; bv_omega)
  | ((with_reducible apply ev_in); array_get_dec; array_get_dec; bv_omega)
  | ((with_reducible apply ev_nin); array_get_dec; array_get_dec; bv_omega)
  | ((with_reducible apply ev_ix); array_get_dec; rfl)
  | ((with_reducible apply ev_lt); array_get_dec; array_get_dec; bv_omega)
  | ((with_reducible apply ev_gt); array_get_dec; array_get_dec; bv_omega)
  | ((with_reducible apply ev_le); array_get_dec; array_get_dec; bv_omega)
  | ((with_reducible apply ev_ge); array_get_dec; array_get_dec; bv_omega)
  | ((with_reducible apply ev_addT); array_get_dec; array_get_dec; bv_omega)
  | ((with_reducible apply ev_addN); array_get_dec; array_get_dec)
  | ((with_reducible apply ev_addI); array_get_dec; array_get_dec)
  | ((with_reducible apply ev_subI); array_get_dec; array_get_dec)
  | ((with_reducible apply ev_qui); array_get_dec; array_get_dec; array_get_dec; array_get_dec; array_get_dec)
  | ((with_reducible apply ev_qua); array_get_dec; array_get_dec; array_get_dec; array_get_dec)
  | ((with_reducible apply ev_ifE); array_get_dec; (intro _; array_get_dec); (intro _; array_get_dec))
  | ((with_reducible apply ev_tri); array_get_dec; array_get_dec; array_get_dec)
  | ((with_reducible apply ev_pair); array_get_dec; array_get_dec)
  | ((with_reducible apply ev_len); array_get_dec)
  | ((with_reducible apply ev_tuple); array_get_dec)
  | ((with_reducible apply ev_all); array_get_dec)
  | ((with_reducible apply ev_any); array_get_dec)
  | ((with_reducible apply ea_cons); array_get_dec; array_get_dec)
  | ((with_reducible apply ei_any); array_get_dec)
  | ((with_reducible apply el_lc1); array_get_dec; bv_omega; (intro x hx; refine ⟨_, rfl, ?_⟩; apply Exists.intro; apply And.intro; array_get_dec; rfl))
  | ((with_reducible apply el_lc); array_get_dec; bv_omega; (intro x hx; refine ⟨_, rfl, ?_, ?_⟩; (apply Exists.intro; apply And.intro; array_get_dec; rfl); (intro hp; apply Exists.intro; apply And.intro; array_get_dec; rfl)))
  | ((with_reducible apply el_sortSet); array_get_dec; infer_instance; infer_instance; infer_instance; bv_omega)
  | ((with_reducible apply el_sorted); array_get_dec; infer_instance; infer_instance; bv_omega)
  | ((with_reducible apply el_list); array_get_dec)
  | ((with_reducible apply el_nil))
  | ((with_reducible apply el_one); array_get_dec)
  | ((with_reducible apply ev_oneT); array_get_dec)
  | ((with_reducible apply ev_nilT))
  | ((with_reducible apply es_ref); rfl; assumption)
  | ((with_reducible apply es_of); array_get_dec)
  | ((with_reducible apply es_el); array_get_dec))
section
open PySem L2 PySem.W PyProof.Rows
open En (enc pd dep)
theorem any_graph_K {S : Store} {h k sm om hm : Nat} {P : D → Store → Prop} {X : XP} (p : PotOk S h (k + 401)) (h1 : 1 ≤ sm) (h2 : sm + om ≤ 26) (h3 : hm ≤ 40)
    (K : ∀ (g : Gt) S', GOk g → 1 ≤ g.A.length → g.A.length ≤ sm → g.O.length ≤ om → g.H.length ≤ max 30 hm → Short g → PotOk S' h k → Kp [h] S S' → P (enc g) S') :
    ok (C.g__law_any_graph [.ref h, .int sm, .int om, .int hm] S) P X := by
  unfold C.g__law_any_graph
  rw [run4]
  unfold C.b__law_any_graph
  refine s_mid (fun ρ T => ρ = [some (.ref h), some (.int sm), some (.int om), some (.int hm)] ∧ PotOk T h (k + 400) ∧ Kp [h] S T) ?_ ?_
  · apply s_ifK
    apply k_bl
    apply k_op
    refine k_draw (k := k + 400) (many := 5) p rfl ev_C (by decide) (by decide) fun r S1 hr p1 k1 => ?_
    rw [ok_eC]
    refine ⟨(enc (ltE r 2), S1), t_lt (α := Nat) (b := 2), ltE r 2, rfl, fun _ => ?_, fun _ => s_nil ⟨rfl, p1, k1⟩⟩
    apply s_retK
    rw [ok_eCall, ok_aCons, ok_eVar (d := .ref h) (by rfl), ok_aCons, ok_eVar (d := .int sm) (by rfl), ok_aCons, ok_eVar (d := .int om) (by rfl), ok_aNil]
    exact row_graph_K (k := k) p1 h1 h2 fun g S' o a1 a2 a3 a4 a5 a6 a7 => K g S' o a1 a2 a3 (by omega) a5 a6 (k1.trans a7)
  · rintro ρ T ⟨rfl, p1, k1⟩
    apply s_retK
    rw [ok_eCall, ok_aCons, ok_eVar (d := .ref h) (by rfl), ok_aCons, ok_eVar (d := .int sm) (by rfl), ok_aCons, ok_eVar (d := .int om) (by rfl), ok_aCons, ok_eVar (d := .int hm) (by rfl), ok_aNil]
    exact graph_K (k := k) p1 h1 h2 h3 fun g S' o a1 a2 a3 a4 a5 a6 a7 => K g S' o a1 a2 a3 (by omega) a5 a6 (k1.trans a7)
abbrev T1 : D → Store → Prop := fun d _ => d = .bl true
end
end Mini




namespace Mini
open PySem L2 PySem.W PyProof.Rows
-- side goals
local macro_rules | `(tactic| bv_omega) => `(tactic| first | decide | assumption | exact Flat.le | infer_instance | omega | (simp only [List.length_append, List.length_map, List.length_filter]; omega) | (simp; omega))
-- what an expression evaluates to
local macro_rules | `(tactic| array_get_dec) => `(tactic| first
  | assumption
  | ((with_reducible apply ev_var); rfl)
  | ((with_reducible apply ev_Ce); first | rfl | exact enc_w (by decide))
  | ((with_reducible apply ea_nil))
  | ((with_reducible apply et_yes))
  | ((with_reducible apply et_and); array_get_dec; (intro _; array_get_dec))
  | ((with_reducible apply et_or); array_get_dec; (intro _; array_get_dec))
  | ((with_reducible apply et_not); array_get_dec)
  | ((with_reducible apply et_bl); array_get_dec)
  | ((with_reducible apply et_tru); array_get_dec)
  | ((with_reducible apply et_truL); array_get_dec)
  | ((with_reducible apply ev_and); array_get_dec; (intro _; array_get_dec))
  | ((with_reducible apply ev_or); array_get_dec; (intro _; array_get_dec))
  | ((with_reducible apply ev_not); array_get_dec)
  | ((with_reducible apply ev_eq); array_get_dec; array_get_dec; bv_omega)
  | ((with_reducible apply ev_ne); array_get_dec; array_get_dec; bv_omega)
  | ((with_reducible apply ev_in); array_get_dec; array_get_dec; bv_omega)
  | ((with_reducible apply ev_nin); array_get_dec; array_get_dec; bv_omega)
  | ((with_reducible apply ev_ix); array_get_dec; rfl)
  | ((with_reducible apply ev_lt); array_get_dec; array_get_dec; bv_omega)
  | ((with_reducible apply ev_gt); array_get_dec; array_get_dec; bv_omega)
  | ((with_reducible apply ev_le); array_get_dec; array_get_dec; bv_omega)
  | ((with_reducible apply ev_ge); array_get_dec; array_get_dec; bv_omega)
  | ((with_reducible apply ev_addT); array_get_dec; array_get_dec; bv_omega)
  | ((with_reducible apply ev_addN); array_get_dec; array_get_dec)
  | ((with_reducible apply ev_addI); array_get_dec; array_get_dec)
  | ((with_reducible apply ev_subI); array_get_dec; array_get_dec)
  | ((with_reducible apply ev_qui); array_get_dec; array_get_dec; array_get_dec; array_get_dec; array_get_dec)
  | ((with_reducible apply ev_qua); array_get_dec; array_get_dec; array_get_dec; array_get_dec)
  | ((with_reducible apply ev_ifE); array_get_dec; (intro _; array_get_dec); (intro _; array_get_dec))
  | ((with_reducible apply ev_tri); array_get_dec; array_get_dec; array_get_dec)
  | ((with_reducible apply ev_pair); array_get_dec; array_get_dec)
  | ((with_reducible apply ev_len); array_get_dec)
  | ((with_reducible apply ev_tuple); array_get_dec)
  | ((with_reducible apply ev_all); array_get_dec)
  | ((with_reducible apply ev_any); array_get_dec)
  | ((with_reducible apply ea_cons); array_get_dec; array_get_dec)
  | ((with_reducible apply ei_any); array_get_dec)
  | ((with_reducible apply el_lc1); array_get_dec; bv_omega; (intro x hx; refine ⟨_, rfl, ?_⟩; apply Exists.intro; apply And.intro; array_get_dec; rfl))
  | ((with_reducible apply el_lc); array_get_dec; bv_omega; (intro x hx; refine ⟨_, rfl, ?_, ?_⟩; (apply Exists.intro; apply And.intro; array_get_dec; rfl); (intro hp; apply Exists.intro; apply And.intro; array_get_dec; rfl)))
  | ((with_reducible apply el_sortSet); array_get_dec; infer_instance; infer_instance; infer_instance; bv_omega)
  | ((with_reducible apply el_sorted); array_get_dec; infer_instance; infer_instance; bv_omega)
  | ((with_reducible apply el_list); array_get_dec)
  | ((with_reducible apply el_nil))
  | ((with_reducible apply el_one); array_get_dec)
  | ((with_reducible apply ev_oneT); array_get_dec)
  | ((with_reducible apply ev_nilT))
  | ((with_reducible apply es_ref); rfl; assumption)
  | ((with_reducible apply es_of); array_get_dec)
  | ((with_reducible apply es_el); array_get_dec))
section
open PySem L2 PySem.W PyProof.Rows
open En (enc pd dep)
def keyH (k : Hd) : List Key := [.inr k.x.s, .inr k.y.s, .inr k.z.s]
theorem keyH_inj {a b : Hd} : keyH a = keyH b ↔ a = b := by
  constructor
  · intro h
    unfold keyH at h
    simp only [List.cons.injEq, Sum.inr.injEq, and_true] at h
    obtain ⟨h1, h2, h3⟩ := h
    obtain ⟨⟨x, _⟩, ⟨y, _⟩, ⟨z, _⟩⟩ := a
    obtain ⟨⟨x', _⟩, ⟨y', _⟩, ⟨z', _⟩⟩ := b
    simp only at h1 h2 h3
    subst h1; subst h2; subst h3; rfl
  · rintro rfl; rfl
section
variable {S S' : Store} {h : Nat} {ks : List Hd} {k : Hd} {ρ : Env} {fo fi : ME}
theorem tkey_enc (k : Hd) : tkeyOf (enc k) = some (keyH k) := rfl
theorem key_enc (k : Hd) : keyOf (enc k) = none := rfl
end
end
end Mini







namespace Mini
open PySem L2 PySem.W PyProof.Rows
open En (enc pd dep)
theorem ltE_cons {a b : Nm} {l k : List Nm} : ltE (a :: l) (b :: k) = if a = b then ltE l k else ltE a b := by
  show dataLt (.tuple (pd a :: l.map pd)) (.tuple (pd b :: k.map pd)) = _
  rw [dataLt_tuple, dataLt_cons (EnO.like _ _), En.eqv]
  simp only [decide_eq_true_eq]
  split
  · show _ = dataLt (.tuple (l.map pd)) (.tuple (k.map pd))
    rw [dataLt_tuple]
  · rfl
theorem ltE_snoc {v : Nm} : ∀ {a b : List Nm}, a.length = b.length → ltE (a ++ [v]) (b ++ [v]) = ltE a b
  | [], [], _ => by rw [List.nil_append, ltE_irr, ltE_irr]
  | x :: a, y :: b, h => by
    rw [List.cons_append, List.cons_append, ltE_cons, ltE_cons, ltE_snoc (by simpa using h)]
  | [], _ :: _, h => nomatch h
  | _ :: _, [], h => nomatch h
inductive Wlk (E : Nm → List Nm) : Nm → Nm → List Nm → Prop
  | one (x : Nm) : Wlk E x x [x]
  | cons {x y z : Nm} {w : List Nm} : y ∈ E x → Wlk E y z w → Wlk E x z (x :: w)
def LW (E : Nm → List Nm) (x z : Nm) (w : List Nm) : Prop := Wlk E x z w ∧ ∀ w', Wlk E x z w' → w.length < w'.length ∨ (w.length = w'.length ∧ ltE w' w = false)
theorem LW.uniq {E : Nm → List Nm} {x z : Nm} {w w' : List Nm} (a : LW E x z w) (b : LW E x z w') : w = w' := by
  rcases a.2 w' b.1 with h1 | ⟨h1, h2⟩ <;> rcases b.2 w a.1 with h3 | ⟨h3, h4⟩
  · omega
  · omega
  · omega
  · rcases ltE_tot w w' with h | h | h
    · rw [h] at h4; cases h4
    · exact h
    · rw [h] at h2; cases h2
theorem Wlk.snoc {E : Nm → List Nm} {x y z : Nm} {w : List Nm} (a : Wlk E x y w) (m : z ∈ E y) : Wlk E x z (w ++ [z]) := by
  induction a with
  | one x => exact .cons m (.one z)
  | cons h _ ih => exact .cons h (ih m)
theorem Wlk.rc {E : Nm → List Nm} {x z : Nm} {w : List Nm} (a : Wlk E x z w) : Rc E x z := by
  induction a with
  | one x => exact .refl
  | cons h _ ih => exact (Rc.refl.step h).trans ih
theorem Wlk.head {E : Nm → List Nm} {x z : Nm} {w : List Nm} (a : Wlk E x z w) : ∃ t, w = x :: t := by
  cases a with
  | one => exact ⟨[], rfl⟩
  | cons _ _ => exact ⟨_, rfl⟩
theorem Wlk.unsnoc {E : Nm → List Nm} {x v : Nm} {w : List Nm} (a : Wlk E x v w) : (x = v ∧ w = [x]) ∨ ∃ u w', w = w' ++ [v] ∧ Wlk E x u w' ∧ v ∈ E u := by
  induction a with
  | one x => exact .inl ⟨rfl, rfl⟩
  | @cons x y z w m a ih =>
    rcases ih with ⟨e1, e2⟩ | ⟨u, w', e, b, c⟩
    · subst e1
      exact .inr ⟨x, [x], by rw [e2]; rfl, .one x, m⟩
    · exact .inr ⟨u, x :: w', by rw [e]; rfl, .cons m b, c⟩
theorem LW.cons {E : Nm → List Nm} {x y z : Nm} {w : List Nm} (m : y ∈ E x) (lw : LW E y z w) (ne : x ≠ z) (h : ∀ y' ∈ E x, ∀ w', Wlk E y' z w' → w.length < w'.length ∨ (w.length = w'.length ∧ ltE y' y = false)) : LW E x z (x :: w) := by
  refine ⟨.cons m lw.1, fun w2 a => ?_⟩
  cases a with
  | one => exact absurd rfl ne
  | @cons _ y' _ w' m' a' =>
    rcases h y' m' w' a' with h1 | ⟨h1, h2⟩
    · left; simp only [List.length_cons]; omega
    · right
      refine ⟨by simp only [List.length_cons]; omega, ?_⟩
      rw [ltE_cons, if_pos rfl]
      by_cases e : y' = y
      · subst e
        rcases lw.2 w' a' with h3 | h3
        · omega
        · exact h3.2
      · obtain ⟨t, e1⟩ := a'.head
        obtain ⟨t2, e2⟩ := lw.1.head
        rw [e1, e2, ltE_cons, if_neg e]; exact h2
theorem LW.snoc {E : Nm → List Nm} {x u v : Nm} {w : List Nm} (lw : Wlk E x u w) (m : v ∈ E u) (ne : x ≠ v) (h : ∀ u' w', Wlk E x u' w' → v ∈ E u' → w.length < w'.length ∨ (w.length = w'.length ∧ ltE w' w = false)) : LW E x v (w ++ [v]) := by
  refine ⟨lw.snoc m, fun w2 a => ?_⟩
  rcases a.unsnoc with ⟨e, _⟩ | ⟨u', w', rfl, b, c⟩
  · exact absurd e ne
  · rcases h u' w' b c with h1 | ⟨h1, h2⟩
    · left; rw [List.length_append, List.length_append]; exact Nat.add_lt_add_right h1 _
    · right
      exact ⟨by rw [List.length_append, List.length_append, h1], by rw [ltE_snoc h1.symm]; exact h2⟩
structure BF (E : Nm → List Nm) (x : Nm) (k : Nat) (ks : List Nm) (W : Nm → List Nm) : Prop where
  lw : ∀ u ∈ ks, LW E x u (W u) ∧ (W u).length ≤ k + 1
  all : ∀ u w, Wlk E x u w → w.length ≤ k + 1 → u ∈ ks
theorem BF.zero {E : Nm → List Nm} {x : Nm} {W : Nm → List Nm} (h : W x = [x]) : BF E x 0 [x] W := by
  refine ⟨fun u mu => ?_, fun u w a l => ?_⟩
  · rw [List.mem_singleton.mp mu, h]
    refine ⟨⟨.one x, fun w' a => ?_⟩, Nat.le_refl _⟩
    cases a with
    | one => exact .inr ⟨rfl, ltE_irr _⟩
    | cons m a => left; obtain ⟨t, e⟩ := a.head; rw [e]; simp
  · cases a with
    | one => exact List.mem_singleton_self _
    | cons m a => obtain ⟨t, e⟩ := a.head; rw [e] at l; simp at l
theorem BF.x0 {E : Nm → List Nm} {x : Nm} {k : Nat} {ks : List Nm} {W : Nm → List Nm} (b : BF E x k ks W) : x ∈ ks := b.all x [x] (.one x) (by simp)
theorem BF.ext {E : Nm → List Nm} {x u v : Nm} {k : Nat} {ks : List Nm} {W : Nm → List Nm} (b : BF E x k ks W) {w : List Nm} (a : Wlk E x u w) (l : w.length ≤ k) (m : v ∈ E u) : v ∈ ks := b.all v (w ++ [v]) (a.snoc m) (by rw [List.length_append, List.length_singleton]; omega)
theorem BF.new {E : Nm → List Nm} {x u v : Nm} {k : Nat} {ks : List Nm} {W : Nm → List Nm} (b : BF E x k ks W) (mu : u ∈ ks) (lu : (W u).length = k + 1) (m : v ∈ E u) (nv : v ∉ ks)
    (early : ∀ u' ∈ ks, (W u').length = k + 1 → v ∈ E u' → ltE (W u') (W u) = false) : LW E x v (W u ++ [v]) := by
  refine LW.snoc (b.lw u mu).1.1 m (fun e => nv (e ▸ b.x0)) fun u' w' a m' => ?_
  by_cases h1 : w'.length ≤ k
  · exact absurd (b.ext a h1 m') nv
  · by_cases h2 : w'.length = k + 1
    · right
      refine ⟨by omega, ?_⟩
      have mu' : u' ∈ ks := b.all u' w' a (by omega)
      obtain ⟨lw', ll'⟩ := b.lw u' mu'
      have h3 : (W u').length = k + 1 := by
        by_cases h : (W u').length ≤ k
        · exact absurd (b.ext lw'.1 h m') nv
        · omega
      have e1 := early u' mu' h3 m'
      have e2 : ltE w' (W u') = false := by
        rcases lw'.2 w' a with h | h
        · omega
        · exact h.2
      cases e : ltE w' (W u) with
      | false => rfl
      | true =>
        rcases ltE_tot (W u') (W u) with h | h | h
        · rw [h] at e1; cases e1
        · rw [h, e] at e2; cases e2
        · rw [ltE_trans e h] at e2; cases e2
    · left; omega
theorem BF.next {E : Nm → List Nm} {x : Nm} {k : Nat} {ks ks' : List Nm} {W W' : Nm → List Nm} (b : BF E x k ks W) (same : ∀ u ∈ ks, W' u = W u) (sub : ∀ u ∈ ks, u ∈ ks')
    (new : ∀ v ∈ ks', v ∉ ks → LW E x v (W' v) ∧ (W' v).length = k + 2) (cov : ∀ u ∈ ks, (W u).length = k + 1 → ∀ v ∈ E u, v ∈ ks') : BF E x (k + 1) ks' W' := by
  refine ⟨fun u mu => ?_, fun u w a l => ?_⟩
  · by_cases h : u ∈ ks
    · rw [same u h]
      obtain ⟨h1, h2⟩ := b.lw u h
      exact ⟨h1, by omega⟩
    · obtain ⟨h1, h2⟩ := new u mu h
      exact ⟨h1, by omega⟩
  · by_cases h : w.length ≤ k + 1
    · exact sub u (b.all u w a h)
    · rcases a.unsnoc with ⟨e1, e2⟩ | ⟨u', w', rfl, a', m⟩
      · rw [e2] at h; simp at h
      · rw [List.length_append, List.length_singleton] at l h
        have mu' := b.all u' w' a' (by omega)
        by_cases h3 : (W u').length ≤ k
        · exact sub u (b.ext (b.lw u' mu').1.1 h3 m)
        · exact cov u' mu' (by have := (b.lw u' mu').2; omega) u m
theorem BF.done {E : Nm → List Nm} {x : Nm} {k : Nat} {ks : List Nm} {W : Nm → List Nm} (b : BF E x k ks W) (no : ∀ u ∈ ks, (W u).length ≠ k + 1) {y : Nm} (r : Rc E x y) : y ∈ ks := by
  induction r with
  | refl => exact b.x0
  | step _ m ih => exact b.ext (b.lw _ ih).1.1 (by have := (b.lw _ ih).2; have := no _ ih; omega) m
def DW (E : Nm → List Nm) (x z : Nm) (n : Nat) : Prop := (∃ w, Wlk E x z w ∧ w.length = n + 1) ∧ ∀ w, Wlk E x z w → n + 1 ≤ w.length
inductive Grd (E : Nm → List Nm) (z : Nm) : Nat → Nm → List Nm → Prop
  | zero : Grd E z 0 z [z]
  | succ {n : Nat} {x y : Nm} {w : List Nm} : y ∈ E x → DW E y z n → (∀ t ∈ E x, DW E t z n → ltE t y = false) → Grd E z n y w → Grd E z (n + 1) x (x :: w)
theorem DW.zero {E : Nm → List Nm} {x z : Nm} : DW E x z 0 ↔ x = z := by
  constructor
  · rintro ⟨⟨w, a, l⟩, _⟩
    cases a with
    | one => rfl
    | cons m a => obtain ⟨t, e⟩ := a.head; rw [e] at l; simp at l
  · rintro rfl
    exact ⟨⟨[x], .one x, rfl⟩, fun w a => by obtain ⟨t, e⟩ := a.head; rw [e]; simp⟩
theorem Grd.lw {E : Nm → List Nm} {z : Nm} {n : Nat} {x : Nm} {w : List Nm} (g : Grd E z n x w) (d : DW E x z n) : LW E x z w ∧ w.length = n + 1 := by
  induction g with
  | zero =>
    refine ⟨⟨.one z, fun w' a => ?_⟩, rfl⟩
    obtain ⟨t, rfl⟩ := a.head
    cases t with
    | nil => exact .inr ⟨rfl, ltE_irr _⟩
    | cons b t => left; simp
  | @succ n x y w m dy least _ ih =>
    obtain ⟨lw, lw'⟩ := ih dy
    have ne : x ≠ z := fun e => by
      subst e
      have := d.2 [x] (.one x)
      simp at this
    refine ⟨LW.cons m lw ne fun y' m' w' a => ?_, by rw [List.length_cons, lw']⟩
    have h1 := d.2 (x :: w') (.cons m' a)
    rw [List.length_cons] at h1
    by_cases h : w'.length = n + 1
    · right
      refine ⟨by omega, least y' m' ⟨⟨w', a, h⟩, fun w2 a2 => ?_⟩⟩
      have := d.2 (x :: w2) (.cons m' a2)
      rw [List.length_cons] at this
      omega
    · left; omega
structure FQ (E : Nm → List Nm) (z : Nm) (ws : List Nm) (f : Nm → Nat) (a : Nat) : Prop where
  z0 : z ∈ ws
  fz : f z = 0
  nd : ws.Nodup
  val : ∀ y ∈ ws, ∃ w, Wlk E y z w ∧ w.length = f y + 1
  mono : ∀ (i j : Nat) (u v : Nm), i ≤ j → ws[i]? = some u → ws[j]? = some v → f u ≤ f v
  near : ∀ u v, ws[a]? = some u → v ∈ ws → f v ≤ f u + 1
  done : ∀ (i : Nat) (u : Nm), i < a → ws[i]? = some u → ∀ y, u ∈ E y → y ∈ ws ∧ f y ≤ f u + 1
theorem FQ.fin {E : Nm → List Nm} {z : Nm} {ws : List Nm} {f : Nm → Nat} {a : Nat} (q : FQ E z ws f a) (h : ws.length ≤ a) {y : Nm} {w : List Nm} (k : Wlk E y z w) : y ∈ ws ∧ f y + 1 ≤ w.length := by
  induction k with
  | one x => exact ⟨q.z0, by rw [q.fz]; simp⟩
  | cons m _ ih =>
    obtain ⟨h1, h2⟩ := ih q
    obtain ⟨i, ei⟩ := List.getElem?_of_mem h1
    have hi := (List.getElem?_eq_some_iff.mp ei).1
    obtain ⟨h3, h4⟩ := q.done i _ (by omega) ei _ m
    exact ⟨h3, by rw [List.length_cons]; omega⟩
end Mini
namespace Mini
open PySem L2 PySem.W PyProof.Rows
open En (enc pd dep)
abbrev Lc := List (Nat × MO)
structure Lo (B S : Store) (ls : Lc) : Prop where
  kp : Kp [] B S
  get : ∀ p ∈ ls, S[p.1]? = some p.2
  new : ∀ p ∈ ls, B.length ≤ p.1
  nd : (ls.map (·.1)).Nodup
section
variable {B S S' : Store} {ls : Lc}
theorem Lo.refl : Lo B B [] := ⟨.refl, fun _ h => absurd h List.not_mem_nil, fun _ h => absurd h List.not_mem_nil, List.nodup_nil⟩
theorem Lo.start (k : Kp [] B S) : Lo B S [] := ⟨k, fun _ h => absurd h List.not_mem_nil, fun _ h => absurd h List.not_mem_nil, List.nodup_nil⟩
theorem Lo.mv (L : Lo B S ls) (k : Kp [] S S') : Lo B S' ls := ⟨L.kp.trans k, fun p h => k.get _ _ (fun z => nomatch z) (L.get p h), L.new, L.nd⟩
theorem Lo.lt (L : Lo B S ls) {p : Nat × MO} (h : p ∈ ls) : p.1 < S.length := at_lt (L.get p h)
theorem Lo.add (L : Lo B S ls) (k : Kp [] S S') {h : Nat} {m : MO} (e : S'[h]? = some m) (l : S.length ≤ h) : Lo B S' ((h, m) :: ls) := by
  refine ⟨L.kp.trans k, fun p hp => ?_, fun p hp => ?_, ?_⟩
  · rcases List.mem_cons.mp hp with rfl | hp
    · exact e
    · exact (L.mv k).get p hp
  · rcases List.mem_cons.mp hp with rfl | hp
    · exact Nat.le_trans L.kp.len l
    · exact L.new p hp
  · rw [List.map_cons, List.nodup_cons]
    refine ⟨fun z => ?_, L.nd⟩
    obtain ⟨q, hq, eq⟩ := List.mem_map.mp z
    have := L.lt hq
    have eq : q.1 = h := eq
    omega
theorem Lo.alloc (L : Lo B S ls) {m : MO} : Lo B (S ++ [m]) ((S.length, m) :: ls) := L.add Kp.new new_get (Nat.le_refl _)
theorem Lo.tail {p : Nat × MO} (L : Lo B S (p :: ls)) : Lo B S ls := ⟨L.kp, fun q h => L.get q (List.mem_cons_of_mem _ h), fun q h => L.new q (List.mem_cons_of_mem _ h), (List.nodup_cons.mp (by have := L.nd; rwa [List.map_cons] at this)).2⟩
theorem Lo.sub {ks : Lc} (L : Lo B S ls) (p : ks.Sublist ls) : Lo B S ks := ⟨L.kp, fun q h => L.get q (p.subset h), fun q h => L.new q (p.subset h), L.nd.sublist (p.map _)⟩
theorem Lo.drop (L : Lo B S ls) (n : Nat) : Lo B S (ls.drop n) := L.sub (List.drop_sublist n ls)
theorem Lo.set (L : Lo B S ls) {j h : Nat} {m m' : MO} (e : ls[j]? = some (h, m)) : Lo B (S.set h m') (ls.set j (h, m')) := by
  have mh : (h, m) ∈ ls := List.mem_of_getElem? e
  have lj : j < ls.length := (List.getElem?_eq_some_iff.mp e).1
  have ej : ls[j] = (h, m) := (List.getElem?_eq_some_iff.mp e).2
  have keys : (ls.set j (h, m')).map (·.1) = ls.map (·.1) := by
    rw [List.map_set]
    apply List.ext_getElem?
    intro i
    by_cases hi : j = i
    · subst hi
      rw [List.getElem?_set_self (by rw [List.length_map]; exact lj), List.getElem?_map, e]; rfl
    · rw [List.getElem?_set_ne hi]
  refine ⟨⟨by rw [List.length_set]; exact L.kp.len, fun i m0 n0 e0 => ?_⟩, fun p hp => ?_, fun p hp => ?_, by rw [keys]; exact L.nd⟩
  · have := L.new _ mh
    have hi := at_lt e0
    rw [List.getElem?_set_ne (by simp only at this; omega)]
    exact L.kp.get _ _ n0 e0
  · obtain ⟨i, ei⟩ := List.getElem?_of_mem hp
    by_cases hi : j = i
    · subst hi
      rw [List.getElem?_set_self lj] at ei
      cases ei
      exact set_get (L.get _ mh)
    · rw [List.getElem?_set_ne hi] at ei
      have hp2 : p ∈ ls := List.mem_of_getElem? ei
      have ne : h ≠ p.1 := fun z => by
        have h1 : (ls.map (·.1))[j]? = some h := by rw [List.getElem?_map, e]; rfl
        have h2 : (ls.map (·.1))[i]? = some h := by rw [List.getElem?_map, ei]; exact congrArg some z.symm
        exact hi ((List.getElem?_inj (by rw [List.length_map]; exact lj) L.nd).mp (h1.trans h2.symm))
      rw [List.getElem?_set_ne ne]
      exact L.get p hp2
  · have mk : p.1 ∈ (ls.set j (h, m')).map (·.1) := List.mem_map.mpr ⟨p, hp, rfl⟩
    rw [keys] at mk
    obtain ⟨q, hq, eq⟩ := List.mem_map.mp mk
    rw [← eq]; exact L.new q hq
end
section
variable {κ β : Type} [DecidableEq κ] [DecidableEq β]
def lookC (l : List (κ × D)) (x : κ) : Option D := (l.find? fun p => decide (p.1 = x)).map (·.2)
def putC (l : List (κ × D)) (x : κ) (v : D) : List (κ × D) := if x ∈ l.map (·.1) then l.map (fun p => if p.1 = x then (p.1, v) else p) else l ++ [(x, v)]
class KeyC (κ : Type) [DecidableEq κ] [En κ] where
  mo : List (κ × D) → MO
  fz : List (κ × D) → MO
  nil : mo [] = .dK []
  inn : ∀ l x S h, (S[h]? = some (mo l) ∨ S[h]? = some (fz l)) → inD S (enc x) (.ref h) = some (lookC l x).isSome
  idx : ∀ l x S h d, (S[h]? = some (mo l) ∨ S[h]? = some (fz l)) → lookC l x = some d → pIdx (.ref h) (enc x) S = some (d, S)
  set : ∀ l x v S h, S[h]? = some (mo l) → l.length < lim → pSet (.ref h) (enc x) v S = some (S.set h (mo (putC l x v)))
  dic : ∀ l S h, (S[h]? = some (mo l) ∨ S[h]? = some (fz l)) → dicO S (.ref h) = true
  get : ∀ l x S h v, (S[h]? = some (mo l) ∨ S[h]? = some (fz l)) → getO (.ref h) (enc x) v S = some ((lookC l x).getD v, S)
theorem any_mem {l : List (κ × D)} {x : κ} : l.any (fun p => decide (p.1 = x)) = decide (x ∈ l.map (·.1)) := by
  rw [Bool.eq_iff_iff, List.any_eq_true, decide_eq_true_eq, List.mem_map]
  exact ⟨fun ⟨p, h, e⟩ => ⟨p, h, of_decide_eq_true e⟩, fun ⟨p, h, e⟩ => ⟨p, h, decide_eq_true e⟩⟩
def tdm [En β] (ks : List κ) (f : κ → β) : List (κ × D) := ks.map fun k => (k, enc (f k))
theorem lookC_tdm [En β] {ks : List κ} {f : κ → β} {x : κ} : lookC (tdm ks f) x = if x ∈ ks then some (enc (f x)) else none := by
  unfold lookC tdm
  induction ks with
  | nil => rfl
  | cons k ks ih =>
    rw [List.map_cons, List.find?_cons]
    by_cases h : k = x
    · subst h
      rw [decide_eq_true (rfl : k = k), if_pos (List.mem_cons_self)]; rfl
    · rw [decide_eq_false (show ¬ (k, enc (f k)).1 = x from h)]
      dsimp only
      rw [ih]
      by_cases h2 : x ∈ ks
      · rw [if_pos h2, if_pos (List.mem_cons_of_mem _ h2)]
      · rw [if_neg h2, if_neg fun z => (List.mem_cons.mp z).elim (fun e => h e.symm) h2]
def upd (f : κ → β) (x : κ) (v : β) : κ → β := fun k => if k = x then v else f k
theorem upd_eq {f : κ → β} {x : κ} {v : β} : upd f x v x = v := if_pos rfl
theorem upd_ne {f : κ → β} {x y : κ} {v : β} (h : y ≠ x) : upd f x v y = f y := if_neg h
theorem keys_tdm [En β] {ks : List κ} {f : κ → β} : (tdm ks f).map (·.1) = ks := by
  unfold tdm; rw [List.map_map]; exact List.map_id ks
theorem len_tdm [En β] {ks : List κ} {f : κ → β} : (tdm ks f).length = ks.length := List.length_map ..
theorem putC_new [En β] {ks : List κ} {f : κ → β} {x : κ} {v : β} (h : x ∉ ks) : putC (tdm ks f) x (enc v) = tdm (ks ++ [x]) (upd f x v) := by
  unfold putC
  rw [keys_tdm, if_neg h]
  unfold tdm
  rw [List.map_append, List.map_cons, List.map_nil, upd_eq]
  congr 1
  exact List.map_congr_left fun k hk => by rw [upd_ne (show k ≠ x from fun e => h (by rw [← e]; exact hk))]
end
section
variable {m : Nat}
theorem putC_T (l : Dc m) (x : Wrd m) (v : D) : putC l x v = putT l x v := by
  unfold putC putT
  rw [any_keys]
  simp only [decide_eq_true_eq]
theorem dil_of {S : Store} {h : Nat} {l : Dc m} (e : S[h]? = some (.dK (dicE l)) ∨ S[h]? = some (.fK (dicE l))) : ∃ b, DiL b S h l := by
  rcases e with e | e
  · exact ⟨false, e⟩
  · exact ⟨true, e⟩
instance keyWrd : KeyC (Wrd m) where
  mo l := .dK (dicE l)
  fz l := .fK (dicE l)
  nil := rfl
  inn l x S h e := by
    obtain ⟨b, q⟩ := dil_of e
    rw [q.inn]
    congr 1
    rw [← look_mem]; rfl
  idx l x S h d e lk := by
    have e2 : ∀ mo : MO, mo = .dK (dicE l) ∨ mo = .fK (dicE l) → dLook mo (.str x.s) = some (some d) := fun mo hm => by
      have : getM (dicE l) (keyW x) = some d := by rw [getM_dicE]; exact lk
      rcases hm with rfl | rfl
      · show some (getM (dicE l) (keyW x)) = _
        rw [this]
      · show some (getM (dicE l) (keyW x)) = _
        rw [this]
    show pIdx (.ref h) (.str x.s) S = _
    rcases e with e | e
    · simp only [pIdx, e, e2 _ (.inl rfl)]
    · simp only [pIdx, e, e2 _ (.inr rfl)]
  set l x v S h e hl := by rw [putC_T]; exact Dic.set (show Dic S h l from e) hl
  dic l S h e := by rcases e with e | e <;> simp only [dicO, e]
  get l x S h v e := by
    obtain ⟨b, q⟩ := dil_of e
    exact q.get
end
class TKey (κ : Type) [DecidableEq κ] [En κ] where
  tk : κ → List Key
  tkey : ∀ a : κ, tkeyOf (enc a) = some (tk a)
  key : ∀ a : κ, keyOf (enc a) = none
  inj : ∀ a b : κ, tk a = tk b ↔ a = b
  tup : ∀ a : κ, ∃ xs, enc a = .tup xs
section
variable {κ : Type} [DecidableEq κ] [En κ] [TKey κ]
def dicT (l : List (κ × D)) : List (List Key × D) := l.map fun p => (TKey.tk p.1, p.2)
theorem getM_dicT (l : List (κ × D)) (x : κ) : getM (dicT l) (TKey.tk x) = lookC l x := by
  unfold getM lookC dicT
  induction l with
  | nil => rfl
  | cons p l ih =>
    rw [List.map_cons, List.find?_cons, List.find?_cons]
    by_cases h : p.1 = x
    · rw [decide_eq_true h, decide_eq_true ((TKey.inj _ _).mpr h)]; rfl
    · rw [decide_eq_false h, decide_eq_false fun z => h ((TKey.inj _ _).mp z)]
      exact ih
theorem putM_dicT (l : List (κ × D)) (x : κ) (v : D) : putM (dicT l) (TKey.tk x) v = dicT (putC l x v) := by
  unfold putM putC dicT
  rw [List.any_map]
  have e : (fun p : κ × D => (fun kv : List Key × D => decide (kv.1 = TKey.tk x)) ((fun p : κ × D => (TKey.tk p.1, p.2)) p)) = fun p : κ × D => decide (p.1 = x) := by
    funext p; exact decide_eq_decide.mpr (TKey.inj _ _)
  rw [show ((fun kv : List Key × D => decide (kv.1 = TKey.tk x)) ∘ fun p : κ × D => (TKey.tk p.1, p.2)) = fun p : κ × D => decide (p.1 = x) from e, any_mem]
  simp only [decide_eq_true_eq]
  split
  · rw [List.map_map, List.map_map]
    refine List.map_congr_left fun p _ => ?_
    show (if TKey.tk p.1 = TKey.tk x then (TKey.tk p.1, v) else (TKey.tk p.1, p.2)) = _
    by_cases h : p.1 = x
    · rw [if_pos ((TKey.inj _ _).mpr h)]
      show _ = (fun p : κ × D => (TKey.tk p.1, p.2)) (if p.1 = x then (p.1, v) else p)
      rw [if_pos h]
    · rw [if_neg fun z => h ((TKey.inj _ _).mp z)]
      show _ = (fun p : κ × D => (TKey.tk p.1, p.2)) (if p.1 = x then (p.1, v) else p)
      rw [if_neg h]
  · rw [List.map_append]; rfl
def moT (l : List (κ × D)) : MO := if l = [] then .dK [] else .dT (dicT l)
theorem look_moT (l : List (κ × D)) (x : κ) : dLook (moT l) (enc x) = some (lookC l x) := by
  unfold moT
  by_cases h : l = []
  · rw [if_pos h, h]
    simp only [dLook, TKey.key, TKey.tkey]; rfl
  · rw [if_neg h]
    simp only [dLook, TKey.tkey, getM_dicT]
instance keyTup : KeyC κ where
  mo := moT
  fz := moT
  nil := rfl
  inn l x S h e := by
    have e : S[h]? = some (moT l) := e.elim id id
    have lk := look_moT l x
    obtain ⟨xs, ex⟩ := TKey.tup x
    rw [ex] at lk ⊢
    have e3 : ∃ kvs, moT l = .dK kvs ∨ ∃ kvs, moT l = .dT kvs := by
      unfold moT; split
      · exact ⟨_, .inl rfl⟩
      · exact ⟨[], .inr ⟨_, rfl⟩⟩
    obtain ⟨kvs, h1 | ⟨kvs, h1⟩⟩ := e3
    · rw [h1] at e lk
      simp only [inD, e, lk]; rfl
    · rw [h1] at e lk
      simp only [inD, e, lk]; rfl
  idx l x S h d e q := by
    have e : S[h]? = some (moT l) := e.elim id id
    have lk := look_moT l x
    rw [q] at lk
    obtain ⟨xs, ex⟩ := TKey.tup x
    rw [ex] at lk ⊢
    have e3 : ∃ kvs, moT l = .dK kvs ∨ ∃ kvs, moT l = .dT kvs := by
      unfold moT; split
      · exact ⟨_, .inl rfl⟩
      · exact ⟨[], .inr ⟨_, rfl⟩⟩
    obtain ⟨kvs, h1 | ⟨kvs, h1⟩⟩ := e3
    · rw [h1] at e lk
      simp only [pIdx, e, lk]
    · rw [h1] at e lk
      simp only [pIdx, e, lk]
  set l x v S h e hl := by
    have nz : putC l x v ≠ [] := by
      unfold putC
      split
      · rename_i hm
        intro z
        have := List.map_eq_nil_iff.mp z
        rw [this] at hm; cases hm
      · intro z; simp at z
    have e2 : moT (putC l x v) = .dT (dicT (putC l x v)) := if_neg nz
    rw [e2]
    by_cases h0 : l = []
    · subst h0
      have e : S[h]? = some (.dK []) := e
      simp only [pSet, e, TKey.key, TKey.tkey]
      rfl
    · have e : S[h]? = some (.dT (dicT l)) := by rw [e]; congr 1; exact if_neg h0
      simp only [pSet, e, TKey.tkey]
      rw [if_pos (show (dicT l).length < lim by unfold dicT; rw [List.length_map]; exact hl), putM_dicT]
  dic l S h e := by
    have e : S[h]? = some (moT l) := e.elim id id
    by_cases h0 : l = []
    · subst h0
      have e : S[h]? = some (.dK []) := e
      simp only [dicO, e]
    · have e : S[h]? = some (.dT (dicT l)) := by rw [e]; congr 1; exact if_neg h0
      simp only [dicO, e]
  get l x S h v e := by
    have e : S[h]? = some (moT l) := e.elim id id
    simp only [getO, e, look_moT]; rfl
end
instance : TKey Hd where
  tk := keyH
  tkey := tkey_enc
  key := key_enc
  inj _ _ := keyH_inj
  tup _ := ⟨_, rfl⟩
instance {m : Nat} : TKey (Wrd m × Wrd m) where
  tk a := [.inr a.1.s, .inr a.2.s]
  tkey _ := rfl
  key _ := rfl
  inj a b := by
    constructor
    · intro h
      injection h with h1 h2
      injection h2 with h2 _
      exact Prod.ext (Wrd.ext (Sum.inr.inj h1)) (Wrd.ext (Sum.inr.inj h2))
    · rintro rfl; rfl
  tup _ := ⟨_, rfl⟩
instance {m : Nat} : TKey (List (Wrd m)) where
  tk a := a.map fun x : Wrd m => .inr x.s
  tkey a := keysOf_words a
  key _ := rfl
  inj a b := by
    constructor
    · intro h
      refine (List.map_inj_right (fun x y e => Wrd.ext (Sum.inr.inj e))).mp h
    · rintro rfl; rfl
  tup _ := ⟨_, rfl⟩
end Mini
namespace Mini
open PySem L2 PySem.W PyProof.Rows
open En (enc pd dep)
section
variable {α β κ : Type} {_ : DecidableEq α} {_ : DecidableEq β} {_ : DecidableEq κ}
variable {B S : Store} {ls : Lc} {ρ : Env} {f g : MS} {fa fb fc fo fi : ME} {fs : Env → Mini.M (List D)} {t : Env → Mini.M Bool} {N : Env → Store → Prop} {RR : D → Store → Prop} {X : XPs}
theorem Lo.at {h : Nat} {m : MO} (L : Lo B S ls) (q : (h, m) ∈ ls) : S[h]? = some m := L.get _ q
theorem Lo.ix {h : Nat} {m : MO} (L : Lo B S ls) (j : Nat) (e : ls[j]? = some (h, m)) : S[h]? = some m := L.get _ (List.mem_of_getElem? e)
theorem Lo.bs {h : Nat} {m : MO} (L : Lo B S ls) (q : B[h]? = some m) : S[h]? = some m := L.kp.get _ _ (fun z => nomatch z) q
theorem ev_inLo {_ : En κ} {_ : KeyC κ} {h : Nat} {x : κ} {l : List (κ × D)} (hb : Ev (fb ρ) S (.ref h)) (ha : Ev (fa ρ) S (enc x)) (q : S[h]? = some (KeyC.mo l)) : Ev (eOp pIn fa fb ρ) S (enc (lookC l x).isSome) :=
  EvP.bnd ha fun _ T k e => e ▸ EvP.bnd (hb.kp k) fun _ T2 k2 e2 => e2 ▸ EvP.lift fun T3 k3 => ⟨(.bl (lookC l x).isSome, T3), by
    show (inD T3 (enc x) (.ref h)).map _ = _
    rw [KeyC.inn l x T3 h (.inl ((k.trans (k2.trans k3)).get _ _ (fun z => nomatch z) q))]; rfl, rfl, .refl⟩
theorem ev_inTd {_ : En κ} {_ : KeyC κ} {_ : En β} {h : Nat} {x : κ} {ks : List κ} {F : κ → β} (hb : Ev (fb ρ) S (.ref h)) (ha : Ev (fa ρ) S (enc x)) (q : S[h]? = some (KeyC.mo (tdm ks F))) : Ev (eOp pIn fa fb ρ) S (enc (decide (x ∈ ks))) := by
  have := ev_inLo hb ha q
  rw [lookC_tdm] at this
  by_cases hx : x ∈ ks
  · rw [if_pos hx] at this; rw [decide_eq_true hx]; exact this
  · rw [if_neg hx] at this; rw [decide_eq_false hx]; exact this
theorem ev_ninTd {_ : En κ} {_ : KeyC κ} {_ : En β} {h : Nat} {x : κ} {ks : List κ} {F : κ → β} (hb : Ev (fb ρ) S (.ref h)) (ha : Ev (fa ρ) S (enc x)) (q : S[h]? = some (KeyC.mo (tdm ks F))) : Ev (eOp pNotIn fa fb ρ) S (enc (!decide (x ∈ ks))) :=
  EvP.bnd ha fun _ T k e => e ▸ EvP.bnd (hb.kp k) fun _ T2 k2 e2 => e2 ▸ EvP.lift fun T3 k3 => ⟨(.bl (!decide (x ∈ ks)), T3), by
    show (inD T3 (enc x) (.ref h)).map _ = _
    rw [KeyC.inn _ x T3 h (.inl ((k.trans (k2.trans k3)).get _ _ (fun z => nomatch z) q)), lookC_tdm]
    by_cases hx : x ∈ ks
    · rw [if_pos hx, decide_eq_true hx]; rfl
    · rw [if_neg hx, decide_eq_false hx]; rfl, rfl, .refl⟩
theorem ev_ixTd {_ : En κ} {_ : KeyC κ} {_ : En β} {h : Nat} {x : κ} {ks : List κ} {F : κ → β} (hb : Ev (fb ρ) S (.ref h)) (ha : Ev (fa ρ) S (enc x)) (q : S[h]? = some (KeyC.mo (tdm ks F))) (hx : x ∈ ks) : Ev (eOp pIdx fb fa ρ) S (enc (F x)) :=
  EvP.bnd hb fun _ T k e => e ▸ EvP.bnd (ha.kp k) fun _ T2 k2 e2 => e2 ▸ EvP.lift fun T3 k3 => ⟨(enc (F x), T3), KeyC.idx _ x T3 h _ (.inl ((k.trans (k2.trans k3)).get _ _ (fun z => nomatch z) q)) (by rw [lookC_tdm, if_pos hx]), rfl, .refl⟩
theorem ev_ixUpd {_ : En κ} {_ : KeyC κ} {_ : En β} {h : Nat} {x : κ} {ks : List κ} {F : κ → β} {v : β} (q : S[h]? = some (KeyC.mo (tdm (ks ++ [x]) (upd F x v)))) (hb : Ev (fb ρ) S (.ref h)) (ha : Ev (fa ρ) S (enc x)) : Ev (eOp pIdx fb fa ρ) S (enc v) := by
  have := ev_ixTd hb ha q (by simp)
  rw [upd_eq] at this
  exact this
theorem ev_getTd {_ : En κ} {_ : KeyC κ} {_ : En β} {h : Nat} {x : κ} {ks : List κ} {F : κ → β} {y : β} (hb : Ev (fb ρ) S (.ref h)) (ha : Ev (fa ρ) S (enc x)) (hy : Ev (fc ρ) S (enc y)) (q : S[h]? = some (KeyC.mo (tdm ks F))) : Ev (eGet fb fa fc ρ) S (enc (if x ∈ ks then F x else y)) := by
  intro S1 k1
  rw [ok_eGet]
  refine ok_mono (hb S1 k1) (fun d S2 ⟨e2, k2⟩ => ?_) fun _ _ _ z => z
  subst e2
  have q2 := (k1.trans k2).get _ _ (fun z => nomatch z) q
  refine ⟨KeyC.dic _ S2 h (.inl q2), ?_⟩
  refine ok_mono (ha S2 (k1.trans k2)) (fun d S3 ⟨e3, k3⟩ => ?_) fun _ _ _ z => z
  subst e3
  refine ok_mono (hy S3 (k1.trans (k2.trans k3))) (fun d S4 ⟨e4, k4⟩ => ?_) fun _ _ _ z => z
  subst e4
  refine ⟨(enc (if x ∈ ks then F x else y), S4), ?_, rfl, k2.trans (k3.trans k4)⟩
  rw [KeyC.get _ x S4 h _ (.inl ((k3.trans k4).get _ _ (fun z => nomatch z) q2)), lookC_tdm]
  by_cases hx : x ∈ ks
  · rw [if_pos hx, if_pos hx]; rfl
  · rw [if_neg hx, if_neg hx]; rfl
theorem ev_get1Td {_ : En κ} {_ : KeyC κ} {_ : En β} {h : Nat} {x : κ} {ks : List κ} {F : κ → β} (hb : Ev (fb ρ) S (.ref h)) (ha : Ev (fa ρ) S (enc x)) (q : S[h]? = some (KeyC.mo (tdm ks F))) : Ev (eGet1 fb fa ρ) S (if x ∈ ks then enc (F x) else .non) := by
  intro S1 k1
  unfold eGet1
  rw [ok_bnd]
  refine ok_mono (hb S1 k1) (fun d S2 ⟨e2, k2⟩ => ?_) fun _ _ _ z => z
  subst e2
  have q2 := (k1.trans k2).get _ _ (fun z => nomatch z) q
  rw [if_pos (KeyC.dic _ S2 h (.inl q2)), ok_bnd]
  refine ok_mono (ha S2 (k1.trans k2)) (fun d S3 ⟨e3, k3⟩ => ?_) fun _ _ _ z => z
  subst e3
  rw [ok_lift]
  refine ⟨((if x ∈ ks then enc (F x) else .non), S3), ?_, rfl, k2.trans k3⟩
  rw [KeyC.get _ x S3 h _ (.inl (k3.get _ _ (fun z => nomatch z) q2)), lookC_tdm]
  by_cases hx : x ∈ ks
  · rw [if_pos hx, if_pos hx]; rfl
  · rw [if_neg hx, if_neg hx]; rfl
theorem ev_ixLo {_ : En α} {xs : List α} {i : Nat} {a : α} (ha : Es (fa ρ) S xs) (hb : Ev (fb ρ) S (enc (i : Nat))) (h : xs[i]? = some a) : Ev (eOp pIdx fa fb ρ) S (enc a) := ev_ixE ha hb h
theorem ev_last {_ : En α} {xs : List α} {a : α} (ha : Es (fa ρ) S xs) (h : xs.getLast? = some a) : Ev (eOp pIdx fa (eUn pNeg (eC (.int 1))) ρ) S (enc a) := by
  refine EvP.bnd ha fun d T k q => ?_
  have hn : Ev (eUn pNeg (eC (.int 1)) ρ) T (.int (-1)) := ev_neg (i := 1) ev_C
  refine EvP.bnd hn fun e T2 k2 ee => ?_
  subst ee
  refine EvP.lift fun T3 k3 => ⟨(enc a, T3), (q.kp (k2.trans k3)).idx ?_, rfl, .refl⟩
  have ne : xs ≠ [] := fun z => by rw [z] at h; cases h
  have hl : 0 < xs.length := List.length_pos_iff.mpr ne
  have e1 : L2.ixN (xs.map enc).length (-1) = some (xs.length - 1) := by
    unfold L2.ixN
    rw [List.length_map]
    split
    · rename_i z; omega
    · split
      · congr 1; omega
      · rename_i z; omega
  unfold L2.atI
  rw [e1]
  show (xs.map enc)[xs.length - 1]? = _
  rw [List.getElem?_map, ← List.getLast?_eq_getElem?, h]; rfl
theorem lo_set {j : Nat} {d : D} (L : Lo B S ls) (h : Ev (fa ρ) S d) (k : ∀ S', Lo B S' ls → N (ρ.set j (some d)) S') : so (sSet (.nm j) fa ρ S) N RR X := s_set h fun S' kk => k S' (L.mv kk)
theorem lo_setL {j : Nat} {_ : En α} {xs : List α} (L : Lo B S ls) (h : El (fa ρ) S xs) (k : ∀ h S', Lo B S' ((h, .lst (xs.map enc)) :: ls) → N (ρ.set j (some (.ref h))) S') : so (sSet (.nm j) fa ρ S) N RR X := s_setL h fun h S' e l kk => k h S' (L.add kk e l)
theorem lo_setNil {j : Nat} (L : Lo B S ls) (k : ∀ h S', Lo B S' ((h, .lst []) :: ls) → N (ρ.set j (some (.ref h))) S') : so (sSet (.nm j) (eLst aNil) ρ S) N RR X := by
  apply s_setK
  rw [ok_eLst, ok_aNil]
  exact ⟨_, newL_eq (show 0 ≤ lim by decide), k _ _ L.alloc⟩
theorem lo_if {b : Bool} (L : Lo B S ls) (h : Ev (t ρ) S b) (k1 : b = true → ∀ S', Lo B S' ls → so (f ρ S') N RR X) (k2 : b = false → ∀ S', Lo B S' ls → so (g ρ S') N RR X) : so (sIf t f g ρ S) N RR X := s_if h (fun e S' kk => k1 e S' (L.mv kk)) fun e S' kk => k2 e S' (L.mv kk)
theorem lo_ret {d : D} (L : Lo B S ls) (h : Ev (fa ρ) S d) (k : ∀ S', Lo B S' ls → RR d S') : so (sRet fa ρ S) N RR X := s_ret h fun S' kk => k S' (L.mv kk)
theorem lo_append {_ : En α} {i j n : Nat} {xs : List α} {x : α} (L : Lo B S ls) (e : ρ[i]? = some (some (.ref n))) (q : ls[j]? = some (n, .lst (xs.map enc))) (h : Ev (fa ρ) S (enc x)) (l : xs.length < lim) (k : ∀ S', Lo B S' (ls.set j (n, .lst ((xs ++ [x]).map enc))) → N ρ S') : so (sExpr (eMt "list" qAppend (eVar i) (aCons fa aNil)) ρ S) N RR X := by
  have g1 : S[n]? = some (.lst (xs.map enc)) := L.get _ (List.mem_of_getElem? q)
  rw [so_expr, ok_eMt, ok_eVar e]
  refine ⟨by simp only [tyD, g1], ?_⟩
  rw [ok_aCons]
  refine h.ok fun S' kk => ?_
  have L' := L.mv kk
  have g2 := L'.get _ (List.mem_of_getElem? q)
  rw [ok_aNil]
  refine ⟨(.non, S'.set n (.lst ((xs ++ [x]).map enc))), ?_, k _ (L'.set q)⟩
  simp only [qAppend, g2]
  rw [if_pos (by rw [List.length_map]; exact l), List.map_append]; rfl
theorem lo_putC {_ : En κ} {_ : KeyC κ} {j n : Nat} {l : List (κ × D)} {x : κ} {v : D} (L : Lo B S ls) (hv : Ev (fa ρ) S v) (ho : Ev (fo ρ) S (.ref n)) (hi : Ev (fi ρ) S (enc x)) (q : ls[j]? = some (n, KeyC.mo l)) (hl : l.length < lim) (k : ∀ S', Lo B S' (ls.set j (n, KeyC.mo (putC l x v))) → N ρ S') : so (sPut fa fo fi ρ S) N RR X := by
  rw [so_put]
  refine hv.ok fun S1 k1 => ?_
  refine Ev.ok (show Ev _ S1 _ from ho.kp k1) fun S2 k2 => ?_
  refine Ev.ok (show Ev _ S2 _ from hi.kp (k1.trans k2)) fun S3 k3 => ?_
  have L3 := L.mv (k1.trans (k2.trans k3))
  exact ⟨_, KeyC.set l x v S3 n (L3.get _ (List.mem_of_getElem? q)) hl, k _ (L3.set q)⟩
theorem lo_putN {_ : En κ} {_ : KeyC κ} {_ : En β} {j n : Nat} {ks : List κ} {F : κ → β} {x : κ} {v : β} (L : Lo B S ls) (hv : Ev (fa ρ) S (enc v)) (ho : Ev (fo ρ) S (.ref n)) (hi : Ev (fi ρ) S (enc x)) (q : ls[j]? = some (n, KeyC.mo (tdm ks F))) (hx : x ∉ ks) (hl : ks.length < lim) (k : ∀ S', Lo B S' (ls.set j (n, KeyC.mo (tdm (ks ++ [x]) (upd F x v)))) → N ρ S') : so (sPut fa fo fi ρ S) N RR X :=
  lo_putC L hv ho hi q (by rw [len_tdm]; exact hl) fun S' L' => k S' (by rw [putC_new hx] at L'; exact L')
abbrev LoI (B : Store) (I : Env → Lc → Prop) : Env → Store → Prop := fun ρ S => ∃ ls, Lo B S ls ∧ I ρ ls
theorem lo_forT {_ : En α} {tg : Tg} {xs : List α} (I : List α → Env → Lc → Prop) (L : Lo B S ls) (h : Ev (fa ρ) S (enc xs)) (l : xs.length ≤ lim) (h0 : I [] ρ ls)
    (step : ∀ pre x suf ρ1 S1 ls1, xs = pre ++ x :: suf → I pre ρ1 ls1 → Lo B S1 ls1 → ∃ ρ2, setT tg (enc x) ρ1 = some ρ2 ∧ so (f ρ2 S1) (LoI B (I (pre ++ [x]))) RR X) (done : ∀ ρ1 S1 ls1, I xs ρ1 ls1 → Lo B S1 ls1 → N ρ1 S1) : so (sFor (iAny fa) tg f ρ S) N RR X :=
  s_forT (fun pre => LoI B (I pre)) h l (fun S' kk => ⟨ls, L.mv kk, h0⟩) (fun pre x suf ρ1 S1 ex ⟨ls1, L1, i1⟩ => step pre x suf ρ1 S1 ls1 ex i1 L1) fun ρ1 S1 ⟨ls1, L1, i1⟩ => done ρ1 S1 ls1 i1 L1
theorem s_forG {γ : Type} [DecidableEq γ] [En γ] {tg : Tg} {xs : List γ} {d : D} (I : List γ → Env → Store → Prop) (h : Ev (fa ρ) S d) (st : ∀ pre ρ1 S1, I pre ρ1 S1 → IsSq S1 d (xs.map enc)) (l : xs.length ≤ lim) (h0 : ∀ S', Kp [] S S' → I [] ρ S')
    (step : ∀ pre x suf ρ1 S1, xs = pre ++ x :: suf → I pre ρ1 S1 → ∃ ρ2, setT tg (enc x) ρ1 = some ρ2 ∧ so (f ρ2 S1) (I (pre ++ [x])) RR X) (done : ∀ ρ1 S1, I xs ρ1 S1 → N ρ1 S1) : so (sFor (iAny fa) tg f ρ S) N RR X := by
  rw [so_for, ok_iAny]
  refine h.ok fun S' kk => ?_
  have nx : ∃ it, itOf S' d = some it ∧ ∀ i T, IsSq T d (xs.map enc) → nextI it i T = .of (xs.map enc)[i]? := by
    rcases st [] ρ S' (h0 S' kk) with rfl | ⟨k, rfl, g⟩
    · exact ⟨.tup (xs.map enc), rfl, fun i T w => rfl⟩
    · refine ⟨.seq k, ?_, fun i T w => ?_⟩
      · rcases g with g | g <;> simp only [itOf, g]
      · rcases w with w | ⟨k', e, w⟩
        · cases w
        · cases e
          rcases w with w | w <;> simp only [nextI, w]
  obtain ⟨it, e, nx⟩ := nx
  refine ⟨it, e, ?_⟩
  refine for_inv (xs := xs.map enc) (fun i ρ1 S1 => I (xs.take i) ρ1 S1) (by rw [List.length_map]; exact l) (fun i ρ1 S1 _ q => nx i S1 (st _ _ _ q)) (fun i x ρ1 S1 e q => ?_) (fun ρ1 S1 q => done _ _ (by rw [List.length_map, List.take_length] at q; exact q)) (h0 S' kk)
  rw [List.getElem?_map] at e
  obtain ⟨y, ey, rfl⟩ := Option.map_eq_some_iff.mp e
  obtain ⟨e1, e2⟩ := split_at ey
  rw [e2]
  exact step _ _ _ _ _ e1 q
theorem lo_forL {_ : En α} {tg : Tg} {xs : List α} (I : List α → Env → Lc → Prop) (L : Lo B S ls) (h : El (fa ρ) S xs) (l : xs.length ≤ lim) (h0 : I [] ρ ls)
    (step : ∀ p pre x suf ρ1 S1 ls1, xs = pre ++ x :: suf → I pre ρ1 ls1 → Lo B S1 (p :: ls1) → ∃ ρ2, setT tg (enc x) ρ1 = some ρ2 ∧ so (f ρ2 S1) (fun ρ3 S3 => ∃ ls3, Lo B S3 (p :: ls3) ∧ I (pre ++ [x]) ρ3 ls3) RR X) (done : ∀ ρ1 S1 ls1, I xs ρ1 ls1 → Lo B S1 ls1 → N ρ1 S1) : so (sFor (iAny fa) tg f ρ S) N RR X := by
  rw [so_for, ok_iAny]
  refine h.ok fun k S' e lk kk => ?_
  refine ⟨.seq k, by simp only [itOf, e], ?_⟩
  refine for_inv (xs := xs.map enc) (fun i ρ1 S1 => ∃ ls1, Lo B S1 ((k, .lst (xs.map enc)) :: ls1) ∧ I (xs.take i) ρ1 ls1) (by rw [List.length_map]; exact l) (fun i ρ1 S1 _ ⟨ls1, L1, q⟩ => ?_) (fun i x ρ1 S1 e q => ?_) (fun ρ1 S1 q => ?_) ⟨ls, L.add kk e lk, h0⟩
  · have := L1.get _ (List.mem_cons_self)
    simp only [nextI, this]
  · rw [List.getElem?_map] at e
    obtain ⟨y, ey, rfl⟩ := Option.map_eq_some_iff.mp e
    obtain ⟨e1, e2⟩ := split_at ey
    obtain ⟨ls1, L1, q⟩ := q
    rw [e2]
    exact step _ _ _ _ _ _ _ e1 q L1
  · rw [List.length_map, List.take_length] at q
    obtain ⟨ls1, L1, q⟩ := q
    exact done _ _ _ q L1.tail
theorem lo_forR {tg : Tg} {n : Nat} (I : Nat → Env → Lc → Prop) (L : Lo B S ls) (h : Ev (fa ρ) S (enc n)) (l : n ≤ lim) (h0 : I 0 ρ ls)
    (step : ∀ i ρ1 S1 ls1, i < n → I i ρ1 ls1 → Lo B S1 ls1 → ∃ ρ2, setT tg (enc i) ρ1 = some ρ2 ∧ so (f ρ2 S1) (LoI B (I (i + 1))) RR X) (done : ∀ ρ1 S1 ls1, I n ρ1 ls1 → Lo B S1 ls1 → N ρ1 S1) : so (sFor (iArgs rng1 (aCons fa aNil)) tg f ρ S) N RR X :=
  s_forR (fun i => LoI B (I i)) h l (fun S' kk => ⟨ls, L.mv kk, h0⟩) (fun i ρ1 S1 hi ⟨ls1, L1, i1⟩ => step i ρ1 S1 ls1 hi i1 L1) fun ρ1 S1 ⟨ls1, L1, i1⟩ => done ρ1 S1 ls1 i1 L1
theorem lo_while {n0 : Nat} (I : Nat → Env → Lc → Prop) (L : Lo B S ls) (h0 : I n0 ρ ls) (l0 : n0 ≤ 1000000)
    (step : ∀ n ρ1 S1 ls1, n ≤ n0 → I n ρ1 ls1 → Lo B S1 ls1 → ∃ b, Ev (t ρ1) S1 b ∧ (b = true → ∀ S2, Lo B S2 ls1 → so (f ρ1 S2) (fun ρ3 S3 => ∃ n' ls3, n' < n ∧ Lo B S3 ls3 ∧ I n' ρ3 ls3) RR X) ∧ (b = false → ∀ S2, Lo B S2 ls1 → N ρ1 S2)) : so (sWh t f ρ S) N RR X := by
  have go : ∀ (m n : Nat) (ρ : Env) (S : Store) (ls : Lc), n ≤ n0 → I n ρ ls → Lo B S ls → n < m → so (whM t f m ρ S) N RR X := by
    intro m
    induction m with
    | zero => intro n ρ S ls _ _ _ h; omega
    | succ m ih =>
      intro n ρ S ls hn hI hL hm
      unfold whM
      rw [so_ev]
      obtain ⟨b, hb, h1, h2⟩ := step n ρ S ls hn hI hL
      refine Ev.ok hb fun S2 kk => ?_
      have L2 := hL.mv kk
      cases b with
      | false => rw [if_neg (by decide)]; exact h2 rfl S2 L2
      | true =>
        rw [if_pos rfl]
        have h1 := h1 rfl S2 L2
        cases e : f ρ S2 with
        | nx ρ2 S3 =>
          rw [e] at h1
          obtain ⟨n', ls3, ln, L3, i3⟩ := h1
          exact ih n' ρ2 S3 ls3 (by omega) i3 L3 (by omega)
        | ret d S3 => rw [e] at h1; exact h1
        | exc c fs ρ2 S3 => rw [e] at h1; exact h1
        | brk ρ2 S3 => rw [e] at h1; exact h1.elim
        | ct ρ2 S3 => rw [e] at h1; exact h1.elim
        | bad => rw [e] at h1; exact h1.elim
  unfold sWh
  exact go turns n0 ρ S ls (Nat.le_refl _) h0 L (by unfold turns; omega)
theorem lo_fn {n m : Nat} {b : MS} {ds : List D} {S : Store} {Φ : D → Store → Prop} (h : ds.length = m) (k : ∀ S1, Kp [] S S1 → Lo S1 S1 [] → so (b (ds.map some ++ List.replicate (n - m) none) S1) (fun _ S2 => Φ .non S2 ∧ Kp [] S1 S2) (fun d S2 => Φ d S2 ∧ Kp [] S1 S2) (fun _ _ _ _ => False)) : EvP (runF n m b ds) S Φ := evF h fun S1 kk => k S1 kk .refl
end
end Mini
namespace Mini
open PySem L2 PySem.W PyProof.Rows
-- side goals
local macro_rules | `(tactic| bv_omega) => `(tactic| first | decide | assumption | exact Flat.le | infer_instance | omega | (simp only [List.length_append, List.length_map, List.length_filter]; omega) | (simp; omega))
-- what an expression evaluates to
local macro_rules | `(tactic| array_get_dec) => `(tactic| first
  | assumption
  | ((with_reducible apply ev_var); rfl)
  | ((with_reducible apply ev_Ce); first | rfl | exact enc_w (by decide))
  | ((with_reducible apply ea_nil))
  | ((with_reducible apply et_yes))
  | ((with_reducible apply et_and); array_get_dec; (intro _; array_get_dec))
  | ((with_reducible apply et_or); array_get_dec; (intro _; array_get_dec))
  | ((with_reducible apply et_not); array_get_dec)
  | ((with_reducible apply et_bl); array_get_dec)
  | ((with_reducible apply et_tru); array_get_dec)
  | ((with_reducible apply et_truL); array_get_dec)
  | ((with_reducible apply ev_and); array_get_dec; (intro _; array_get_dec))
  | ((with_reducible apply ev_or); array_get_dec; (intro _; array_get_dec))
  | ((with_reducible apply ev_not); array_get_dec)
  | ((with_reducible apply ev_eq); array_get_dec; array_get_dec; bv_omega)
  | ((with_reducible apply ev_ne); array_get_dec; array_get_dec; bv_omega)
  | ((with_reducible apply ev_in); array_get_dec; array_get_dec; bv_omega)
  | ((with_reducible apply ev_nin); array_get_dec; array_get_dec; bv_omega)
  | ((with_reducible apply ev_ix); array_get_dec; rfl)
  | ((with_reducible apply ev_lt); array_get_dec; array_get_dec; bv_omega)
  | ((with_reducible apply ev_gt); array_get_dec; array_get_dec; bv_omega)
  | ((with_reducible apply ev_le); array_get_dec; array_get_dec; bv_omega)
  | ((with_reducible apply ev_ge); array_get_dec; array_get_dec; bv_omega)
  | ((with_reducible apply ev_addT); array_get_dec; array_get_dec; bv_omega)
  | ((with_reducible apply ev_addN); array_get_dec; array_get_dec)
  | ((with_reducible apply ev_addI); array_get_dec; array_get_dec)
  | ((with_reducible apply ev_subI); array_get_dec; array_get_dec)
  | ((with_reducible apply ev_qui); array_get_dec; array_get_dec; array_get_dec; array_get_dec; array_get_dec)
  | ((with_reducible apply ev_qua); array_get_dec; array_get_dec; array_get_dec; array_get_dec)
  | ((with_reducible apply ev_ifE); array_get_dec; (intro _; array_get_dec); (intro _; array_get_dec))
  | ((with_reducible apply ev_tri); array_get_dec; array_get_dec; array_get_dec)
  | ((with_reducible apply ev_pair); array_get_dec; array_get_dec)
  | ((with_reducible apply ev_len); array_get_dec)
  | ((with_reducible apply ev_tuple); array_get_dec)
  | ((with_reducible apply ev_all); array_get_dec)
  | ((with_reducible apply ev_any); array_get_dec)
  | ((with_reducible apply ea_cons); array_get_dec; array_get_dec)
  | ((with_reducible apply ei_any); array_get_dec)
  | ((with_reducible apply el_lc1); array_get_dec; bv_omega; (intro x hx; refine ⟨_, rfl, ?_⟩; apply Exists.intro; apply And.intro; array_get_dec; rfl))
  | ((with_reducible apply el_lc); array_get_dec; bv_omega; (intro x hx; refine ⟨_, rfl, ?_, ?_⟩; (apply Exists.intro; apply And.intro; array_get_dec; rfl); (intro hp; apply Exists.intro; apply And.intro; array_get_dec; rfl)))
  | ((with_reducible apply el_sortSet); array_get_dec; infer_instance; infer_instance; infer_instance; bv_omega)
  | ((with_reducible apply el_sorted); array_get_dec; infer_instance; infer_instance; bv_omega)
  | ((with_reducible apply el_list); array_get_dec)
  | ((with_reducible apply el_nil))
  | ((with_reducible apply el_one); array_get_dec)
  | ((with_reducible apply ev_oneT); array_get_dec)
  | ((with_reducible apply ev_nilT))
  | ((with_reducible apply es_ref); rfl; assumption)
  | ((with_reducible apply es_of); array_get_dec)
  | ((with_reducible apply es_el); array_get_dec)
  | ((with_reducible apply es_ref); rfl; (first | assumption | (apply Lo.at; assumption; (first | exact List.Mem.head _ | exact .tail _ (.head _) | exact .tail _ (.tail _ (.head _)) | exact .tail _ (.tail _ (.tail _ (.head _))) | exact .tail _ (.tail _ (.tail _ (.tail _ (.head _)))) | exact .tail _ (.tail _ (.tail _ (.tail _ (.tail _ (.head _))))))) | (apply Lo.bs; assumption; assumption)))
  | ((with_reducible apply ev_inTd); array_get_dec; array_get_dec; (first | assumption | (apply Lo.at; assumption; (first | exact List.Mem.head _ | exact .tail _ (.head _) | exact .tail _ (.tail _ (.head _)) | exact .tail _ (.tail _ (.tail _ (.head _))) | exact .tail _ (.tail _ (.tail _ (.tail _ (.head _)))) | exact .tail _ (.tail _ (.tail _ (.tail _ (.tail _ (.head _))))))) | (apply Lo.bs; assumption; assumption)))
  | ((with_reducible apply ev_ninTd); array_get_dec; array_get_dec; (first | assumption | (apply Lo.at; assumption; (first | exact List.Mem.head _ | exact .tail _ (.head _) | exact .tail _ (.tail _ (.head _)) | exact .tail _ (.tail _ (.tail _ (.head _))) | exact .tail _ (.tail _ (.tail _ (.tail _ (.head _)))) | exact .tail _ (.tail _ (.tail _ (.tail _ (.tail _ (.head _))))))) | (apply Lo.bs; assumption; assumption)))
  | ((with_reducible apply ev_ixTd); array_get_dec; array_get_dec; (first | assumption | (apply Lo.at; assumption; (first | exact List.Mem.head _ | exact .tail _ (.head _) | exact .tail _ (.tail _ (.head _)) | exact .tail _ (.tail _ (.tail _ (.head _))) | exact .tail _ (.tail _ (.tail _ (.tail _ (.head _)))) | exact .tail _ (.tail _ (.tail _ (.tail _ (.tail _ (.head _))))))) | (apply Lo.bs; assumption; assumption)); bv_omega)
  | ((with_reducible apply ev_getTd); array_get_dec; array_get_dec; array_get_dec; (first | assumption | (apply Lo.at; assumption; (first | exact List.Mem.head _ | exact .tail _ (.head _) | exact .tail _ (.tail _ (.head _)) | exact .tail _ (.tail _ (.tail _ (.head _))) | exact .tail _ (.tail _ (.tail _ (.tail _ (.head _)))) | exact .tail _ (.tail _ (.tail _ (.tail _ (.tail _ (.head _))))))) | (apply Lo.bs; assumption; assumption)))
  | ((with_reducible apply ev_get1Td); array_get_dec; array_get_dec; (first | assumption | (apply Lo.at; assumption; (first | exact List.Mem.head _ | exact .tail _ (.head _) | exact .tail _ (.tail _ (.head _)) | exact .tail _ (.tail _ (.tail _ (.head _))) | exact .tail _ (.tail _ (.tail _ (.tail _ (.head _)))) | exact .tail _ (.tail _ (.tail _ (.tail _ (.tail _ (.head _))))))) | (apply Lo.bs; assumption; assumption)))
  | ((with_reducible apply ev_last); array_get_dec; assumption)
  | ((with_reducible apply ev_ixLo); array_get_dec; array_get_dec; assumption))
section
open PySem L2 PySem.W PyProof.Rows
open En (enc pd dep)
section
variable {α β κ : Type} {_ : DecidableEq α} {_ : DecidableEq β} {_ : DecidableEq κ}
variable {B S : Store} {ls : Lc} {ρ : Env} {fa fb : ME} {N : Env → Store → Prop} {RR : D → Store → Prop} {X : XPs}
theorem ev_d1 {m : Nat} {x : Wrd m} {v : D} (ha : Ev (fa ρ) (S ++ [.dK []]) (enc x)) (hb : Ev (fb ρ) (S ++ [.dK []]) v) : ok (eD1 fa fb ρ S) (fun d T => d = .ref S.length ∧ T[S.length]? = some (KeyC.mo [(x, v)]) ∧ Kp [] S T) X0 := by
  unfold eD1
  rw [ok_bnd]
  refine Ev.ok ha fun T k1 => ?_
  rw [ok_bnd]
  refine Ev.ok (show Ev _ T _ from hb.kp k1) fun T2 k2 => ?_
  have e0 : (S ++ [MO.dK []])[S.length]? = some (.dK []) := new_get
  have e2 := (k1.trans k2).get _ _ (fun z => nomatch z) e0
  have ek : keyOf (enc x) = some (keyW x) := rfl
  simp only [e2, ek]
  exact ⟨rfl, set_get e2, (Kp.trans Kp.new (k1.trans k2)).fresh Kp.set (Nat.le_refl _)⟩
theorem lo_setD1 {m j : Nat} {x : Wrd m} {_ : En β} {v : β} (F : Wrd m → β) (hF : F x = v) (L : Lo B S ls) (ha : ∀ T, Ev (fa ρ) T (enc x)) (hb : ∀ T, Ev (fb ρ) T (enc v)) (k : ∀ h S', Lo B S' ((h, KeyC.mo (tdm [x] F)) :: ls) → N (ρ.set j (some (.ref h))) S') : so (sSet (.nm j) (eD1 fa fb) ρ S) N RR X := by
  apply s_setK
  refine ok_mono (ev_d1 (ha _) (hb _)) (fun d T q => ?_) fun _ _ _ z => z.elim
  obtain ⟨rfl, e, kk⟩ := q
  refine k _ _ (L.add kk (m := KeyC.mo (tdm [x] F)) ?_ (Nat.le_refl _))
  rw [e, ← hF]; rfl
theorem es_row {fo fk : ME} {k B C : Nat} {lt : Dc 8} {E : Nm → List Nm} {y : Nm} (hfo : Ev (fo ρ) S (.ref k)) (hfk : Ev (fk ρ) S (enc y)) (tt : Tab S k lt E B C) : Es (eGet fo fk (eLst aNil) ρ) S (E y) :=
  (get_row hfo hfk tt).mono fun d T _ ⟨r, e, g, _⟩ => by subst e; exact .lst g
end
theorem Wlk.last {E : Nm → List Nm} {x z : Nm} {w : List Nm} (a : Wlk E x z w) : w.getLast? = some z := by
  induction a with
  | one x => rfl
  | cons m a ih =>
    obtain ⟨t, rfl⟩ := a.head
    rw [List.getLast?_cons_cons]; exact ih
theorem Wlk.sub {E : Nm → List Nm} {x z : Nm} {w : List Nm} (a : Wlk E x z w) {P : Nm → Prop} (h0 : P x) (hE : ∀ u v, v ∈ E u → P v) : ∀ u ∈ w, P u := by
  induction a with
  | one x => intro u hu; rw [List.mem_singleton.mp hu]; exact h0
  | cons m a ih =>
    intro u hu
    rcases List.mem_cons.mp hu with rfl | hu
    · exact h0
    · exact ih (hE _ _ m) u hu
instance : Flat (List Nm) := ⟨show 1 ≤ 60 by decide⟩
theorem ne_tup {w : List Nm} (h : w ≠ []) : tupNe (pd w) = true := by
  cases w with
  | nil => exact absurd rfl h
  | cons a l => rfl
structure Lay (E : Nm → List Nm) (x : Nm) (k : Nat) (ks : List Nm) (W : Nm → List Nm) (N ks2 : List Nm) (W2 : Nm → List Nm) (lt : List (List Nm)) : Prop where
  same : ∀ u ∈ ks, W2 u = W u
  sub : ∀ u ∈ ks, u ∈ ks2
  nd : ks2.Nodup
  inN : ∀ u ∈ ks2, u ∈ N
  new : ∀ v ∈ ks2, v ∉ ks → LW E x v (W2 v) ∧ (W2 v).length = k + 2
  mem : ∀ w, w ∈ lt ↔ ∃ v ∈ ks2, v ∉ ks ∧ W2 v = w
  len : lt.length + ks.length = ks2.length
  ltn : lt.Nodup
theorem Lay.zero {E : Nm → List Nm} {x : Nm} {k : Nat} {ks N : List Nm} {W : Nm → List Nm} (nd : ks.Nodup) (inN : ∀ u ∈ ks, u ∈ N) : Lay E x k ks W N ks W [] :=
  ⟨fun _ _ => rfl, fun _ h => h, nd, inN, fun v h n => absurd h n, fun w => ⟨fun z => absurd z List.not_mem_nil, fun ⟨v, h, n, _⟩ => absurd h n⟩, by simp, List.nodup_nil⟩
theorem Lay.put {E : Nm → List Nm} {x v : Nm} {k : Nat} {ks N ks2 : List Nm} {W W2 : Nm → List Nm} {lt : List (List Nm)} {w : List Nm} (l : Lay E x k ks W N ks2 W2 lt) (nv : v ∉ ks2) (mN : v ∈ N) (lw : LW E x v w) (lk : w.length = k + 2) : Lay E x k ks W N (ks2 ++ [v]) (upd W2 v w) (lt ++ [w]) := by
  have ne : ∀ u ∈ ks2, u ≠ v := fun u h e => nv (e ▸ h)
  refine ⟨fun u h => ?_, fun u h => List.mem_append_left _ (l.sub u h), ?_, fun u h => ?_, fun u h n => ?_, fun w' => ?_, ?_, ?_⟩
  · rw [upd_ne (ne u (l.sub u h))]; exact l.same u h
  · rw [List.nodup_append]
    exact ⟨l.nd, List.nodup_cons.mpr ⟨List.not_mem_nil, List.nodup_nil⟩, fun a ha b hb => by rw [List.mem_singleton.mp hb]; exact ne a ha⟩
  · rcases List.mem_append.mp h with h | h
    · exact l.inN u h
    · rw [List.mem_singleton.mp h]; exact mN
  · rcases List.mem_append.mp h with h | h
    · rw [upd_ne (ne u h)]; exact l.new u h n
    · rw [List.mem_singleton.mp h, upd_eq]; exact ⟨lw, lk⟩
  · rw [List.mem_append, l.mem, List.mem_singleton]
    constructor
    · rintro (⟨u, h, n, e⟩ | rfl)
      · exact ⟨u, List.mem_append_left _ h, n, by rw [upd_ne (ne u h)]; exact e⟩
      · exact ⟨v, by simp, fun z => nv (l.sub v z), upd_eq⟩
    · rintro ⟨u, h, n, e⟩
      rcases List.mem_append.mp h with h | h
      · exact .inl ⟨u, h, n, by rw [upd_ne (ne u h)] at e; exact e⟩
      · rw [List.mem_singleton.mp h, upd_eq] at e; exact .inr e.symm
  · rw [List.length_append, List.length_append]
    have := l.len
    simp only [List.length_singleton]; omega
  · rw [List.nodup_append]
    refine ⟨l.ltn, List.nodup_cons.mpr ⟨List.not_mem_nil, List.nodup_nil⟩, fun a ha b hb e => ?_⟩
    rw [List.mem_singleton.mp hb] at e
    obtain ⟨u, h, n, eu⟩ := (l.mem a).mp ha
    have h1 := (l.new u h n).1.1.last
    rw [eu, e, lw.1.last] at h1
    exact nv (Option.some.inj h1 ▸ h)
def WkD (E : Nm → List Nm) (x z : Nm) (d : D) : Prop := (∃ w, LW E x z w ∧ d = enc w) ∨ ((∀ w, ¬ Wlk E x z w) ∧ d = .non)
theorem WkD.uniq {E : Nm → List Nm} {x z : Nm} {d e : D} (a : WkD E x z d) (b : WkD E x z e) : d = e := by
  rcases a with ⟨w, h, rfl⟩ | ⟨h, rfl⟩ <;> rcases b with ⟨w', h', rfl⟩ | ⟨h', rfl⟩
  · rw [h.uniq h']
  · exact absurd h.1 (h' _)
  · exact absurd h'.1 (h _)
  · rfl
theorem asc_split {w : List Nm} {xs : List (List Nm)} {pre suf : List (List Nm)} {u : List Nm} (a : ascE xs) (e : xs = pre ++ w :: suf) (m : u ∈ xs) (l : ltE u w = true) : u ∈ pre := by
  rw [e] at m
  rcases List.mem_append.mp m with m | m
  · exact m
  · exfalso
    unfold ascE at a
    rw [e, List.pairwise_append] at a
    rcases List.mem_cons.mp m with rfl | m
    · rw [ltE_irr] at l; cases l
    · have := (List.pairwise_cons.mp a.2.1).1 u m
      have h := ltE_irr w
      rw [ltE_trans this l] at h; cases h
end
end Mini
section
open PySem PySem.W PyProof.Rows L2
namespace R
open PySem L2 Mini
structure CF (P : Program) (w : World) (K : PySem.W.Frag) (mg : Str → Option Value) (a_InvalidGraph a_RightError a_UnknownName : Addr) : Prop where
  E_InvalidGraph : ClsF K mg "InvalidGraph" a_InvalidGraph
  E_RightError : ClsF K mg "RightError" a_RightError
  E_UnknownName : ClsF K mg "UnknownName" a_UnknownName
  F_InvalidGraph : FCls P w K mg "InvalidGraph" "place"
  fl_InvalidGraph : FldC K a_InvalidGraph "place"
  xc_InvalidGraph : ExcC K a_InvalidGraph
  s_InvalidGraph_UnknownName : PySem.W.subIn K (.ref a_InvalidGraph) (.ref a_UnknownName) = some false
  k_InvalidGraph_RightError : PySem.W.kitOne K (.ref a_InvalidGraph) (.ref a_RightError) = some true
  F_UnknownName : FCls P w K mg "UnknownName" "name"
  fl_UnknownName : FldC K a_UnknownName "name"
  xc_UnknownName : ExcC K a_UnknownName
  s_UnknownName_UnknownName : PySem.W.subIn K (.ref a_UnknownName) (.ref a_UnknownName) = some true
  k_UnknownName_RightError : PySem.W.kitOne K (.ref a_UnknownName) (.ref a_RightError) = some true
def inn (i : Nat) : Stmt := match PySem.Challenge.pw_rightspans_k13_walks_over_takes.main.body.getD i (.Pass ⟨0, 0, 0, 0⟩) with
  | .ClassDef _ _ _ b .. => b.getD 0 (.Pass ⟨0, 0, 0, 0⟩)
  | s => s
def top (i : Nat) : Stmt := PySem.Challenge.pw_rightspans_k13_walks_over_takes.main.body.getD i (.Pass ⟨0, 0, 0, 0⟩)
abbrev st_is_tuple_of : Stmt := top 9
abbrev b_is_tuple_of := C.b_is_tuple_of
abbrev g_is_tuple_of := C.g_is_tuple_of
theorem sc_is_tuple_of : FnScope ["length", "value"] ["length", "value"] (defScope st_is_tuple_of) := ⟨rfl, rfl, rfl, by decide +kernel, rfl, by decide +kernel, by decide +kernel⟩
theorem ok_is_tuple_of {P : Program} {w : World} {K : PySem.W.Frag} {mg : Str → Option Value} {base : Heap} {k : Nat} (B : Blt mg) (Df : Def K mg "is_tuple_of" st_is_tuple_of ["length", "value"]) : Does P w K mg base "is_tuple_of" ["length", "value"] (k + 1) 2 g_is_tuple_of := by
  have S := sc_is_tuple_of
  refine Df.does S rfl rfl fun f cdv A outer s H E hr => ?_
  have hu4 := h64 hr
  have hu5 := h65 hr
  have hu1 := h1 hr
  have tk := takes_of (X := cxOf (L2.CX P w) P w K mg base ["length", "value"] "is_tuple_of" (defScope st_is_tuple_of) f cdv A outer s H E) (E := E) rfl rfl rfl rfl
  have pas := passes_of (X := cxOf (L2.CX P w) P w K mg base ["length", "value"] "is_tuple_of" (defScope st_is_tuple_of) f cdv A outer s H E) rfl
  exact (ss_one (ss_ret (se_and (se_isi (by decide) (by rfl) B.isinstance rfl (sv 1) (by rfl) B.tuple rfl) (pe_one (se_cmp (op_pEq hu4) (se_callB c_len (by rfl) B.len rfl (sa_cons (sv 1) sa_nil rfl)) (sv 0) rfl)))))
abbrev st_is_word : Stmt := top 10
abbrev b_is_word := C.b_is_word
abbrev g_is_word := C.g_is_word
theorem sc_is_word : FnScope ["value", "most", "sign"] ["value", "most"] (defScope st_is_word) := ⟨rfl, rfl, rfl, by decide +kernel, rfl, by decide +kernel, by decide +kernel⟩
theorem ok_is_word {P : Program} {w : World} {K : PySem.W.Frag} {mg : Str → Option Value} {base : Heap} {k : Nat} (B : Blt mg) (Df : Def K mg "is_word" st_is_word ["value", "most"]) {t_LETTERS : Tok} (c_LETTERS : mg "LETTERS" = some (.str "abcdefghijklmnopqrstuvwxyz" t_LETTERS)) : Does P w K mg base "is_word" ["value", "most"] (k + 1) 2 g_is_word := by
  have S := sc_is_word
  refine Df.does S rfl rfl fun f cdv A outer s H E hr => ?_
  have hu4 := h64 hr
  have hu5 := h65 hr
  have hu1 := h1 hr
  have tk := takes_of (X := cxOf (L2.CX P w) P w K mg base ["value", "most", "sign"] "is_word" (defScope st_is_word) f cdv A outer s H E) (E := E) rfl rfl rfl rfl
  have pas := passes_of (X := cxOf (L2.CX P w) P w K mg base ["value", "most", "sign"] "is_word" (defScope st_is_word) f cdv A outer s H E) rfl
  exact (ss_one (ss_ret (se_and (se_isi (by decide) (by rfl) B.isinstance rfl (sv 0) (by rfl) B.str rfl) (se_and (se_chain (op_pLe hu4) (op_pLe hu4) se_int (se_callB c_len (by rfl) B.len rfl (sa_cons (sv 0) sa_nil rfl)) (sv 1) rfl) (pe_one (se_callB (c_all rfl) (by rfl) B.all rfl (sa_cons (se_lc rfl S.nd (si_any (sv 0)) (blkOk_by (own := [("sign", 2)]) (by kernel_rfl)) (by decide) (fun _ _ _ _ _ => (sg_nm S.nd rfl (Or.inl rfl))) (fun _ _ _ _ _ => sts_nil) (fun _ _ _ _ _ => (se_cmp (op_pIn hu5) (sv 2) (se_glS (by rfl) c_LETTERS) rfl))) sa_nil rfl)))))))
abbrev st_is_name : Stmt := top 11
abbrev b_is_name := C.b_is_name
abbrev g_is_name := C.g_is_name
theorem sc_is_name : FnScope ["value"] ["value"] (defScope st_is_name) := ⟨rfl, rfl, rfl, by decide +kernel, rfl, by decide +kernel, by decide +kernel⟩
theorem ok_is_name {P : Program} {w : World} {K : PySem.W.Frag} {mg : Str → Option Value} {base : Heap} {k : Nat} (B : Blt mg) (Df : Def K mg "is_name" st_is_name ["value"]) {t_MOST_LETTERS : Tok} (c_MOST_LETTERS : mg "MOST_LETTERS" = some (.int 8 t_MOST_LETTERS)) (d_is_word : Does P w K mg base "is_word" ["value", "most"] k 2 g_is_word) : Does P w K mg base "is_name" ["value"] (k + 1) 1 g_is_name := by
  have S := sc_is_name
  refine Df.does S rfl rfl fun f cdv A outer s H E hr => ?_
  have hu4 := h64 hr
  have hu5 := h65 hr
  have hu1 := h1 hr
  have tk := takes_of (X := cxOf (L2.CX P w) P w K mg base ["value"] "is_name" (defScope st_is_name) f cdv A outer s H E) (E := E) rfl rfl rfl rfl
  have pas := passes_of (X := cxOf (L2.CX P w) P w K mg base ["value"] "is_name" (defScope st_is_name) f cdv A outer s H E) rfl
  exact (ss_one (ss_ret (se_do d_is_word tk hr (by rfl) (sa_cons (sv 0) (sa_cons (se_glI (by rfl) c_MOST_LETTERS) sa_nil rfl) rfl))))
abbrev st_is_right : Stmt := top 12
abbrev b_is_right := C.b_is_right
abbrev g_is_right := C.g_is_right
theorem sc_is_right : FnScope ["value"] ["value"] (defScope st_is_right) := ⟨rfl, rfl, rfl, by decide +kernel, rfl, by decide +kernel, by decide +kernel⟩
theorem ok_is_right {P : Program} {w : World} {K : PySem.W.Frag} {mg : Str → Option Value} {base : Heap} {k : Nat} (B : Blt mg) (Df : Def K mg "is_right" st_is_right ["value"]) {t_MOST_RIGHT : Tok} (c_MOST_RIGHT : mg "MOST_RIGHT" = some (.int 3 t_MOST_RIGHT)) (d_is_word : Does P w K mg base "is_word" ["value", "most"] k 2 g_is_word) : Does P w K mg base "is_right" ["value"] (k + 1) 1 g_is_right := by
  have S := sc_is_right
  refine Df.does S rfl rfl fun f cdv A outer s H E hr => ?_
  have hu4 := h64 hr
  have hu5 := h65 hr
  have hu1 := h1 hr
  have tk := takes_of (X := cxOf (L2.CX P w) P w K mg base ["value"] "is_right" (defScope st_is_right) f cdv A outer s H E) (E := E) rfl rfl rfl rfl
  have pas := passes_of (X := cxOf (L2.CX P w) P w K mg base ["value"] "is_right" (defScope st_is_right) f cdv A outer s H E) rfl
  exact (ss_one (ss_ret (se_do d_is_word tk hr (by rfl) (sa_cons (sv 0) (sa_cons (se_glI (by rfl) c_MOST_RIGHT) sa_nil rfl) rfl))))
abbrev st_names_fault : Stmt := top 14
abbrev b_names_fault := C.b_names_fault
abbrev g_names_fault := C.g_names_fault
theorem sc_names_fault : FnScope ["part", "names", "others", "at", "name"] ["part", "names", "others"] (defScope st_names_fault) := ⟨rfl, rfl, rfl, by decide +kernel, rfl, by decide +kernel, by decide +kernel⟩
theorem ok_names_fault {P : Program} {w : World} {K : PySem.W.Frag} {mg : Str → Option Value} {base : Heap} {k : Nat} (B : Blt mg) (Df : Def K mg "names_fault" st_names_fault ["part", "names", "others"]) (d_is_name : Does P w K mg base "is_name" ["value"] k 1 g_is_name) : Does P w K mg base "names_fault" ["part", "names", "others"] (k + 1) 3 g_names_fault := by
  have S := sc_names_fault
  refine Df.does S rfl rfl fun f cdv A outer s H E hr => ?_
  have hu4 := h64 hr
  have hu5 := h65 hr
  have hu1 := h1 hr
  have tk := takes_of (X := cxOf (L2.CX P w) P w K mg base ["part", "names", "others", "at", "name"] "names_fault" (defScope st_names_fault) f cdv A outer s H E) (E := E) rfl rfl rfl rfl
  have pas := passes_of (X := cxOf (L2.CX P w) P w K mg base ["part", "names", "others", "at", "name"] "names_fault" (defScope st_names_fault) f cdv A outer s H E) rfl
  exact (ss_cons (ss_for pas rfl (si_enu (by rfl) B.enumerate (sv 1)) (sg_tp rfl (sgs_cons (sg_nm S.nd rfl (Or.inl rfl)) (sgs_cons (sg_nm S.nd rfl (Or.inl rfl)) sgs_nil)))
    (ss_one (ss_if (PW.pt (sw_or (st_not (st_tru (se_do d_is_name tk hr (by rfl) (sa_cons (sv 4) sa_nil rfl)) (by intro _; rfl))) (sw_or (PW.pt (sw_and (st_cmp (op_pGt hu4) (sv 3) se_int rfl) (pw_and1 (st_cmp (op_pLe hu4) (sv 4) (se_ix (ix_pIdx hu1) (sv 1) (se_op op_pSub (sv 3) se_int) (fun _ _ => rfl)) rfl)))) (pw_or1 (st_cmp (op_pIn hu5) (sv 4) (sv 2) rfl)))))
    (ss_one (ss_ret (se_tup (sa_cons (sv 0) (sa_cons (sv 3) sa_nil rfl) rfl))))
    ss_nil)))
    (ss_one (ss_ret se_non)))
abbrev st_is_hold_of : Stmt := top 15
abbrev b_is_hold_of := C.b_is_hold_of
abbrev g_is_hold_of := C.g_is_hold_of
theorem sc_is_hold_of : FnScope ["names", "value", "name"] ["names", "value"] (defScope st_is_hold_of) := ⟨rfl, rfl, rfl, by decide +kernel, rfl, by decide +kernel, by decide +kernel⟩
theorem ok_is_hold_of {P : Program} {w : World} {K : PySem.W.Frag} {mg : Str → Option Value} {base : Heap} {k : Nat} (B : Blt mg) (Df : Def K mg "is_hold_of" st_is_hold_of ["names", "value"]) (d_is_name : Does P w K mg base "is_name" ["value"] k 1 g_is_name) (d_is_right : Does P w K mg base "is_right" ["value"] k 1 g_is_right) (d_is_tuple_of : Does P w K mg base "is_tuple_of" ["length", "value"] k 2 g_is_tuple_of) : Does P w K mg base "is_hold_of" ["names", "value"] (k + 1) 2 g_is_hold_of := by
  have S := sc_is_hold_of
  refine Df.does S rfl rfl fun f cdv A outer s H E hr => ?_
  have hu4 := h64 hr
  have hu5 := h65 hr
  have hu1 := h1 hr
  have tk := takes_of (X := cxOf (L2.CX P w) P w K mg base ["names", "value", "name"] "is_hold_of" (defScope st_is_hold_of) f cdv A outer s H E) (E := E) rfl rfl rfl rfl
  have pas := passes_of (X := cxOf (L2.CX P w) P w K mg base ["names", "value", "name"] "is_hold_of" (defScope st_is_hold_of) f cdv A outer s H E) rfl
  exact (ss_cons (ss_if (PW.pt (sw_or (st_not (st_tru (se_do d_is_tuple_of tk hr (by rfl) (sa_cons se_int (sa_cons (sv 1) sa_nil rfl) rfl)) (by intro _; rfl))) (pw_or1 (st_not (st_tru (se_callB (c_all rfl) (by rfl) B.all rfl (sa_cons (se_lc rfl S.nd (si_any (se_cut (sv 1) so_none (so_some se_int))) (blkOk_by (own := [("name", 2)]) (by kernel_rfl)) (by decide) (fun _ _ _ _ _ => (sg_nm S.nd rfl (Or.inl rfl))) (fun _ _ _ _ _ => sts_nil) (fun _ _ _ _ _ => (se_and (se_do d_is_name takes0 hr (by rfl) (sa_cons (sv 2) sa_nil rfl)) (pe_one (se_cmp (op_pIn hu5) (sv 2) (sv 0) rfl))))) sa_nil rfl)) (by intro _; rfl))))))
    (ss_one (ss_ret se_bl))
    ss_nil)
    (ss_one (ss_ret (se_do d_is_right tk hr (by rfl) (sa_cons (se_ix (ix_pIdx hu1) (sv 1) se_int (fun _ _ => rfl)) sa_nil rfl)))))
abbrev st_graph_fault : Stmt := top 16
abbrev b_graph_fault := C.b_graph_fault
abbrev g_graph_fault := C.g_graph_fault
theorem sc_graph_fault : FnScope ["value", "part", "subjects", "objects", "holds", "fault", "names", "name", "at", "hold"] ["value"] (defScope st_graph_fault) := ⟨rfl, rfl, rfl, by decide +kernel, rfl, by decide +kernel, by decide +kernel⟩
theorem ok_graph_fault {P : Program} {w : World} {K : PySem.W.Frag} {mg : Str → Option Value} {base : Heap} {k : Nat} (B : Blt mg) (Df : Def K mg "graph_fault" st_graph_fault ["value"]) (d_is_hold_of : Does P w K mg base "is_hold_of" ["names", "value"] k 2 g_is_hold_of) (d_is_tuple_of : Does P w K mg base "is_tuple_of" ["length", "value"] k 2 g_is_tuple_of) (d_names_fault : Does P w K mg base "names_fault" ["part", "names", "others"] k 3 g_names_fault) : Does P w K mg base "graph_fault" ["value"] (k + 1) 1 g_graph_fault := by
  have S := sc_graph_fault
  refine Df.does S rfl rfl fun f cdv A outer s H E hr => ?_
  have hu4 := h64 hr
  have hu5 := h65 hr
  have hu1 := h1 hr
  have tk := takes_of (X := cxOf (L2.CX P w) P w K mg base ["value", "part", "subjects", "objects", "holds", "fault", "names", "name", "at", "hold"] "graph_fault" (defScope st_graph_fault) f cdv A outer s H E) (E := E) rfl rfl rfl rfl
  have pas := passes_of (X := cxOf (L2.CX P w) P w K mg base ["value", "part", "subjects", "objects", "holds", "fault", "names", "name", "at", "hold"] "graph_fault" (defScope st_graph_fault) f cdv A outer s H E) rfl
  exact (ss_cons (ss_if (PW.pt (sw_or (st_not (st_tru (se_do d_is_tuple_of tk hr (by rfl) (sa_cons se_int (sa_cons (sv 0) sa_nil rfl) rfl)) (by intro _; rfl))) (pw_or1 (st_not (st_tru (se_callB (c_all rfl) (by rfl) B.all rfl (sa_cons (se_lc rfl S.nd (si_any (sv 0)) (blkOk_by (own := [("part", 1)]) (by kernel_rfl)) (by decide) (fun _ _ _ _ _ => (sg_nm S.nd rfl (Or.inl rfl))) (fun _ _ _ _ _ => sts_nil) (fun _ _ _ _ _ => (se_isi (by decide) (by rfl) B.isinstance rfl (sv 1) (by rfl) B.tuple rfl))) sa_nil rfl)) (by intro _; rfl))))))
    (ss_one (ss_ret (se_tup sa_nil)))
    ss_nil)
    (ss_cons (ss_asg (sv 0) (sg_tp rfl (sgs_cons (sg_nm S.nd rfl (Or.inl rfl)) (sgs_cons (sg_nm S.nd rfl (Or.inl rfl)) (sgs_cons (sg_nm S.nd rfl (Or.inl rfl)) sgs_nil)))))
    (ss_cons (ss_set S.nd rfl (Or.inl rfl) (se_do d_names_fault tk hr (by rfl) (sa_cons se_int (sa_cons (sv 2) (sa_cons (se_tup sa_nil) sa_nil rfl) rfl) rfl)))
    (ss_cons (ss_if (st_cmp op_pIs (sv 5) se_non rfl)
    (ss_one (ss_set S.nd rfl (Or.inl rfl) (se_do d_names_fault tk hr (by rfl) (sa_cons se_int (sa_cons (sv 3) (sa_cons (sv 2) sa_nil rfl) rfl) rfl))))
    ss_nil)
    (ss_cons (ss_if (st_cmp op_pIsNot (sv 5) se_non rfl)
    (ss_one (ss_ret (sv 5)))
    ss_nil)
    (ss_cons (ss_setDc rfl S.nd rfl rfl rfl (si_any (se_op op_pAdd (sv 2) (sv 3))) (blkOk_by (own := [("name", 7)]) (by kernel_rfl)) (by decide) (fun _ _ _ _ _ => (sg_nm S.nd rfl (Or.inl rfl))) (fun _ _ _ _ _ => sts_nil) (fun _ _ _ _ _ => (sv 7)) (fun _ _ _ _ _ => se_bl))
    (ss_cons (ss_for pas rfl (si_enu (by rfl) B.enumerate (sv 4)) (sg_tp rfl (sgs_cons (sg_nm S.nd rfl (Or.inl rfl)) (sgs_cons (sg_nm S.nd rfl (Or.inl rfl)) sgs_nil)))
    (ss_one (ss_if (PW.pt (sw_or (st_not (st_tru (se_do d_is_hold_of tk hr (by rfl) (sa_cons (sv 6) (sa_cons (sv 9) sa_nil rfl) rfl)) (by intro _; rfl))) (pw_or1 (PW.pt (sw_and (st_cmp (op_pGt hu4) (sv 8) se_int rfl) (pw_and1 (st_cmp (op_pLe hu4) (sv 9) (se_ix (ix_pIdx hu1) (sv 4) (se_op op_pSub (sv 8) se_int) (fun _ _ => rfl)) rfl)))))))
    (ss_one (ss_ret (se_tup (sa_cons se_int (sa_cons (sv 8) sa_nil rfl) rfl))))
    ss_nil)))
    (ss_one (ss_ret se_non)))))))))
abbrev st_check_graph : Stmt := top 17
abbrev b_check_graph := C.b_check_graph
abbrev g_check_graph := C.g_check_graph
theorem sc_check_graph : FnScope ["graph", "place"] ["graph"] (defScope st_check_graph) := ⟨rfl, rfl, rfl, by decide +kernel, rfl, by decide +kernel, by decide +kernel⟩
theorem ok_check_graph {P : Program} {w : World} {K : PySem.W.Frag} {mg : Str → Option Value} {base : Heap} {k : Nat} (B : Blt mg) (Df : Def K mg "check_graph" st_check_graph ["graph"]) {a_InvalidGraph a_RightError a_UnknownName : Addr} (Y : CF P w K mg a_InvalidGraph a_RightError a_UnknownName) (hk2 : 2 ≤ k) (d_graph_fault : Does P w K mg base "graph_fault" ["value"] k 1 g_graph_fault) : Does P w K mg base "check_graph" ["graph"] (k + 1) 1 g_check_graph := by
  have S := sc_check_graph
  refine Df.does S rfl rfl fun f cdv A outer s H E hr => ?_
  have hu4 := h64 hr
  have hu5 := h65 hr
  have hu1 := h1 hr
  have tk := takes_of (X := cxOf (L2.CX P w) P w K mg base ["graph", "place"] "check_graph" (defScope st_check_graph) f cdv A outer s H E) (E := E) rfl rfl rfl rfl
  have pas := passes_of (X := cxOf (L2.CX P w) P w K mg base ["graph", "place"] "check_graph" (defScope st_check_graph) f cdv A outer s H E) rfl
  exact (ss_cons (ss_set S.nd rfl (Or.inl rfl) (se_do d_graph_fault tk hr (by rfl) (sa_cons (sv 0) sa_nil rfl)))
    (ss_one (ss_if (st_cmp op_pIsNot (sv 1) se_non rfl)
    (ss_one (ss_raiseC rfl tk Y.F_InvalidGraph (hr.mono hk2) (by rfl) (sv 1)))
    ss_nil)))
abbrev st_has_name : Stmt := top 18
abbrev b_has_name := C.b_has_name
abbrev g_has_name := C.g_has_name
theorem sc_has_name : FnScope ["graph", "value"] ["graph", "value"] (defScope st_has_name) := ⟨rfl, rfl, rfl, by decide +kernel, rfl, by decide +kernel, by decide +kernel⟩
theorem ok_has_name {P : Program} {w : World} {K : PySem.W.Frag} {mg : Str → Option Value} {base : Heap} {k : Nat} (B : Blt mg) (Df : Def K mg "has_name" st_has_name ["graph", "value"]) (d_is_name : Does P w K mg base "is_name" ["value"] k 1 g_is_name) : Does P w K mg base "has_name" ["graph", "value"] (k + 1) 2 g_has_name := by
  have S := sc_has_name
  refine Df.does S rfl rfl fun f cdv A outer s H E hr => ?_
  have hu4 := h64 hr
  have hu5 := h65 hr
  have hu1 := h1 hr
  have tk := takes_of (X := cxOf (L2.CX P w) P w K mg base ["graph", "value"] "has_name" (defScope st_has_name) f cdv A outer s H E) (E := E) rfl rfl rfl rfl
  have pas := passes_of (X := cxOf (L2.CX P w) P w K mg base ["graph", "value"] "has_name" (defScope st_has_name) f cdv A outer s H E) rfl
  exact (ss_one (ss_ret (se_and (se_do d_is_name tk hr (by rfl) (sa_cons (sv 1) sa_nil rfl)) (pe_one (se_or (se_cmp (op_pIn hu5) (sv 1) (se_ix (ix_pIdx hu1) (sv 0) se_int (fun _ _ => rfl)) rfl) (pe_one (se_cmp (op_pIn hu5) (sv 1) (se_ix (ix_pIdx hu1) (sv 0) se_int (fun _ _ => rfl)) rfl)))))))
abbrev st_check_name : Stmt := top 19
abbrev b_check_name := C.b_check_name
abbrev g_check_name := C.g_check_name
theorem sc_check_name : FnScope ["graph", "name"] ["graph", "name"] (defScope st_check_name) := ⟨rfl, rfl, rfl, by decide +kernel, rfl, by decide +kernel, by decide +kernel⟩
theorem ok_check_name {P : Program} {w : World} {K : PySem.W.Frag} {mg : Str → Option Value} {base : Heap} {k : Nat} (B : Blt mg) (Df : Def K mg "check_name" st_check_name ["graph", "name"]) {a_InvalidGraph a_RightError a_UnknownName : Addr} (Y : CF P w K mg a_InvalidGraph a_RightError a_UnknownName) (hk2 : 2 ≤ k) (d_has_name : Does P w K mg base "has_name" ["graph", "value"] k 2 g_has_name) : Does P w K mg base "check_name" ["graph", "name"] (k + 1) 2 g_check_name := by
  have S := sc_check_name
  refine Df.does S rfl rfl fun f cdv A outer s H E hr => ?_
  have hu4 := h64 hr
  have hu5 := h65 hr
  have hu1 := h1 hr
  have tk := takes_of (X := cxOf (L2.CX P w) P w K mg base ["graph", "name"] "check_name" (defScope st_check_name) f cdv A outer s H E) (E := E) rfl rfl rfl rfl
  have pas := passes_of (X := cxOf (L2.CX P w) P w K mg base ["graph", "name"] "check_name" (defScope st_check_name) f cdv A outer s H E) rfl
  exact (ss_one (ss_if (st_not (st_tru (se_do d_has_name tk hr (by rfl) (sa_cons (sv 0) (sa_cons (sv 1) sa_nil rfl) rfl)) (by intro _; rfl)))
    (ss_one (ss_raiseC rfl tk Y.F_UnknownName (hr.mono hk2) (by rfl) (sv 1)))
    ss_nil))
abbrev st_things_by : Stmt := top 21
abbrev b_things_by := C.b_things_by
abbrev g_things_by := C.g_things_by
theorem sc_things_by : FnScope ["graph", "right", "found", "holder", "thing", "word"] ["graph", "right"] (defScope st_things_by) := ⟨rfl, rfl, rfl, by decide +kernel, rfl, by decide +kernel, by decide +kernel⟩
theorem ok_things_by {P : Program} {w : World} {K : PySem.W.Frag} {mg : Str → Option Value} {base : Heap} {k : Nat} (B : Blt mg) (Df : Def K mg "things_by" st_things_by ["graph", "right"]) : Does P w K mg base "things_by" ["graph", "right"] (k + 1) 2 g_things_by := by
  have S := sc_things_by
  refine Df.does S rfl rfl fun f cdv A outer s H E hr => ?_
  have hu4 := h64 hr
  have hu5 := h65 hr
  have hu1 := h1 hr
  have tk := takes_of (X := cxOf (L2.CX P w) P w K mg base ["graph", "right", "found", "holder", "thing", "word"] "things_by" (defScope st_things_by) f cdv A outer s H E) (E := E) rfl rfl rfl rfl
  have pas := passes_of (X := cxOf (L2.CX P w) P w K mg base ["graph", "right", "found", "holder", "thing", "word"] "things_by" (defScope st_things_by) f cdv A outer s H E) rfl
  exact (ss_cons (ss_set S.nd rfl (Or.inl rfl) se_dn)
    (ss_cons (ss_for pas rfl (si_any (se_ix (ix_pIdx hu1) (sv 0) se_int (fun _ _ => rfl))) (sg_tp rfl (sgs_cons (sg_nm S.nd rfl (Or.inl rfl)) (sgs_cons (sg_nm S.nd rfl (Or.inl rfl)) (sgs_cons (sg_nm S.nd rfl (Or.inl rfl)) sgs_nil))))
    (ss_one (ss_if (st_cmp (op_pEq hu4) (sv 5) (sv 1) rfl)
    (ss_one (ss_expr (se_bm (.inl rfl) PySem.F.plainAttrs_list PySem.F.slot_list_append PySem.F.type_list_append m_append (se_setd (sv 2) (sv 3) (se_lst sa_nil) ⟨rfl, rfl, rfl, rfl⟩) (sa_cons (sv 4) sa_nil rfl))))
    ss_nil)))
    (ss_one (ss_ret (sv 2)))))
abbrev st_walk_by : Stmt := top 22
def b_walk_by : MS :=
    (sSeq (sSet (.nm 3) (eD1 (eVar 1) (eTup (aCons (eVar 1) aNil))))
    (sSeq (sSet (.nm 4) (eLst (aCons (eTup (aCons (eVar 1) aNil)) aNil)))
    (sSeq (sWh (tTru (eVar 4))
    (sSeq (sSet (.nm 5) (eLst aNil))
    (sSeq (sFor (iAny (eB nSorted (aCons (eVar 4) aNil))) (.nm 6)
    (sFor (iAny (eB nSorted (aCons (eGet (eVar 0) (eOp pIdx (eVar 6) (eUn pNeg (eC (.int 1)))) (eLst aNil)) aNil))) (.nm 7)
    (sIf (tBl (eOp pNotIn (eVar 7) (eVar 3)))
    (sSeq (sPut (eOp pAdd (eVar 6) (eTup (aCons (eVar 7) aNil))) (eVar 3) (eVar 7))
    (sExpr (eMt "list" qAppend (eVar 5) (aCons (eOp pIdx (eVar 3) (eVar 7)) aNil))))
    sNil)))
    (sSet (.nm 4) (eVar 5)))))
    (sRet (eGet1 (eVar 3) (eVar 2))))))
def g_walk_by : List D → M D := runF 8 3 b_walk_by
theorem sc_walk_by : FnScope ["near", "start", "goal", "ways", "waiting", "later", "way", "thing"] ["near", "start", "goal"] (defScope st_walk_by) := ⟨rfl, rfl, rfl, by decide +kernel, rfl, by decide +kernel, by decide +kernel⟩
theorem ok_walk_by {P : Program} {w : World} {K : PySem.W.Frag} {mg : Str → Option Value} {base : Heap} {k : Nat} (B : Blt mg) (Df : Def K mg "walk_by" st_walk_by ["near", "start", "goal"]) : Does P w K mg base "walk_by" ["near", "start", "goal"] (k + 1) 3 g_walk_by := by
  have S := sc_walk_by
  refine Df.does S rfl rfl fun f cdv A outer s H E hr => ?_
  have hu4 := h64 hr
  have hu5 := h65 hr
  have hu1 := h1 hr
  have tk := takes_of (X := cxOf (L2.CX P w) P w K mg base ["near", "start", "goal", "ways", "waiting", "later", "way", "thing"] "walk_by" (defScope st_walk_by) f cdv A outer s H E) (E := E) rfl rfl rfl rfl
  have pas := passes_of (X := cxOf (L2.CX P w) P w K mg base ["near", "start", "goal", "ways", "waiting", "later", "way", "thing"] "walk_by" (defScope st_walk_by) f cdv A outer s H E) rfl
  exact (ss_cons (ss_set S.nd rfl (Or.inl rfl) (se_d1 (sv 1) (se_tup (sa_cons (sv 1) sa_nil rfl))))
    (ss_cons (ss_set S.nd rfl (Or.inl rfl) (se_lst (sa_cons (se_tup (sa_cons (sv 1) sa_nil rfl)) sa_nil rfl)))
    (ss_cons (ss_wh pas (st_tru (sv 4) (by intro _; rfl))
    (ss_cons (ss_set S.nd rfl (Or.inl rfl) (se_lst sa_nil))
    (ss_cons (ss_for pas rfl (si_any (se_callB (c_sorted hu4) (by rfl) B.sorted rfl (sa_cons (sv 4) sa_nil rfl))) (sg_nm S.nd rfl (Or.inl rfl))
    (ss_one (ss_for pas rfl (si_any (se_callB (c_sorted hu4) (by rfl) B.sorted rfl (sa_cons (se_get hu1 (sv 0) (se_ix (ix_pIdx hu1) (sv 6) (se_un un_pNeg se_int) (fun _ _ => rfl)) (se_lst sa_nil) ⟨rfl, rfl, rfl, rfl⟩) sa_nil rfl))) (sg_nm S.nd rfl (Or.inl rfl))
    (ss_one (ss_if (st_cmp (op_pNotIn hu5) (sv 7) (sv 3) rfl)
    (ss_cons (ss_put hu1 (se_op op_pAdd (sv 6) (se_tup (sa_cons (sv 7) sa_nil rfl))) (sv 3) (sv 7))
    (ss_one (ss_expr (se_bm (.inl rfl) PySem.F.plainAttrs_list PySem.F.slot_list_append PySem.F.type_list_append m_append (sv 5) (sa_cons (se_ix (ix_pIdx hu1) (sv 3) (sv 7) (fun _ _ => rfl)) sa_nil rfl)))))
    ss_nil)))))
    (ss_one (ss_set S.nd rfl (Or.inl rfl) (sv 5))))))
    (ss_one (ss_ret (se_get1 hu1 (sv 3) (sv 2) ⟨rfl, rfl, rfl, rfl⟩))))))
abbrev st_reach_walk : Stmt := top 23
def b_reach_walk : MS :=
    (sSeq (sExpr (eCall g_check_graph (aCons (eVar 0) aNil)))
    (sSeq (sExpr (eCall g_check_name (aCons (eVar 0) (aCons (eVar 1) aNil))))
    (sSeq (sExpr (eCall g_check_name (aCons (eVar 0) (aCons (eVar 2) aNil))))
    (sRet (eCall g_walk_by (aCons (eCall g_things_by (aCons (eVar 0) (aCons (eC (.str "t")) aNil))) (aCons (eVar 1) (aCons (eVar 2) aNil))))))))
def g_reach_walk : List D → M D := runF 3 3 b_reach_walk
theorem sc_reach_walk : FnScope ["graph", "x", "y"] ["graph", "x", "y"] (defScope st_reach_walk) := ⟨rfl, rfl, rfl, by decide +kernel, rfl, by decide +kernel, by decide +kernel⟩
theorem ok_reach_walk {P : Program} {w : World} {K : PySem.W.Frag} {mg : Str → Option Value} {base : Heap} {k : Nat} (B : Blt mg) (Df : Def K mg "reach_walk" st_reach_walk ["graph", "x", "y"]) {t_TAKE : Tok} (c_TAKE : mg "TAKE" = some (.str "t" t_TAKE)) (d_check_graph : Does P w K mg base "check_graph" ["graph"] k 1 g_check_graph) (d_check_name : Does P w K mg base "check_name" ["graph", "name"] k 2 g_check_name) (d_things_by : Does P w K mg base "things_by" ["graph", "right"] k 2 g_things_by) (d_walk_by : Does P w K mg base "walk_by" ["near", "start", "goal"] k 3 g_walk_by) : Does P w K mg base "reach_walk" ["graph", "x", "y"] (k + 1) 3 g_reach_walk := by
  have S := sc_reach_walk
  refine Df.does S rfl rfl fun f cdv A outer s H E hr => ?_
  have hu4 := h64 hr
  have hu5 := h65 hr
  have hu1 := h1 hr
  have tk := takes_of (X := cxOf (L2.CX P w) P w K mg base ["graph", "x", "y"] "reach_walk" (defScope st_reach_walk) f cdv A outer s H E) (E := E) rfl rfl rfl rfl
  have pas := passes_of (X := cxOf (L2.CX P w) P w K mg base ["graph", "x", "y"] "reach_walk" (defScope st_reach_walk) f cdv A outer s H E) rfl
  exact (ss_cons (ss_expr (se_do d_check_graph tk hr (by rfl) (sa_cons (sv 0) sa_nil rfl)))
    (ss_cons (ss_expr (se_do d_check_name tk hr (by rfl) (sa_cons (sv 0) (sa_cons (sv 1) sa_nil rfl) rfl)))
    (ss_cons (ss_expr (se_do d_check_name tk hr (by rfl) (sa_cons (sv 0) (sa_cons (sv 2) sa_nil rfl) rfl)))
    (ss_one (ss_ret (se_do d_walk_by tk hr (by rfl) (sa_cons (se_do d_things_by tk hr (by rfl) (sa_cons (sv 0) (sa_cons (se_glS (by rfl) c_TAKE) sa_nil rfl) rfl)) (sa_cons (sv 1) (sa_cons (sv 2) sa_nil rfl) rfl) rfl)))))))
abbrev st__law_pot : Stmt := top 25
abbrev b__law_pot := C.b__law_pot
abbrev g__law_pot := C.g__law_pot
theorem sc__law_pot : FnScope ["script", "at", "cell"] ["script", "at"] (defScope st__law_pot) := ⟨rfl, rfl, rfl, by decide +kernel, rfl, by decide +kernel, by decide +kernel⟩
theorem ok__law_pot {P : Program} {w : World} {K : PySem.W.Frag} {mg : Str → Option Value} {base : Heap} {k : Nat} (B : Blt mg) (Df : Def K mg "_law_pot" st__law_pot ["script", "at"]) : Does P w K mg base "_law_pot" ["script", "at"] (k + 1) 2 g__law_pot := by
  have S := sc__law_pot
  refine Df.does S rfl rfl fun f cdv A outer s H E hr => ?_
  have hu4 := h64 hr
  have hu5 := h65 hr
  have hu1 := h1 hr
  have tk := takes_of (X := cxOf (L2.CX P w) P w K mg base ["script", "at", "cell"] "_law_pot" (defScope st__law_pot) f cdv A outer s H E) (E := E) rfl rfl rfl rfl
  have pas := passes_of (X := cxOf (L2.CX P w) P w K mg base ["script", "at", "cell"] "_law_pot" (defScope st__law_pot) f cdv A outer s H E) rfl
  exact (ss_cons (ss_set S.nd rfl (Or.inl rfl) (se_op op_pMul se_int (sv 1)))
    (ss_cons (ss_if (st_cmp (op_pLt hu4) (sv 1) (se_callB c_len (by rfl) B.len rfl (sa_cons (sv 0) sa_nil rfl)) rfl)
    (ss_one (ss_set S.nd rfl (Or.inl rfl) (se_ix (ix_pIdx hu1) (sv 0) (sv 1) (fun _ _ => rfl))))
    ss_nil)
    (ss_cons (ss_set S.nd rfl (Or.inl rfl) (se_op op_pMod (se_callTy c_int (by rfl) B.int rfl (sa_cons (se_callB c_abs (by rfl) B.abs rfl (sa_cons (sv 2) sa_nil rfl)) sa_nil rfl)) (se_op op_pMul (se_op op_pMul (se_op op_pMul (se_op op_pPow se_int se_int) (se_op op_pPow se_int se_int)) (se_op op_pPow se_int se_int)) (se_op op_pPow se_int se_int))))
    (ss_one (ss_ret (se_lst (sa_cons (sv 2) (sa_cons (se_callTy c_int (by rfl) B.int rfl (sa_cons (se_cmp (op_pGe hu4) (sv 2) (se_op op_pPow se_int se_int) rfl) sa_nil rfl)) (sa_cons (se_op op_pMul se_int (sv 1)) sa_nil rfl) rfl) rfl)))))))
abbrev st__law_draw : Stmt := top 26
abbrev b__law_draw := C.b__law_draw
abbrev g__law_draw := C.g__law_draw
theorem sc__law_draw : FnScope ["pot", "many", "found", "mixed"] ["pot", "many"] (defScope st__law_draw) := ⟨rfl, rfl, rfl, by decide +kernel, rfl, by decide +kernel, by decide +kernel⟩
theorem ok__law_draw {P : Program} {w : World} {K : PySem.W.Frag} {mg : Str → Option Value} {base : Heap} {k : Nat} (B : Blt mg) (Df : Def K mg "_law_draw" st__law_draw ["pot", "many"]) : Does P w K mg base "_law_draw" ["pot", "many"] (k + 1) 2 g__law_draw := by
  have S := sc__law_draw
  refine Df.does S rfl rfl fun f cdv A outer s H E hr => ?_
  have hu4 := h64 hr
  have hu5 := h65 hr
  have hu1 := h1 hr
  have tk := takes_of (X := cxOf (L2.CX P w) P w K mg base ["pot", "many", "found", "mixed"] "_law_draw" (defScope st__law_draw) f cdv A outer s H E) (E := E) rfl rfl rfl rfl
  have pas := passes_of (X := cxOf (L2.CX P w) P w K mg base ["pot", "many", "found", "mixed"] "_law_draw" (defScope st__law_draw) f cdv A outer s H E) rfl
  exact (ss_cons (ss_put hu1 (se_op op_pAdd (se_ix (ix_pIdx hu1) (sv 0) se_int (fun _ _ => rfl)) se_int) (sv 0) se_int)
    (ss_cons (ss_if (PW.pt (sw_and (st_cmp (op_pEq hu4) (se_ix (ix_pIdx hu1) (sv 0) se_int (fun _ _ => rfl)) se_int rfl) (pw_and1 (st_cmp (op_pGt hu4) (se_ix (ix_pIdx hu1) (sv 0) se_int (fun _ _ => rfl)) se_int rfl))))
    (ss_cons (ss_set S.nd rfl (Or.inl rfl) (se_op op_pMod (se_callTy c_int (by rfl) B.int rfl (sa_cons (se_ix (ix_pIdx hu1) (sv 0) se_int (fun _ _ => rfl)) sa_nil rfl)) (sv 1)))
    (ss_cons (ss_put hu1 (se_op op_pDiv (se_ix (ix_pIdx hu1) (sv 0) se_int (fun _ _ => rfl)) (sv 1)) (sv 0) se_int)
    (ss_one (ss_ret (sv 2)))))
    ss_nil)
    (ss_cons (ss_set S.nd rfl (Or.inl rfl) (se_op op_pMod (se_callTy c_int (by rfl) B.int rfl (sa_cons (se_op op_pMul (se_op op_pAdd (se_op op_pAdd (se_ix (ix_pIdx hu1) (sv 0) se_int (fun _ _ => rfl)) (se_op op_pMul se_int (se_ix (ix_pIdx hu1) (sv 0) se_int (fun _ _ => rfl)))) se_int) se_int) sa_nil rfl)) se_int))
    (ss_cons (ss_set S.nd rfl (Or.inl rfl) (se_op op_pMod (se_callTy c_int (by rfl) B.int rfl (sa_cons (se_op op_pMul (sv 3) (sv 3)) sa_nil rfl)) se_int))
    (ss_cons (ss_set S.nd rfl (Or.inl rfl) (se_op op_pMod (se_callTy c_int (by rfl) B.int rfl (sa_cons (se_op op_pMul (se_op op_pAdd (sv 3) (se_op op_pMul se_int (se_ix (ix_pIdx hu1) (sv 0) se_int (fun _ _ => rfl)))) se_int) sa_nil rfl)) se_int))
    (ss_one (ss_ret (se_op op_pMod (se_callTy c_int (by rfl) B.int rfl (sa_cons (se_op op_pDiv (sv 3) se_int) sa_nil rfl)) (sv 1)))))))))
abbrev st__law_name : Stmt := top 27
abbrev b__law_name := C.b__law_name
abbrev g__law_name := C.g__law_name
theorem sc__law_name : FnScope ["pot", "letters", "most", "turn"] ["pot"] (defScope st__law_name) := ⟨rfl, rfl, rfl, by decide +kernel, rfl, by decide +kernel, by decide +kernel⟩
theorem ok__law_name {P : Program} {w : World} {K : PySem.W.Frag} {mg : Str → Option Value} {base : Heap} {k : Nat} (B : Blt mg) (Df : Def K mg "_law_name" st__law_name ["pot"]) (d__law_draw : Does P w K mg base "_law_draw" ["pot", "many"] k 2 g__law_draw) : Does P w K mg base "_law_name" ["pot"] (k + 1) 1 g__law_name := by
  have S := sc__law_name
  refine Df.does S rfl rfl fun f cdv A outer s H E hr => ?_
  have hu4 := h64 hr
  have hu5 := h65 hr
  have hu1 := h1 hr
  have tk := takes_of (X := cxOf (L2.CX P w) P w K mg base ["pot", "letters", "most", "turn"] "_law_name" (defScope st__law_name) f cdv A outer s H E) (E := E) rfl rfl rfl rfl
  have pas := passes_of (X := cxOf (L2.CX P w) P w K mg base ["pot", "letters", "most", "turn"] "_law_name" (defScope st__law_name) f cdv A outer s H E) rfl
  exact (ss_cons (ss_asg (se_tup (sa_cons se_str (sa_cons se_int sa_nil rfl) rfl)) (sg_tp rfl (sgs_cons (sg_nm S.nd rfl (Or.inr rfl)) (sgs_cons (sg_nm S.nd rfl (Or.inl rfl)) sgs_nil))))
    (ss_cons (ss_if (st_cmp (op_pEq hu4) (se_do d__law_draw tk hr (by rfl) (sa_cons (sv 0) (sa_cons se_int sa_nil rfl) rfl)) se_int rfl)
    (ss_one (ss_asg (se_tup (sa_cons se_str (sa_cons se_int sa_nil rfl) rfl)) (sg_tp rfl (sgs_cons (sg_nm S.nd rfl (Or.inr rfl)) (sgs_cons (sg_nm S.nd rfl (Or.inl rfl)) sgs_nil)))))
    ss_nil)
    (ss_one (ss_ret (se_bm (.inr (.inr rfl)) PySem.F.plainAttrs_str PySem.F.slot_str_join PySem.F.type_str_join m_join se_str (sa_cons (se_lc rfl S.nd (si_range1 (by rfl) B.range (sa_cons (se_op op_pAdd se_int (se_do d__law_draw tk hr (by rfl) (sa_cons (sv 0) (sa_cons (sv 2) sa_nil rfl) rfl))) sa_nil rfl)) (blkOk_by (own := [("turn", 3)]) (by kernel_rfl)) (by decide) (fun _ _ _ _ _ => (sg_nm S.nd rfl (Or.inl rfl))) (fun _ _ _ _ _ => sts_nil) (fun _ _ _ _ _ => (se_ix (ix_pIdx hu1) (sv 1) (se_do d__law_draw takes0 hr (by rfl) (sa_cons (sv 0) (sa_cons (se_callB c_len (by rfl) B.len rfl (sa_cons (sv 1) sa_nil rfl)) sa_nil rfl) rfl)) (fun _ _ => rfl)))) sa_nil rfl))))))
abbrev st__law_names : Stmt := top 28
abbrev b__law_names := C.b__law_names
abbrev g__law_names := C.g__law_names
theorem sc__law_names : FnScope ["pot", "many", "found", "k", "name"] ["pot", "many"] (defScope st__law_names) := ⟨rfl, rfl, rfl, by decide +kernel, rfl, by decide +kernel, by decide +kernel⟩
theorem ok__law_names {P : Program} {w : World} {K : PySem.W.Frag} {mg : Str → Option Value} {base : Heap} {k : Nat} (B : Blt mg) (Df : Def K mg "_law_names" st__law_names ["pot", "many"]) (d__law_name : Does P w K mg base "_law_name" ["pot"] k 1 g__law_name) : Does P w K mg base "_law_names" ["pot", "many"] (k + 1) 2 g__law_names := by
  have S := sc__law_names
  refine Df.does S rfl rfl fun f cdv A outer s H E hr => ?_
  have hu4 := h64 hr
  have hu5 := h65 hr
  have hu1 := h1 hr
  have tk := takes_of (X := cxOf (L2.CX P w) P w K mg base ["pot", "many", "found", "k", "name"] "_law_names" (defScope st__law_names) f cdv A outer s H E) (E := E) rfl rfl rfl rfl
  have pas := passes_of (X := cxOf (L2.CX P w) P w K mg base ["pot", "many", "found", "k", "name"] "_law_names" (defScope st__law_names) f cdv A outer s H E) rfl
  exact (ss_cons (ss_set S.nd rfl (Or.inl rfl) (se_lst sa_nil))
    (ss_cons (ss_for pas rfl (si_range1 (by rfl) B.range (sa_cons (sv 1) sa_nil rfl)) (sg_nm S.nd rfl (Or.inl rfl))
    (ss_cons (ss_set S.nd rfl (Or.inl rfl) (se_do d__law_name tk hr (by rfl) (sa_cons (sv 0) sa_nil rfl)))
    (ss_cons (ss_if (st_cmp (op_pIn hu5) (sv 4) (sv 2) rfl)
    (ss_one (ss_set S.nd rfl (Or.inl rfl) (se_op op_pAdd se_str (se_ix (ix_pIdx hu1) se_str (sv 3) (fun _ _ => rfl)))))
    ss_nil)
    (ss_one (ss_expr (se_bm (.inl rfl) PySem.F.plainAttrs_list PySem.F.slot_list_append PySem.F.type_list_append m_append (sv 2) (sa_cons (sv 4) sa_nil rfl)))))))
    (ss_one (ss_ret (sv 2)))))
abbrev st__law_rights : Stmt := top 29
abbrev b__law_rights := C.b__law_rights
abbrev g__law_rights := C.g__law_rights
theorem sc__law_rights : FnScope ["pot"] ["pot"] (defScope st__law_rights) := ⟨rfl, rfl, rfl, by decide +kernel, rfl, by decide +kernel, by decide +kernel⟩
theorem ok__law_rights {P : Program} {w : World} {K : PySem.W.Frag} {mg : Str → Option Value} {base : Heap} {k : Nat} (B : Blt mg) (Df : Def K mg "_law_rights" st__law_rights ["pot"]) (d__law_draw : Does P w K mg base "_law_draw" ["pot", "many"] k 2 g__law_draw) : Does P w K mg base "_law_rights" ["pot"] (k + 1) 1 g__law_rights := by
  have S := sc__law_rights
  refine Df.does S rfl rfl fun f cdv A outer s H E hr => ?_
  have hu4 := h64 hr
  have hu5 := h65 hr
  have hu1 := h1 hr
  have tk := takes_of (X := cxOf (L2.CX P w) P w K mg base ["pot"] "_law_rights" (defScope st__law_rights) f cdv A outer s H E) (E := E) rfl rfl rfl rfl
  have pas := passes_of (X := cxOf (L2.CX P w) P w K mg base ["pot"] "_law_rights" (defScope st__law_rights) f cdv A outer s H E) rfl
  exact (ss_one (ss_ret (se_lst (sa_cons se_str (sa_cons se_str (sa_cons se_str (sa_cons se_str (sa_cons se_str (sa_cons se_str (sa_cons (se_ix (ix_pIdx hu1) (se_lst (sa_cons se_str (sa_cons se_str (sa_cons se_str sa_nil rfl) rfl) rfl)) (se_do d__law_draw tk hr (by rfl) (sa_cons (sv 0) (sa_cons se_int sa_nil rfl) rfl)) (fun _ _ => rfl)) sa_nil rfl) rfl) rfl) rfl) rfl) rfl) rfl))))
abbrev st__law_graph : Stmt := top 30
abbrev b__law_graph := C.b__law_graph
abbrev g__law_graph := C.g__law_graph
theorem sc__law_graph : FnScope ["pot", "subjects_most", "objects_most", "holds_most", "acting", "lying", "names", "rights", "holds", "turn", "one", "other"] ["pot", "subjects_most", "objects_most", "holds_most"] (defScope st__law_graph) := ⟨rfl, rfl, rfl, by decide +kernel, rfl, by decide +kernel, by decide +kernel⟩
theorem ok__law_graph {P : Program} {w : World} {K : PySem.W.Frag} {mg : Str → Option Value} {base : Heap} {k : Nat} (B : Blt mg) (Df : Def K mg "_law_graph" st__law_graph ["pot", "subjects_most", "objects_most", "holds_most"]) (d__law_draw : Does P w K mg base "_law_draw" ["pot", "many"] k 2 g__law_draw) (d__law_names : Does P w K mg base "_law_names" ["pot", "many"] k 2 g__law_names) (d__law_rights : Does P w K mg base "_law_rights" ["pot"] k 1 g__law_rights) : Does P w K mg base "_law_graph" ["pot", "subjects_most", "objects_most", "holds_most"] (k + 1) 4 g__law_graph := by
  have S := sc__law_graph
  refine Df.does S rfl rfl fun f cdv A outer s H E hr => ?_
  have hu4 := h64 hr
  have hu5 := h65 hr
  have hu1 := h1 hr
  have tk := takes_of (X := cxOf (L2.CX P w) P w K mg base ["pot", "subjects_most", "objects_most", "holds_most", "acting", "lying", "names", "rights", "holds", "turn", "one", "other"] "_law_graph" (defScope st__law_graph) f cdv A outer s H E) (E := E) rfl rfl rfl rfl
  have pas := passes_of (X := cxOf (L2.CX P w) P w K mg base ["pot", "subjects_most", "objects_most", "holds_most", "acting", "lying", "names", "rights", "holds", "turn", "one", "other"] "_law_graph" (defScope st__law_graph) f cdv A outer s H E) rfl
  exact (ss_cons (ss_par rfl S.nd rfl rfl (by decide) rfl rfl (sa_cons (se_op op_pAdd se_int (se_do d__law_draw tk hr (by rfl) (sa_cons (sv 0) (sa_cons (sv 1) sa_nil rfl) rfl))) (sa_cons (se_do d__law_draw tk hr (by rfl) (sa_cons (sv 0) (sa_cons (se_op op_pAdd (sv 2) se_int) sa_nil rfl) rfl)) sa_nil rfl) rfl) rfl)
    (ss_cons (ss_set S.nd rfl (Or.inl rfl) (se_do d__law_names tk hr (by rfl) (sa_cons (sv 0) (sa_cons (se_op op_pAdd (sv 4) (sv 5)) sa_nil rfl) rfl)))
    (ss_cons (ss_par rfl S.nd rfl rfl (by decide) rfl rfl (sa_cons (se_do d__law_rights tk hr (by rfl) (sa_cons (sv 0) sa_nil rfl)) (sa_cons (se_lst sa_nil) sa_nil rfl) rfl) rfl)
    (ss_cons (ss_for pas rfl (si_range1 (by rfl) B.range (sa_cons (se_do d__law_draw tk hr (by rfl) (sa_cons (sv 0) (sa_cons (se_op op_pAdd (sv 3) se_int) sa_nil rfl) rfl)) sa_nil rfl)) (sg_nm S.nd rfl (Or.inl rfl))
    (ss_cons (ss_par rfl S.nd rfl rfl (by decide) rfl rfl (sa_cons (se_ix (ix_pIdx hu1) (sv 6) (se_do d__law_draw tk hr (by rfl) (sa_cons (sv 0) (sa_cons (se_callB c_len (by rfl) B.len rfl (sa_cons (sv 6) sa_nil rfl)) sa_nil rfl) rfl)) (fun _ _ => rfl)) (sa_cons (se_ix (ix_pIdx hu1) (sv 6) (se_do d__law_draw tk hr (by rfl) (sa_cons (sv 0) (sa_cons (se_callB c_len (by rfl) B.len rfl (sa_cons (sv 6) sa_nil rfl)) sa_nil rfl) rfl)) (fun _ _ => rfl)) sa_nil rfl) rfl) rfl)
    (ss_one (ss_expr (se_bm (.inl rfl) PySem.F.plainAttrs_list PySem.F.slot_list_append PySem.F.type_list_append m_append (sv 8) (sa_cons (se_tup (sa_cons (sv 10) (sa_cons (sv 11) (sa_cons (se_ix (ix_pIdx hu1) (sv 7) (se_do d__law_draw tk hr (by rfl) (sa_cons (sv 0) (sa_cons (se_callB c_len (by rfl) B.len rfl (sa_cons (sv 7) sa_nil rfl)) sa_nil rfl) rfl)) (fun _ _ => rfl)) sa_nil rfl) rfl) rfl)) sa_nil rfl))))))
    (ss_one (ss_ret (se_tup (sa_cons (se_callTy c_tuple (by rfl) B.tuple rfl (sa_cons (se_callB (c_sorted hu4) (by rfl) B.sorted rfl (sa_cons (se_cut (sv 6) so_none (so_some (sv 4))) sa_nil rfl)) sa_nil rfl)) (sa_cons (se_callTy c_tuple (by rfl) B.tuple rfl (sa_cons (se_callB (c_sorted hu4) (by rfl) B.sorted rfl (sa_cons (se_cut (sv 6) (so_some (sv 4)) so_none) sa_nil rfl)) sa_nil rfl)) (sa_cons (se_callTy c_tuple (by rfl) B.tuple rfl (sa_cons (se_sortSet rfl hu4 (by rfl) B.sorted (by rfl) B.set (sv 8)) sa_nil rfl)) sa_nil rfl) rfl) rfl))))))))
abbrev st__law_is_word : Stmt := top 31
abbrev b__law_is_word := C.b__law_is_word
abbrev g__law_is_word := C.g__law_is_word
theorem sc__law_is_word : FnScope ["value", "most", "letters", "sign"] ["value", "most"] (defScope st__law_is_word) := ⟨rfl, rfl, rfl, by decide +kernel, rfl, by decide +kernel, by decide +kernel⟩
theorem ok__law_is_word {P : Program} {w : World} {K : PySem.W.Frag} {mg : Str → Option Value} {base : Heap} {k : Nat} (B : Blt mg) (Df : Def K mg "_law_is_word" st__law_is_word ["value", "most"]) : Does P w K mg base "_law_is_word" ["value", "most"] (k + 1) 2 g__law_is_word := by
  have S := sc__law_is_word
  refine Df.does S rfl rfl fun f cdv A outer s H E hr => ?_
  have hu4 := h64 hr
  have hu5 := h65 hr
  have hu1 := h1 hr
  have tk := takes_of (X := cxOf (L2.CX P w) P w K mg base ["value", "most", "letters", "sign"] "_law_is_word" (defScope st__law_is_word) f cdv A outer s H E) (E := E) rfl rfl rfl rfl
  have pas := passes_of (X := cxOf (L2.CX P w) P w K mg base ["value", "most", "letters", "sign"] "_law_is_word" (defScope st__law_is_word) f cdv A outer s H E) rfl
  exact (ss_cons (ss_set S.nd rfl (Or.inr rfl) se_str)
    (ss_one (ss_ret (se_and (se_isi (by decide) (by rfl) B.isinstance rfl (sv 0) (by rfl) B.str rfl) (se_and (se_chain (op_pLe hu4) (op_pLe hu4) se_int (se_callB c_len (by rfl) B.len rfl (sa_cons (sv 0) sa_nil rfl)) (sv 1) rfl) (pe_one (se_callB (c_all rfl) (by rfl) B.all rfl (sa_cons (se_lc rfl S.nd (si_any (sv 0)) (blkOk_by (own := [("sign", 3)]) (by kernel_rfl)) (by decide) (fun _ _ _ _ _ => (sg_nm S.nd rfl (Or.inl rfl))) (fun _ _ _ _ _ => sts_nil) (fun _ _ _ _ _ => (se_cmp (op_pIn hu5) (sv 3) (sv 2) rfl))) sa_nil rfl))))))))
abbrev st__law_same : Stmt := top 32
abbrev b__law_same := C.b__law_same
abbrev f__law_same := C.f__law_same
abbrev g__law_same := C.g__law_same
theorem sc__law_same : FnScope ["got", "due", "k"] ["got", "due"] (defScope st__law_same) := ⟨rfl, rfl, rfl, by decide +kernel, rfl, by decide +kernel, by decide +kernel⟩
theorem ok__law_same {P : Program} {w : World} {K : PySem.W.Frag} {mg : Str → Option Value} {base : Heap} {k : Nat} (B : Blt mg) (Df : Def K mg "_law_same" st__law_same ["got", "due"]) {g__law_same : List Mini.D → M Mini.D} (d__law_same : Does P w K mg base "_law_same" ["got", "due"] k 2 g__law_same) : Does P w K mg base "_law_same" ["got", "due"] (k + 1) 2 (runF 3 2 (b__law_same g__law_same)) := by
  have S := sc__law_same
  refine Df.does S rfl rfl fun f cdv A outer s H E hr => ?_
  have hu4 := h64 hr
  have hu5 := h65 hr
  have hu1 := h1 hr
  have tk := takes_of (X := cxOf (L2.CX P w) P w K mg base ["got", "due", "k"] "_law_same" (defScope st__law_same) f cdv A outer s H E) (E := E) rfl rfl rfl rfl
  have pas := passes_of (X := cxOf (L2.CX P w) P w K mg base ["got", "due", "k"] "_law_same" (defScope st__law_same) f cdv A outer s H E) rfl
  exact (ss_cons (ss_if (PW.pt (sw_or (st_tru (se_isi (by decide) (by rfl) B.isinstance rfl (sv 1) (by rfl) B.tuple rfl) (by intro _; rfl)) (pw_or1 (st_tru (se_isi (by decide) (by rfl) B.isinstance rfl (sv 1) (by rfl) B.list rfl) (by intro _; rfl)))))
    (ss_cons (ss_if (PW.pt (sw_or (st_cmp (op_pNe hu4) (se_isi (by decide) (by rfl) B.isinstance rfl (sv 1) (by rfl) B.tuple rfl) (se_isi (by decide) (by rfl) B.isinstance rfl (sv 0) (by rfl) B.tuple rfl) rfl) (pw_or1 (st_cmp (op_pNe hu4) (se_isi (by decide) (by rfl) B.isinstance rfl (sv 1) (by rfl) B.list rfl) (se_isi (by decide) (by rfl) B.isinstance rfl (sv 0) (by rfl) B.list rfl) rfl))))
    (ss_one (ss_ret se_bl))
    ss_nil)
    (ss_one (ss_ret (se_and (se_cmp (op_pEq hu4) (se_callB c_len (by rfl) B.len rfl (sa_cons (sv 0) sa_nil rfl)) (se_callB c_len (by rfl) B.len rfl (sa_cons (sv 1) sa_nil rfl)) rfl) (pe_one (se_callB (c_all rfl) (by rfl) B.all rfl (sa_cons (se_lc rfl S.nd (si_range1 (by rfl) B.range (sa_cons (se_callB c_len (by rfl) B.len rfl (sa_cons (sv 1) sa_nil rfl)) sa_nil rfl)) (blkOk_by (own := [("k", 2)]) (by kernel_rfl)) (by decide) (fun _ _ _ _ _ => (sg_nm S.nd rfl (Or.inl rfl))) (fun _ _ _ _ _ => sts_nil) (fun _ _ _ _ _ => (se_do d__law_same takes0 hr (by rfl) (sa_cons (se_ix (ix_pIdx hu1) (sv 0) (sv 2) (fun _ _ => rfl)) (sa_cons (se_ix (ix_pIdx hu1) (sv 1) (sv 2) (fun _ _ => rfl)) sa_nil rfl) rfl)))) sa_nil rfl)))))))
    ss_nil)
    (ss_cons (ss_if (st_cmp op_pIs (sv 1) se_non rfl)
    (ss_one (ss_ret (se_cmp op_pIs (sv 0) se_non rfl)))
    ss_nil)
    (ss_cons (ss_if (st_tru (se_isi (by decide) (by rfl) B.isinstance rfl (sv 1) (by rfl) B.bool rfl) (by intro _; rfl))
    (ss_one (ss_ret (se_and (se_isi (by decide) (by rfl) B.isinstance rfl (sv 0) (by rfl) B.bool rfl) (pe_one (se_cmp (op_pEq hu4) (sv 0) (sv 1) rfl)))))
    ss_nil)
    (ss_cons (ss_if (PW.pt (sw_or (st_tru (se_isi (by decide) (by rfl) B.isinstance rfl (sv 0) (by rfl) B.bool rfl) (by intro _; rfl)) (sw_or (st_cmp (op_pNe hu4) (se_isi (by decide) (by rfl) B.isinstance rfl (sv 0) (by rfl) B.int rfl) (se_isi (by decide) (by rfl) B.isinstance rfl (sv 1) (by rfl) B.int rfl) rfl) (pw_or1 (st_cmp (op_pNe hu4) (se_isi (by decide) (by rfl) B.isinstance rfl (sv 0) (by rfl) B.str rfl) (se_isi (by decide) (by rfl) B.isinstance rfl (sv 1) (by rfl) B.str rfl) rfl)))))
    (ss_one (ss_ret se_bl))
    ss_nil)
    (ss_one (ss_ret (se_cmp (op_pEq hu4) (sv 0) (sv 1) rfl)))))))
abbrev st__law_odd : Stmt := top 33
abbrev b__law_odd := C.b__law_odd
abbrev g__law_odd := C.g__law_odd
theorem sc__law_odd : FnScope ["pot", "odd"] ["pot"] (defScope st__law_odd) := ⟨rfl, rfl, rfl, by decide +kernel, rfl, by decide +kernel, by decide +kernel⟩
theorem ok__law_odd {P : Program} {w : World} {K : PySem.W.Frag} {mg : Str → Option Value} {base : Heap} {k : Nat} (B : Blt mg) (Df : Def K mg "_law_odd" st__law_odd ["pot"]) (d__law_draw : Does P w K mg base "_law_draw" ["pot", "many"] k 2 g__law_draw) : Does P w K mg base "_law_odd" ["pot"] (k + 1) 1 g__law_odd := by
  have S := sc__law_odd
  refine Df.does S rfl rfl fun f cdv A outer s H E hr => ?_
  have hu4 := h64 hr
  have hu5 := h65 hr
  have hu1 := h1 hr
  have tk := takes_of (X := cxOf (L2.CX P w) P w K mg base ["pot", "odd"] "_law_odd" (defScope st__law_odd) f cdv A outer s H E) (E := E) rfl rfl rfl rfl
  have pas := passes_of (X := cxOf (L2.CX P w) P w K mg base ["pot", "odd"] "_law_odd" (defScope st__law_odd) f cdv A outer s H E) rfl
  exact (ss_cons (ss_set S.nd rfl (Or.inl rfl) (se_lst (sa_cons se_non (sa_cons se_bl (sa_cons se_bl (sa_cons se_int (sa_cons se_int (sa_cons (se_un un_pNeg se_int) (sa_cons (se_op op_pPow se_int se_int) (sa_cons se_str (sa_cons se_str (sa_cons se_str (sa_cons se_str (sa_cons se_str (sa_cons se_str (sa_cons (se_tup (sa_cons se_str sa_nil rfl)) (sa_cons (se_lst (sa_cons se_str sa_nil rfl)) (sa_cons (se_lst sa_nil) (sa_cons (se_tup sa_nil) (sa_cons se_str (sa_cons se_str (sa_cons se_str sa_nil rfl) rfl) rfl) rfl) rfl) rfl) rfl) rfl) rfl) rfl) rfl) rfl) rfl) rfl) rfl) rfl) rfl) rfl) rfl) rfl)))
    (ss_one (ss_ret (se_ix (ix_pIdx hu1) (sv 1) (se_do d__law_draw tk hr (by rfl) (sa_cons (sv 0) (sa_cons (se_callB c_len (by rfl) B.len rfl (sa_cons (sv 1) sa_nil rfl)) sa_nil rfl) rfl)) (fun _ _ => rfl)))))
abbrev st__law_stranger : Stmt := top 34
abbrev b__law_stranger := C.b__law_stranger
abbrev g__law_stranger := C.g__law_stranger
theorem sc__law_stranger : FnScope ["pot", "graph", "names", "near", "found", "turn", "one"] ["pot", "graph"] (defScope st__law_stranger) := ⟨rfl, rfl, rfl, by decide +kernel, rfl, by decide +kernel, by decide +kernel⟩
theorem ok__law_stranger {P : Program} {w : World} {K : PySem.W.Frag} {mg : Str → Option Value} {base : Heap} {k : Nat} (B : Blt mg) (Df : Def K mg "_law_stranger" st__law_stranger ["pot", "graph"]) (d__law_draw : Does P w K mg base "_law_draw" ["pot", "many"] k 2 g__law_draw) (d__law_is_word : Does P w K mg base "_law_is_word" ["value", "most"] k 2 g__law_is_word) : Does P w K mg base "_law_stranger" ["pot", "graph"] (k + 1) 2 g__law_stranger := by
  have S := sc__law_stranger
  refine Df.does S rfl rfl fun f cdv A outer s H E hr => ?_
  have hu4 := h64 hr
  have hu5 := h65 hr
  have hu1 := h1 hr
  have tk := takes_of (X := cxOf (L2.CX P w) P w K mg base ["pot", "graph", "names", "near", "found", "turn", "one"] "_law_stranger" (defScope st__law_stranger) f cdv A outer s H E) (E := E) rfl rfl rfl rfl
  have pas := passes_of (X := cxOf (L2.CX P w) P w K mg base ["pot", "graph", "names", "near", "found", "turn", "one"] "_law_stranger" (defScope st__law_stranger) f cdv A outer s H E) rfl
  exact (ss_cons (ss_set S.nd rfl (Or.inr rfl) (se_op op_pAdd (se_ix (ix_pIdx hu1) (sv 1) se_int (fun _ _ => rfl)) (se_ix (ix_pIdx hu1) (sv 1) se_int (fun _ _ => rfl))))
    (ss_cons (ss_set S.nd rfl (Or.inl rfl) se_str)
    (ss_cons (ss_if (st_cmp (op_pNe hu4) (sv 2) (se_tup sa_nil) rfl)
    (ss_one (ss_set S.nd rfl (Or.inl rfl) (se_ix (ix_pIdx hu1) (sv 2) (se_do d__law_draw tk hr (by rfl) (sa_cons (sv 0) (sa_cons (se_callB c_len (by rfl) B.len rfl (sa_cons (sv 2) sa_nil rfl)) sa_nil rfl) rfl)) (fun _ _ => rfl))))
    ss_nil)
    (ss_cons (ss_set S.nd rfl (Or.inl rfl) (se_lst (sa_cons (se_op op_pAdd (sv 3) se_str) (sa_cons (se_cut (sv 3) so_none (so_some (se_un un_pNeg se_int))) (sa_cons (se_op op_pAdd (sv 3) se_str) (sa_cons (se_cut (sv 3) (so_some se_int) so_none) (sa_cons se_str sa_nil rfl) rfl) rfl) rfl) rfl)))
    (ss_cons (ss_set S.nd rfl (Or.inl rfl) (se_do d__law_draw tk hr (by rfl) (sa_cons (sv 0) (sa_cons se_int sa_nil rfl) rfl)))
    (ss_cons (ss_set S.nd rfl (Or.inl rfl) (se_op op_pAdd (se_cut (sv 4) (so_some (sv 5)) so_none) (se_lst (sa_cons se_str sa_nil rfl))))
    (ss_one (ss_ret (se_ix (ix_pIdx hu1) (se_lc rfl S.nd (si_any (sv 4)) (blkOk_by (own := [("one", 6)]) (by kernel_rfl)) (by decide) (fun _ _ _ _ _ => (sg_nm S.nd rfl (Or.inl rfl))) (fun _ _ _ _ _ => (sts_one (PW.pt (sw_and (st_tru (se_do d__law_is_word takes0 hr (by rfl) (sa_cons (sv 6) (sa_cons se_int sa_nil rfl) rfl)) (by intro _; rfl)) (pw_and1 (st_cmp (op_pNotIn hu5) (sv 6) (sv 2) rfl)))))) (fun _ _ _ _ _ => (sv 6))) se_int (fun _ _ => rfl))))))))))
abbrev st__law_row_graph : Stmt := top 35
abbrev b__law_row_graph := C.b__law_row_graph
abbrev g__law_row_graph := C.g__law_row_graph
theorem sc__law_row_graph : FnScope ["pot", "subjects_most", "objects_most", "acting", "lying", "names", "left", "holds", "rights", "ahead", "turn", "name", "kind", "right", "one", "other"] ["pot", "subjects_most", "objects_most"] (defScope st__law_row_graph) := ⟨rfl, rfl, rfl, by decide +kernel, rfl, by decide +kernel, by decide +kernel⟩
theorem ok__law_row_graph {P : Program} {w : World} {K : PySem.W.Frag} {mg : Str → Option Value} {base : Heap} {k : Nat} (B : Blt mg) (Df : Def K mg "_law_row_graph" st__law_row_graph ["pot", "subjects_most", "objects_most"]) (d__law_draw : Does P w K mg base "_law_draw" ["pot", "many"] k 2 g__law_draw) (d__law_names : Does P w K mg base "_law_names" ["pot", "many"] k 2 g__law_names) (d__law_rights : Does P w K mg base "_law_rights" ["pot"] k 1 g__law_rights) : Does P w K mg base "_law_row_graph" ["pot", "subjects_most", "objects_most"] (k + 1) 3 g__law_row_graph := by
  have S := sc__law_row_graph
  refine Df.does S rfl rfl fun f cdv A outer s H E hr => ?_
  have hu4 := h64 hr
  have hu5 := h65 hr
  have hu1 := h1 hr
  have tk := takes_of (X := cxOf (L2.CX P w) P w K mg base ["pot", "subjects_most", "objects_most", "acting", "lying", "names", "left", "holds", "rights", "ahead", "turn", "name", "kind", "right", "one", "other"] "_law_row_graph" (defScope st__law_row_graph) f cdv A outer s H E) (E := E) rfl rfl rfl rfl
  have pas := passes_of (X := cxOf (L2.CX P w) P w K mg base ["pot", "subjects_most", "objects_most", "acting", "lying", "names", "left", "holds", "rights", "ahead", "turn", "name", "kind", "right", "one", "other"] "_law_row_graph" (defScope st__law_row_graph) f cdv A outer s H E) rfl
  exact (ss_cons (ss_par rfl S.nd rfl rfl (by decide) rfl rfl (sa_cons (se_op op_pAdd se_int (se_do d__law_draw tk hr (by rfl) (sa_cons (sv 0) (sa_cons (sv 1) sa_nil rfl) rfl))) (sa_cons (se_do d__law_draw tk hr (by rfl) (sa_cons (sv 0) (sa_cons (se_op op_pAdd (sv 2) se_int) sa_nil rfl) rfl)) sa_nil rfl) rfl) rfl)
    (ss_cons (ss_set S.nd rfl (Or.inl rfl) (se_do d__law_names tk hr (by rfl) (sa_cons (sv 0) (sa_cons (se_op op_pAdd (sv 3) (sv 4)) sa_nil rfl) rfl)))
    (ss_cons (ss_par3 rfl S.nd rfl rfl rfl (by decide) (by decide) (by decide) rfl rfl rfl (sa_cons (se_callTy c_list (by rfl) B.list rfl (sa_cons (sv 5) sa_nil rfl)) (sa_cons (se_lst sa_nil) (sa_cons (se_do d__law_rights tk hr (by rfl) (sa_cons (sv 0) sa_nil rfl)) sa_nil rfl) rfl) rfl) rfl)
    (ss_cons (ss_set S.nd rfl (Or.inl rfl) (se_bm (.inl rfl) PySem.F.plainAttrs_list PySem.F.slot_list_pop PySem.F.type_list_pop m_popA (sv 6) (sa_cons (se_do d__law_draw tk hr (by rfl) (sa_cons (sv 0) (sa_cons (se_callB c_len (by rfl) B.len rfl (sa_cons (sv 6) sa_nil rfl)) sa_nil rfl) rfl)) sa_nil rfl)))
    (ss_cons (ss_for pas rfl (si_range1 (by rfl) B.range (sa_cons (se_op op_pSub (se_callB c_len (by rfl) B.len rfl (sa_cons (sv 5) sa_nil rfl)) se_int) sa_nil rfl)) (sg_nm S.nd rfl (Or.inl rfl))
    (ss_cons (ss_par rfl S.nd rfl rfl (by decide) rfl rfl (sa_cons (se_bm (.inl rfl) PySem.F.plainAttrs_list PySem.F.slot_list_pop PySem.F.type_list_pop m_popA (sv 6) (sa_cons (se_do d__law_draw tk hr (by rfl) (sa_cons (sv 0) (sa_cons (se_callB c_len (by rfl) B.len rfl (sa_cons (sv 6) sa_nil rfl)) sa_nil rfl) rfl)) sa_nil rfl)) (sa_cons (se_do d__law_draw tk hr (by rfl) (sa_cons (sv 0) (sa_cons se_int sa_nil rfl) rfl)) sa_nil rfl) rfl) rfl)
    (ss_cons (ss_set S.nd rfl (Or.inl rfl) (se_ix (ix_pIdx hu1) (se_lst (sa_cons se_str (sa_cons se_str sa_nil rfl) rfl)) (se_callTy c_int (by rfl) B.int rfl (sa_cons (se_cmp (op_pIn hu5) (sv 12) (se_tup (sa_cons se_int (sa_cons se_int sa_nil rfl) rfl)) rfl) sa_nil rfl)) (fun _ _ => rfl)))
    (ss_cons (ss_expr (se_bm (.inl rfl) PySem.F.plainAttrs_list PySem.F.slot_list_append PySem.F.type_list_append m_append (sv 7) (sa_cons (se_if (st_cmp (op_pLt hu4) (sv 12) se_int rfl) (se_tup (sa_cons (sv 9) (sa_cons (sv 11) (sa_cons (sv 13) sa_nil rfl) rfl) rfl)) (se_tup (sa_cons (sv 11) (sa_cons (sv 9) (sa_cons (sv 13) sa_nil rfl) rfl) rfl))) sa_nil rfl)))
    (ss_one (ss_set S.nd rfl (Or.inl rfl) (sv 11)))))))
    (ss_cons (ss_for pas rfl (si_range1 (by rfl) B.range (sa_cons (se_do d__law_draw tk hr (by rfl) (sa_cons (sv 0) (sa_cons se_int sa_nil rfl) rfl)) sa_nil rfl)) (sg_nm S.nd rfl (Or.inl rfl))
    (ss_cons (ss_par rfl S.nd rfl rfl (by decide) rfl rfl (sa_cons (se_ix (ix_pIdx hu1) (sv 5) (se_do d__law_draw tk hr (by rfl) (sa_cons (sv 0) (sa_cons (se_callB c_len (by rfl) B.len rfl (sa_cons (sv 5) sa_nil rfl)) sa_nil rfl) rfl)) (fun _ _ => rfl)) (sa_cons (se_ix (ix_pIdx hu1) (sv 5) (se_do d__law_draw tk hr (by rfl) (sa_cons (sv 0) (sa_cons (se_callB c_len (by rfl) B.len rfl (sa_cons (sv 5) sa_nil rfl)) sa_nil rfl) rfl)) (fun _ _ => rfl)) sa_nil rfl) rfl) rfl)
    (ss_one (ss_expr (se_bm (.inl rfl) PySem.F.plainAttrs_list PySem.F.slot_list_append PySem.F.type_list_append m_append (sv 7) (sa_cons (se_tup (sa_cons (sv 14) (sa_cons (sv 15) (sa_cons (se_ix (ix_pIdx hu1) (sv 8) (se_do d__law_draw tk hr (by rfl) (sa_cons (sv 0) (sa_cons se_int sa_nil rfl) rfl)) (fun _ _ => rfl)) sa_nil rfl) rfl) rfl)) sa_nil rfl))))))
    (ss_one (ss_ret (se_tup (sa_cons (se_callTy c_tuple (by rfl) B.tuple rfl (sa_cons (se_callB (c_sorted hu4) (by rfl) B.sorted rfl (sa_cons (se_cut (sv 5) so_none (so_some (sv 3))) sa_nil rfl)) sa_nil rfl)) (sa_cons (se_callTy c_tuple (by rfl) B.tuple rfl (sa_cons (se_callB (c_sorted hu4) (by rfl) B.sorted rfl (sa_cons (se_cut (sv 5) (so_some (sv 3)) so_none) sa_nil rfl)) sa_nil rfl)) (sa_cons (se_callTy c_tuple (by rfl) B.tuple rfl (sa_cons (se_sortSet rfl hu4 (by rfl) B.sorted (by rfl) B.set (sv 7)) sa_nil rfl)) sa_nil rfl) rfl) rfl))))))))))
abbrev st__law_any_graph : Stmt := top 36
abbrev b__law_any_graph := C.b__law_any_graph
abbrev g__law_any_graph := C.g__law_any_graph
theorem sc__law_any_graph : FnScope ["pot", "subjects_most", "objects_most", "holds_most"] ["pot", "subjects_most", "objects_most", "holds_most"] (defScope st__law_any_graph) := ⟨rfl, rfl, rfl, by decide +kernel, rfl, by decide +kernel, by decide +kernel⟩
theorem ok__law_any_graph {P : Program} {w : World} {K : PySem.W.Frag} {mg : Str → Option Value} {base : Heap} {k : Nat} (B : Blt mg) (Df : Def K mg "_law_any_graph" st__law_any_graph ["pot", "subjects_most", "objects_most", "holds_most"]) (d__law_draw : Does P w K mg base "_law_draw" ["pot", "many"] k 2 g__law_draw) (d__law_graph : Does P w K mg base "_law_graph" ["pot", "subjects_most", "objects_most", "holds_most"] k 4 g__law_graph) (d__law_row_graph : Does P w K mg base "_law_row_graph" ["pot", "subjects_most", "objects_most"] k 3 g__law_row_graph) : Does P w K mg base "_law_any_graph" ["pot", "subjects_most", "objects_most", "holds_most"] (k + 1) 4 g__law_any_graph := by
  have S := sc__law_any_graph
  refine Df.does S rfl rfl fun f cdv A outer s H E hr => ?_
  have hu4 := h64 hr
  have hu5 := h65 hr
  have hu1 := h1 hr
  have tk := takes_of (X := cxOf (L2.CX P w) P w K mg base ["pot", "subjects_most", "objects_most", "holds_most"] "_law_any_graph" (defScope st__law_any_graph) f cdv A outer s H E) (E := E) rfl rfl rfl rfl
  have pas := passes_of (X := cxOf (L2.CX P w) P w K mg base ["pot", "subjects_most", "objects_most", "holds_most"] "_law_any_graph" (defScope st__law_any_graph) f cdv A outer s H E) rfl
  exact (ss_cons (ss_if (st_cmp (op_pLt hu4) (se_do d__law_draw tk hr (by rfl) (sa_cons (sv 0) (sa_cons se_int sa_nil rfl) rfl)) se_int rfl)
    (ss_one (ss_ret (se_do d__law_row_graph tk hr (by rfl) (sa_cons (sv 0) (sa_cons (sv 1) (sa_cons (sv 2) sa_nil rfl) rfl) rfl))))
    ss_nil)
    (ss_one (ss_ret (se_do d__law_graph tk hr (by rfl) (sa_cons (sv 0) (sa_cons (sv 1) (sa_cons (sv 2) (sa_cons (sv 3) sa_nil rfl) rfl) rfl) rfl)))))
abbrev st__law_told : Stmt := top 37
def b__law_told : MS :=
    (sSeq (sSet (.nm 3) (eTup (aCons (eC (.str "other")) aNil)))
    (sSeq (sTry (sSet (.nm 3) (eTup (aCons (eC (.str "told")) (aCons (eCall g_reach_walk (aCons (eVar 0) (aCons (eVar 1) (aCons (eVar 2) aNil)))) aNil))))
    [⟨tab [("InvalidGraph", false), ("UnknownName", true)], some 4, 3, (fun _ fs => (eTup (aCons (eC (.str "unknown")) (aCons (xFld "name" fs) (aCons (xIsB true fs) aNil)))))⟩])
    (sRet (eVar 3))))
def g__law_told : List D → M D := runF 5 3 b__law_told
theorem sc__law_told : FnScope ["graph", "x", "y", "found", "e"] ["graph", "x", "y"] (defScope st__law_told) := ⟨rfl, rfl, rfl, by decide +kernel, rfl, by decide +kernel, by decide +kernel⟩
theorem ok__law_told {P : Program} {w : World} {K : PySem.W.Frag} {mg : Str → Option Value} {base : Heap} {k : Nat} (B : Blt mg) (Df : Def K mg "_law_told" st__law_told ["graph", "x", "y"]) {a_InvalidGraph a_RightError a_UnknownName : Addr} (Y : CF P w K mg a_InvalidGraph a_RightError a_UnknownName) (d_reach_walk : Does P w K mg base "reach_walk" ["graph", "x", "y"] k 3 g_reach_walk) : Does P w K mg base "_law_told" ["graph", "x", "y"] (k + 1) 3 g__law_told := by
  have S := sc__law_told
  refine Df.does S rfl rfl fun f cdv A outer s H E hr => ?_
  have hu4 := h64 hr
  have hu5 := h65 hr
  have hu1 := h1 hr
  have tk := takes_of (X := cxOf (L2.CX P w) P w K mg base ["graph", "x", "y", "found", "e"] "_law_told" (defScope st__law_told) f cdv A outer s H E) (E := E) rfl rfl rfl rfl
  have pas := passes_of (X := cxOf (L2.CX P w) P w K mg base ["graph", "x", "y", "found", "e"] "_law_told" (defScope st__law_told) f cdv A outer s H E) rfl
  exact (ss_cons (ss_set S.nd rfl (Or.inl rfl) (se_tup (sa_cons se_str sa_nil rfl)))
    (ss_cons (ss_try rfl rfl S.nd tk (fun W' pn xe tk' pas' => (ss_one (ss_set S.nd rfl (Or.inl rfl) (se_tup (sa_cons se_str (sa_cons (se_do d_reach_walk tk' hr (by rfl) (sa_cons (sv 0) (sa_cons (sv 1) (sa_cons (sv 2) sa_nil rfl) rfl) rfl)) sa_nil rfl) rfl)))))
    (cl_as (sub := tab [("InvalidGraph", false), ("UnknownName", true)]) (val := (fun _ fs => (eTup (aCons (eC (.str "unknown")) (aCons (xFld "name" fs) (aCons (xIsB true fs) aNil)))))) ⟨by rfl, by decide, Or.inl Y.E_UnknownName.g⟩ (subs_cons Y.E_UnknownName Y.E_InvalidGraph Y.s_InvalidGraph_UnknownName (subs_cons Y.E_UnknownName Y.E_UnknownName Y.s_UnknownName_UnknownName subs_nil)) rfl rfl (by decide) S.nd rfl (Or.inl rfl) (fun a oe cls dd pn m fs hz hf hm => (sx_tup (sx_cons (sx_C pe_str fun _ _ _ => .str _) (sx_cons (sx_fld hz hf rfl (Or.inl rfl) rfl (fun C hC => by obtain rfl := tab_one (x := "UnknownName") hm rfl; cases (Y.E_UnknownName.g.symm.trans hC); exact Y.fl_UnknownName)) (sx_cons (sx_isb hz hf rfl (Or.inl rfl) rfl (by rfl) B.isinstance (by rfl) Y.E_RightError.g (fun C hC => by obtain rfl := tab_one (x := "UnknownName") hm rfl; cases (Y.E_UnknownName.g.symm.trans hC); exact ⟨Y.xc_UnknownName, Y.k_UnknownName_RightError⟩)) sx_nil))))) .nil))
    (ss_one (ss_ret (sv 3)))))
abbrev st__law_far : Stmt := top 38
def b__law_far : MS :=
    (sSeq (sPar3 2 3 4 (aCons eDn (aCons (eLst (aCons (eVar 1) aNil)) (aCons (eC (.int 0)) aNil))))
    (sSeq (sPut (eC (.int 0)) (eVar 2) (eVar 1))
    (sSeq (sWh (tBl (eOp pLt (eVar 4) (eB nLen (aCons (eVar 3) aNil))))
    (sSeq (sSet (.nm 5) (eOp pIdx (eVar 3) (eVar 4)))
    (sSeq (sFor (iAny (eOp pIdx (eVar 0) (eC (.int 2)))) (.tp [(.nm 6), (.nm 7), (.nm 8)])
    (sIf (tAnd' (tBl (eOp pEq (eVar 8) (eC (.str "t")))) (tAnd' (tBl (eOp pEq (eVar 7) (eVar 5))) (tBl (eOp pNotIn (eVar 6) (eVar 2)))))
    (sSeq (sPut (eOp pAdd (eOp pIdx (eVar 2) (eVar 5)) (eC (.int 1))) (eVar 2) (eVar 6))
    (sExpr (eMt "list" qAppend (eVar 3) (aCons (eVar 6) aNil))))
    sNil))
    (sSet (.nm 4) (eOp pAdd (eVar 4) (eC (.int 1)))))))
    (sRet (eVar 2)))))
def g__law_far : List D → M D := runF 9 2 b__law_far
theorem sc__law_far : FnScope ["graph", "goal", "far", "waiting", "at", "one", "holder", "thing", "right"] ["graph", "goal"] (defScope st__law_far) := ⟨rfl, rfl, rfl, by decide +kernel, rfl, by decide +kernel, by decide +kernel⟩
theorem ok__law_far {P : Program} {w : World} {K : PySem.W.Frag} {mg : Str → Option Value} {base : Heap} {k : Nat} (B : Blt mg) (Df : Def K mg "_law_far" st__law_far ["graph", "goal"]) : Does P w K mg base "_law_far" ["graph", "goal"] (k + 1) 2 g__law_far := by
  have S := sc__law_far
  refine Df.does S rfl rfl fun f cdv A outer s H E hr => ?_
  have hu4 := h64 hr
  have hu5 := h65 hr
  have hu1 := h1 hr
  have tk := takes_of (X := cxOf (L2.CX P w) P w K mg base ["graph", "goal", "far", "waiting", "at", "one", "holder", "thing", "right"] "_law_far" (defScope st__law_far) f cdv A outer s H E) (E := E) rfl rfl rfl rfl
  have pas := passes_of (X := cxOf (L2.CX P w) P w K mg base ["graph", "goal", "far", "waiting", "at", "one", "holder", "thing", "right"] "_law_far" (defScope st__law_far) f cdv A outer s H E) rfl
  exact (ss_cons (ss_par3 rfl S.nd rfl rfl rfl (by decide) (by decide) (by decide) rfl rfl rfl (sa_cons se_dn (sa_cons (se_lst (sa_cons (sv 1) sa_nil rfl)) (sa_cons se_int sa_nil rfl) rfl) rfl) rfl)
    (ss_cons (ss_put hu1 se_int (sv 2) (sv 1))
    (ss_cons (ss_wh pas (st_cmp (op_pLt hu4) (sv 4) (se_callB c_len (by rfl) B.len rfl (sa_cons (sv 3) sa_nil rfl)) rfl)
    (ss_cons (ss_set S.nd rfl (Or.inl rfl) (se_ix (ix_pIdx hu1) (sv 3) (sv 4) (fun _ _ => rfl)))
    (ss_cons (ss_for pas rfl (si_any (se_ix (ix_pIdx hu1) (sv 0) se_int (fun _ _ => rfl))) (sg_tp rfl (sgs_cons (sg_nm S.nd rfl (Or.inl rfl)) (sgs_cons (sg_nm S.nd rfl (Or.inl rfl)) (sgs_cons (sg_nm S.nd rfl (Or.inl rfl)) sgs_nil))))
    (ss_one (ss_if (PW.pt (sw_and (st_cmp (op_pEq hu4) (sv 8) se_str rfl) (sw_and (st_cmp (op_pEq hu4) (sv 7) (sv 5) rfl) (pw_and1 (st_cmp (op_pNotIn hu5) (sv 6) (sv 2) rfl)))))
    (ss_cons (ss_put hu1 (se_op op_pAdd (se_ix (ix_pIdx hu1) (sv 2) (sv 5) (fun _ _ => rfl)) se_int) (sv 2) (sv 6))
    (ss_one (ss_expr (se_bm (.inl rfl) PySem.F.plainAttrs_list PySem.F.slot_list_append PySem.F.type_list_append m_append (sv 3) (sa_cons (sv 6) sa_nil rfl)))))
    ss_nil)))
    (ss_one (ss_set S.nd rfl (Or.inl rfl) (se_op op_pAdd (sv 4) se_int))))))
    (ss_one (ss_ret (sv 2))))))
abbrev st__law_walk : Stmt := top 39
def b__law_walk : MS :=
    (sSeq (sIf (tBl (eOp pNotIn (eVar 2) (eVar 1)))
    (sRet (eC .non))
    sNil)
    (sSeq (sSet (.nm 3) (eTup (aCons (eVar 2) aNil)))
    (sSeq (sFor (iArgs rng1 (aCons (eOp pIdx (eVar 1) (eVar 2)) aNil)) (.nm 4)
    (sSeq (sSet (.nm 5) (eOp pIdx (eVar 3) (eVar 4)))
    (sSeq (sSet (.nm 6) (eLc (iAny (eOp pIdx (eVar 0) (eC (.int 2)))) (.tp [(.nm 7), (.nm 8), (.nm 9)]) (tAnd' (tBl (eOp pEq (eVar 7) (eVar 5))) (tBl (eOp pEq (eVar 9) (eC (.str "t"))))) (eVar 8) [7, 8, 9]))
    (sSeq (sSet (.nm 10) (eB nSorted (aCons (eLc (iAny (eVar 6)) (.nm 8) (tAnd' (tBl (eOp pIn (eVar 8) (eVar 1))) (tBl (eOp pEq (eOp pIdx (eVar 1) (eVar 8)) (eOp pSub (eOp pIdx (eVar 1) (eVar 5)) (eC (.int 1)))))) (eVar 8) [8]) aNil)))
    (sSet (.nm 3) (eOp pAdd (eVar 3) (eTup (aCons (eOp pIdx (eVar 10) (eC (.int 0))) aNil))))))))
    (sRet (eVar 3)))))
def g__law_walk : List D → M D := runF 11 3 b__law_walk
theorem sc__law_walk : FnScope ["graph", "far", "x", "walk", "turn", "one", "ahead", "holder", "thing", "right", "near"] ["graph", "far", "x"] (defScope st__law_walk) := ⟨rfl, rfl, rfl, by decide +kernel, rfl, by decide +kernel, by decide +kernel⟩
theorem ok__law_walk {P : Program} {w : World} {K : PySem.W.Frag} {mg : Str → Option Value} {base : Heap} {k : Nat} (B : Blt mg) (Df : Def K mg "_law_walk" st__law_walk ["graph", "far", "x"]) : Does P w K mg base "_law_walk" ["graph", "far", "x"] (k + 1) 3 g__law_walk := by
  have S := sc__law_walk
  refine Df.does S rfl rfl fun f cdv A outer s H E hr => ?_
  have hu4 := h64 hr
  have hu5 := h65 hr
  have hu1 := h1 hr
  have tk := takes_of (X := cxOf (L2.CX P w) P w K mg base ["graph", "far", "x", "walk", "turn", "one", "ahead", "holder", "thing", "right", "near"] "_law_walk" (defScope st__law_walk) f cdv A outer s H E) (E := E) rfl rfl rfl rfl
  have pas := passes_of (X := cxOf (L2.CX P w) P w K mg base ["graph", "far", "x", "walk", "turn", "one", "ahead", "holder", "thing", "right", "near"] "_law_walk" (defScope st__law_walk) f cdv A outer s H E) rfl
  exact (ss_cons (ss_if (st_cmp (op_pNotIn hu5) (sv 2) (sv 1) rfl)
    (ss_one (ss_ret se_non))
    ss_nil)
    (ss_cons (ss_set S.nd rfl (Or.inl rfl) (se_tup (sa_cons (sv 2) sa_nil rfl)))
    (ss_cons (ss_for pas rfl (si_range1 (by rfl) B.range (sa_cons (se_ix (ix_pIdx hu1) (sv 1) (sv 2) (fun _ _ => rfl)) sa_nil rfl)) (sg_nm S.nd rfl (Or.inl rfl))
    (ss_cons (ss_set S.nd rfl (Or.inr rfl) (se_ix (ix_pIdx hu1) (sv 3) (sv 4) (fun _ _ => rfl)))
    (ss_cons (ss_setLc rfl S.nd rfl rfl rfl (si_any (se_ix (ix_pIdx hu1) (sv 0) se_int (fun _ _ => rfl))) (blkOk_by (own := [("holder", 7), ("thing", 8), ("right", 9)]) (by kernel_rfl)) (by decide) (fun _ _ _ _ _ => (sg_tp rfl (sgs_cons (sg_nm S.nd rfl (Or.inl rfl)) (sgs_cons (sg_nm S.nd rfl (Or.inl rfl)) (sgs_cons (sg_nm S.nd rfl (Or.inl rfl)) sgs_nil))))) (fun _ _ _ _ _ => (sts_one (PW.pt (sw_and (st_cmp (op_pEq hu4) (sv 7) (sv 5) rfl) (pw_and1 (st_cmp (op_pEq hu4) (sv 9) se_str rfl)))))) (fun _ _ _ _ _ => (sv 8)))
    (ss_cons (ss_set S.nd rfl (Or.inl rfl) (se_callB (c_sorted hu4) (by rfl) B.sorted rfl (sa_cons (se_lc rfl S.nd (si_any (sv 6)) (blkOk_by (own := [("thing", 8)]) (by kernel_rfl)) (by decide) (fun _ _ _ _ _ => (sg_nm S.nd rfl (Or.inl rfl))) (fun _ _ _ _ _ => (sts_one (PW.pt (sw_and (st_cmp (op_pIn hu5) (sv 8) (sv 1) rfl) (pw_and1 (st_cmp (op_pEq hu4) (se_ix (ix_pIdx hu1) (sv 1) (sv 8) (fun _ _ => rfl)) (se_op op_pSub (se_ix (ix_pIdx hu1) (sv 1) (sv 5) (fun _ _ => rfl)) se_int) rfl)))))) (fun _ _ _ _ _ => (sv 8))) sa_nil rfl)))
    (ss_one (ss_set S.nd rfl (Or.inl rfl) (se_op op_pAdd (sv 3) (se_tup (sa_cons (se_ix (ix_pIdx hu1) (sv 10) se_int (fun _ _ => rfl)) sa_nil rfl)))))))))
    (ss_one (ss_ret (sv 3))))))
abbrev st_law : Stmt := top 40
def b_law : MS :=
    (sSeq (sFor (iArgs rng1 (aCons (eB nMax (aCons (eC (.int 3)) (aCons (eB nMin (aCons (eB nLen (aCons (eVar 0) aNil)) (aCons (eC (.int 12)) aNil))) aNil))) aNil)) (.nm 1)
    (sSeq (sSet (.nm 2) (eCall g__law_pot (aCons (eVar 0) (aCons (eVar 1) aNil))))
    (sSeq (sSet (.nm 3) (eCall g__law_any_graph (aCons (eVar 2) (aCons (eC (.int 6)) (aCons (eC (.int 6)) (aCons (eC (.int 26)) aNil))))))
    (sSeq (sSet (.nm 4) (eB nSorted (aCons (eOp pAdd (eOp pIdx (eVar 3) (eC (.int 0))) (eOp pIdx (eVar 3) (eC (.int 1)))) aNil)))
    (sSeq (sFor (iArgs rng1 (aCons (eC (.int 3)) aNil)) (.nm 5)
    (sSeq (sSet (.nm 6) (eOp pIdx (eVar 4) (eCall g__law_draw (aCons (eVar 2) (aCons (eB nLen (aCons (eVar 4) aNil)) aNil)))))
    (sSeq (sSet (.nm 7) (eCall g__law_far (aCons (eVar 3) (aCons (eVar 6) aNil))))
    (sFor (iAny (eVar 4)) (.nm 8)
    (sIf (tNot' (tTru (eCall g__law_same (aCons (eCall g__law_told (aCons (eVar 3) (aCons (eVar 8) (aCons (eVar 6) aNil)))) (aCons (eTup (aCons (eC (.str "told")) (aCons (eCall g__law_walk (aCons (eVar 3) (aCons (eVar 7) (aCons (eVar 8) aNil)))) aNil))) aNil)))))
    (sRet (eC (.bl false)))
    sNil)))))
    (sSeq (sPar 9 10 (aCons (eOp pIdx (eLst (aCons (eCall g__law_odd (aCons (eVar 2) aNil)) (aCons (eCall g__law_stranger (aCons (eVar 2) (aCons (eVar 3) aNil))) aNil))) (eCall g__law_draw (aCons (eVar 2) (aCons (eC (.int 2)) aNil)))) (aCons (eCall g__law_odd (aCons (eVar 2) aNil)) aNil)))
    (sSeq (sIf (tNot' (tTru (eCall g__law_same (aCons (eCall g__law_told (aCons (eVar 3) (aCons (eVar 9) (aCons (eVar 10) aNil)))) (aCons (eTup (aCons (eC (.str "unknown")) (aCons (eVar 9) (aCons (eC (.bl true)) aNil)))) aNil)))))
    (sRet (eC (.bl false)))
    sNil)
    (sIf (tNot' (tTru (eCall g__law_same (aCons (eCall g__law_told (aCons (eVar 3) (aCons (eOp pIdx (eVar 4) (eUn pNeg (eC (.int 1)))) (aCons (eVar 9) aNil)))) (aCons (eTup (aCons (eC (.str "unknown")) (aCons (eVar 9) (aCons (eC (.bl true)) aNil)))) aNil)))))
    (sRet (eC (.bl false)))
    sNil))))))))
    (sRet (eC (.bl true))))
def g_law : List D → M D := runF 11 1 b_law
theorem sc_law : FnScope ["script", "at", "pot", "graph", "names", "turn", "goal", "far", "x", "bad", "other"] ["script"] (defScope st_law) := ⟨rfl, rfl, rfl, by decide +kernel, rfl, by decide +kernel, by decide +kernel⟩
theorem ok_law {P : Program} {w : World} {K : PySem.W.Frag} {mg : Str → Option Value} {base : Heap} {k : Nat} (B : Blt mg) (Df : Def K mg "law" st_law ["script"]) (d__law_any_graph : Does P w K mg base "_law_any_graph" ["pot", "subjects_most", "objects_most", "holds_most"] k 4 g__law_any_graph) (d__law_draw : Does P w K mg base "_law_draw" ["pot", "many"] k 2 g__law_draw) (d__law_far : Does P w K mg base "_law_far" ["graph", "goal"] k 2 g__law_far) (d__law_odd : Does P w K mg base "_law_odd" ["pot"] k 1 g__law_odd) (d__law_pot : Does P w K mg base "_law_pot" ["script", "at"] k 2 g__law_pot) (d__law_same : Does P w K mg base "_law_same" ["got", "due"] k 2 g__law_same) (d__law_stranger : Does P w K mg base "_law_stranger" ["pot", "graph"] k 2 g__law_stranger) (d__law_told : Does P w K mg base "_law_told" ["graph", "x", "y"] k 3 g__law_told) (d__law_walk : Does P w K mg base "_law_walk" ["graph", "far", "x"] k 3 g__law_walk) : Does P w K mg base "law" ["script"] (k + 1) 1 g_law := by
  have S := sc_law
  refine Df.does S rfl rfl fun f cdv A outer s H E hr => ?_
  have hu4 := h64 hr
  have hu5 := h65 hr
  have hu1 := h1 hr
  have tk := takes_of (X := cxOf (L2.CX P w) P w K mg base ["script", "at", "pot", "graph", "names", "turn", "goal", "far", "x", "bad", "other"] "law" (defScope st_law) f cdv A outer s H E) (E := E) rfl rfl rfl rfl
  have pas := passes_of (X := cxOf (L2.CX P w) P w K mg base ["script", "at", "pot", "graph", "names", "turn", "goal", "far", "x", "bad", "other"] "law" (defScope st_law) f cdv A outer s H E) rfl
  exact (ss_cons (ss_for pas rfl (si_range1 (by rfl) B.range (sa_cons (se_callB (c_max rfl) (by rfl) B.max rfl (sa_cons se_int (sa_cons (se_callB (c_min rfl) (by rfl) B.min rfl (sa_cons (se_callB c_len (by rfl) B.len rfl (sa_cons (sv 0) sa_nil rfl)) (sa_cons se_int sa_nil rfl) rfl)) sa_nil rfl) rfl)) sa_nil rfl)) (sg_nm S.nd rfl (Or.inl rfl))
    (ss_cons (ss_set S.nd rfl (Or.inl rfl) (se_do d__law_pot tk hr (by rfl) (sa_cons (sv 0) (sa_cons (sv 1) sa_nil rfl) rfl)))
    (ss_cons (ss_set S.nd rfl (Or.inl rfl) (se_do d__law_any_graph tk hr (by rfl) (sa_cons (sv 2) (sa_cons se_int (sa_cons se_int (sa_cons se_int sa_nil rfl) rfl) rfl) rfl)))
    (ss_cons (ss_set S.nd rfl (Or.inl rfl) (se_callB (c_sorted hu4) (by rfl) B.sorted rfl (sa_cons (se_op op_pAdd (se_ix (ix_pIdx hu1) (sv 3) se_int (fun _ _ => rfl)) (se_ix (ix_pIdx hu1) (sv 3) se_int (fun _ _ => rfl))) sa_nil rfl)))
    (ss_cons (ss_for pas rfl (si_range1 (by rfl) B.range (sa_cons se_int sa_nil rfl)) (sg_nm S.nd rfl (Or.inl rfl))
    (ss_cons (ss_set S.nd rfl (Or.inl rfl) (se_ix (ix_pIdx hu1) (sv 4) (se_do d__law_draw tk hr (by rfl) (sa_cons (sv 2) (sa_cons (se_callB c_len (by rfl) B.len rfl (sa_cons (sv 4) sa_nil rfl)) sa_nil rfl) rfl)) (fun _ _ => rfl)))
    (ss_cons (ss_set S.nd rfl (Or.inl rfl) (se_do d__law_far tk hr (by rfl) (sa_cons (sv 3) (sa_cons (sv 6) sa_nil rfl) rfl)))
    (ss_one (ss_for pas rfl (si_any (sv 4)) (sg_nm S.nd rfl (Or.inl rfl))
    (ss_one (ss_if (st_not (st_tru (se_do d__law_same tk hr (by rfl) (sa_cons (se_do d__law_told tk hr (by rfl) (sa_cons (sv 3) (sa_cons (sv 8) (sa_cons (sv 6) sa_nil rfl) rfl) rfl)) (sa_cons (se_tup (sa_cons se_str (sa_cons (se_do d__law_walk tk hr (by rfl) (sa_cons (sv 3) (sa_cons (sv 7) (sa_cons (sv 8) sa_nil rfl) rfl) rfl)) sa_nil rfl) rfl)) sa_nil rfl) rfl)) (by intro _; rfl)))
    (ss_one (ss_ret se_bl))
    ss_nil)))))))
    (ss_cons (ss_par rfl S.nd rfl rfl (by decide) rfl rfl (sa_cons (se_ix (ix_pIdx hu1) (se_lst (sa_cons (se_do d__law_odd tk hr (by rfl) (sa_cons (sv 2) sa_nil rfl)) (sa_cons (se_do d__law_stranger tk hr (by rfl) (sa_cons (sv 2) (sa_cons (sv 3) sa_nil rfl) rfl)) sa_nil rfl) rfl)) (se_do d__law_draw tk hr (by rfl) (sa_cons (sv 2) (sa_cons se_int sa_nil rfl) rfl)) (fun _ _ => rfl)) (sa_cons (se_do d__law_odd tk hr (by rfl) (sa_cons (sv 2) sa_nil rfl)) sa_nil rfl) rfl) rfl)
    (ss_cons (ss_if (st_not (st_tru (se_do d__law_same tk hr (by rfl) (sa_cons (se_do d__law_told tk hr (by rfl) (sa_cons (sv 3) (sa_cons (sv 9) (sa_cons (sv 10) sa_nil rfl) rfl) rfl)) (sa_cons (se_tup (sa_cons se_str (sa_cons (sv 9) (sa_cons se_bl sa_nil rfl) rfl) rfl)) sa_nil rfl) rfl)) (by intro _; rfl)))
    (ss_one (ss_ret se_bl))
    ss_nil)
    (ss_one (ss_if (st_not (st_tru (se_do d__law_same tk hr (by rfl) (sa_cons (se_do d__law_told tk hr (by rfl) (sa_cons (sv 3) (sa_cons (se_ix (ix_pIdx hu1) (sv 4) (se_un un_pNeg se_int) (fun _ _ => rfl)) (sa_cons (sv 9) sa_nil rfl) rfl) rfl)) (sa_cons (se_tup (sa_cons se_str (sa_cons (sv 9) (sa_cons se_bl sa_nil rfl) rfl) rfl)) sa_nil rfl) rfl)) (by intro _; rfl)))
    (ss_one (ss_ret se_bl))
    ss_nil)))))))))
    (ss_one (ss_ret se_bl)))
abbrev frOf {K : PySem.W.Frag} {h : Heap} (_ : K.In h) : PySem.W.Frag := K
theorem law_does {P : Program} {w : World} {K : PySem.W.Frag} {mg : Str → Option Value} (B : Blt mg) {a_InvalidGraph a_RightError a_UnknownName : Addr} (Y : CF P w K mg a_InvalidGraph a_RightError a_UnknownName) {t_LETTERS : Tok} (c_LETTERS : mg "LETTERS" = some (.str "abcdefghijklmnopqrstuvwxyz" t_LETTERS)) {t_MOST_LETTERS : Tok} (c_MOST_LETTERS : mg "MOST_LETTERS" = some (.int 8 t_MOST_LETTERS)) {t_MOST_RIGHT : Tok} (c_MOST_RIGHT : mg "MOST_RIGHT" = some (.int 3 t_MOST_RIGHT)) {t_TAKE : Tok} (c_TAKE : mg "TAKE" = some (.str "t" t_TAKE)) (D_is_tuple_of : Def K mg "is_tuple_of" st_is_tuple_of ["length", "value"]) (D_is_word : Def K mg "is_word" st_is_word ["value", "most"]) (D_is_name : Def K mg "is_name" st_is_name ["value"]) (D_is_right : Def K mg "is_right" st_is_right ["value"]) (D_names_fault : Def K mg "names_fault" st_names_fault ["part", "names", "others"]) (D_is_hold_of : Def K mg "is_hold_of" st_is_hold_of ["names", "value"]) (D_graph_fault : Def K mg "graph_fault" st_graph_fault ["value"]) (D_check_graph : Def K mg "check_graph" st_check_graph ["graph"]) (D_has_name : Def K mg "has_name" st_has_name ["graph", "value"]) (D_check_name : Def K mg "check_name" st_check_name ["graph", "name"]) (D_things_by : Def K mg "things_by" st_things_by ["graph", "right"]) (D_walk_by : Def K mg "walk_by" st_walk_by ["near", "start", "goal"]) (D_reach_walk : Def K mg "reach_walk" st_reach_walk ["graph", "x", "y"]) (D__law_pot : Def K mg "_law_pot" st__law_pot ["script", "at"]) (D__law_draw : Def K mg "_law_draw" st__law_draw ["pot", "many"]) (D__law_name : Def K mg "_law_name" st__law_name ["pot"]) (D__law_names : Def K mg "_law_names" st__law_names ["pot", "many"]) (D__law_rights : Def K mg "_law_rights" st__law_rights ["pot"]) (D__law_graph : Def K mg "_law_graph" st__law_graph ["pot", "subjects_most", "objects_most", "holds_most"]) (D__law_is_word : Def K mg "_law_is_word" st__law_is_word ["value", "most"]) (D__law_same : Def K mg "_law_same" st__law_same ["got", "due"]) (D__law_odd : Def K mg "_law_odd" st__law_odd ["pot"]) (D__law_stranger : Def K mg "_law_stranger" st__law_stranger ["pot", "graph"]) (D__law_row_graph : Def K mg "_law_row_graph" st__law_row_graph ["pot", "subjects_most", "objects_most"]) (D__law_any_graph : Def K mg "_law_any_graph" st__law_any_graph ["pot", "subjects_most", "objects_most", "holds_most"]) (D__law_told : Def K mg "_law_told" st__law_told ["graph", "x", "y"]) (D__law_far : Def K mg "_law_far" st__law_far ["graph", "goal"]) (D__law_walk : Def K mg "_law_walk" st__law_walk ["graph", "far", "x"]) (D_law : Def K mg "law" st_law ["script"]) (base : Heap) : Does P w K mg base "law" ["script"] 19 1 g_law := by
  have d_is_tuple_of : Does P w K mg base "is_tuple_of" ["length", "value"] 2 2 g_is_tuple_of := ok_is_tuple_of (k := 1) B D_is_tuple_of
  have d_is_word : Does P w K mg base "is_word" ["value", "most"] 2 2 g_is_word := ok_is_word (k := 1) B D_is_word c_LETTERS
  have d_is_name : Does P w K mg base "is_name" ["value"] 3 1 g_is_name := ok_is_name (k := 2) B D_is_name c_MOST_LETTERS (d_is_word.mono (by decide))
  have d_is_right : Does P w K mg base "is_right" ["value"] 3 1 g_is_right := ok_is_right (k := 2) B D_is_right c_MOST_RIGHT (d_is_word.mono (by decide))
  have d_names_fault : Does P w K mg base "names_fault" ["part", "names", "others"] 4 3 g_names_fault := ok_names_fault (k := 3) B D_names_fault (d_is_name.mono (by decide))
  have d_is_hold_of : Does P w K mg base "is_hold_of" ["names", "value"] 4 2 g_is_hold_of := ok_is_hold_of (k := 3) B D_is_hold_of (d_is_name.mono (by decide)) (d_is_right.mono (by decide)) (d_is_tuple_of.mono (by decide))
  have d_graph_fault : Does P w K mg base "graph_fault" ["value"] 5 1 g_graph_fault := ok_graph_fault (k := 4) B D_graph_fault (d_is_hold_of.mono (by decide)) (d_is_tuple_of.mono (by decide)) (d_names_fault.mono (by decide))
  have d_check_graph : Does P w K mg base "check_graph" ["graph"] 6 1 g_check_graph := ok_check_graph (k := 5) B D_check_graph Y (by omega) (d_graph_fault.mono (by decide))
  have d_has_name : Does P w K mg base "has_name" ["graph", "value"] 4 2 g_has_name := ok_has_name (k := 3) B D_has_name (d_is_name.mono (by decide))
  have d_check_name : Does P w K mg base "check_name" ["graph", "name"] 5 2 g_check_name := ok_check_name (k := 4) B D_check_name Y (by omega) (d_has_name.mono (by decide))
  have d_things_by : Does P w K mg base "things_by" ["graph", "right"] 2 2 g_things_by := ok_things_by (k := 1) B D_things_by
  have d_walk_by : Does P w K mg base "walk_by" ["near", "start", "goal"] 2 3 g_walk_by := ok_walk_by (k := 1) B D_walk_by
  have d_reach_walk : Does P w K mg base "reach_walk" ["graph", "x", "y"] 7 3 g_reach_walk := ok_reach_walk (k := 6) B D_reach_walk c_TAKE (d_check_graph.mono (by decide)) (d_check_name.mono (by decide)) (d_things_by.mono (by decide)) (d_walk_by.mono (by decide))
  have d__law_pot : Does P w K mg base "_law_pot" ["script", "at"] 2 2 g__law_pot := ok__law_pot (k := 1) B D__law_pot
  have d__law_draw : Does P w K mg base "_law_draw" ["pot", "many"] 2 2 g__law_draw := ok__law_draw (k := 1) B D__law_draw
  have d__law_name : Does P w K mg base "_law_name" ["pot"] 3 1 g__law_name := ok__law_name (k := 2) B D__law_name (d__law_draw.mono (by decide))
  have d__law_names : Does P w K mg base "_law_names" ["pot", "many"] 4 2 g__law_names := ok__law_names (k := 3) B D__law_names (d__law_name.mono (by decide))
  have d__law_rights : Does P w K mg base "_law_rights" ["pot"] 3 1 g__law_rights := ok__law_rights (k := 2) B D__law_rights (d__law_draw.mono (by decide))
  have d__law_graph : Does P w K mg base "_law_graph" ["pot", "subjects_most", "objects_most", "holds_most"] 5 4 g__law_graph := ok__law_graph (k := 4) B D__law_graph (d__law_draw.mono (by decide)) (d__law_names.mono (by decide)) (d__law_rights.mono (by decide))
  have d__law_is_word : Does P w K mg base "_law_is_word" ["value", "most"] 2 2 g__law_is_word := ok__law_is_word (k := 1) B D__law_is_word
  have d__law_same : Does P w K mg base "_law_same" ["got", "due"] (1 + 17) 2 g__law_same := by
    have recur : ∀ m, Does P w K mg base "_law_same" ["got", "due"] (1 + m) 2 (f__law_same m) := by
      intro m
      induction m with
      | zero => exact D__law_same.bad rfl
      | succ m ih => exact ok__law_same B D__law_same ih
    exact (recur 16).mono (by omega)
  have d__law_odd : Does P w K mg base "_law_odd" ["pot"] 3 1 g__law_odd := ok__law_odd (k := 2) B D__law_odd (d__law_draw.mono (by decide))
  have d__law_stranger : Does P w K mg base "_law_stranger" ["pot", "graph"] 3 2 g__law_stranger := ok__law_stranger (k := 2) B D__law_stranger (d__law_draw.mono (by decide)) (d__law_is_word.mono (by decide))
  have d__law_row_graph : Does P w K mg base "_law_row_graph" ["pot", "subjects_most", "objects_most"] 5 3 g__law_row_graph := ok__law_row_graph (k := 4) B D__law_row_graph (d__law_draw.mono (by decide)) (d__law_names.mono (by decide)) (d__law_rights.mono (by decide))
  have d__law_any_graph : Does P w K mg base "_law_any_graph" ["pot", "subjects_most", "objects_most", "holds_most"] 6 4 g__law_any_graph := ok__law_any_graph (k := 5) B D__law_any_graph (d__law_draw.mono (by decide)) (d__law_graph.mono (by decide)) (d__law_row_graph.mono (by decide))
  have d__law_told : Does P w K mg base "_law_told" ["graph", "x", "y"] 8 3 g__law_told := ok__law_told (k := 7) B D__law_told Y (d_reach_walk.mono (by decide))
  have d__law_far : Does P w K mg base "_law_far" ["graph", "goal"] 2 2 g__law_far := ok__law_far (k := 1) B D__law_far
  have d__law_walk : Does P w K mg base "_law_walk" ["graph", "far", "x"] 2 3 g__law_walk := ok__law_walk (k := 1) B D__law_walk
  have d_law : Does P w K mg base "law" ["script"] 19 1 g_law := ok_law (k := 18) B D_law (d__law_any_graph.mono (by decide)) (d__law_draw.mono (by decide)) (d__law_far.mono (by decide)) (d__law_odd.mono (by decide)) (d__law_pot.mono (by decide)) (d__law_same.mono (by decide)) (d__law_stranger.mono (by decide)) (d__law_told.mono (by decide)) (d__law_walk.mono (by decide))
  exact d_law
end R
end
namespace Mini
open PySem L2 PySem.W PyProof.Rows
-- side goals
local macro_rules | `(tactic| bv_omega) => `(tactic| first | decide | assumption | exact Flat.le | infer_instance | omega | (simp only [List.length_append, List.length_map, List.length_filter]; omega) | (simp; omega))
-- what an expression evaluates to
local macro_rules | `(tactic| array_get_dec) => `(tactic| first
  | assumption
  | ((with_reducible apply ev_var); rfl)
  | ((with_reducible apply ev_Ce); first | rfl | exact enc_w (by decide))
  | ((with_reducible apply ea_nil))
  | ((with_reducible apply et_yes))
  | ((with_reducible apply et_and); array_get_dec; (intro _; array_get_dec))
  | ((with_reducible apply et_or); array_get_dec; (intro _; array_get_dec))
  | ((with_reducible apply et_not); array_get_dec)
  | ((with_reducible apply et_bl); array_get_dec)
  | ((with_reducible apply et_tru); array_get_dec)
  | ((with_reducible apply et_truL); array_get_dec)
  | ((with_reducible apply ev_and); array_get_dec; (intro _; array_get_dec))
  | ((with_reducible apply ev_or); array_get_dec; (intro _; array_get_dec))
  | ((with_reducible apply ev_not); array_get_dec)
  | ((with_reducible apply ev_eq); array_get_dec; array_get_dec; bv_omega)
  | ((with_reducible apply ev_ne); array_get_dec; array_get_dec; bv_omega)
  | ((with_reducible apply ev_in); array_get_dec; array_get_dec; bv_omega)
  | ((with_reducible apply ev_nin); array_get_dec; array_get_dec; bv_omega)
  | ((with_reducible apply ev_ix); array_get_dec; rfl)
  | ((with_reducible apply ev_lt); array_get_dec; array_get_dec; bv_omega)
  | ((with_reducible apply ev_gt); array_get_dec; array_get_dec; bv_omega)
  | ((with_reducible apply ev_le); array_get_dec; array_get_dec; bv_omega)
  | ((with_reducible apply ev_ge); array_get_dec; array_get_dec; bv_omega)
  | ((with_reducible apply ev_addT); array_get_dec; array_get_dec; bv_omega)
  | ((with_reducible apply ev_addN); array_get_dec; array_get_dec)
  | ((with_reducible apply ev_addI); array_get_dec; array_get_dec)
  | ((with_reducible apply ev_subI); array_get_dec; array_get_dec)
  | ((with_reducible apply ev_qui); array_get_dec; array_get_dec; array_get_dec; array_get_dec; array_get_dec)
  | ((with_reducible apply ev_qua); array_get_dec; array_get_dec; array_get_dec; array_get_dec)
  | ((with_reducible apply ev_ifE); array_get_dec; (intro _; array_get_dec); (intro _; array_get_dec))
  | ((with_reducible apply ev_tri); array_get_dec; array_get_dec; array_get_dec)
  | ((with_reducible apply ev_pair); array_get_dec; array_get_dec)
  | ((with_reducible apply ev_len); array_get_dec)
  | ((with_reducible apply ev_tuple); array_get_dec)
  | ((with_reducible apply ev_all); array_get_dec)
  | ((with_reducible apply ev_any); array_get_dec)
  | ((with_reducible apply ea_cons); array_get_dec; array_get_dec)
  | ((with_reducible apply ei_any); array_get_dec)
  | ((with_reducible apply el_lc1); array_get_dec; bv_omega; (intro x hx; refine ⟨_, rfl, ?_⟩; apply Exists.intro; apply And.intro; array_get_dec; rfl))
  | ((with_reducible apply el_lc); array_get_dec; bv_omega; (intro x hx; refine ⟨_, rfl, ?_, ?_⟩; (apply Exists.intro; apply And.intro; array_get_dec; rfl); (intro hp; apply Exists.intro; apply And.intro; array_get_dec; rfl)))
  | ((with_reducible apply el_sortSet); array_get_dec; infer_instance; infer_instance; infer_instance; bv_omega)
  | ((with_reducible apply el_sorted); array_get_dec; infer_instance; infer_instance; bv_omega)
  | ((with_reducible apply el_list); array_get_dec)
  | ((with_reducible apply el_nil))
  | ((with_reducible apply el_one); array_get_dec)
  | ((with_reducible apply ev_oneT); array_get_dec)
  | ((with_reducible apply ev_nilT))
  | ((with_reducible apply es_ref); rfl; assumption)
  | ((with_reducible apply es_of); array_get_dec)
  | ((with_reducible apply es_el); array_get_dec)
  | ((with_reducible apply es_ref); rfl; (first | assumption | (apply Lo.at; assumption; (first | exact List.Mem.head _ | exact .tail _ (.head _) | exact .tail _ (.tail _ (.head _)) | exact .tail _ (.tail _ (.tail _ (.head _))) | exact .tail _ (.tail _ (.tail _ (.tail _ (.head _)))) | exact .tail _ (.tail _ (.tail _ (.tail _ (.tail _ (.head _))))))) | (apply Lo.bs; assumption; assumption)))
  | ((with_reducible apply ev_inTd); array_get_dec; array_get_dec; (first | assumption | (apply Lo.at; assumption; (first | exact List.Mem.head _ | exact .tail _ (.head _) | exact .tail _ (.tail _ (.head _)) | exact .tail _ (.tail _ (.tail _ (.head _))) | exact .tail _ (.tail _ (.tail _ (.tail _ (.head _)))) | exact .tail _ (.tail _ (.tail _ (.tail _ (.tail _ (.head _))))))) | (apply Lo.bs; assumption; assumption)))
  | ((with_reducible apply ev_ninTd); array_get_dec; array_get_dec; (first | assumption | (apply Lo.at; assumption; (first | exact List.Mem.head _ | exact .tail _ (.head _) | exact .tail _ (.tail _ (.head _)) | exact .tail _ (.tail _ (.tail _ (.head _))) | exact .tail _ (.tail _ (.tail _ (.tail _ (.head _)))) | exact .tail _ (.tail _ (.tail _ (.tail _ (.tail _ (.head _))))))) | (apply Lo.bs; assumption; assumption)))
  | ((with_reducible apply ev_ixTd); array_get_dec; array_get_dec; (first | assumption | (apply Lo.at; assumption; (first | exact List.Mem.head _ | exact .tail _ (.head _) | exact .tail _ (.tail _ (.head _)) | exact .tail _ (.tail _ (.tail _ (.head _))) | exact .tail _ (.tail _ (.tail _ (.tail _ (.head _)))) | exact .tail _ (.tail _ (.tail _ (.tail _ (.tail _ (.head _))))))) | (apply Lo.bs; assumption; assumption)); bv_omega)
  | ((with_reducible apply ev_getTd); array_get_dec; array_get_dec; array_get_dec; (first | assumption | (apply Lo.at; assumption; (first | exact List.Mem.head _ | exact .tail _ (.head _) | exact .tail _ (.tail _ (.head _)) | exact .tail _ (.tail _ (.tail _ (.head _))) | exact .tail _ (.tail _ (.tail _ (.tail _ (.head _)))) | exact .tail _ (.tail _ (.tail _ (.tail _ (.tail _ (.head _))))))) | (apply Lo.bs; assumption; assumption)))
  | ((with_reducible apply ev_get1Td); array_get_dec; array_get_dec; (first | assumption | (apply Lo.at; assumption; (first | exact List.Mem.head _ | exact .tail _ (.head _) | exact .tail _ (.tail _ (.head _)) | exact .tail _ (.tail _ (.tail _ (.head _))) | exact .tail _ (.tail _ (.tail _ (.tail _ (.head _)))) | exact .tail _ (.tail _ (.tail _ (.tail _ (.tail _ (.head _))))))) | (apply Lo.bs; assumption; assumption)))
  | ((with_reducible apply ev_last); array_get_dec; assumption)
  | ((with_reducible apply ev_ixLo); array_get_dec; array_get_dec; assumption))
section
open PySem L2 PySem.W PyProof.Rows
open En (enc pd dep)
section
variable {S : Store} {g : Gt} {x y : Nm}
theorem walk_by_ok {E : Nm → List Nm} {nk Bn Cn : Nat} {l : Dc 8} (tb : Tab S nk l E Bn Cn) (N : List Nm) (lN : N.length ≤ 30) (hE : ∀ u v, v ∈ E u → v ∈ N) (lE : ∀ u, (E u).length ≤ 1000) (mx : x ∈ N) :
    EvP (R.g_walk_by [.ref nk, enc x, enc y]) S fun d _ => WkD E x y d := by
  have lim' := lim_big
  refine lo_fn rfl fun S1 k1 L => ?_
  have tb := tb.kp k1 (fun _ z => nomatch z)
  unfold R.b_walk_by
  apply s_seq
  refine lo_setD1 (x := x) (v := [x]) (fun _ => [x]) rfl L (fun T => by array_get_dec) (fun T => by array_get_dec) fun dk S2 L => ?_
  apply s_seq
  refine lo_setL (xs := [[x]]) L (el_one (by array_get_dec)) fun wk S3 L => ?_
  apply s_seq
  dsimp only [List.set, List.map, List.replicate, List.append]
  refine lo_while (n0 := 61) (fun n ρ ls => ∃ k ks W ws wk b5 b6 b7, n = 2 * (31 - ks.length) + (if ws = [] then 0 else 1) ∧ ρ = [some (.ref nk), some (enc x), some (enc y), some (.ref dk), some (.ref wk), b5, b6, b7] ∧ ls = [(wk, .lst (ws.map enc)), (dk, KeyC.mo (tdm ks W))] ∧ BF E x k ks W ∧ (∀ w, w ∈ ws ↔ ∃ u ∈ ks, W u = w ∧ w.length = k + 1) ∧ ws.length ≤ 30 ∧ ws.Nodup ∧ k + n ≤ 61 ∧ ks.Nodup ∧ (∀ u ∈ ks, u ∈ N)) L ?_ (by decide) ?_
  · refine ⟨0, [x], fun _ => [x], [[x]], wk, _, _, _, rfl, rfl, rfl, .zero rfl, fun w => ?_, by simp, by simp, by simp, by simp, fun u hu => by rw [List.mem_singleton.mp hu]; exact mx⟩
    rw [List.mem_singleton]
    constructor
    · rintro rfl; exact ⟨x, by simp, rfl, rfl⟩
    · rintro ⟨u, hu, e, _⟩; exact e.symm
  · rintro n ρ S4 ls4 hn ⟨k, ks, W, ws, wk, b5, b6, b7, en, rfl, rfl, bf, hws, lws, nws, kn, nd, inN⟩ L
    refine ⟨!ws.isEmpty, by array_get_dec, fun hb S5 L => ?_, fun hb S5 L => ?_⟩
    · have ne : ws ≠ [] := fun z => by rw [z] at hb; cases hb
      rw [if_neg ne] at en
      have lks : ks.length ≤ 30 := Nat.le_trans (nodup_len nd inN) lN
      apply s_seq
      refine lo_setNil L fun lk S6 L => ?_
      dsimp only [List.set]
      apply s_seq
      have way : ∀ w ∈ ws, ∃ u ∈ ks, W u = w ∧ w.length = k + 1 ∧ Wlk E x u w ∧ w.getLast? = some u := fun w mw => by
        obtain ⟨u, mu, e, l⟩ := (hws w).mp mw
        have a := (bf.lw u mu).1.1
        rw [e] at a
        exact ⟨u, mu, e, l, a, a.last⟩
      have srt : El (eB nSorted (aCons (eVar 4) aNil) [some (D.ref nk), some (enc x), some (enc y), some (D.ref dk), some (D.ref wk), some (D.ref lk), b6, b7]) S6 (sortE ws) := by
        refine el_sorted' (xs := ws) (by array_get_dec) inferInstance (.inl fun w mw => ?_) (by decide) (by omega)
        obtain ⟨u, _, _, l, _⟩ := way w mw
        exact ne_tup fun z => by rw [z] at l; cases l
      refine lo_forL (xs := sortE ws) (fun pre ρ ls => ∃ ks2 W2 lt b6 b7, ρ = [some (.ref nk), some (enc x), some (enc y), some (.ref dk), some (.ref wk), some (.ref lk), b6, b7] ∧ ls = [(lk, .lst (lt.map enc)), (wk, .lst (ws.map enc)), (dk, KeyC.mo (tdm ks2 W2))] ∧ Lay E x k ks W N ks2 W2 lt ∧ ∀ w ∈ pre, ∀ u, w.getLast? = some u → ∀ v ∈ E u, v ∈ ks2) L srt (by rw [len_sortE]; omega) ⟨ks, W, [], b6, b7, rfl, rfl, .zero nd inN, fun w h => absurd h List.not_mem_nil⟩ ?_ ?_
      · rintro p pre w suf ρ S7 ls7 ex ⟨ks2, W2, lt, b6, b7, rfl, rfl, ly, cov⟩ L
        have mw : w ∈ ws := mem_sortE.mp (by rw [ex]; simp)
        obtain ⟨u, mu, eW, lw, aw, hu⟩ := way w mw
        refine ⟨_, rfl, ?_⟩
        dsimp only [List.set]
        have tb7 := tb.kp L.kp (fun _ z => nomatch z)
        have row : El (eB nSorted (aCons (eGet (eVar 0) (eOp pIdx (eVar 6) (eUn pNeg (eC (.int 1)))) (eLst aNil)) aNil) [some (D.ref nk), some (enc x), some (enc y), some (D.ref dk), some (D.ref wk), some (D.ref lk), some (enc w), b7]) S7 (sortE (E u)) := by
          refine el_sorted (es_row (ev_var rfl) (ev_last (xs := w) (es_of (ev_var rfl)) hu) tb7) inferInstance inferInstance (by have := lE u; omega)
        refine lo_forL (xs := sortE (E u)) (fun pre2 ρ ls => ∃ ks2 W2 lt b7, ρ = [some (.ref nk), some (enc x), some (enc y), some (.ref dk), some (.ref wk), some (.ref lk), some (enc w), b7] ∧ ls = [p, (lk, .lst (lt.map enc)), (wk, .lst (ws.map enc)), (dk, KeyC.mo (tdm ks2 W2))] ∧ Lay E x k ks W N ks2 W2 lt ∧ (∀ w ∈ pre, ∀ u, w.getLast? = some u → ∀ v ∈ E u, v ∈ ks2) ∧ ∀ v ∈ pre2, v ∈ ks2) L row (by rw [len_sortE]; have := lE u; omega) ⟨ks2, W2, lt, b7, rfl, rfl, ly, cov, fun v h => absurd h List.not_mem_nil⟩ ?_ ?_
        · rintro q pre2 v suf2 ρ S8 ls8 ex2 ⟨ks2, W2, lt, b7, rfl, rfl, ly, cov, cov2⟩ L
          have mv : v ∈ E u := mem_sortE.mp (by rw [ex2]; simp)
          have l2 : ks2.length ≤ 30 := Nat.le_trans (nodup_len ly.nd ly.inN) lN
          have l3 := ly.len
          refine ⟨_, rfl, ?_⟩
          dsimp only [List.set]
          apply lo_if (b := !decide (v ∈ ks2)) L (by array_get_dec)
          · intro hb S9 L
            have nv : v ∉ ks2 := by simpa using hb
            have lw' : LW E x v (w ++ [v]) := by
              have := BF.new bf mu (by rw [eW]; exact lw) mv (fun z => nv (ly.sub v z)) fun u' mu' lu' mv' => by
                cases el : ltE (W u') (W u) with
                | false => rfl
                | true =>
                  exfalso
                  have mW : W u' ∈ ws := (hws _).mpr ⟨u', mu', rfl, lu'⟩
                  have asc : ascE (sortE ws) := ascE_sortE nws
                  rw [eW] at el
                  have := asc_split asc ex (mem_sortE.mpr mW) el
                  exact nv (cov _ this u' (bf.lw u' mu').1.1.last v mv')
              rw [eW] at this; exact this
            apply s_seq
            refine lo_putN (j := 4) (v := w ++ [v]) L (ev_addT (a := w) (b := [v]) (by array_get_dec) (by array_get_dec) (by rw [List.length_append, List.length_singleton, lw]; omega)) (by array_get_dec) (by array_get_dec) rfl nv (by omega) fun SA L => ?_
            dsimp only [List.set] at L
            refine lo_append (j := 2) (x := w ++ [v]) L rfl rfl ?_ (by omega) fun SB L => ?_
            · exact ev_ixUpd (L.ix 4 rfl) (ev_var rfl) (ev_var rfl)
            dsimp only [List.set] at L
            refine ⟨_, L, ks2 ++ [v], upd W2 v (w ++ [v]), lt ++ [w ++ [v]], _, rfl, rfl, ly.put nv (hE _ _ mv) lw' (by rw [List.length_append, List.length_singleton, lw]), fun w' h' u' e' v' hv' => List.mem_append_left _ (cov w' h' u' e' v' hv'), fun v' hv' => ?_⟩
            rcases List.mem_append.mp hv' with z | z
            · exact List.mem_append_left _ (cov2 v' z)
            · rw [List.mem_singleton.mp z]; simp
          · intro hb S9 L
            have nv : v ∈ ks2 := by simpa using hb
            refine s_nil ⟨_, L, ks2, W2, lt, _, rfl, rfl, ly, cov, fun v' hv' => ?_⟩
            rcases List.mem_append.mp hv' with z | z
            · exact cov2 v' z
            · rw [List.mem_singleton.mp z]; exact nv
        · rintro ρ S8 ls8 ⟨ks2, W2, lt, b7, rfl, rfl, ly, cov, cov2⟩ L
          refine ⟨_, L, ks2, W2, lt, _, _, rfl, rfl, ly, fun w' h' u' e' v' hv' => ?_⟩
          rcases List.mem_append.mp h' with z | z
          · exact cov w' z u' e' v' hv'
          · rw [List.mem_singleton.mp z, hu] at e'
            cases e'
            exact cov2 v' (mem_sortE.mpr hv')
      · rintro ρ S7 ls7 ⟨ks2, W2, lt, b6, b7, rfl, rfl, ly, cov⟩ L
        have l2 : ks2.length ≤ 30 := Nat.le_trans (nodup_len ly.nd ly.inN) lN
        have l3 := ly.len
        refine lo_set L (ev_var rfl) fun S8 L => ?_
        dsimp only [List.set]
        refine ⟨2 * (31 - ks2.length) + (if lt = [] then 0 else 1), [(lk, .lst (lt.map enc)), (dk, KeyC.mo (tdm ks2 W2))], ?_, L.sub (.cons₂ _ (.cons _ (.refl _))), k + 1, ks2, W2, lt, lk, _, _, _, rfl, rfl, rfl, ?_, fun w => ?_, by omega, ly.ltn, ?_, ly.nd, ly.inN⟩
        · rw [en]
          by_cases z : lt = []
          · rw [if_pos z]; rw [z] at l3; simp only [List.length_nil] at l3; omega
          · rw [if_neg z]
            have := List.length_pos_iff.mpr z
            omega
        · refine bf.next ly.same ly.sub ly.new fun u mu lu v mv => ?_
          have mW : W u ∈ ws := (hws _).mpr ⟨u, mu, rfl, lu⟩
          exact cov _ (mem_sortE.mpr mW) u (bf.lw u mu).1.1.last v mv
        · rw [ly.mem]
          constructor
          · rintro ⟨v, m, n, e⟩
            exact ⟨v, m, e, by rw [← e]; exact (ly.new v m n).2⟩
          · rintro ⟨v, m, e, l⟩
            refine ⟨v, m, fun z => ?_, e⟩
            have := (bf.lw v z).2
            rw [← ly.same v z, e, l] at this
            omega
        · by_cases z : lt = []
          · rw [if_pos z]; rw [z] at l3; simp only [List.length_nil] at l3; omega
          · rw [if_neg z]
            have := List.length_pos_iff.mpr z
            omega
    · have e : ws = [] := by simpa using hb
      refine lo_ret (d := if y ∈ ks then enc (W y) else .non) L (by array_get_dec) fun S6 L => ⟨?_, L.kp⟩
      have dn := bf.done (fun u mu lu => by
        have := (hws (W u)).mpr ⟨u, mu, rfl, lu⟩
        rw [e] at this; cases this) (y := y)
      by_cases my : y ∈ ks
      · rw [if_pos my]
        exact .inl ⟨W y, (bf.lw y my).1, rfl⟩
      · rw [if_neg my]
        exact .inr ⟨fun w a => my (dn a.rc), rfl⟩
end
end
section
open PySem L2 PySem.W PyProof.Rows
open En (enc pd dep)
theorem FQ.snoc {E : Nm → List Nm} {z : Nm} {ws : List Nm} {f : Nm → Nat} {a : Nat} {u v : Nm} (q : FQ E z ws f a) (eu : ws[a]? = some u) (m : u ∈ E v) (nv : v ∉ ws) : FQ E z (ws ++ [v]) (upd f v (f u + 1)) a := by
  have mu : u ∈ ws := List.mem_of_getElem? eu
  have ne : ∀ y ∈ ws, upd f v (f u + 1) y = f y := fun y h => upd_ne fun e => nv (e ▸ h)
  have la : a < ws.length := (List.getElem?_eq_some_iff.mp eu).1
  have old : ∀ (i : Nat) (y : Nm), (ws ++ [v])[i]? = some y → (ws[i]? = some y) ∨ (i = ws.length ∧ y = v) := fun i y e => by
    by_cases h : i < ws.length
    · rw [List.getElem?_append_left h] at e; exact .inl e
    · rw [List.getElem?_append_right (by omega)] at e
      have h2 := (List.getElem?_eq_some_iff.mp e).1
      simp only [List.length_singleton] at h2
      have : i - ws.length = 0 := by omega
      rw [this] at e
      exact .inr ⟨by omega, (Option.some.inj e).symm⟩
  have near : ∀ y ∈ ws, f y ≤ f u + 1 := fun y h => q.near u y eu h
  refine ⟨List.mem_append_left _ q.z0, by rw [ne z q.z0]; exact q.fz, ?_, fun y h => ?_, fun i j y w hij ei ej => ?_, fun y w ey h => ?_, fun i y hi ei w m' => ?_⟩
  · rw [List.nodup_append]
    exact ⟨q.nd, List.nodup_cons.mpr ⟨List.not_mem_nil, List.nodup_nil⟩, fun a ha b hb e => nv (by rw [List.mem_singleton.mp hb] at e; exact e ▸ ha)⟩
  · rcases List.mem_append.mp h with h | h
    · obtain ⟨w, k, l⟩ := q.val y h
      exact ⟨w, k, by rw [ne y h]; exact l⟩
    · rw [List.mem_singleton.mp h]
      obtain ⟨w, k, l⟩ := q.val u mu
      exact ⟨v :: w, .cons m k, by rw [List.length_cons, l, upd_eq]⟩
  · rcases old i y ei with h1 | ⟨h1, rfl⟩ <;> rcases old j w ej with h2 | ⟨h2, rfl⟩
    · rw [ne _ (List.mem_of_getElem? h1), ne _ (List.mem_of_getElem? h2)]; exact q.mono i j y w hij h1 h2
    · rw [ne _ (List.mem_of_getElem? h1), upd_eq]; exact near y (List.mem_of_getElem? h1)
    · have := (List.getElem?_eq_some_iff.mp h2).1; omega
    · exact Nat.le_refl _
  · rw [List.getElem?_append_left la, eu] at ey
    cases ey
    rw [ne u mu]
    rcases List.mem_append.mp h with h | h
    · rw [ne w h]; exact near w h
    · rw [List.mem_singleton.mp h, upd_eq]; exact Nat.le_refl _
  · rw [List.getElem?_append_left (by omega)] at ei
    obtain ⟨h1, h2⟩ := q.done i y hi ei w m'
    exact ⟨List.mem_append_left _ h1, by rw [ne w h1, ne y (List.mem_of_getElem? ei)]; exact h2⟩
theorem FQ.step {E : Nm → List Nm} {z : Nm} {ws : List Nm} {f : Nm → Nat} {a : Nat} {u : Nm} (q : FQ E z ws f a) (eu : ws[a]? = some u) (dn : ∀ y, u ∈ E y → y ∈ ws ∧ f y ≤ f u + 1) : FQ E z ws f (a + 1) := by
  refine ⟨q.z0, q.fz, q.nd, q.val, q.mono, fun y w ey h => ?_, fun i y hi ei => ?_⟩
  · have h1 := q.near u w eu h
    have h2 := q.mono a (a + 1) u y (by omega) eu ey
    omega
  · by_cases h : i < a
    · exact q.done i y h ei
    · obtain rfl : i = a := by omega
      rw [eu] at ei; cases ei
      exact dn
theorem FQ.zero {E : Nm → List Nm} {z : Nm} {f : Nm → Nat} (h : f z = 0) : FQ E z [z] f 0 := by
  refine ⟨by simp, h, by simp, fun y m => ?_, fun i j u v _ ei ej => ?_, fun u v _ m => ?_, fun i u hi => absurd hi (Nat.not_lt_zero _)⟩
  · rw [List.mem_singleton.mp m]; exact ⟨[z], .one z, by rw [h]; rfl⟩
  · have e1 := List.mem_singleton.mp (List.mem_of_getElem? ei)
    have e2 := List.mem_singleton.mp (List.mem_of_getElem? ej)
    rw [e1, e2]; exact Nat.le_refl _
  · rw [List.mem_singleton.mp m, h]; exact Nat.zero_le _
section
variable {S : Store} {g : Gt} {x z : Nm}
theorem law_far_ok (o : GOk g) (mz : z ∈ g.N) : EvP (R.g__law_far [enc g, enc z]) S fun d T => ∃ k ws f, d = .ref k ∧ T[k]? = some (KeyC.mo (tdm ws (f : Nm → Nat))) ∧ S.length ≤ k ∧ ws.Nodup ∧ (∀ y ∈ ws, y ∈ g.N) ∧ (∀ y, y ∈ ws ↔ ∃ w, Wlk (thgs g.H rT) y z w) ∧ (∀ y ∈ ws, DW (thgs g.H rT) y z (f y)) ∧ ∀ y ∈ ws, f y ≤ 30 := by
  have lim' := lim_big
  have lN : g.N.length ≤ 30 := o.len
  have lH := o.lenH
  refine lo_fn rfl fun S1 k1 L => ?_
  unfold R.b__law_far
  apply s_seq
  apply s_par3K
  rw [ok_aCons]
  refine EvP.ok (ev_dn (m := 8)) fun d S2 ⟨dk, ed, dd, ld⟩ k2 => ?_
  subst ed
  have L := L.add k2 (m := KeyC.mo (tdm ([] : List Nm) fun _ => 0)) dd ld
  rw [ok_aCons]
  refine El.ok (el_one (a := z) (by array_get_dec)) fun wk S3 g3 l3 k3 => ?_
  have L := L.add k3 g3 l3
  rw [ok_aCons, ok_eC, ok_aNil]
  refine ⟨_, _, _, rfl, ?_⟩
  dsimp only [List.set, List.map, List.replicate, List.append]
  apply s_seq
  refine lo_putN (j := 1) (x := z) (v := (0 : Nat)) L ev_C (ev_var rfl) (ev_var rfl) rfl (by simp) (by simp; omega) fun S4 L => ?_
  dsimp only [List.set, List.nil_append] at L
  apply s_seq
  refine lo_while (n0 := 30) (fun n ρ ls => ∃ a ws f b5 b6 b7 b8, a + n = 30 ∧ ρ = [some (enc g), some (enc z), some (.ref dk), some (.ref wk), some (enc (a : Nat)), b5, b6, b7, b8] ∧ ls = [(wk, .lst (ws.map enc)), (dk, KeyC.mo (tdm ws f))] ∧ FQ (thgs g.H rT) z ws f a ∧ (∀ y ∈ ws, y ∈ g.N ∧ f y ≤ ws.length) ∧ a ≤ ws.length) L ⟨0, [z], _, _, _, _, _, rfl, rfl, rfl, .zero upd_eq, fun y m => by rw [List.mem_singleton.mp m, upd_eq]; exact ⟨mz, Nat.zero_le _⟩, Nat.zero_le _⟩ (by decide) ?_
  · rintro n ρ S5 ls5 hn ⟨a, ws, f, b5, b6, b7, b8, en, rfl, rfl, q, inN, la⟩ L
    have lw : ws.length ≤ 30 := Nat.le_trans (nodup_len q.nd fun y m => (inN y m).1) lN
    refine ⟨decide (a < ws.length), ?_, fun hb S6 L => ?_, fun hb S6 L => ?_⟩
    · have := ev_lt (ρ := [some (enc g), some (enc z), some (.ref dk), some (.ref wk), some (enc (a : Nat)), b5, b6, b7, b8]) (S := S5) (fa := eVar 4) (fb := eB nLen (aCons (eVar 3) aNil)) (a := a) (b := ws.length) (ev_var rfl) (by array_get_dec) inferInstance
      rw [ltE_nat] at this
      exact et_bl this
    · have ha : a < ws.length := of_decide_eq_true hb
      have eu : ws[a]? = some ws[a] := List.getElem?_eq_getElem ha
      generalize ws[a] = u at eu
      apply s_seq
      refine lo_set (d := enc u) L (ev_ixLo (xs := ws) (i := a) (by array_get_dec) (ev_var rfl) eu) fun S7 L => ?_
      dsimp only [List.set]
      apply s_seq
      refine lo_forT (xs := g.H) (fun pre ρ ls => ∃ ws f b6 b7 b8, ρ = [some (enc g), some (enc z), some (.ref dk), some (.ref wk), some (enc (a : Nat)), some (enc u), b6, b7, b8] ∧ ls = [(wk, .lst (ws.map enc)), (dk, KeyC.mo (tdm ws f))] ∧ FQ (thgs g.H rT) z ws f a ∧ (∀ y ∈ ws, y ∈ g.N ∧ f y ≤ ws.length) ∧ ws[a]? = some u ∧ ∀ h ∈ pre, h.z = rT → h.y = u → h.x ∈ ws ∧ f h.x ≤ f u + 1) L (by array_get_dec) (by omega) ⟨ws, f, b6, b7, b8, rfl, rfl, q, inN, eu, fun h m => absurd m List.not_mem_nil⟩ ?_ ?_
      · rintro pre h suf ρ S8 ls8 ex ⟨ws, f, b6, b7, b8, rfl, rfl, q, inN, eu, cov⟩ L
        have mh : h ∈ g.H := by rw [ex]; simp
        have lw : ws.length ≤ 30 := Nat.le_trans (nodup_len q.nd fun y m => (inN y m).1) lN
        have mu : u ∈ ws := List.mem_of_getElem? eu
        refine ⟨_, rfl, ?_⟩
        dsimp only [List.set]
        apply lo_if (b := decide (h.z = rT) && (decide (h.y = u) && !decide (h.x ∈ ws))) L
        · refine et_and (et_bl (ev_eq (a := h.z) (b := rT) (ev_var rfl) (ev_Ce rfl) (by decide))) fun _ => et_and (et_bl (ev_eq (a := h.y) (b := u) (ev_var rfl) (ev_var rfl) (by decide))) fun _ => by array_get_dec
        · intro hb S9 L
          simp only [Bool.and_eq_true, decide_eq_true_eq, Bool.not_eq_true', decide_eq_false_iff_not] at hb
          obtain ⟨ez, ey, nx⟩ := hb
          have mE : u ∈ thgs g.H rT h.x := thgs_mem.mpr (by rw [← ey, ← ez]; exact mh)
          have q' := q.snoc eu mE nx
          apply s_seq
          have e1 : Ev (eOp pAdd (eOp pIdx (eVar 2) (eVar 5)) (eC (.int 1)) [some (enc g), some (enc z), some (.ref dk), some (.ref wk), some (enc (a : Nat)), some (enc u), some (enc h.x), some (enc h.y), some (enc h.z)]) S9 (enc (f u + 1)) := ev_addN (b := 1) (by array_get_dec) ev_C
          refine lo_putN (j := 1) (x := h.x) (v := f u + 1) L e1 (ev_var rfl) (ev_var rfl) rfl nx (by omega) fun SA L => ?_
          dsimp only [List.set] at L
          refine lo_append (j := 0) (x := h.x) L rfl rfl (ev_var rfl) (by omega) fun SB L => ?_
          dsimp only [List.set] at L
          have ne : ∀ y ∈ ws, upd f h.x (f u + 1) y = f y := fun y m => upd_ne fun e => nx (e ▸ m)
          refine ⟨_, L, ws ++ [h.x], _, _, _, _, rfl, rfl, q', fun y m => ?_, ?_, fun h' m' e1 e2 => ?_⟩
          · rw [List.length_append, List.length_singleton]
            rcases List.mem_append.mp m with m | m
            · rw [ne y m]; exact ⟨(inN y m).1, by have := (inN y m).2; omega⟩
            · rw [List.mem_singleton.mp m, upd_eq]; exact ⟨(o.of h mh).1, by have := (inN u mu).2; omega⟩
          · rw [List.getElem?_append_left (List.getElem?_eq_some_iff.mp eu).1]; exact eu
          · rw [ne u mu]
            rcases List.mem_append.mp m' with m' | m'
            · obtain ⟨h1, h2⟩ := cov h' m' e1 e2
              exact ⟨List.mem_append_left _ h1, by rw [ne _ h1]; exact h2⟩
            · rw [List.mem_singleton.mp m', upd_eq]; exact ⟨by simp, Nat.le_refl _⟩
        · intro hb S9 L
          refine s_nil ⟨_, L, ws, f, _, _, _, rfl, rfl, q, inN, eu, fun h' m' e1 e2 => ?_⟩
          rcases List.mem_append.mp m' with m' | m'
          · exact cov h' m' e1 e2
          · have e3 := List.mem_singleton.mp m'
            subst e3
            rw [e1, e2] at hb
            simp only [decide_true, Bool.true_and, Bool.not_eq_false', decide_eq_true_eq] at hb
            exact ⟨hb, q.near u _ eu hb⟩
      · rintro ρ S8 ls8 ⟨ws, f, b6, b7, b8, rfl, rfl, q, inN, eu, cov⟩ L
        have lw : ws.length ≤ 30 := Nat.le_trans (nodup_len q.nd fun y m => (inN y m).1) lN
        have la := (List.getElem?_eq_some_iff.mp eu).1
        refine lo_set (d := enc (a + 1)) L (ev_addN (b := 1) (ev_var rfl) ev_C) fun S9 L => ?_
        dsimp only [List.set]
        refine ⟨29 - a, _, by omega, L, a + 1, ws, f, _, _, _, _, by omega, rfl, rfl, q.step eu fun y m => ?_, inN, by omega⟩
        exact cov _ (thgs_mem.mp m) rfl rfl
    · have ha : ¬ a < ws.length := of_decide_eq_false hb
      refine lo_ret L (ev_var rfl) fun S7 L => ⟨⟨dk, ws, f, rfl, L.ix 1 rfl, ?_, q.nd, fun y m => (inN y m).1, fun y => ⟨fun m => ?_, fun ⟨w, k⟩ => (q.fin (by omega) k).1⟩, fun y m => ⟨q.val y m, fun w k => (q.fin (by omega) k).2⟩, fun y m => by have := (inN y m).2; omega⟩, L.kp⟩
      · exact Nat.le_trans k1.len ld
      · obtain ⟨w, k, _⟩ := q.val y m
        exact ⟨w, k⟩
end
end
section
open PySem L2 PySem.W PyProof.Rows
open En (enc pd dep)
theorem sortE_head {α : Type} [DecidableEq α] [En α] [EnO α] {l : List α} {a : α} (n : l.Nodup) (h : (sortE l)[0]? = some a) : a ∈ l ∧ ∀ t ∈ l, ltE t a = false := by
  have m : a ∈ sortE l := List.mem_of_getElem? h
  refine ⟨mem_sortE.mp m, fun t mt => ?_⟩
  have mt' := mem_sortE.mpr mt
  have as := ascE_sortE n
  cases e : sortE l with
  | nil => rw [e] at m; cases m
  | cons b r =>
    rw [e] at h mt' as
    obtain rfl : b = a := Option.some.inj h
    rcases List.mem_cons.mp mt' with rfl | mr
    · exact ltE_irr t
    · cases c : ltE t b with
      | false => rfl
      | true =>
        have := (List.pairwise_cons.mp as).1 t mr
        have h2 := ltE_trans this c
        rw [ltE_irr] at h2; cases h2
theorem DW.step {E : Nm → List Nm} {x z : Nm} {n : Nat} (d : DW E x z (n + 1)) : ∃ y, y ∈ E x ∧ DW E y z n := by
  obtain ⟨⟨w, k, l⟩, mn⟩ := d
  cases k with
  | one x => simp at l
  | @cons _ y _ w m k =>
    refine ⟨y, m, ⟨w, k, by simpa using l⟩, fun w' k' => ?_⟩
    have := mn _ (.cons m k')
    simpa using this
section
variable {S : Store} {g : Gt} {x z : Nm}
theorem law_walk_ok (o : GOk g) {k : Nat} {ws : List Nm} {f : Nm → Nat} (e : S[k]? = some (KeyC.mo (tdm ws f))) (nd : ws.Nodup) (inN : ∀ y ∈ ws, y ∈ g.N) (hw : ∀ y, y ∈ ws ↔ ∃ w, Wlk (thgs g.H rT) y z w) (hf : ∀ y ∈ ws, DW (thgs g.H rT) y z (f y)) (fb : ∀ y ∈ ws, f y ≤ 30) : EvP (R.g__law_walk [enc g, .ref k, enc x]) S fun d _ => WkD (thgs g.H rT) x z d ∧ ∀ w : List Nm, d = enc w → w.length ≤ 1000 := by
  have lim' := lim_big
  have lN : g.N.length ≤ 30 := o.len
  have lH := o.lenH
  have lws : ws.length ≤ 30 := Nat.le_trans (nodup_len nd inN) lN
  refine lo_fn rfl fun S1 k1 L => ?_
  have e := k1.get _ _ (fun z => nomatch z) e
  unfold R.b__law_walk
  apply s_seq
  apply lo_if (b := !decide (x ∈ ws)) L (by array_get_dec)
  · intro hb S2 L
    have nx : x ∉ ws := by simpa using hb
    exact lo_ret L ev_C fun S3 L => ⟨⟨.inr ⟨fun w k => nx ((hw x).mpr ⟨w, k⟩), rfl⟩, fun w z => by cases z⟩, L.kp⟩
  intro hb S2 L
  have mx : x ∈ ws := by simpa using hb
  apply s_nil
  apply s_seq
  refine lo_set (d := enc [x]) L (by array_get_dec) fun S3 L => ?_
  apply s_seq
  dsimp only [List.set, List.map, List.replicate, List.append]
  have fx := fb x mx
  refine lo_forR (n := f x) (fun i ρ ls => ∃ p u b4 b5 b6 b7 b8 b9 b10, ρ = [some (enc g), some (.ref k), some (enc x), some (enc (p ++ [u] : List Nm)), b4, b5, b6, b7, b8, b9, b10] ∧ ls = [] ∧ p.length = i ∧ u ∈ ws ∧ f u + i = f x ∧ ∀ t, Grd (thgs g.H rT) z (f u) u t → Grd (thgs g.H rT) z (f x) x (p ++ t)) L (by array_get_dec) (by omega) ⟨[], x, _, _, _, _, _, _, _, rfl, rfl, rfl, mx, rfl, fun t q => q⟩ ?_ ?_
  · rintro i ρ S4 ls4 hi ⟨p, u, b4, b5, b6, b7, b8, b9, b10, rfl, rfl, lp, mu, fu, gr⟩ L
    refine ⟨_, rfl, ?_⟩
    dsimp only [List.set]
    obtain ⟨n, en⟩ : ∃ n, f u = n + 1 := ⟨f u - 1, by omega⟩
    apply s_seq
    refine lo_set (d := enc u) L (ev_ixLo (xs := p ++ [u]) (i := i) (es_of (ev_var rfl)) (ev_var rfl) (by rw [List.getElem?_append_right (by omega), lp]; simp)) fun S5 L => ?_
    dsimp only [List.set]
    apply s_seq
    refine lo_setL (xs := thgs g.H rT u) L (thgs_el o (ei_any (es_of (ev_ix (d := enc g.H) (ev_var rfl) rfl))) fun h => ⟨_, rfl, ?_, ev_var rfl⟩) fun ah S6 L => ?_
    · exact et_and (et_bl (ev_eq (a := h.x) (b := u) (ev_var rfl) (ev_var rfl) (by decide))) fun _ => et_bl (ev_eq (a := h.z) (b := rT) (ev_var rfl) (ev_Ce rfl) (by decide))
    dsimp only [List.set]
    apply s_seq
    have lE : (thgs g.H rT u).length ≤ g.H.length := thgs_len
    have lc : El (eLc (iAny (eVar 6)) (.nm 8) (tAnd' (tBl (eOp pIn (eVar 8) (eVar 1))) (tBl (eOp pEq (eOp pIdx (eVar 1) (eVar 8)) (eOp pSub (eOp pIdx (eVar 1) (eVar 5)) (eC (.int 1)))))) (eVar 8) [8] [some (enc g), some (.ref k), some (enc x), some (enc (p ++ [u] : List Nm)), some (enc i), some (enc u), some (.ref ah), b7, b8, b9, b10]) S6 (((thgs g.H rT u).filter fun y => decide (y ∈ ws) && decide (f y = n)).map id) := by
      refine el_lc (ei_any (by array_get_dec)) (by omega) fun y my => ⟨_, rfl, ⟨_, ?_, rfl⟩, fun _ => ⟨y, ev_var rfl, rfl⟩⟩
      refine et_and (by array_get_dec) fun hy => ?_
      have hy : y ∈ ws := of_decide_eq_true hy
      have e1 := L.bs e
      refine et_bl (ev_eq (a := f y) (b := n) (ev_ixTd (ev_var rfl) (ev_var rfl) e1 hy) ?_ (by decide))
      have := ev_subN (a := f u) (b := 1) (ρ := [some (enc g), some (.ref k), some (enc x), some (enc (p ++ [u] : List Nm)), some (enc i), some (enc u), some (.ref ah), b7, some (enc y), b9, b10]) (S := S6) (fa := eOp pIdx (eVar 1) (eVar 5)) (fb := eC (.int 1)) (ev_ixTd (ev_var rfl) (ev_var rfl) e1 mu) ev_C (by omega)
      rw [show f u - 1 = n by omega] at this
      exact this
    rw [List.map_id] at lc
    refine lo_setL L (el_sorted (es_el lc) inferInstance inferInstance (Nat.le_trans (List.length_filter_le _ _) (by omega))) fun nh S7 L => ?_
    dsimp only [List.set]
    have ndf : ((thgs g.H rT u).filter fun y => decide (y ∈ ws) && decide (f y = n)).Nodup := (thgs_nodup o).sublist (List.filter_sublist)
    have dwu := hf u mu
    rw [en] at dwu
    obtain ⟨y0, m0, d0⟩ := dwu.step
    have dwf : ∀ y, DW (thgs g.H rT) y z n → y ∈ ws ∧ f y = n := fun y d => by
      obtain ⟨⟨w, kw, lw⟩, mn⟩ := d
      have my := (hw y).mpr ⟨w, kw⟩
      refine ⟨my, ?_⟩
      obtain ⟨⟨w2, kw2, lw2⟩, mn2⟩ := hf y my
      have := mn w2 kw2
      have := mn2 w kw
      omega
    have m0' : y0 ∈ (thgs g.H rT u).filter fun y => decide (y ∈ ws) && decide (f y = n) := by
      obtain ⟨h1, h2⟩ := dwf y0 d0
      exact List.mem_filter.mpr ⟨m0, by rw [decide_eq_true h1, decide_eq_true h2]; rfl⟩
    generalize hF : ((thgs g.H rT u).filter fun y => decide (y ∈ ws) && decide (f y = n)) = F at *
    have l0 : 0 < (sortE F).length := List.length_pos_of_mem (mem_sortE.mpr m0')
    have e0 : (sortE F)[0]? = some (sortE F)[0] := List.getElem?_eq_getElem l0
    generalize (sortE F)[0] = v at e0
    obtain ⟨mv, least⟩ := sortE_head ndf e0
    rw [← hF] at mv
    obtain ⟨mv, cv⟩ := List.mem_filter.mp mv
    simp only [Bool.and_eq_true, decide_eq_true_eq] at cv
    have e1 : Ev (eOp pAdd (eVar 3) (eTup (aCons (eOp pIdx (eVar 10) (eC (.int 0))) aNil)) [some (enc g), some (.ref k), some (enc x), some (enc (p ++ [u] : List Nm)), some (enc i), some (enc u), some (.ref ah), b7, b8, b9, some (.ref nh)]) S7 (enc ((p ++ [u]) ++ [v])) := by
      refine ev_addT (a := p ++ [u]) (b := [v]) (ev_var rfl) (ev_oneT (ev_ixLo (xs := sortE F) (i := 0) (by array_get_dec) (ev_Ce rfl) e0)) (by simp; omega)
    refine lo_set L e1 fun S8 L => ?_
    dsimp only [List.set]
    refine ⟨[], L.drop 2, p ++ [u], v, _, _, _, _, _, _, _, rfl, rfl, by rw [List.length_append, lp]; rfl, cv.1, by omega, fun t q => ?_⟩
    rw [List.append_assoc]
    refine gr _ ?_
    rw [en]
    refine .succ mv (by rw [← cv.2]; exact hf v cv.1) (fun t' m' d' => least t' ?_) (by rw [← cv.2]; exact q)
    obtain ⟨h1, h2⟩ := dwf t' d'
    rw [← hF]
    exact List.mem_filter.mpr ⟨m', by rw [decide_eq_true h1, decide_eq_true h2]; rfl⟩
  · rintro ρ S4 ls4 ⟨p, u, b4, b5, b6, b7, b8, b9, b10, rfl, rfl, lp, mu, fu, gr⟩ L
    refine lo_ret L (ev_var rfl) fun S5 L => ⟨⟨.inl ⟨p ++ [u], ?_, rfl⟩, fun w z => by rw [← enc_inj z, List.length_append, lp, List.length_singleton]; omega⟩, L.kp⟩
    have f0 : f u = 0 := by omega
    have d0 := hf u mu
    rw [f0] at d0
    have ez := DW.zero.mp d0
    subst ez
    have := gr [u] (by rw [f0]; exact .zero)
    exact (this.lw (hf x mx)).1
end
end
section
open PySem L2 PySem.W PyProof.Rows
open En (enc pd dep)
section
variable {M : List Nat} {S : Store} {ρ : Env} {g : Gt} {x y : Nm} {d e : D} {n m : Nat}
theorem reach_walk_ok (o : GOk g) (od : OdD M S n d) (oe : OdD M S m e) (hn : n ≤ 7) (hm : m ≤ 7) : ok (R.g_reach_walk [enc g, d, e] S) (fun r S' => (∃ x y, asN g.N d = some x ∧ asN g.N e = some y ∧ WkD (thgs g.H rT) x y r) ∧ Kp [] S S')
    (fun m fs S' => (m = ("UnknownName" : Str) ∧ ∃ b, fs = [(("name" : Str), b)] ∧ ((asN g.N d = none ∧ b = d) ∨ ((∃ x, asN g.N d = some x) ∧ asN g.N e = none ∧ b = e))) ∧ Kp [] S S') := by
  have lH := o.lenH
  unfold R.g_reach_walk
  rw [run3]
  unfold R.b_reach_walk
  apply s_seq
  apply s_expr (Φ := fun _ _ => True)
  · exact evP_call (ds := [enc g]) (by array_get_dec) (check_graph_ev o)
  intro _ S2 _ k2
  apply s_seq
  rw [so_expr, ok_eCall, ok_aCons, ok_eVar (d := enc g) (by rfl), ok_aCons, ok_eVar (d := d) (by rfl), ok_aNil]
  refine ok_mono (check_name_ok (od.kp k2) hn) (fun _ S3 h3 => ?_) fun m fs S3 hx => ?_
  rotate_left
  · obtain ⟨e1, e2, e3, k3⟩ := hx
    exact ⟨⟨e1, d, e2, .inl ⟨e3, rfl⟩⟩, k2.trans k3⟩
  obtain ⟨⟨x, ex⟩, k3⟩ := h3
  apply s_seq
  rw [so_expr, ok_eCall, ok_aCons, ok_eVar (d := enc g) (by rfl), ok_aCons, ok_eVar (d := e) (by rfl), ok_aNil]
  refine ok_mono (check_name_ok ((oe.kp k2).kp k3) hm) (fun _ S4 h4 => ?_) fun m fs S4 hx => ?_
  rotate_left
  · obtain ⟨e1, e2, e3, k4⟩ := hx
    exact ⟨⟨e1, e, e2, .inr ⟨⟨x, ex⟩, e3, rfl⟩⟩, k2.trans (k3.trans k4)⟩
  obtain ⟨⟨y, ey⟩, k4⟩ := h4
  obtain ⟨rfl, mx⟩ := asN_iff.mp ex
  obtain ⟨rfl, my⟩ := asN_iff.mp ey
  apply s_retK
  rw [ok_eCall, ok_aCons]
  refine EvP.ok (evP_call (ds := [enc g, enc rT]) (ea_cons (ev_var rfl) (ea_cons (ev_Ce rfl) ea_nil)) (things_by_ok (by omega))) fun r S5 ⟨nk, l, er, tb⟩ k5 => ?_
  subst er
  rw [ok_aCons, ok_eVar (d := enc x) (by rfl), ok_aCons, ok_eVar (d := enc y) (by rfl), ok_aNil]
  refine EvP.ok (walk_by_ok (y := y) tb g.N o.len (fun u v m => thgs_N o m) (fun u => Nat.le_trans thgs_len (by omega)) mx) fun r S6 hr k6 => ?_
  exact ⟨⟨x, y, ex, ey, hr⟩, k2.trans (k3.trans (k4.trans (k5.trans k6)))⟩
def unkT (d : D) : D := .tup [.str "unknown", d, .bl true]
def tldW (w : D) : D := .tup [.str "told", w]
theorem told_w (o : GOk g) (od : OdD M S n d) (oe : OdD M S m e) (hn : n ≤ 7) (hm : m ≤ 7) : EvP (R.g__law_told [enc g, d, e]) S fun r _ => match asN g.N d with
    | none => r = unkT d
    | some x => match asN g.N e with
      | none => r = unkT e
      | some y => ∃ w, r = tldW w ∧ WkD (thgs g.H rT) x y w := by
  refine evF rfl fun S1 k1 => ?_
  have od := od.kp k1
  have oe := oe.kp k1
  unfold R.b__law_told
  apply s_seq
  refine s_set (d := .tup [.str "other"]) (ev_tup (ea_cons ev_C ea_nil) (show 1 ≤ lim by decide)) fun S2 k2 => ?_
  apply s_seq
  rw [so_try]
  apply s_setK
  rw [ok_eTup, ok_aCons, ok_eC, ok_aCons, ok_eCall, ok_aCons, ok_eVar (d := enc g) (by rfl), ok_aCons, ok_eVar (d := d) (by rfl), ok_aCons, ok_eVar (d := e) (by rfl), ok_aNil]
  refine ok_mono (reach_walk_ok o (od.kp k2) (oe.kp k2) hn hm) (fun r S4 hr => ?_) fun mm fs S4 hx => ?_
  · obtain ⟨⟨x, y, e1, e2, hw⟩, k4⟩ := hr
    rw [ok_aNil]
    refine ⟨_, tupO_eq (show 2 ≤ lim by decide), ?_⟩
    refine s_ret (ev_var rfl) fun S5 k5 => ⟨?_, k2.trans (k4.trans k5)⟩
    rw [e1]
    dsimp only
    rw [e2]
    exact ⟨r, rfl, hw⟩
  · obtain ⟨⟨rfl, b, rfl, hb⟩, k4⟩ := hx
    refine ⟨?_, k2.trans k4⟩
    rcases hb with ⟨e1, rfl⟩ | ⟨⟨x, e1⟩, e2, rfl⟩
    · rw [e1]; rfl
    · rw [e1]; dsimp only; rw [e2]; rfl
theorem sm_wk {T : Store} {E : Nm → List Nm} {w : D} (h : WkD E x y w) (l : ∀ k : List Nm, w = enc k → k.length ≤ 1000) : SmN 16 T (tldW w) (tldW w) := sm_tup (n := 15) (show 2 ≤ 100000 by decide) fun e md => by
  simp only [List.mem_cons, List.not_mem_nil, or_false] at md
  rcases md with rfl | rfl
  · exact sm_str (by decide +kernel) (by decide)
  · rcases h with ⟨k, _, rfl⟩ | ⟨_, rfl⟩
    · exact sm_T (n := 14) (by have := l k rfl; omega) fun x _ => sm_w
    · exact sm_non
theorem sm_unk {T : Store} {d : D} (o : OdD M T n d) (hn : n ≤ 7) : SmN 16 T (unkT d) (unkT d) := sm_tup (n := 15) (show 3 ≤ 100000 by decide) fun e md => by
  simp only [List.mem_cons, List.not_mem_nil, or_false] at md
  rcases md with rfl | rfl | rfl
  · exact sm_str (by decide +kernel) (by decide)
  · exact (o.up (show n ≤ 14 by omega)).sm
  · exact sm_b
theorem good_w {i j l k : Nat} {ws : List Nm} {f : Nm → Nat} (o : GOk g) (mx : x ∈ g.N) (my : y ∈ g.N) (e0 : ρ[i]? = some (some (enc g))) (e1 : ρ[j]? = some (some (enc x))) (e2 : ρ[l]? = some (some (enc y))) {q : Nat} (e3 : ρ[q]? = some (some (.ref k)))
    (e : S[k]? = some (KeyC.mo (tdm ws f))) (nd : ws.Nodup) (inN : ∀ y ∈ ws, y ∈ g.N) (hw : ∀ z, z ∈ ws ↔ ∃ w, Wlk (thgs g.H rT) z y w) (hf : ∀ z ∈ ws, DW (thgs g.H rT) z y (f z)) (fb : ∀ y ∈ ws, f y ≤ 30) :
    Ev (tNot' (tTru (eCall R.g__law_same (aCons (eCall R.g__law_told (aCons (eVar i) (aCons (eVar j) (aCons (eVar l) aNil)))) (aCons (eTup (aCons (eC (.str "told")) (aCons (eCall R.g__law_walk (aCons (eVar i) (aCons (eVar q) (aCons (eVar j) aNil)))) aNil))) aNil)))) ρ) S false := by
  refine et_not (a := true) (et_tru (fun S1 k1 => ?_))
  have e := k1.get _ _ (fun z => nomatch z) e
  rw [ok_eCall, ok_aCons]
  refine EvP.ok (evP_call (ds := [enc g, enc x, enc y]) (ea_cons (ev_var e0) (ea_cons (ev_var e1) (ea_cons (ev_var e2) ea_nil))) (told_w (M := []) (n := 0) (m := 0) o (OdD.w x) (OdD.w y) (by decide) (by decide))) fun r S2 hr k2 => ?_
  rw [asN_some mx] at hr
  dsimp only at hr
  rw [asN_some my] at hr
  obtain ⟨w, rfl, hw1⟩ := hr
  rw [ok_aCons, ok_eTup, ok_aCons, ok_eC, ok_aCons]
  refine EvP.ok (evP_call (ds := [enc g, .ref k, enc x]) (ea_cons (ev_var e0) (ea_cons (ev_var e3) (ea_cons (ev_var e1) ea_nil))) (law_walk_ok o (k2.get _ _ (fun z => nomatch z) e) nd inN hw hf fb)) fun r S3 ⟨hw2, lw⟩ k3 => ?_
  obtain rfl := hw1.uniq hw2
  rw [ok_aNil]
  refine ⟨_, tupO_eq (show 2 ≤ lim by decide), ?_⟩
  rw [ok_aNil]
  exact ok_mono (same_ev (sm_wk hw1 lw) S3 .refl) (fun d S4 q => ⟨q.1, k2.trans (k3.trans q.2)⟩) fun _ _ _ z => z
theorem bad_w {i : Nat} {fx fy fb : ME} {d e b : D} {m' : Nat} (o : GOk g) (od : OdD M S n d) (oe : OdD M S m e) (hn : n ≤ 7) (hm : m ≤ 7) (hb : (asN g.N d = none ∧ b = d) ∨ ((∃ x, asN g.N d = some x) ∧ asN g.N e = none ∧ b = e)) (e0 : ρ[i]? = some (some (enc g))) (hx : Ev (fx ρ) S d) (hy : Ev (fy ρ) S e) (hfb : Ev (fb ρ) S b) :
    Ev (tNot' (tTru (eCall R.g__law_same (aCons (eCall R.g__law_told (aCons (eVar i) (aCons fx (aCons fy aNil)))) (aCons (eTup (aCons (eC (.str "unknown")) (aCons fb (aCons (eC (.bl true)) aNil)))) aNil)))) ρ) S false := by
  refine et_not (a := true) (et_tru (fun S1 k1 => ?_))
  rw [ok_eCall, ok_aCons]
  refine EvP.ok (evP_call (ds := [enc g, d, e]) (ea_cons (ev_var e0) (ea_cons (hx.kp k1) (ea_cons (hy.kp k1) ea_nil))) (told_w o (od.kp k1) (oe.kp k1) hn hm)) fun r S2 hr k2 => ?_
  have er : r = unkT b := by
    rcases hb with ⟨h1, rfl⟩ | ⟨⟨x, h1⟩, h2, rfl⟩
    · rw [h1] at hr; exact hr
    · rw [h1] at hr; dsimp only at hr; rw [h2] at hr; exact hr
  subst er
  rw [ok_aCons, ok_eTup, ok_aCons, ok_eC, ok_aCons]
  refine Ev.ok (show Ev (fb ρ) S2 b from hfb.kp (k1.trans k2)) fun S3 k3 => ?_
  rw [ok_aCons, ok_eC, ok_aNil]
  refine ⟨_, tupO_eq (show 3 ≤ lim by decide), ?_⟩
  rw [ok_aNil]
  have sm : SmN 16 S3 (unkT b) (unkT b) := by
    rcases hb with ⟨h1, rfl⟩ | ⟨_, h2, rfl⟩
    · exact sm_unk (((od.kp k1).kp k2).kp k3) hn
    · exact sm_unk (((oe.kp k1).kp k2).kp k3) hm
  exact ok_mono (same_ev sm S3 .refl) (fun d S4 q => ⟨q.1, k2.trans (k3.trans q.2)⟩) fun _ _ _ z => z
end
theorem law_true {ns : List Int} {m : MO} (hl : ns.length ≤ 63) (hm : m = .lst (ns.map D.int) ∨ m = .rol (ns.map D.int)) : ok (R.g_law [.ref 0] [m]) T1 X0 := by
  have s0 : Scr [m] 0 ns := hm.imp (fun e => by rw [e]; rfl) (fun e => by rw [e]; rfl)
  have lim' := lim_big
  unfold R.g_law
  rw [run1]
  unfold R.b_law
  apply s_seq
  refine s_forR (n := max 3 (min ns.length 12)) (fun i ρ S' => (∃ b1 b2 b3 b4 b5 b6 b7 b8 b9 bA, ρ = [some (.ref 0), b1, b2, b3, b4, b5, b6, b7, b8, b9, bA]) ∧ Scr S' 0 ns) ?_ (by omega) (fun S' k => ⟨⟨_, _, _, _, _, _, _, _, _, _, rfl⟩, s0.kp k (fun z => nomatch z)⟩) ?_ ?_
  · refine ev_maxN (a := 3) ev_C (ev_minN (b := 12) ?_ ev_C)
    have := ev_lenD (S := [m]) (ρ := [some (.ref 0), none, none, none, none, none, none, none, none, none, none]) (fa := eVar 0) (ev_var rfl) s0.sq
    rw [List.length_map] at this
    exact this
  · rintro i ρ S hi ⟨⟨b1, b2, b3, b4, b5, b6, b7, b8, b9, bA, rfl⟩, sc⟩
    refine ⟨_, rfl, ?_⟩
    dsimp only [List.set]
    apply s_seq
    apply s_setK
    refine k_call (ds := [.ref 0, enc i]) (by array_get_dec) fun S1 k1 => ?_
    have sc1 := sc.kp k1 (fun z => nomatch z)
    refine ok_mono (pot_spec sc1 (at' := i) (by omega)) (fun d S2 hd => ?_) fun _ _ _ z => z
    obtain ⟨rfl, p2, k2⟩ := hd
    have sc2 := sc1.kp k2 (fun z => nomatch z)
    have h0 : 0 ≠ S1.length := by have := sc1.lt; omega
    generalize S1.length = h at p2 h0
    have hm0 : (0 : Nat) ∉ [h] := fun z => h0 (List.mem_singleton.mp z)
    dsimp only [List.set]
    apply s_seq
    apply s_setK
    rw [ok_eCall, ok_aCons, ok_eVar (d := .ref h) (by rfl), ok_aCons, ok_eC, ok_aCons, ok_eC, ok_aCons, ok_eC, ok_aNil]
    refine any_graph_K (k := 99999599) (sm := 6) (om := 6) (hm := 26) p2 (by decide) (by decide) (by decide) fun g S3 o la1 la2 lo lh sh p3 k3 => ?_
    have p3 : PotOk S3 h 99999500 := p3.mono (by decide)
    have sc3 := sc2.kp k3 hm0
    have lN : g.N.length ≤ 30 := o.len
    have lN1 : 1 ≤ (sortE g.N).length := by rw [len_sortE]; show 1 ≤ (g.A ++ g.O).length; rw [List.length_append]; omega
    have lN2 : (sortE g.N).length ≤ 30 := by rw [len_sortE]; exact lN
    dsimp only [List.set]
    apply s_seq
    refine s_setL (xs := sortE g.N) (el_sorted (es_of (ev_addT (a := g.A) (b := g.O) (by array_get_dec) (by array_get_dec) (by show g.N.length ≤ lim; omega))) inferInstance inferInstance (by omega)) fun nh S4 g4 l4 k4 => ?_
    have hp4 := p3.lt
    have nh' : nh ≠ h := by omega
    have p4 := p3.kp k4 (fun z => nomatch z)
    have sc4 := sc3.kp k4 (fun z => nomatch z)
    dsimp only [List.set]
    apply s_seq
    refine s_forR (n := 3) (fun t ρ T => (∃ b5 b6 b7 b8, ρ = [some (.ref 0), some (enc i), some (.ref h), some (enc g), some (.ref nh), b5, b6, b7, b8, b9, bA]) ∧ PotOk T h (99999500 - t) ∧ Scr T 0 ns ∧ T[nh]? = some (.lst ((sortE g.N).map enc))) ev_C (by decide) (fun T k => ⟨⟨_, _, _, _, rfl⟩, p4.kp k (fun z => nomatch z), sc4.kp k (fun z => nomatch z), k.get _ _ (fun z => nomatch z) g4⟩) ?_ ?_
    · rintro t ρ T ht ⟨⟨b5, b6, b7, b8, rfl⟩, pT, sT, gT⟩
      refine ⟨_, rfl, ?_⟩
      dsimp only [List.set]
      apply s_seq
      apply s_setK
      apply k_op
      apply k_var rfl
      refine k_draw (k := 99999500 - (t + 1)) (many := (sortE g.N).length) (by rw [show 99999500 - (t + 1) + 1 = 99999500 - t by omega]; exact pT) rfl (ev_len (es_ref rfl gT)) lN1 (by omega) fun r T1 hr pT1 kT1 => ?_
      have gT1 := kT1.get _ _ (fun z => nh' (List.mem_singleton.mp z)) gT
      have er : (sortE g.N)[r]? = some (sortE g.N)[r] := List.getElem?_eq_getElem hr
      have mz : (sortE g.N)[r] ∈ g.N := mem_sortE.mp (List.getElem_mem hr)
      generalize (sortE g.N)[r] = z at er mz
      refine ⟨(enc z, T1), idxL gT1 (atI_enc er), ?_⟩
      have sT1 := sT.kp kT1 hm0
      dsimp only [List.set]
      apply s_seq
      refine s_setP (evP_call (ds := [enc g, enc z]) (by array_get_dec) (law_far_ok o mz)) fun d T2 ⟨fk, ws, f, ed, gf, lf, nd, inN, hw, hf, fb⟩ kT2 => ?_
      subst ed
      dsimp only [List.set]
      have gT2 := kT2.get _ _ (fun z => nomatch z) gT1
      refine s_forG (xs := sortE g.N) (d := .ref nh) (fun _ ρ U => (∃ b8, ρ = [some (.ref 0), some (enc i), some (.ref h), some (enc g), some (.ref nh), some (enc t), some (enc z), some (.ref fk), b8, b9, bA]) ∧ PotOk U h (99999500 - (t + 1)) ∧ Scr U 0 ns ∧ U[nh]? = some (.lst ((sortE g.N).map enc)) ∧ U[fk]? = some (KeyC.mo (tdm ws f))) (ev_var rfl) ?_ (by omega) ?_ ?_ ?_
      · rintro pre ρ U ⟨_, _, _, gU, _⟩
        exact .lst gU
      · exact fun U kU => ⟨⟨_, rfl⟩, (pT1.kp kT2 (fun z => nomatch z)).kp kU (fun z => nomatch z), (sT1.kp kT2 (fun z => nomatch z)).kp kU (fun z => nomatch z), kU.get _ _ (fun z => nomatch z) gT2, kU.get _ _ (fun z => nomatch z) gf⟩
      · rintro pre x suf ρ U ex ⟨⟨b8, rfl⟩, pU, sU, gU, fU⟩
        have mx : x ∈ g.N := mem_sortE.mp (by rw [ex]; simp)
        refine ⟨_, rfl, ?_⟩
        dsimp only [List.set]
        apply s_if (good_w o mx mz rfl rfl rfl rfl fU nd inN hw hf fb)
        · intro z; cases z
        intro _ U2 k
        exact s_nil ⟨⟨_, rfl⟩, pU.kp k (fun z => nomatch z), sU.kp k (fun z => nomatch z), k.get _ _ (fun z => nomatch z) gU, k.get _ _ (fun z => nomatch z) fU⟩
      · rintro ρ U ⟨⟨b8, rfl⟩, pU, sU, gU, fU⟩
        exact ⟨⟨_, _, _, _, rfl⟩, pU, sU, gU⟩
    · rintro ρ S5 ⟨⟨b5', b6', b7', b8', rfl⟩, p5, sc5, g5⟩
      apply s_seq
      apply s_parK
      rw [ok_aCons]
      apply k_op
      rw [ok_eLst]
      apply k_cons
      rw [ok_eCall, ok_aCons, ok_eVar (d := .ref h) (by rfl), ok_aNil]
      refine odd_K (k := 99999400) (p5.mono (by decide)) fun d S6 o6 w6 p6 k6 => ?_
      apply k_cons
      rw [ok_eCall, ok_aCons, ok_eVar (d := .ref h) (by rfl), ok_aCons, ok_eVar (d := enc g) (by rfl), ok_aNil]
      refine stranger_K (k := 99999300) (p6.mono (by decide)) o sh fun y S7 hy p7 k7 => ?_
      apply k_nil
      refine ⟨_, newL_eq (show 2 ≤ lim by decide), ?_⟩
      have g8 : (S7 ++ [MO.lst [d, enc y]])[S7.length]? = some (.lst [d, enc y]) := new_get
      have k8 : Kp [] S7 (S7 ++ [MO.lst [d, enc y]]) := Kp.new
      have nh7 : S7.length ≠ h := by have := p7.lt; omega
      dsimp only
      generalize S7 ++ [MO.lst [d, enc y]] = S8 at g8 k8
      refine k_draw (k := 99999299) (many := 2) (p7.kp k8 (fun z => nomatch z)) rfl ev_C (by decide) (by decide) fun r S9 hr p9 k9 => ?_
      have g9 := k9.get _ _ (fun z => nh7 (List.mem_singleton.mp z)) g8
      have er : [d, enc y][r]? = some [d, enc y][r] := List.getElem?_eq_getElem hr
      refine ⟨([d, enc y][r], S9), idxL g9 (atI_nat er), ?_⟩
      have mb : [d, enc y][r] ∈ [d, enc y] := List.getElem_mem hr
      generalize [d, enc y][r] = bad at mb
      have ob : OdD [h] S9 1 bad ∧ asN g.N bad = none := by
        simp only [List.mem_cons, List.not_mem_nil, or_false] at mb
        rcases mb with rfl | rfl
        · exact ⟨((o6.kp k7).kp k8).kp k9, asN_no w6⟩
        · exact ⟨OdD.w y, asN_none hy⟩
      have sc9 := (((sc5.kp k6 hm0).kp k7 hm0).kp k8 (fun z => nomatch z)).kp k9 hm0
      have kn : Kp [h] S5 S9 := k6.trans (k7.trans ((kp_l k8).trans k9))
      have g9n := kn.get _ _ (fun z => nh' (List.mem_singleton.mp z)) g5
      obtain ⟨ob, nb⟩ := ob
      rw [ok_aCons, ok_eCall, ok_aCons, ok_eVar (d := .ref h) (by rfl), ok_aNil]
      refine odd_K (k := 99999200) (p9.mono (by decide)) fun oth SA oA wA pA kA => ?_
      rw [ok_aNil]
      refine ⟨_, _, rfl, ?_⟩
      dsimp only [List.set]
      have obA := ob.kp kA
      have gA := kA.get _ _ (fun z => nh' (List.mem_singleton.mp z)) g9n
      have scA := sc9.kp kA hm0
      apply s_seq
      apply s_if (bad_w (m' := 0) o obA oA (by decide) (by decide) (.inl ⟨nb, rfl⟩) rfl (ev_var rfl) (ev_var rfl) (ev_var rfl))
      · intro z; cases z
      intro _ SB kB
      apply s_nil
      have gB := kB.get _ _ (fun z => nomatch z) gA
      obtain ⟨z, ez⟩ : ∃ z, (sortE g.N).getLast? = some z := by
        cases e : (sortE g.N).getLast? with
        | none => rw [List.getLast?_eq_none_iff] at e; rw [e] at lN1; simp at lN1
        | some z => exact ⟨z, rfl⟩
      have mz : z ∈ g.N := mem_sortE.mp (List.mem_of_getLast? ez)
      apply s_if (bad_w (m' := 0) (M := [h]) (d := enc z) (n := 0) o (OdD.w z) (obA.kp kB) (by decide) (by decide) (.inr ⟨⟨z, asN_some mz⟩, nb, rfl⟩) rfl (ev_last (es_ref rfl gB) ez) (ev_var rfl) (ev_var rfl))
      · intro z; cases z
      intro _ SC kC
      exact s_nil ⟨⟨_, _, _, _, _, _, _, _, _, _, rfl⟩, (scA.kp kB (fun z => nomatch z)).kp kC (fun z => nomatch z)⟩
  · rintro ρ S ⟨⟨b1, b2, b3, b4, b5, b6, b7, b8, b9, bA, rfl⟩, sc⟩
    exact s_ret ev_C fun S' _ => rfl
theorem _root_.R.law_plain : Plain R.g_law := by
  intro ns m hl hm
  have h := law_true hl hm
  generalize R.g_law [.ref 0] [m] = oo at h ⊢
  cases oo with
  | ok d S => exact ⟨S, by rw [show d = .bl true from h]⟩
  | exc n fs S => exact h.elim
  | bad => exact h.elim
end
end Mini
open PySem PySem.W PyProof.Rows L2

open Mini in
theorem PySem.Challenge.cw_rightspans_k13_walks_over_takes_holds : PySem.Challenge.rw_rightspans_k13_walks_over_takes.Holds := by
  w_on; o_law; k_head; (case hw => w_witness2)
  k_fill
  refine Mini.walk (l := PySem.Challenge.rw_rightspans_k13_walks_over_takes) (k := 19) rfl rfl ⟨rfl, by decide, by decide⟩ (fun w h Y => PySem.W.kIn_of Y) ?F
  case F =>
    intro w mg fa h KX G hmg
    have B : Blt mg := Blt.mk' KX G (by simp only [List.forall_mem_cons]; refine ⟨?_, ?_, ?_, ?_, ?_, ?_, ?_, ?_, ?_, ?_, ?_, ?_, ?_, ?_, ?_, ?_, ?_, ?_, ?_, ?_, fun _ h => nomatch h⟩ <;> k_is)
    have D_is_tuple_of : Def (R.frOf KX) mg "is_tuple_of" R.st_is_tuple_of ["length", "value"] := by
      unfold R.frOf
      refine' def_mk KX G ?a ?l ?c ?k (fun _ _ _ _ _ _ us hl => match us, hl with | [_, _], _ => rfl)
      (case a => k_is); (case l => k_is); (case c => k_is); (case k => k_is)
    have D_is_word : Def (R.frOf KX) mg "is_word" R.st_is_word ["value", "most"] := by
      unfold R.frOf
      refine' def_mk KX G ?a ?l ?c ?k (fun _ _ _ _ _ _ us hl => match us, hl with | [_, _], _ => rfl)
      (case a => k_is); (case l => k_is); (case c => k_is); (case k => k_is)
    have D_is_name : Def (R.frOf KX) mg "is_name" R.st_is_name ["value"] := by
      unfold R.frOf
      refine' def_mk KX G ?a ?l ?c ?k (fun _ _ _ _ _ _ us hl => match us, hl with | [_], _ => rfl)
      (case a => k_is); (case l => k_is); (case c => k_is); (case k => k_is)
    have D_is_right : Def (R.frOf KX) mg "is_right" R.st_is_right ["value"] := by
      unfold R.frOf
      refine' def_mk KX G ?a ?l ?c ?k (fun _ _ _ _ _ _ us hl => match us, hl with | [_], _ => rfl)
      (case a => k_is); (case l => k_is); (case c => k_is); (case k => k_is)
    have D_names_fault : Def (R.frOf KX) mg "names_fault" R.st_names_fault ["part", "names", "others"] := by
      unfold R.frOf
      refine' def_mk KX G ?a ?l ?c ?k (fun _ _ _ _ _ _ us hl => match us, hl with | [_, _, _], _ => rfl)
      (case a => k_is); (case l => k_is); (case c => k_is); (case k => k_is)
    have D_is_hold_of : Def (R.frOf KX) mg "is_hold_of" R.st_is_hold_of ["names", "value"] := by
      unfold R.frOf
      refine' def_mk KX G ?a ?l ?c ?k (fun _ _ _ _ _ _ us hl => match us, hl with | [_, _], _ => rfl)
      (case a => k_is); (case l => k_is); (case c => k_is); (case k => k_is)
    have D_graph_fault : Def (R.frOf KX) mg "graph_fault" R.st_graph_fault ["value"] := by
      unfold R.frOf
      refine' def_mk KX G ?a ?l ?c ?k (fun _ _ _ _ _ _ us hl => match us, hl with | [_], _ => rfl)
      (case a => k_is); (case l => k_is); (case c => k_is); (case k => k_is)
    have D_check_graph : Def (R.frOf KX) mg "check_graph" R.st_check_graph ["graph"] := by
      unfold R.frOf
      refine' def_mk KX G ?a ?l ?c ?k (fun _ _ _ _ _ _ us hl => match us, hl with | [_], _ => rfl)
      (case a => k_is); (case l => k_is); (case c => k_is); (case k => k_is)
    have D_has_name : Def (R.frOf KX) mg "has_name" R.st_has_name ["graph", "value"] := by
      unfold R.frOf
      refine' def_mk KX G ?a ?l ?c ?k (fun _ _ _ _ _ _ us hl => match us, hl with | [_, _], _ => rfl)
      (case a => k_is); (case l => k_is); (case c => k_is); (case k => k_is)
    have D_check_name : Def (R.frOf KX) mg "check_name" R.st_check_name ["graph", "name"] := by
      unfold R.frOf
      refine' def_mk KX G ?a ?l ?c ?k (fun _ _ _ _ _ _ us hl => match us, hl with | [_, _], _ => rfl)
      (case a => k_is); (case l => k_is); (case c => k_is); (case k => k_is)
    have D_things_by : Def (R.frOf KX) mg "things_by" R.st_things_by ["graph", "right"] := by
      unfold R.frOf
      refine' def_mk KX G ?a ?l ?c ?k (fun _ _ _ _ _ _ us hl => match us, hl with | [_, _], _ => rfl)
      (case a => k_is); (case l => k_is); (case c => k_is); (case k => k_is)
    have D_walk_by : Def (R.frOf KX) mg "walk_by" R.st_walk_by ["near", "start", "goal"] := by
      unfold R.frOf
      refine' def_mk KX G ?a ?l ?c ?k (fun _ _ _ _ _ _ us hl => match us, hl with | [_, _, _], _ => rfl)
      (case a => k_is); (case l => k_is); (case c => k_is); (case k => k_is)
    have D_reach_walk : Def (R.frOf KX) mg "reach_walk" R.st_reach_walk ["graph", "x", "y"] := by
      unfold R.frOf
      refine' def_mk KX G ?a ?l ?c ?k (fun _ _ _ _ _ _ us hl => match us, hl with | [_, _, _], _ => rfl)
      (case a => k_is); (case l => k_is); (case c => k_is); (case k => k_is)
    have D__law_pot : Def (R.frOf KX) mg "_law_pot" R.st__law_pot ["script", "at"] := by
      unfold R.frOf
      refine' def_mk KX G ?a ?l ?c ?k (fun _ _ _ _ _ _ us hl => match us, hl with | [_, _], _ => rfl)
      (case a => k_is); (case l => k_is); (case c => k_is); (case k => k_is)
    have D__law_draw : Def (R.frOf KX) mg "_law_draw" R.st__law_draw ["pot", "many"] := by
      unfold R.frOf
      refine' def_mk KX G ?a ?l ?c ?k (fun _ _ _ _ _ _ us hl => match us, hl with | [_, _], _ => rfl)
      (case a => k_is); (case l => k_is); (case c => k_is); (case k => k_is)
    have D__law_name : Def (R.frOf KX) mg "_law_name" R.st__law_name ["pot"] := by
      unfold R.frOf
      refine' def_mk KX G ?a ?l ?c ?k (fun _ _ _ _ _ _ us hl => match us, hl with | [_], _ => rfl)
      (case a => k_is); (case l => k_is); (case c => k_is); (case k => k_is)
    have D__law_names : Def (R.frOf KX) mg "_law_names" R.st__law_names ["pot", "many"] := by
      unfold R.frOf
      refine' def_mk KX G ?a ?l ?c ?k (fun _ _ _ _ _ _ us hl => match us, hl with | [_, _], _ => rfl)
      (case a => k_is); (case l => k_is); (case c => k_is); (case k => k_is)
    have D__law_rights : Def (R.frOf KX) mg "_law_rights" R.st__law_rights ["pot"] := by
      unfold R.frOf
      refine' def_mk KX G ?a ?l ?c ?k (fun _ _ _ _ _ _ us hl => match us, hl with | [_], _ => rfl)
      (case a => k_is); (case l => k_is); (case c => k_is); (case k => k_is)
    have D__law_graph : Def (R.frOf KX) mg "_law_graph" R.st__law_graph ["pot", "subjects_most", "objects_most", "holds_most"] := by
      unfold R.frOf
      refine' def_mk KX G ?a ?l ?c ?k (fun _ _ _ _ _ _ us hl => match us, hl with | [_, _, _, _], _ => rfl)
      (case a => k_is); (case l => k_is); (case c => k_is); (case k => k_is)
    have D__law_is_word : Def (R.frOf KX) mg "_law_is_word" R.st__law_is_word ["value", "most"] := by
      unfold R.frOf
      refine' def_mk KX G ?a ?l ?c ?k (fun _ _ _ _ _ _ us hl => match us, hl with | [_, _], _ => rfl)
      (case a => k_is); (case l => k_is); (case c => k_is); (case k => k_is)
    have D__law_same : Def (R.frOf KX) mg "_law_same" R.st__law_same ["got", "due"] := by
      unfold R.frOf
      refine' def_mk KX G ?a ?l ?c ?k (fun _ _ _ _ _ _ us hl => match us, hl with | [_, _], _ => rfl)
      (case a => k_is); (case l => k_is); (case c => k_is); (case k => k_is)
    have D__law_odd : Def (R.frOf KX) mg "_law_odd" R.st__law_odd ["pot"] := by
      unfold R.frOf
      refine' def_mk KX G ?a ?l ?c ?k (fun _ _ _ _ _ _ us hl => match us, hl with | [_], _ => rfl)
      (case a => k_is); (case l => k_is); (case c => k_is); (case k => k_is)
    have D__law_stranger : Def (R.frOf KX) mg "_law_stranger" R.st__law_stranger ["pot", "graph"] := by
      unfold R.frOf
      refine' def_mk KX G ?a ?l ?c ?k (fun _ _ _ _ _ _ us hl => match us, hl with | [_, _], _ => rfl)
      (case a => k_is); (case l => k_is); (case c => k_is); (case k => k_is)
    have D__law_row_graph : Def (R.frOf KX) mg "_law_row_graph" R.st__law_row_graph ["pot", "subjects_most", "objects_most"] := by
      unfold R.frOf
      refine' def_mk KX G ?a ?l ?c ?k (fun _ _ _ _ _ _ us hl => match us, hl with | [_, _, _], _ => rfl)
      (case a => k_is); (case l => k_is); (case c => k_is); (case k => k_is)
    have D__law_any_graph : Def (R.frOf KX) mg "_law_any_graph" R.st__law_any_graph ["pot", "subjects_most", "objects_most", "holds_most"] := by
      unfold R.frOf
      refine' def_mk KX G ?a ?l ?c ?k (fun _ _ _ _ _ _ us hl => match us, hl with | [_, _, _, _], _ => rfl)
      (case a => k_is); (case l => k_is); (case c => k_is); (case k => k_is)
    have D__law_told : Def (R.frOf KX) mg "_law_told" R.st__law_told ["graph", "x", "y"] := by
      unfold R.frOf
      refine' def_mk KX G ?a ?l ?c ?k (fun _ _ _ _ _ _ us hl => match us, hl with | [_, _, _], _ => rfl)
      (case a => k_is); (case l => k_is); (case c => k_is); (case k => k_is)
    have D__law_far : Def (R.frOf KX) mg "_law_far" R.st__law_far ["graph", "goal"] := by
      unfold R.frOf
      refine' def_mk KX G ?a ?l ?c ?k (fun _ _ _ _ _ _ us hl => match us, hl with | [_, _], _ => rfl)
      (case a => k_is); (case l => k_is); (case c => k_is); (case k => k_is)
    have D__law_walk : Def (R.frOf KX) mg "_law_walk" R.st__law_walk ["graph", "far", "x"] := by
      unfold R.frOf
      refine' def_mk KX G ?a ?l ?c ?k (fun _ _ _ _ _ _ us hl => match us, hl with | [_, _, _], _ => rfl)
      (case a => k_is); (case l => k_is); (case c => k_is); (case k => k_is)
    have D_law : Def (R.frOf KX) mg "law" R.st_law ["script"] := by
      unfold R.frOf
      refine' def_mk KX G ?a ?l ?c ?k (fun _ _ _ _ _ _ us hl => match us, hl with | [_], _ => rfl)
      (case a => k_is); (case l => k_is); (case c => k_is); (case k => k_is)
    obtain ⟨v_LETTERS, r_LETTERS, c_LETTERS⟩ : ∃ v : Value, (∃ t, v = .str "abcdefghijklmnopqrstuvwxyz" t) ∧ mg "LETTERS" = some v := by
      refine' ⟨_, ?r_LETTERS, PySem.W.mg_of KX G ?e_LETTERS⟩; (case e_LETTERS => k_is); (case r_LETTERS => exact ⟨_, rfl⟩)
    obtain ⟨t_LETTERS, rfl⟩ := r_LETTERS
    obtain ⟨v_MOST_LETTERS, r_MOST_LETTERS, c_MOST_LETTERS⟩ : ∃ v : Value, (∃ t, v = .int 8 t) ∧ mg "MOST_LETTERS" = some v := by
      refine' ⟨_, ?r_MOST_LETTERS, PySem.W.mg_of KX G ?e_MOST_LETTERS⟩; (case e_MOST_LETTERS => k_is); (case r_MOST_LETTERS => exact ⟨_, rfl⟩)
    obtain ⟨t_MOST_LETTERS, rfl⟩ := r_MOST_LETTERS
    obtain ⟨v_MOST_RIGHT, r_MOST_RIGHT, c_MOST_RIGHT⟩ : ∃ v : Value, (∃ t, v = .int 3 t) ∧ mg "MOST_RIGHT" = some v := by
      refine' ⟨_, ?r_MOST_RIGHT, PySem.W.mg_of KX G ?e_MOST_RIGHT⟩; (case e_MOST_RIGHT => k_is); (case r_MOST_RIGHT => exact ⟨_, rfl⟩)
    obtain ⟨t_MOST_RIGHT, rfl⟩ := r_MOST_RIGHT
    obtain ⟨v_TAKE, r_TAKE, c_TAKE⟩ : ∃ v : Value, (∃ t, v = .str "t" t) ∧ mg "TAKE" = some v := by
      refine' ⟨_, ?r_TAKE, PySem.W.mg_of KX G ?e_TAKE⟩; (case e_TAKE => k_is); (case r_TAKE => exact ⟨_, rfl⟩)
    obtain ⟨t_TAKE, rfl⟩ := r_TAKE
    obtain ⟨a_InvalidGraph, a_RightError, a_UnknownName, Y⟩ : ∃ a_InvalidGraph a_RightError a_UnknownName : Addr, R.CF PySem.Challenge.rw_rightspans_k13_walks_over_takes.prog w (R.frOf KX) mg a_InvalidGraph a_RightError a_UnknownName := by
      unfold R.frOf
      refine' ⟨?A_InvalidGraph, ?A_RightError, ?A_UnknownName, ⟨ClsF.mk' KX G ?h0 ?h1 ?h2 ?h3 ?h4, ClsF.mk' KX G ?h5 ?h6 ?h7 ?h8 ?h9, ClsF.mk' KX G ?h10 ?h11 ?h12 ?h13 ?h14, fcls_mk (st := R.inn 2) KX G ?h15 ?h16 ?h17 ?h18 ?h19 ?h20 ?h21 ?h22 ?h23 ?h24 ?h25 ?h26 ?h27 ?h28 ?h29 ?h30 ?h31 ?h32 ?h33 ?h34 ?h35 ?h36 rfl rfl rfl rfl rfl rfl (by decide) (by decide) rfl rfl rfl rfl (by decide) (by decide) (by decide) (by rfl) (fun _ => by rfl) (fun _ => by rfl) (fun _ => by rfl) (fun _ => ⟨_, rfl⟩) ?h37, ⟨?h38, ?h39, ?h40, ?h41, ?h42⟩, ⟨?h43, ?h44, ?h45, ?h46, ?h47, ?h48, ?h49, ?h50⟩, ?h51, ?h52, fcls_mk (st := R.inn 3) KX G ?h53 ?h54 ?h55 ?h56 ?h57 ?h58 ?h59 ?h60 ?h61 ?h62 ?h63 ?h64 ?h65 ?h66 ?h67 ?h68 ?h69 ?h70 ?h71 ?h72 ?h73 ?h74 rfl rfl rfl rfl rfl rfl (by decide) (by decide) rfl rfl rfl rfl (by decide) (by decide) (by decide) (by rfl) (fun _ => by rfl) (fun _ => by rfl) (fun _ => by rfl) (fun _ => ⟨_, rfl⟩) ?h75, ⟨?h76, ?h77, ?h78, ?h79, ?h80⟩, ⟨?h81, ?h82, ?h83, ?h84, ?h85, ?h86, ?h87, ?h88⟩, ?h89, ?h90⟩⟩
      (case h0 => k_is)
      (case h1 => k_is)
      (case h2 => k_is)
      (case h3 => k_is)
      (case h4 => k_is)
      (case h5 => k_is)
      (case h6 => k_is)
      (case h7 => k_is)
      (case h8 => k_is)
      (case h9 => k_is)
      (case h10 => k_is)
      (case h11 => k_is)
      (case h12 => k_is)
      (case h13 => k_is)
      (case h14 => k_is)
      (case h15 => first | rfl | k_is)
      (case h16 => first | rfl | k_is)
      (case h17 => first | rfl | k_is)
      (case h18 => first | rfl | k_is)
      (case h19 => first | rfl | k_is)
      (case h20 => first | rfl | k_is)
      (case h21 => first | rfl | k_is)
      (case h22 => first | rfl | k_is)
      (case h23 => first | rfl | k_is)
      (case h24 => first | rfl | k_is)
      (case h25 => first | rfl | k_is)
      (case h26 => first | rfl | k_is)
      (case h27 => first | rfl | k_is)
      (case h28 => first | rfl | k_is)
      (case h29 => first | rfl | k_is)
      (case h30 => first | rfl | k_is)
      (case h31 => first | rfl | k_is)
      (case h32 => first | rfl | k_is)
      (case h33 => first | rfl | k_is)
      (case h34 => first | rfl | k_is)
      (case h35 => first | rfl | k_is)
      (case h36 => first | rfl | k_is)
      (case h37 => exact fun us hl => match us, hl with | [_, _], _ => rfl)
      (case h38 => k_is)
      (case h39 => k_is)
      (case h40 => k_is)
      (case h41 => k_is)
      (case h42 => k_is)
      (case h43 => k_is)
      (case h44 => k_is)
      (case h45 => k_is)
      (case h46 => k_is)
      (case h47 => k_is)
      (case h48 => k_is)
      (case h49 => k_is)
      (case h50 => k_is)
      (case h51 => first | rfl | k_is)
      (case h52 => first | rfl | k_is)
      (case h53 => first | rfl | k_is)
      (case h54 => first | rfl | k_is)
      (case h55 => first | rfl | k_is)
      (case h56 => first | rfl | k_is)
      (case h57 => first | rfl | k_is)
      (case h58 => first | rfl | k_is)
      (case h59 => first | rfl | k_is)
      (case h60 => first | rfl | k_is)
      (case h61 => first | rfl | k_is)
      (case h62 => first | rfl | k_is)
      (case h63 => first | rfl | k_is)
      (case h64 => first | rfl | k_is)
      (case h65 => first | rfl | k_is)
      (case h66 => first | rfl | k_is)
      (case h67 => first | rfl | k_is)
      (case h68 => first | rfl | k_is)
      (case h69 => first | rfl | k_is)
      (case h70 => first | rfl | k_is)
      (case h71 => first | rfl | k_is)
      (case h72 => first | rfl | k_is)
      (case h73 => first | rfl | k_is)
      (case h74 => first | rfl | k_is)
      (case h75 => exact fun us hl => match us, hl with | [_, _], _ => rfl)
      (case h76 => k_is)
      (case h77 => k_is)
      (case h78 => k_is)
      (case h79 => k_is)
      (case h80 => k_is)
      (case h81 => k_is)
      (case h82 => k_is)
      (case h83 => k_is)
      (case h84 => k_is)
      (case h85 => k_is)
      (case h86 => k_is)
      (case h87 => k_is)
      (case h88 => k_is)
      (case h89 => first | rfl | k_is)
      (case h90 => first | rfl | k_is)
    exact law_end D_law hmg (fun _ _ _ _ _ _ _ => rfl) (R.law_does B Y c_LETTERS c_MOST_LETTERS c_MOST_RIGHT c_TAKE D_is_tuple_of D_is_word D_is_name D_is_right D_names_fault D_is_hold_of D_graph_fault D_check_graph D_has_name D_check_name D_things_by D_walk_by D_reach_walk D__law_pot D__law_draw D__law_name D__law_names D__law_rights D__law_graph D__law_is_word D__law_same D__law_odd D__law_stranger D__law_row_graph D__law_any_graph D__law_told D__law_far D__law_walk D_law) R.law_plain
