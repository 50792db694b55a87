import PyProof.Rows.All
import Wide.All
import OpenK.AllK
import Wide.FinOn
import KE.KStateDown
import Lean
import HandS.ForMost
import HandS.More
import HandS.Words
import HandS.WordsExc
import HandS.Defaults
import HandS.Head0
import HandS.Head1
import HandS.Head2
import HandS.HeadEnd
import HandS.HeadHook1
import HandS.HeadHook2
import HandS.Flow
import HandS.Style
import HandS.TupAny
import HandS.TupMul
import HandS.TupLen
import HandS.Zip
import HandS.Rev
import HandS.RevRange
import HandS.SortInts
import HandS.IsInst
import HandS.StrMore
import HandS.Wide
import HandS.WideMore
import HandS.WideBits
import HandS.Deep
import HandS.DeepEq
import HandS.Ends
import PySem.Challenge.RW_nearreach_k36_cuts_looked_at
set_option Elab.async false
set_option linter.all false
set_option maxRecDepth 100000

/-! Den: values, stores and what the constructs mean (plain Lean, no program). -/
set_option linter.all false
namespace NR

/-- a value: tuples and frozen lists by value, mutable objects by their place in the store -/
inductive D where
  | non | bl (b : Bool) | int (i : Int) | str (s : List Nat)
  | tup (l : List D) | lst (l : List D) | dic (ks vs : List D)
  | ref (n : Nat) | exn (c : Nat)
  /-- the script -/
  | scr (l : List Int)
  deriving Inhabited, Repr

inductive Ob where
  | lst (l : List D)
  /-- t: the keys are tuples -/
  | dic (t : Bool) (kvs : List (D × D))
  | ins (c : Nat) (fs : List (String × D))
  | gone
  deriving Inhabited, Repr

abbrev Store := List Ob

inductive Res (α : Type) where
  | ok (a : α) (S : Store)
  | exc (c : Nat) (S : Store)
  | no
  deriving Inhabited, Repr

@[inline] def Res.bind {α β : Type} (r : Res α) (f : α → Store → Res β) : Res β := match r with
  | .ok a S => f a S
  | .exc c S => .exc c S
  | .no => .no
@[simp] theorem Res.bind_ok {α β : Type} (a : α) (S : Store) (f : α → Store → Res β) : (Res.ok a S).bind f = f a S := rfl
@[simp] theorem Res.bind_no {α β : Type} (f : α → Store → Res β) : (Res.no : Res α).bind f = .no := rfl
@[simp] theorem Res.bind_exc {α β : Type} (c : Nat) (S : Store) (f : α → Store → Res β) : (Res.exc c S : Res α).bind f = .exc c S := rfl

/-! ### references -/
mutual
/-- all references are below b -/
def bel (b : Nat) : D → Bool
  | .tup l => bels b l
  | .lst l => bels b l
  | .dic ks vs => bels b ks && bels b vs
  | .ref n => decide (n < b)
  | _ => true
def bels (b : Nat) : List D → Bool
  | [] => true
  | d :: l => bel b d && bels b l
end
mutual
theorem bel_mono {b c : Nat} (h : b ≤ c) : ∀ {d : D}, bel b d = true → bel c d = true
  | .non, _ => rfl
  | .bl _, _ => rfl
  | .int _, _ => rfl
  | .str _, _ => rfl
  | .exn _, _ => rfl
  | .scr _, _ => rfl
  | .ref n, e => by
    simp only [bel, decide_eq_true_eq] at e ⊢
    omega
  | .tup l, e => by
    simp only [bel] at e ⊢
    exact bels_mono h e
  | .lst l, e => by
    simp only [bel] at e ⊢
    exact bels_mono h e
  | .dic ks vs, e => by
    simp only [bel, Bool.and_eq_true] at e ⊢
    exact ⟨bels_mono h e.1, bels_mono h e.2⟩
theorem bels_mono {b c : Nat} (h : b ≤ c) : ∀ {l : List D}, bels b l = true → bels c l = true
  | [], _ => rfl
  | d :: l, e => by
    simp only [bels, Bool.and_eq_true] at e ⊢
    exact ⟨bel_mono h e.1, bels_mono h e.2⟩
end
theorem bels_all {b : Nat} : ∀ {l : List D}, bels b l = l.all (bel b)
  | [] => rfl
  | d :: l => by rw [bels, bels_all, List.all_cons]
theorem bels_mem {b : Nat} {l : List D} (h : bels b l = true) {d : D} (m : d ∈ l) : bel b d = true := by
  rw [bels_all, List.all_eq_true] at h
  exact h d m
theorem bels_of {b : Nat} {l : List D} (h : ∀ d ∈ l, bel b d = true) : bels b l = true := by
  rw [bels_all, List.all_eq_true]
  exact h
def belp (b : Nat) : List (D × D) → Bool
  | [] => true
  | (k, v) :: l => bel b k && bel b v && belp b l
def belf (b : Nat) : List (String × D) → Bool
  | [] => true
  | (_, v) :: l => bel b v && belf b l
def belO (b : Nat) : Ob → Bool
  | .lst l => bels b l
  | .dic _ kvs => belp b kvs
  | .ins _ fs => belf b fs
  | .gone => true

/-! ### freezing: a value with the objects from b on by value -/
def fz (S : Store) (b : Nat) : Nat → D → Option D
  | 0, _ => none
  | k + 1, d => if bel b d = true then some d else match d with
    | .tup l => (l.mapM (fz S b k)).map .tup
    | .lst l => (l.mapM (fz S b k)).map .lst
    | .ref n => match S[n]? with
      | some (.lst l) => (l.mapM (fz S b k)).map .lst
      | some (.dic _ kvs) => (kvs.mapM (fun p => fz S b k p.2)).map fun vs => .dic (kvs.map (·.1)) vs
      | _ => none
    | _ => none
def fuelF : Nat := 40
theorem fz_of_bel {S : Store} {b k : Nat} {d : D} (h : bel b d = true) : fz S b (k + 1) d = some d := by
  unfold fz
  rw [if_pos h]

/-! ### meanings -/
abbrev Env := List (Option D)
abbrev Ex := Nat → Env → Store → Res D
abbrev Exs := Nat → Env → Store → Res (List D)
abbrev Te := Nat → Env → Store → Res Bool
abbrev Fn := Nat → List D → Store → Res D

/-- in a region of its own: what is new is frozen into the value, and let go -/
def gc (m : Ex) : Ex := fun b ρ S => match m S.length ρ S with
  | .ok d S' => match fz S' S.length fuelF d with
    | some d' => .ok d' (S'.take S.length)
    | none => .no
  | .exc c S' => .exc c (S'.take S.length)
  | .no => .no
/-- a call in a region of its own -/
def gcF (f : Fn) : Fn := fun _ ds S => match f S.length ds S with
  | .ok d S' => match fz S' S.length fuelF d with
    | some d' => .ok d' (S'.take S.length)
    | none => .no
  | .exc c S' => .exc c (S'.take S.length)
  | .no => .no

def eV (i : Nat) : Ex := fun _ ρ S => match ρ[i]? with
  | some (some d) => .ok d S
  | _ => .no
def eC (d : D) : Ex := fun _ _ S => .ok d S
abbrev P1 := Nat → D → Store → Res D
abbrev P2 := Nat → D → D → Store → Res D
abbrev P3 := Nat → D → D → D → Store → Res D
abbrev PN := Nat → List D → Store → Res D
def e1 (f : P1) (x : Ex) : Ex := fun b ρ S => (x b ρ S).bind fun dx S => f b dx S
def e2 (f : P2) (x y : Ex) : Ex := fun b ρ S => (x b ρ S).bind fun dx S => (y b ρ S).bind fun dy S => f b dx dy S
def aN : Exs := fun _ _ S => .ok [] S
def aC (x : Ex) (r : Exs) : Exs := fun b ρ S => (x b ρ S).bind fun d S => (r b ρ S).bind fun ds S => .ok (d :: ds) S
def eN (f : PN) (as : Exs) : Ex := fun b ρ S => (as b ρ S).bind fun ds S => f b ds S
/-- a call of a def that lets nothing out -/
def eCall (f : Fn) (as : Exs) : Ex := fun b ρ S => (as b ρ S).bind fun ds S => match f b ds S with
  | .ok d S => .ok d S
  | _ => .no
/-- a call of a def that may raise -/
def eCallX (f : Fn) (as : Exs) : Ex := fun b ρ S => (as b ρ S).bind fun ds S => f b ds S

/-! ### new objects -/
def line : Nat := 16777216
def new (o : Ob) (S : Store) : Res D := .ok (.ref S.length) (S ++ [o])
def pTup : PN := fun _ ds S => if ds.length ≤ line then .ok (.tup ds) S else .no
def pLst : PN := fun _ ds S => if ds.length ≤ line then new (.lst ds) S else .no
def eDic0 (t : Bool) : Ex := fun _ _ S => new (.dic t []) S

/-- the items of a list or a tuple -/
def items (S : Store) : D → Option (List D)
  | .tup l => some l
  | .lst l => some l
  | .ref n => match S[n]? with
    | some (.lst l) => some l
    | _ => none
  | _ => none
def isL : D → Bool
  | .lst _ => true
  | .ref _ => true
  | _ => false

/-! ### numbers -/
def big (i j : Int) : Bool := decide (i.natAbs < 2 ^ 64) || decide (j.natAbs < 2 ^ 64) || (decide (i.natAbs < 2 ^ 4000) && decide (j.natAbs < 2 ^ 4000))
def pAdd : P2 := fun _ x y S => match x, y with
  | .int i, .int j => .ok (.int (i + j)) S
  | .str a, .str b => if a.length + b.length ≤ line then .ok (.str (a ++ b)) S else .no
  | .tup a, .tup b => if a.length + b.length ≤ line then .ok (.tup (a ++ b)) S else .no
  | x, y => if isL x && isL y then match items S x, items S y with
      | some a, some b => if a.length + b.length ≤ line then new (.lst (a ++ b)) S else .no
      | _, _ => .no
    else .no
def pSub : P2 := fun _ x y S => match x, y with
  | .int i, .int j => .ok (.int (i - j)) S
  | _, _ => .no
def rep {α : Type} (k : Int) (l : List α) : List α := (List.replicate k.toNat l).flatten
def pMul : P2 := fun _ x y S => match x, y with
  | .int i, .int j => if big i j then .ok (.int (i * j)) S else .no
  | .str a, .int k => if k < 2 ^ 60 ∧ -(2 ^ 60) < k ∧ a.length * k.toNat ≤ line then .ok (.str (rep k a)) S else .no
  | .tup a, .int k => if k < 2 ^ 60 ∧ -(2 ^ 60) < k ∧ a.length * k.toNat ≤ line then .ok (.tup (rep k a)) S else .no
  | x, .int k => if isL x then match items S x with
      | some a => if k < 2 ^ 60 ∧ -(2 ^ 60) < k ∧ a.length * k.toNat ≤ line then new (.lst (rep k a)) S else .no
      | none => .no
    else .no
  | _, _ => .no
def pDiv : P2 := fun _ x y S => match x, y with
  | .int i, .int j => if 0 < j ∧ j < 1073741824 then .ok (.int (i / j)) S else .no
  | _, _ => .no
def pMod : P2 := fun _ x y S => match x, y with
  | .int i, .int j => if 0 < j then .ok (.int (i % j)) S else .no
  | _, _ => .no
def pPow : P2 := fun _ x y S => match x, y with
  | .int i, .int j => if 0 ≤ j ∧ j ≤ 1000000 ∧ i.natAbs < 2 ^ 64 then .ok (.int (i ^ j.toNat)) S else .no
  | _, _ => .no
def pNeg : P1 := fun _ x S => match x with
  | .int i => .ok (.int (-i)) S
  | _ => .no

/-! ### comparisons -/
def pLt : P2 := fun _ x y S => match x, y with | .int i, .int j => .ok (.bl (decide (i < j))) S | _, _ => .no
def pLe : P2 := fun _ x y S => match x, y with | .int i, .int j => .ok (.bl (decide (i ≤ j))) S | _, _ => .no
def pGt : P2 := fun _ x y S => match x, y with | .int i, .int j => .ok (.bl (decide (j < i))) S | _, _ => .no
def pGe : P2 := fun _ x y S => match x, y with | .int i, .int j => .ok (.bl (decide (j ≤ i))) S | _, _ => .no
def pIsN : P1 := fun _ x S => .ok (.bl (match x with | .non => true | _ => false)) S
def pNotN : P1 := fun _ x S => .ok (.bl (match x with | .non => false | _ => true)) S
def pIsB (k : Bool) : P1 := fun _ x S => match x with
  | .bl b => .ok (.bl (decide (b = k))) S
  | _ => .no

/-- the value with all objects read -/
def rd (S : Store) (d : D) : Option D := fz S 0 fuelF d
mutual
/-- ==, of data of numbers, truths, None, texts, lists, tuples -/
def eqD : D → D → Bool
  | .non, .non => true
  | .bl a, .bl b => a == b
  | .bl a, .int j => (if a then 1 else 0) == j
  | .int i, .bl b => i == (if b then 1 else 0)
  | .int i, .int j => i == j
  | .str a, .str b => a == b
  | .tup a, .tup b => eqDs a b
  | .lst a, .lst b => eqDs a b
  | _, _ => false
def eqDs : List D → List D → Bool
  | [], [] => true
  | a :: as, b :: bs => eqD a b && eqDs as bs
  | _, _ => false
end
mutual
/-- data that == is reckoned of, and how deep -/
def dep : D → Nat
  | .tup l => deps l + 1
  | .lst l => deps l + 1
  | .non => 0
  | .bl _ => 0
  | .int _ => 0
  | .str s => if s.all (fun c => decide (c < 1114112)) then 0 else 1000
  | _ => 1000
def deps : List D → Nat
  | [] => 0
  | d :: l => max (dep d) (deps l)
end
def shp (d : D) : Bool := decide (dep d ≤ 60)
/-- what needs no look at its inside -/
def scalD : D → D → Bool
  | .non, .non => true | .non, .int _ => true | .int _, .non => true | .non, .bl _ => true | .bl _, .non => true | .non, .str _ => true | .str _, .non => true
  | .int _, .int _ => true | .bl _, .bl _ => true | .str _, .str _ => true
  | .int _, .str _ => true | .str _, .int _ => true | .bl _, .str _ => true | .str _, .bl _ => true
  | _, _ => false
def cmpEq (S : Store) (x y : D) : Option Bool := if scalD x y then some (eqD x y) else match rd S x, rd S y with
  | some a, some b => if shp a && shp b then some (eqD a b) else none
  | _, _ => none
def pEq : P2 := fun _ x y S => match cmpEq S x y with
  | some b => .ok (.bl b) S
  | none => .no
def pNe : P2 := fun _ x y S => match cmpEq S x y with
  | some b => .ok (.bl (!b)) S
  | none => .no

/-! ### dicts: keys by value (numbers, texts, flat tuples of them) -/
mutual
def beqD : D → D → Bool
  | .non, .non => true
  | .bl a, .bl b => a == b
  | .int i, .int j => i == j
  | .str a, .str b => a == b
  | .tup a, .tup b => beqDs a b
  | .lst a, .lst b => beqDs a b
  | .dic a b, .dic c d => beqDs a c && beqDs b d
  | .ref i, .ref j => i == j
  | .exn i, .exn j => i == j
  | .scr i, .scr j => i == j
  | _, _ => false
def beqDs : List D → List D → Bool
  | [], [] => true
  | a :: as, b :: bs => beqD a b && beqDs as bs
  | _, _ => false
end
mutual
theorem beqD_eq : ∀ {a b : D}, beqD a b = true → a = b
  | .non, .non, _ => rfl
  | .bl a, .bl b, h => by simp only [beqD, beq_iff_eq] at h; rw [h]
  | .int a, .int b, h => by simp only [beqD, beq_iff_eq] at h; rw [h]
  | .str a, .str b, h => by simp only [beqD, beq_iff_eq] at h; rw [h]
  | .ref a, .ref b, h => by simp only [beqD, beq_iff_eq] at h; rw [h]
  | .exn a, .exn b, h => by simp only [beqD, beq_iff_eq] at h; rw [h]
  | .scr a, .scr b, h => by simp only [beqD, beq_iff_eq] at h; rw [h]
  | .tup a, .tup b, h => by simp only [beqD] at h; rw [beqDs_eq h]
  | .lst a, .lst b, h => by simp only [beqD] at h; rw [beqDs_eq h]
  | .dic a b, .dic c d, h => by
    simp only [beqD, Bool.and_eq_true] at h
    rw [beqDs_eq h.1, beqDs_eq h.2]
theorem beqDs_eq : ∀ {a b : List D}, beqDs a b = true → a = b
  | [], [], _ => rfl
  | a :: as, b :: bs, h => by
    simp only [beqDs, Bool.and_eq_true] at h
    rw [beqD_eq h.1, beqDs_eq h.2]
end
mutual
theorem beqD_refl : ∀ a : D, beqD a a = true
  | .non => rfl
  | .bl a => by simp [beqD]
  | .int a => by simp [beqD]
  | .str a => by simp [beqD]
  | .ref a => by simp [beqD]
  | .exn a => by simp [beqD]
  | .scr a => by simp [beqD]
  | .tup a => by simp only [beqD]; exact beqDs_refl a
  | .lst a => by simp only [beqD]; exact beqDs_refl a
  | .dic a b => by simp only [beqD, Bool.and_eq_true]; exact ⟨beqDs_refl a, beqDs_refl b⟩
theorem beqDs_refl : ∀ a : List D, beqDs a a = true
  | [] => rfl
  | a :: as => by simp only [beqDs, Bool.and_eq_true]; exact ⟨beqD_refl a, beqDs_refl as⟩
end
instance : DecidableEq D := fun a b => decidable_of_iff (beqD a b = true) ⟨beqD_eq, fun e => e ▸ beqD_refl a⟩

def flatKey : D → Bool
  | .int _ => true
  | .str _ => true
  | _ => false
def tupKey : D → Bool
  | .tup l => l.all flatKey
  | _ => false
def isKey (t : Bool) (d : D) : Bool := if t then tupKey d else flatKey d
def dget (kvs : List (D × D)) (k : D) : Option D := (kvs.find? fun kv => decide (kv.1 = k)).map (·.2)
def dput (kvs : List (D × D)) (k v : D) : List (D × D) :=
  if kvs.any fun kv => decide (kv.1 = k) then kvs.map fun kv => if kv.1 = k then (kv.1, v) else kv else kvs ++ [(k, v)]
/-- the pairs of a dict -/
def pairsOf (S : Store) : D → Option (List (D × D))
  | .dic ks vs => some (ks.zip vs)
  | .ref n => match S[n]? with
    | some (.dic _ kvs) => some kvs
    | _ => none
  | _ => none

/-! ### in -/
def flat : D → Bool
  | .non => true
  | .bl _ => true
  | .int _ => true
  | .str _ => true
  | _ => false
/-- whether x is in c -/
def inD (S : Store) (x c : D) : Option Bool := match c with
  | .str s => match x with
    | .str [a] => some (decide (a ∈ s))
    | _ => none
  | c => match items S c with
    | some l => if flat x && l.all flat then some (l.any fun y => eqD y x)
      else if isL c then (match rd S x, rd S c with
        | some x', some (.lst l') => if shp x' && shp (.lst l') then some (l'.any fun y => eqD y x') else none
        | _, _ => none) else none
    | none => match pairsOf S c with
      | some kvs => if flatKey x || tupKey x then some ((dget kvs x).isSome) else none
      | none => none
def pIn : P2 := fun _ x y S => match inD S x y with
  | some b => .ok (.bl b) S
  | none => .no
def pNotIn : P2 := fun _ x y S => match inD S x y with
  | some b => .ok (.bl (!b)) S
  | none => .no

/-! ### subscripts -/
def ixn (n : Nat) (i : Int) : Option Nat := if 0 ≤ i then (if i < n then some i.toNat else none) else if -(n : Int) ≤ i then some (i + n).toNat else none
def at_ {α : Type} (xs : List α) (i : Int) : Option α := (ixn xs.length i).bind fun j => xs[j]?
def pIx : P2 := fun _ x y S => match x with
  | .str s => match y with
    | .int i => if s.length ≤ line then match at_ s i with
        | some c => .ok (.str [c]) S
        | none => .no
      else .no
    | _ => .no
  | x => match items S x with
    | some l => match y with
      | .int i => match at_ l i with
        | some d => .ok d S
        | none => .no
      | _ => .no
    | none => match pairsOf S x with
      | some kvs => if flatKey y || tupKey y then match dget kvs y with
          | some d => .ok d S
          | none => .no
        else .no
      | none => .no
def six (n d : Nat) : Option Int → Nat
  | none => d
  | some v => if v < 0 then (v + (n : Int)).toNat else min v.toNat n
def cut {α : Type} (xs : List α) (lo hi : Option Int) : List α := (xs.drop (six xs.length 0 lo)).take (six xs.length xs.length hi - six xs.length 0 lo)
abbrev Po := Nat → Env → Store → Res (Option Int)
def oN : Po := fun _ _ S => .ok none S
def oS (x : Ex) : Po := fun b ρ S => (x b ρ S).bind fun d S => match d with
  | .int i => .ok (some i) S
  | _ => .no
def slD (x : D) (lo hi : Option Int) (S : Store) : Res D := match x with
  | .str s => if s.length ≤ line then .ok (.str (cut s lo hi)) S else .no
  | .tup l => .ok (.tup (cut l lo hi)) S
  | .scr l => new (.lst (cut (l.map .int) lo hi)) S
  | x => if isL x then match items S x with
      | some l => new (.lst (cut l lo hi)) S
      | none => .no
    else .no
def eSl (x : Ex) (lo hi : Po) : Ex := fun b ρ S => (x b ρ S).bind fun d S => (lo b ρ S).bind fun l S => (hi b ρ S).bind fun h S => slD d l h S
/-- [::-1] -/
def pRev : P1 := fun _ x S => match x with
  | .str s => if s.length ≤ line then .ok (.str s.reverse) S else .no
  | .tup l => .ok (.tup l.reverse) S
  | x => if isL x then match items S x with
      | some l => new (.lst l.reverse) S
      | none => .no
    else .no

/-! ### built-ins -/
def pLen : P1 := fun _ x S => match x with
  | .str s => if s.length ≤ line then .ok (.int s.length) S else .no
  | x => match items S x with
    | some l => .ok (.int l.length) S
    | none => match pairsOf S x with
      | some kvs => .ok (.int kvs.length) S
      | none => .no
def pAbs : P1 := fun _ x S => match x with
  | .int i => .ok (.int (if i < 0 then -i else i)) S
  | _ => .no
def pMax2 : P2 := fun _ x y S => match x, y with | .int i, .int j => .ok (.int (if j > i then j else i)) S | _, _ => .no
def pMin2 : P2 := fun _ x y S => match x, y with | .int i, .int j => .ok (.int (if j < i then j else i)) S | _, _ => .no
def intsD : List D → Option (List Int)
  | [] => some []
  | .int i :: l => (intsD l).map (i :: ·)
  | _ => none
def boolsD : List D → Option (List Bool)
  | [] => some []
  | .bl i :: l => (boolsD l).map (i :: ·)
  | _ => none
def strsD : List D → Option (List (List Nat))
  | [] => some []
  | .str i :: l => (strsD l).map (i :: ·)
  | _ => none
/-- a list's numbers -/
def intsL (S : Store) (x : D) : Option (List Int) := if isL x then (items S x).bind intsD else none
def maxL : List Int → Int
  | [] => 0
  | [x] => x
  | x :: l => max x (maxL l)
def minL : List Int → Int
  | [] => 0
  | [x] => x
  | x :: l => min x (minL l)
def pSum : P1 := fun _ x S => match intsL S x with
  | some l => .ok (.int l.sum) S
  | none => .no
def pMaxL : P1 := fun _ x S => match intsL S x with
  | some l => if l = [] then .no else .ok (.int (maxL l)) S
  | none => .no
def pMinL : P1 := fun _ x S => match intsL S x with
  | some l => if l = [] then .no else .ok (.int (minL l)) S
  | none => .no
def pAll : P1 := fun _ x S => if isL x then match (items S x).bind boolsD with
    | some l => .ok (.bl (l.all id)) S
    | none => .no
  else .no
def pTuple : P1 := fun _ x S => match items S x with
  | some l => .ok (.tup l) S
  | none => .no
def pList : P1 := fun _ x S => match items S x with
  | some l => new (.lst l) S
  | none => .no
def pInt : P1 := fun _ x S => match x with
  | .int i => .ok (.int i) S
  | .bl b => .ok (.int (if b then 1 else 0)) S
  | _ => .no
def ins (x : Int) : List Int → List Int
  | [] => [x]
  | y :: l => if x ≤ y then x :: y :: l else y :: ins x l
def sortI : List Int → List Int
  | [] => []
  | x :: l => ins x (sortI l)
def pSorted : P1 := fun _ x S => match intsL S x with
  | some l => new (.lst ((sortI l).map .int)) S
  | none => .no
def pJoin : P2 := fun _ x y S => match x with
  | .str s => match (items S y).bind strsD with
    | some l => if l.length * (s.length + 1) + (l.map List.length).sum ≤ line then .ok (.str (s.intercalate l)) S else .no
    | none => .no
  | _ => .no

/-! ### isinstance -/
inductive Ty where | int | bool | str | list | tuple | dict | none
  deriving DecidableEq, Repr
def tyOf (S : Store) : D → Option Ty
  | .non => some .none
  | .bl _ => some .bool
  | .int _ => some .int
  | .str _ => some .str
  | .tup _ => some .tuple
  | .lst _ => some .list
  | .dic _ _ => some .dict
  | .ref n => match S[n]? with
    | some (.lst _) => some .list
    | some (.dic _ _) => some .dict
    | _ => Option.none
  | .exn _ => Option.none
  | .scr _ => some .list
/-- whether a thing of type u is an instance of t -/
def isTy (t : Ty) : Ty → Bool
  | .bool => t == .bool || t == .int
  | u => u == t
def pIsI (t : Ty) : P1 := fun _ x S => match tyOf S x with
  | some u => .ok (.bl (isTy t u)) S
  | none => .no

/-! ### tests -/
def tV (x : Ex) : Te := fun b ρ S => (x b ρ S).bind fun d S => match d with
  | .bl k => .ok k S
  | _ => .no
def tNot (t : Te) : Te := fun b ρ S => (t b ρ S).bind fun k S => .ok (!k) S
def tAnd (t u : Te) : Te := fun b ρ S => (t b ρ S).bind fun k S => if k then u b ρ S else .ok false S
def tOr (t u : Te) : Te := fun b ρ S => (t b ρ S).bind fun k S => if k then .ok true S else u b ρ S
def eIf (t : Te) (x y : Ex) : Ex := fun b ρ S => (t b ρ S).bind fun k S => if k then x b ρ S else y b ρ S
def eNot (x : Ex) : Ex := fun b ρ S => (x b ρ S).bind fun d S => match d with
  | .bl k => .ok (.bl (!k)) S
  | _ => .no
def eAnd (x y : Ex) : Ex := fun b ρ S => (x b ρ S).bind fun d S => match d with
  | .bl k => if k then y b ρ S else .ok (.bl false) S
  | _ => .no
def eOr (x y : Ex) : Ex := fun b ρ S => (x b ρ S).bind fun d S => match d with
  | .bl k => if k then .ok (.bl true) S else y b ρ S
  | _ => .no
/-- a f b g c -/
def eChain (f g : P2) (x y z : Ex) : Ex := fun b ρ S => (x b ρ S).bind fun dx S => (y b ρ S).bind fun dy S => (f b dx dy S).bind fun r S => match r with
  | .bl k => if k then (z b ρ S).bind fun dz S => g b dy dz S else .ok (.bl false) S
  | _ => .no
def eChain3 (f g h : P2) (x y z u : Ex) : Ex := fun b ρ S => (x b ρ S).bind fun dx S => (y b ρ S).bind fun dy S => (f b dx dy S).bind fun r S => match r with
  | .bl k => if k then (z b ρ S).bind fun dz S => (g b dy dz S).bind fun r S => (match r with
      | .bl k => if k then (u b ρ S).bind fun du S => h b dz du S else .ok (.bl false) S
      | _ => .no) else .ok (.bl false) S
  | _ => .no

/-! ### statements -/
inductive Fl where | nx | rt (d : D) | bk | ct
  deriving Inhabited, Repr
inductive SR where
  | ok (f : Fl) (ρ : Env) (S : Store)
  | exc (c : Nat) (S : Store)
  | no
  deriving Inhabited, Repr
abbrev Stm := Nat → Env → Store → SR
abbrev Tgt := D → Env → Option Env
def SR.of {α : Type} (r : Res α) (f : α → Store → SR) : SR := match r with
  | .ok a S => f a S
  | .exc c S => .exc c S
  | .no => .no
@[simp] theorem SR.of_ok {α : Type} (a : α) (S : Store) (f : α → Store → SR) : SR.of (.ok a S) f = f a S := rfl
@[simp] theorem SR.of_no {α : Type} (f : α → Store → SR) : SR.of (.no : Res α) f = .no := rfl
@[simp] theorem SR.of_exc {α : Type} (c : Nat) (S : Store) (f : α → Store → SR) : SR.of (.exc c S : Res α) f = .exc c S := rfl
def SR.nxt (r : SR) (f : Env → Store → SR) : SR := match r with
  | .ok .nx ρ S => f ρ S
  | r => r
@[simp] theorem SR.nxt_nx (ρ : Env) (S : Store) (f : Env → Store → SR) : (SR.ok .nx ρ S).nxt f = f ρ S := rfl
@[simp] theorem SR.nxt_rt (d : D) (ρ : Env) (S : Store) (f : Env → Store → SR) : (SR.ok (.rt d) ρ S).nxt f = .ok (.rt d) ρ S := rfl
@[simp] theorem SR.nxt_bk (ρ : Env) (S : Store) (f : Env → Store → SR) : (SR.ok .bk ρ S).nxt f = .ok .bk ρ S := rfl
@[simp] theorem SR.nxt_ct (ρ : Env) (S : Store) (f : Env → Store → SR) : (SR.ok .ct ρ S).nxt f = .ok .ct ρ S := rfl
@[simp] theorem SR.nxt_exc (c : Nat) (S : Store) (f : Env → Store → SR) : (SR.exc c S).nxt f = .exc c S := rfl
@[simp] theorem SR.nxt_no (f : Env → Store → SR) : SR.no.nxt f = .no := rfl

def sNil : Stm := fun _ ρ S => .ok .nx ρ S
def sSeq (s t : Stm) : Stm := fun b ρ S => (s b ρ S).nxt fun ρ S => t b ρ S
def gN (i : Nat) : Tgt := fun d ρ => some (ρ.set i (some d))
def gAll : List Tgt → List D → Env → Option Env
  | [], [], ρ => some ρ
  | g :: gs, d :: ds, ρ => (g d ρ).bind fun ρ => gAll gs ds ρ
  | _, _, _ => none
def gT (gs : List Tgt) : Tgt := fun d ρ => match d with
  | .tup l => gAll gs l ρ
  | _ => none
def sAsg (x : Ex) (g : Tgt) : Stm := fun b ρ S => SR.of (x b ρ S) fun d S => match g d ρ with
  | some ρ' => .ok .nx ρ' S
  | none => .no
/-- i, j = x, y -/
def sPar (i j : Nat) (x y : Ex) : Stm := fun b ρ S => SR.of (x b ρ S) fun d S => SR.of (y b ρ S) fun e S => .ok .nx ((ρ.set i (some d)).set j (some e)) S
def sAug (i : Nat) (f : P2) (x : Ex) : Stm := fun b ρ S => match ρ[i]? with
  | some (some d) => SR.of (x b ρ S) fun e S => SR.of (f b d e S) fun r S => .ok .nx (ρ.set i (some r)) S
  | _ => .no
/-- o[i] = v, by values; references from b on may not be put into objects below b -/
def put (b : Nat) (o i v : D) (S : Store) : Option Store := match o with
  | .ref n => if b ≤ n ∨ bel 0 v = true then match S[n]? with
      | some (.lst l) => match i with
        | .int k => match ixn l.length k with
          | some j => some (S.set n (.lst (l.set j v)))
          | none => none
        | _ => none
      | some (.dic t kvs) => if isKey t i ∧ kvs.length < line then some (S.set n (.dic t (dput kvs i v))) else none
      | _ => none
    else none
  | _ => none
def sPut (o i v : Ex) : Stm := fun b ρ S => SR.of (v b ρ S) fun dv S => SR.of (o b ρ S) fun d S => SR.of (i b ρ S) fun di S => match put b d di dv S with
  | some S => .ok .nx ρ S
  | none => .no
/-- o[i] op= v -/
def sPutAug (f : P2) (o i v : Ex) : Stm := fun b ρ S => SR.of (o b ρ S) fun d S => SR.of (i b ρ S) fun di S => SR.of (pIx b d di S) fun old S => SR.of (v b ρ S) fun dv S => SR.of (f b old dv S) fun r S =>
  match put b d di r S with
  | some S => .ok .nx ρ S
  | none => .no
def sEx (x : Ex) : Stm := fun b ρ S => SR.of (x b ρ S) fun _ S => .ok .nx ρ S
def sRet (x : Ex) : Stm := fun b ρ S => SR.of (x b ρ S) fun d S => .ok (.rt d) ρ S
def sRetN : Stm := fun _ ρ S => .ok (.rt .non) ρ S
def sBk : Stm := fun _ ρ S => .ok .bk ρ S
def sCt : Stm := fun _ ρ S => .ok .ct ρ S
def sNo : Stm := fun _ _ _ => .no
def sIf (t : Te) (s u : Stm) : Stm := fun b ρ S => SR.of (t b ρ S) fun k S => if k then s b ρ S else u b ρ S
def sRaise (c : Nat) : Stm := fun _ _ S => .exc c S

abbrev Src := Nat → Env → Store → Res (List D)
def forL (g : Tgt) (s : Stm) (b : Nat) : List D → Env → Store → SR
  | [], ρ, S => .ok .nx ρ S
  | d :: ds, ρ, S => match g d ρ with
    | none => .no
    | some ρ => match s b ρ S with
      | .ok .nx ρ S => forL g s b ds ρ S
      | .ok .ct ρ S => forL g s b ds ρ S
      | .ok .bk ρ S => .ok .nx ρ S
      | r => r
def sFor (src : Src) (g : Tgt) (s : Stm) : Stm := fun b ρ S => SR.of (src b ρ S) fun ds S => forL g s b ds ρ S
def whileL (t : Te) (s : Stm) (b : Nat) : Nat → Env → Store → SR
  | 0, _, _ => .no
  | k + 1, ρ, S => SR.of (t b ρ S) fun c S => if c then (match s b ρ S with
      | .ok .nx ρ S => whileL t s b k ρ S
      | .ok .ct ρ S => whileL t s b k ρ S
      | .ok .bk ρ S => .ok .nx ρ S
      | r => r) else .ok .nx ρ S
def fuelW : Nat := 1000000000000
def sWhile (t : Te) (s : Stm) : Stm := fun b ρ S => whileL t s b fuelW ρ S

def dropE (is : List Nat) (ρ : Env) : Env := is.foldl (fun ρ i => ρ.set i none) ρ
/-- the slots behind a region: those at is with what is new in them frozen; those at js, and others that changed, are forgotten -/
def mergeE (S : Store) (b : Nat) (is js : List Nat) : Nat → Env → Env → Env
  | i, o :: ρ, o' :: ρ' => (if is.contains i then o'.bind (fz S b fuelF) else if js.contains i then none else if o' = o then o else none) :: mergeE S b is js (i + 1) ρ ρ'
  | i, [], _ :: ρ' => none :: mergeE S b is js (i + 1) [] ρ'
  | _, _, [] => []
/-- a statement in a region of its own: is, the slots that it may give new things; js, those forgotten behind it -/
def rg (is js : List Nat) (s : Stm) : Stm := fun b ρ S => match s S.length ρ S with
  | .ok f ρ' S' => match f with
    | .rt d => match fz S' S.length fuelF d with
      | some d' => .ok (.rt d') ρ (S'.take S.length)
      | none => .no
    | f => .ok f (mergeE S' S.length is js 0 ρ ρ') (S'.take S.length)
  | .exc c S' => .exc c (S'.take S.length)
  | .no => .no

/-! ### comprehensions -/
def lcL (g : Tgt) (t : Te) (x : Ex) (b n : Nat) : List D → Env → Store → Res D
  | [], _, S => .ok (.ref n) S
  | d :: ds, ρ, S => match g d ρ with
    | none => .no
    | some ρ1 => match t b ρ1 S with
      | .ok false S => lcL g t x b n ds ρ S
      | .ok true S => match x b ρ1 S with
        | .ok y S => match S[n]? with
          | some (.lst acc) => if acc.length < line then lcL g t x b n ds ρ (S.set n (.lst (acc ++ [y]))) else .no
          | _ => .no
        | _ => .no
      | _ => .no
def tT : Te := fun _ _ S => .ok true S
def eLc (own : List Nat) (src : Src) (g : Tgt) (t : Te) (x : Ex) : Ex := fun b ρ S => (src b ρ S).bind fun ds S => lcL g t x b S.length ds (dropE own ρ) (S ++ [.lst []])

/-! ### what is walked -/
def srcD (S : Store) : D → Option (List D)
  | .tup l => some l
  | .lst l => some l
  | .str s => some (s.map fun c => .str [c])
  | _ => none
def wS (x : Ex) : Src := fun b ρ S => (x b ρ S).bind fun d S => match srcD S d with
  | some l => .ok l S
  | none => .no
def rng (i j : Int) : List D := (List.range (j - i).toNat).map fun k => .int (i + (k : Nat))
def wRange1 (as : Exs) : Src := fun b ρ S => (as b ρ S).bind fun ds S => match ds with
  | [.int j] => if j < 2 ^ 60 ∧ -(2 ^ 60) < j then .ok (rng 0 j) S else .no
  | _ => .no
def wRange2 (as : Exs) : Src := fun b ρ S => (as b ρ S).bind fun ds S => match ds with
  | [.int i, .int j] => if i < 2 ^ 60 ∧ -(2 ^ 60) < i ∧ j < 2 ^ 60 ∧ -(2 ^ 60) < j then .ok (rng i j) S else .no
  | _ => .no
def enumL (l : List D) : List D := (l.zipIdx).map fun p => .tup [.int (p.2 : Nat), p.1]
def wEnum (as : Exs) : Src := fun b ρ S => (as b ρ S).bind fun ds S => match ds with
  | [x] => match srcD S x with
    | some l => .ok (enumL l) S
    | none => .no
  | _ => .no
def wZip (as : Exs) : Src := fun b ρ S => (as b ρ S).bind fun ds S => match ds with
  | [x, y] => match srcD S x, srcD S y with
    | some l, some m => .ok ((l.zip m).map fun p => .tup [p.1, p.2]) S
    | _, _ => .no
  | _ => .no

/-! ### methods -/
def pAppend : P2 := fun b o v S => match o with
  | .ref n => if b ≤ n ∨ bel 0 v = true then match S[n]? with
      | some (.lst l) => if l.length < line then .ok .non (S.set n (.lst (l ++ [v]))) else .no
      | _ => .no
    else .no
  | _ => .no
def pFind : P2 := fun _ x y S => match x, y with
  | .str s, .str [c] => .ok (.int (match s.findIdx? (· == c) with | some k => (k : Int) | none => -1)) S
  | _, _ => .no

/-! ### defs -/
def fin (r : SR) : Res D := match r with
  | .ok (.rt d) _ S => .ok d S
  | .ok .nx _ S => .ok .non S
  | .ok _ _ _ => .no
  | .exc c S => .exc c S
  | .no => .no
/-- a def of k parameters and n slots -/
def mkF (k n : Nat) (s : Stm) : Fn := fun b ds S => if ds.length = k then fin (s b (ds.map some ++ List.replicate (n - k) none) S) else .no
def noF : Fn := fun _ _ _ => .no
end NR

set_option Elab.async false
set_option linter.all false
set_option maxRecDepth 100000
namespace NR
open PySem PySem.Spec PyProof.Rows L2

/-! ### texts -/
def toS (l : List Nat) : Str := ⟨l.toArray⟩
theorem toS_len (l : List Nat) : (toS l).length = l.length := by simp [toS, Str.length]
theorem toS_cps (l : List Nat) : (toS l).cps.toList = l := by simp [toS]
theorem toS_inj {a b : List Nat} (h : toS a = toS b) : a = b := by
  have := congrArg (fun s : Str => s.cps.toList) h
  simpa [toS] using this
theorem toS_app (a b : List Nat) : toS a ++ toS b = toS (a ++ b) := by
  show Str.append (toS a) (toS b) = _
  simp [Str.append, toS]

/-! ### keys -/
def keyV : D → Option Key
  | .int i => some (.inl i)
  | .str s => some (.inr (toS s))
  | _ => none
def keyVs : List D → Option (List Key)
  | [] => some []
  | d :: l => match keyV d, keyVs l with
    | some k, some ks => some (k :: ks)
    | _, _ => none
def keyT : D → Option (List Key)
  | .tup l => keyVs l
  | _ => none

/-! ### a value stands for a value -/
mutual
inductive RV (K : PySem.W.Frag) (F : Hp) (μ : Nat → Addr) (n : Nat) : D → V → Prop where
  | non : RV K F μ n .non .non
  | bl (b : Bool) : RV K F μ n (.bl b) (.bl b)
  | int (i : Int) : RV K F μ n (.int i) (.int i)
  | str (l : List Nat) : RV K F μ n (.str l) (.str (toS l))
  | tup {l : List D} {a : Addr} {vs : List V} : F a = some (.tup vs) → RVs K F μ n l vs → RV K F μ n (.tup l) (.ref a)
  | scr {l : List Int} {a : Addr} : SqL K F a (l.map V.int) → RV K F μ n (.scr l) (.ref a)
  | lst {l : List D} {a : Addr} {vs : List V} : F a = some (.lst vs) → RVs K F μ n l vs → RV K F μ n (.lst l) (.ref a)
  | dicK {ks vs : List D} {a : Addr} {kvs : List (Key × V)} : F a = some (.dK kvs) → ks.map keyV = kvs.map (fun p => some p.1) → RVs K F μ n vs (kvs.map (·.2)) → RV K F μ n (.dic ks vs) (.ref a)
  | dicT {ks vs : List D} {a : Addr} {kvs : List (List Key × V)} : F a = some (.dT kvs) → ks.map keyT = kvs.map (fun p => some p.1) → RVs K F μ n vs (kvs.map (·.2)) → RV K F μ n (.dic ks vs) (.ref a)
  | ref {k : Nat} : k < n → RV K F μ n (.ref k) (.ref (μ k))
inductive RVs (K : PySem.W.Frag) (F : Hp) (μ : Nat → Addr) (n : Nat) : List D → List V → Prop where
  | nil : RVs K F μ n [] []
  | cons {d : D} {v : V} {l : List D} {vs : List V} : RV K F μ n d v → RVs K F μ n l vs → RVs K F μ n (d :: l) (v :: vs)
end

/-- the world has grown: what is frozen stays, places stay -/
structure Gr (F : Hp) (μ : Nat → Addr) (n : Nat) (F' : Hp) (μ' : Nat → Addr) (n' : Nat) : Prop where
  f : ∀ a o, F a = some o → F' a = some o
  m : ∀ k, k < n → μ' k = μ k
  l : n ≤ n'
section
variable {K : PySem.W.Frag} {F F' F2 : Hp} {μ μ' μ2 : Nat → Addr} {n n' n2 : Nat}
theorem Gr.refl : Gr F μ n F μ n := ⟨fun _ _ h => h, fun _ _ => rfl, Nat.le_refl _⟩
theorem Gr.trans (g : Gr F μ n F' μ' n') (h : Gr F' μ' n' F2 μ2 n2) : Gr F μ n F2 μ2 n2 :=
  ⟨fun a o e => h.f a o (g.f a o e), fun k hk => (h.m k (Nat.lt_of_lt_of_le hk g.l)).trans (g.m k hk), Nat.le_trans g.l h.l⟩
theorem Rd.mono {H H' : Hp} {a : Addr} {u : HO} (h : ∀ a o, H a = some o → H' a = some o) (r : Rd H a u) : Rd H' a u := by
  rcases r with r | ⟨o, r⟩
  · exact .inl (h _ _ r)
  · exact .inr ⟨o, h _ _ r⟩
theorem SqL.mono {H H' : Hp} {a : Addr} {xs : List V} (h : ∀ a o, H a = some o → H' a = some o) (r : SqL K H a xs) : SqL K H' a xs := by
  rcases r with r | r
  · exact .inl (Rd.mono h r)
  · exact .inr r
mutual
theorem RV.mono (g : Gr F μ n F' μ' n') : ∀ {d : D} {v : V}, RV K F μ n d v → RV K F' μ' n' d v
  | _, _, .non => .non
  | _, _, .bl b => .bl b
  | _, _, .int i => .int i
  | _, _, .str l => .str l
  | _, _, .tup e r => .tup (g.f _ _ e) (RVs.mono g r)
  | _, _, .scr e => .scr (SqL.mono g.f e)
  | _, _, .lst e r => .lst (g.f _ _ e) (RVs.mono g r)
  | _, _, .dicK e k r => .dicK (g.f _ _ e) k (RVs.mono g r)
  | _, _, .dicT e k r => .dicT (g.f _ _ e) k (RVs.mono g r)
  | _, _, .ref h => by rw [← g.m _ h]; exact .ref (Nat.lt_of_lt_of_le h g.l)
theorem RVs.mono (g : Gr F μ n F' μ' n') : ∀ {l : List D} {vs : List V}, RVs K F μ n l vs → RVs K F' μ' n' l vs
  | _, _, .nil => .nil
  | _, _, .cons r t => .cons (RV.mono g r) (RVs.mono g t)
end
mutual
theorem RV.low {b : Nat} : ∀ {d : D} {v : V}, RV K F μ n d v → bel b d = true → RV K F μ b d v
  | _, _, .non, _ => .non
  | _, _, .bl b, _ => .bl b
  | _, _, .int i, _ => .int i
  | _, _, .str l, _ => .str l
  | _, _, .tup e r, h => .tup e (RVs.low r (by simpa only [bel] using h))
  | _, _, .scr e, _ => .scr e
  | _, _, .lst e r, h => .lst e (RVs.low r (by simpa only [bel] using h))
  | _, _, .dicK e k r, h => .dicK e k (RVs.low r (by simp only [bel, Bool.and_eq_true] at h; exact h.2))
  | _, _, .dicT e k r, h => .dicT e k (RVs.low r (by simp only [bel, Bool.and_eq_true] at h; exact h.2))
  | _, _, .ref _, h => .ref (by simpa only [bel, decide_eq_true_eq] using h)
theorem RVs.low {b : Nat} : ∀ {l : List D} {vs : List V}, RVs K F μ n l vs → bels b l = true → RVs K F μ b l vs
  | _, _, .nil, _ => .nil
  | _, _, .cons r t, h => by
    simp only [bels, Bool.and_eq_true] at h
    exact .cons (RV.low r h.1) (RVs.low t h.2)
end
theorem keyV_bel {b : Nat} {d : D} {k : Key} (h : keyV d = some k) : bel b d = true := by
  cases d <;> simp [keyV] at h <;> rfl
theorem keyVs_bel {b : Nat} : ∀ {l : List D} {k : List Key}, keyVs l = some k → bels b l = true
  | [], _, _ => rfl
  | d :: l, k, h => by
    simp only [keyVs] at h
    cases e1 : keyV d with
    | none => simp [e1] at h
    | some x =>
      cases e2 : keyVs l with
      | none => simp [e1, e2] at h
      | some y => simp only [bels, keyV_bel e1, keyVs_bel e2, Bool.and_self]
theorem keyT_bel {b : Nat} {d : D} {k : List Key} (h : keyT d = some k) : bel b d = true := by
  cases d <;> simp [keyT] at h
  simp only [bel]
  exact keyVs_bel h
theorem keysV_bel {b : Nat} : ∀ {ks : List D} {kvs : List (Key × V)}, ks.map keyV = kvs.map (fun p => some p.1) → bels b ks = true
  | [], _, _ => rfl
  | d :: ks, [], h => by simp at h
  | d :: ks, p :: kvs, h => by
    simp only [List.map_cons, List.cons.injEq] at h
    simp only [bels, keyV_bel h.1, keysV_bel h.2, Bool.and_self]
theorem keysT_bel {b : Nat} : ∀ {ks : List D} {kvs : List (List Key × V)}, ks.map keyT = kvs.map (fun p => some p.1) → bels b ks = true
  | [], _, _ => rfl
  | d :: ks, [], h => by simp at h
  | d :: ks, p :: kvs, h => by
    simp only [List.map_cons, List.cons.injEq] at h
    simp only [bels, keyT_bel h.1, keysT_bel h.2, Bool.and_self]
mutual
theorem RV.bel : ∀ {d : D} {v : V}, RV K F μ n d v → bel n d = true
  | _, _, .non => rfl
  | _, _, .bl _ => rfl
  | _, _, .int _ => rfl
  | _, _, .str _ => rfl
  | _, _, .scr _ => rfl
  | _, _, .tup _ r => by simp only [NR.bel]; exact RVs.bel r
  | _, _, .lst _ r => by simp only [NR.bel]; exact RVs.bel r
  | _, _, .dicK _ k r => by simp only [NR.bel, Bool.and_eq_true]; exact ⟨keysV_bel k, RVs.bel r⟩
  | _, _, .dicT _ k r => by simp only [NR.bel, Bool.and_eq_true]; exact ⟨keysT_bel k, RVs.bel r⟩
  | _, _, .ref h => by simpa only [NR.bel, decide_eq_true_eq] using h
theorem RVs.bel : ∀ {l : List D} {vs : List V}, RVs K F μ n l vs → bels n l = true
  | _, _, .nil => rfl
  | _, _, .cons r t => by simp only [bels, Bool.and_eq_true]; exact ⟨RV.bel r, RVs.bel t⟩
end
theorem RVs.length : ∀ {l : List D} {vs : List V}, RVs K F μ n l vs → l.length = vs.length
  | _, _, .nil => rfl
  | _, _, .cons _ t => by simp [RVs.length t]
theorem RVs.append : ∀ {l m : List D} {vs ws : List V}, RVs K F μ n l vs → RVs K F μ n m ws → RVs K F μ n (l ++ m) (vs ++ ws)
  | _, _, _, _, .nil, s => s
  | _, _, _, _, .cons r t, s => .cons r (RVs.append t s)
theorem RVs.get : ∀ {l : List D} {vs : List V} {i : Nat} {d : D}, RVs K F μ n l vs → l[i]? = some d → ∃ v, vs[i]? = some v ∧ RV K F μ n d v
  | _, _, _, _, .nil, e => by simp at e
  | _, _, 0, _, .cons r _, e => by simp at e; subst e; exact ⟨_, rfl, r⟩
  | _, _, i + 1, d, .cons _ t, e => by
    obtain ⟨v, h1, h2⟩ := RVs.get (i := i) (d := d) t (by simpa using e)
    exact ⟨v, by simpa using h1, h2⟩
theorem RVs.take : ∀ {l : List D} {vs : List V} (k : Nat), RVs K F μ n l vs → RVs K F μ n (l.take k) (vs.take k)
  | _, _, 0, _ => .nil
  | _, _, _ + 1, .nil => .nil
  | _, _, k + 1, .cons r t => .cons r (RVs.take k t)
theorem RVs.drop : ∀ {l : List D} {vs : List V} (k : Nat), RVs K F μ n l vs → RVs K F μ n (l.drop k) (vs.drop k)
  | _, _, 0, r => r
  | _, _, _ + 1, .nil => .nil
  | _, _, k + 1, .cons _ t => RVs.drop k t
theorem RVs.set {d : D} {v : V} (r : RV K F μ n d v) : ∀ {l : List D} {vs : List V} (i : Nat), RVs K F μ n l vs → RVs K F μ n (l.set i d) (vs.set i v)
  | _, _, _, .nil => .nil
  | _, _, 0, .cons _ t => .cons r t
  | _, _, i + 1, .cons q t => .cons q (RVs.set r i t)
theorem RVs.reverse {l : List D} {vs : List V} (h : RVs K F μ n l vs) : RVs K F μ n l.reverse vs.reverse := by
  induction l generalizing vs with
  | nil => cases h; exact .nil
  | cons d l ih =>
    cases h with
    | cons r t =>
      rw [List.reverse_cons, List.reverse_cons]
      exact (ih t).append (.cons r .nil)
theorem RVs.intsD : ∀ {l : List D} {vs : List V} {is : List Int}, RVs K F μ n l vs → intsD l = some is → vs = is.map V.int
  | _, _, is, .nil, h => by
    simp only [NR.intsD, Option.some.injEq] at h
    subst h
    rfl
  | d :: l, v :: vs, is, .cons r t, h => by
    cases r <;> simp [NR.intsD] at h
    obtain ⟨js, h1, h2⟩ := h
    subst h2
    rw [RVs.intsD t h1]
    rfl
theorem RVs.boolsD : ∀ {l : List D} {vs : List V} {is : List Bool}, RVs K F μ n l vs → boolsD l = some is → vs = is.map V.bl
  | _, _, is, .nil, h => by
    simp only [NR.boolsD, Option.some.injEq] at h
    subst h
    rfl
  | d :: l, v :: vs, is, .cons r t, h => by
    cases r <;> simp [NR.boolsD] at h
    obtain ⟨js, h1, h2⟩ := h
    subst h2
    rw [RVs.boolsD t h1]
    rfl
theorem RVs.strsD : ∀ {l : List D} {vs : List V} {is : List (List Nat)}, RVs K F μ n l vs → strsD l = some is → vs = is.map fun s => V.str (toS s)
  | _, _, is, .nil, h => by
    simp only [NR.strsD, Option.some.injEq] at h
    subst h
    rfl
  | d :: l, v :: vs, is, .cons r t, h => by
    cases r <;> simp [NR.strsD] at h
    obtain ⟨js, h1, h2⟩ := h
    subst h2
    rw [RVs.strsD t h1]
    rfl
end

/-! ### objects and stores -/
section
variable (ca : Nat → Addr)
/-- a dict's pairs -/
def DR (K : PySem.W.Frag) (F : Hp) (μ : Nat → Addr) (n : Nat) (t : Bool) (kvs : List (D × D)) (o : HO) : Prop := match t with
  | false => ∃ ps : List (Key × V), o = .dK ps ∧ kvs.map (fun p => keyV p.1) = ps.map (fun p => some p.1) ∧ RVs K F μ n (kvs.map (·.2)) (ps.map (·.2))
  | true => ∃ ps : List (List Key × V), o = .dT ps ∧ kvs.map (fun p => keyT p.1) = ps.map (fun p => some p.1) ∧ RVs K F μ n (kvs.map (·.2)) (ps.map (·.2))
def OR (K : PySem.W.Frag) (F : Hp) (μ : Nat → Addr) (n : Nat) (H : Hp) (a : Addr) : Ob → Prop
  | .lst l => F a = none ∧ ∃ vs, H a = some (.lst vs) ∧ RVs K F μ n l vs
  | .dic t kvs => F a = none ∧ ∃ o, H a = some o ∧ DR K F μ n t kvs o
  | .ins c fs => F a = none ∧ ∃ dx gs, H a = some (.ins (ca c) dx gs) ∧ H dx = some (.own a) ∧ fs.map (fun p => (p.1 : Str)) = gs.map (·.1) ∧ RVs K F μ n (fs.map (·.2)) (gs.map (·.2))
  | .gone => ∃ o, H a = some o
/-- B: the bases of the regions that are open -/
structure Sim (K : PySem.W.Frag) (B : Nat → Prop) (F : Hp) (μ : Nat → Addr) (S : Store) (H : Hp) : Prop where
  le : ∀ a o, F a = some o → H a = some o
  bl : ∀ c, B c → c ≤ S.length
  ob : ∀ k o, S[k]? = some o → OR ca K F μ S.length H (μ k) o
  inj : ∀ j k, j < S.length → k < S.length → μ j = μ k → j = k
  cl : ∀ c, B c → ∀ k o, k < c → S[k]? = some o → belO c o = true
end
end NR

namespace NR
open PySem PySem.Spec PyProof.Rows L2
theorem belp_of {b : Nat} : ∀ {kvs : List (D × D)}, (∀ p ∈ kvs, bel b p.1 = true ∧ bel b p.2 = true) → belp b kvs = true
  | [], _ => rfl
  | (k, v) :: l, h => by
    have h1 := h (k, v) (by simp)
    simp only [belp, h1.1, h1.2, belp_of fun p hp => h p (List.mem_cons_of_mem _ hp), Bool.and_self]
theorem belp_mem {b : Nat} : ∀ {kvs : List (D × D)}, belp b kvs = true → ∀ p ∈ kvs, bel b p.1 = true ∧ bel b p.2 = true
  | [], _, p, hp => by simp at hp
  | (k, v) :: l, h, p, hp => by
    simp only [belp, Bool.and_eq_true] at h
    rcases List.mem_cons.mp hp with e | e
    · subst e; exact ⟨h.1.1, h.1.2⟩
    · exact belp_mem h.2 p e
section
variable {ca : Nat → Addr} {K : PySem.W.Frag} {B : Nat → Prop} {b n n' : Nat} {F F' : Hp} {μ μ' : Nat → Addr} {S S' : Store} {H H' : Hp} {p : Addr}
theorem DR.mono {t : Bool} {kvs : List (D × D)} {o : HO} (g : Gr F μ n F' μ' n') (h : DR K F μ n t kvs o) : DR K F' μ' n' t kvs o := by
  cases t with
  | false => obtain ⟨ps, e, k, r⟩ := h; exact ⟨ps, e, k, r.mono g⟩
  | true => obtain ⟨ps, e, k, r⟩ := h; exact ⟨ps, e, k, r.mono g⟩
theorem belp_vals {kvs : List (D × D)} (h : belp b kvs = true) : bels b (kvs.map (·.2)) = true :=
  bels_of fun d hd => by
    obtain ⟨q, hq, e⟩ := List.mem_map.mp hd
    subst e
    exact (belp_mem h q hq).2
theorem belf_vals : ∀ {fs : List (String × D)}, belf b fs = true → bels b (fs.map (·.2)) = true
  | [], _ => rfl
  | (f, v) :: l, h => by
    simp only [belf, Bool.and_eq_true] at h
    simp only [List.map_cons, bels, h.1, belf_vals h.2, Bool.and_self]
theorem DR.low {t : Bool} {kvs : List (D × D)} {o : HO} (h : DR K F μ n t kvs o) (e : belp b kvs = true) : DR K F μ b t kvs o := by
  cases t with
  | false => obtain ⟨ps, e1, k, r⟩ := h; exact ⟨ps, e1, k, r.low (belp_vals e)⟩
  | true => obtain ⟨ps, e1, k, r⟩ := h; exact ⟨ps, e1, k, r.low (belp_vals e)⟩
theorem DR.bel {t : Bool} {kvs : List (D × D)} {o : HO} (h : DR K F μ n t kvs o) : belp n kvs = true := by
  refine belp_of fun q hq => ?_
  have hv : ∀ {vs : List V}, RVs K F μ n (kvs.map (·.2)) vs → NR.bel n q.2 = true := fun r => bels_mem r.bel (List.mem_map.mpr ⟨q, hq, rfl⟩)
  cases t with
  | false =>
    obtain ⟨ps, _, k, r⟩ := h
    refine ⟨?_, hv r⟩
    exact bels_mem (keysV_bel (ks := kvs.map (·.1)) (kvs := ps) (by rw [List.map_map]; exact k)) (List.mem_map.mpr ⟨q, hq, rfl⟩)
  | true =>
    obtain ⟨ps, _, k, r⟩ := h
    refine ⟨?_, hv r⟩
    exact bels_mem (keysT_bel (ks := kvs.map (·.1)) (kvs := ps) (by rw [List.map_map]; exact k)) (List.mem_map.mpr ⟨q, hq, rfl⟩)
/-- an object's description carried on: its own address and own dict as they were -/
theorem OR.carry {a : Addr} {o : Ob} (h : OR ca K F μ n H a o) (g : Gr F μ n F' μ' n') (hF : F a = none → F' a = none) (hH : ∀ c u, H c = some u → (c = a ∨ u = .own a) → H' c = some u) : OR ca K F' μ' n' H' a o := by
  cases o with
  | lst l => obtain ⟨f, vs, e, r⟩ := h; exact ⟨hF f, vs, hH _ _ e (.inl rfl), r.mono g⟩
  | dic t kvs => obtain ⟨f, u, e, r⟩ := h; exact ⟨hF f, u, hH _ _ e (.inl rfl), r.mono g⟩
  | ins c fs => obtain ⟨f, dx, gs, e, e2, k, r⟩ := h; exact ⟨hF f, dx, gs, hH _ _ e (.inl rfl), hH _ _ e2 (.inr rfl), k, r.mono g⟩
  | gone => obtain ⟨u, e⟩ := h; exact ⟨u, hH _ _ e (.inl rfl)⟩
theorem OR.low {a : Addr} {o : Ob} (h : OR ca K F μ n H a o) (e : belO b o = true) : OR ca K F μ b H a o := by
  cases o with
  | lst l => obtain ⟨f, vs, e1, r⟩ := h; exact ⟨f, vs, e1, r.low e⟩
  | dic t kvs => obtain ⟨f, u, e1, r⟩ := h; exact ⟨f, u, e1, r.low e⟩
  | ins c fs => obtain ⟨f, dx, gs, e1, e2, k, r⟩ := h; exact ⟨f, dx, gs, e1, e2, k, r.low (belf_vals e)⟩
  | gone => exact h
theorem belf_of : ∀ {fs : List (String × D)}, bels b (fs.map (·.2)) = true → belf b fs = true
  | [], _ => rfl
  | (f, v) :: l, h => by
    simp only [List.map_cons, bels, Bool.and_eq_true] at h
    simp only [belf, h.1, belf_of h.2, Bool.and_self]
theorem OR.bel {a : Addr} {o : Ob} (h : OR ca K F μ n H a o) : belO n o = true := by
  cases o with
  | lst l => obtain ⟨f, vs, e1, r⟩ := h; exact r.bel
  | dic t kvs => obtain ⟨f, u, e1, r⟩ := h; exact r.bel
  | ins c fs => obtain ⟨f, dx, gs, e1, e2, k, r⟩ := h; exact belf_of r.bel
  | gone => rfl
theorem OR.there {a : Addr} {o : Ob} (h : OR ca K F μ n H a o) : ∃ u, H a = some u := by
  cases o with
  | lst l => obtain ⟨f, vs, e, r⟩ := h; exact ⟨_, e⟩
  | dic t kvs => obtain ⟨f, u, e, r⟩ := h; exact ⟨_, e⟩
  | ins c fs => obtain ⟨f, dx, gs, e, _⟩ := h; exact ⟨_, e⟩
  | gone => exact h

theorem Sim.fresh (s : Sim ca K B F μ S H) (hp : H p = none) : F p = none := by
  cases e : F p with
  | none => rfl
  | some o => rw [s.le _ _ e] at hp; cases hp
theorem Sim.ne (s : Sim ca K B F μ S H) (hp : H p = none) {k : Nat} (hk : k < S.length) : μ k ≠ p := by
  obtain ⟨u, e⟩ := (s.ob k _ (List.getElem?_eq_getElem hk)).there
  intro z; rw [z, hp] at e; cases e
/-- a region begins -/
theorem Sim.region (s : Sim ca K B F μ S H) : Sim ca K (fun c => B c ∨ c = S.length) F μ S H :=
  ⟨s.le, fun c h => h.elim (s.bl c) fun e => Nat.le_of_eq e, s.ob, s.inj, fun c h k o hk e => h.elim (fun h => s.cl c h k o hk e) fun z => by subst z; exact (s.ob k o e).bel⟩
/-- a new tuple -/
theorem Sim.tup {vs : List V} (s : Sim ca K B F μ S H) (hp : H p = none) : Sim ca K B (upd F p (.tup vs)) μ S (upd H p (.tup vs)) ∧ Gr F μ S.length (upd F p (.tup vs)) μ S.length := by
  have hF := s.fresh hp
  have g : Gr F μ S.length (upd F p (.tup vs)) μ S.length := ⟨fun a o e => by rw [upd_ne (ne_of_none e hF)]; exact e, fun _ _ => rfl, Nat.le_refl _⟩
  refine ⟨⟨fun a o e => ?_, s.bl, fun k o e => ?_, s.inj, s.cl⟩, g⟩
  · by_cases z : a = p
    · subst z; rw [upd_same] at e ⊢; exact e
    · rw [upd_ne z] at e ⊢; exact s.le _ _ e
  · have hk : k < S.length := (List.getElem?_eq_some_iff.mp e).1
    refine (s.ob k o e).carry g (fun f => ?_) fun c u e2 _ => ?_
    · rw [upd_ne (s.ne hp hk)]; exact f
    · rw [upd_ne (ne_of_none e2 hp)]; exact e2
def ext (μ : Nat → Addr) (n : Nat) (p : Addr) : Nat → Addr := fun k => if k = n then p else μ k
theorem ext_same {μ : Nat → Addr} {n : Nat} {p : Addr} : ext μ n p n = p := if_pos rfl
theorem ext_lt {μ : Nat → Addr} {n : Nat} {p : Addr} {k : Nat} (h : k < n) : ext μ n p k = μ k := if_neg (by omega)
/-- a new object -/
theorem Sim.new {o : Ob} {u : HO} (s : Sim ca K B F μ S H) (hp : H p = none) (ho : ∀ F' H' μ' m, Gr F μ S.length F' μ' m → F' p = none → H' p = some u → OR ca K F' μ' m H' p o) :
    Sim ca K B F (ext μ S.length p) (S ++ [o]) (upd H p u) ∧ Gr F μ S.length F (ext μ S.length p) (S ++ [o]).length := by
  have hF := s.fresh hp
  have g : Gr F μ S.length F (ext μ S.length p) (S ++ [o]).length := ⟨fun _ _ e => e, fun k hk => ext_lt hk, by simp⟩
  refine ⟨⟨fun a o e => ?_, fun c hc => Nat.le_trans (s.bl c hc) (by simp), fun k o' e => ?_, fun j k hj hk e => ?_, fun c hc k o' hk e => ?_⟩, g⟩
  · rw [upd_ne (ne_of_none e hF)]; exact s.le _ _ e
  · by_cases hk : k < S.length
    · rw [List.getElem?_append_left hk] at e
      rw [ext_lt hk]
      exact (s.ob k o' e).carry g id fun c u e2 _ => by rw [upd_ne (ne_of_none e2 hp)]; exact e2
    · have hk2 : k < (S ++ [o]).length := (List.getElem?_eq_some_iff.mp e).1
      simp at hk2
      obtain rfl : k = S.length := by omega
      rw [List.getElem?_append_right (Nat.le_refl _)] at e
      simp at e
      subst e
      rw [ext_same]
      exact ho _ _ _ _ g hF upd_same
  · simp at hj hk
    by_cases hj' : j < S.length
    · by_cases hk' : k < S.length
      · rw [ext_lt hj', ext_lt hk'] at e; exact s.inj j k hj' hk' e
      · obtain rfl : k = S.length := by omega
        rw [ext_lt hj', ext_same] at e
        exact absurd e (s.ne hp hj')
    · obtain rfl : j = S.length := by omega
      by_cases hk' : k < S.length
      · rw [ext_lt hk', ext_same] at e
        exact absurd e.symm (s.ne hp hk')
      · omega
  · have := s.bl c hc
    rw [List.getElem?_append_left (by omega)] at e
    exact s.cl c hc k o' hk e
theorem Sim.newL {l : List D} {vs : List V} (s : Sim ca K B F μ S H) (hp : H p = none) (r : RVs K F μ S.length l vs) :
    Sim ca K B F (ext μ S.length p) (S ++ [Ob.lst l]) (upd H p (.lst vs)) ∧ Gr F μ S.length F (ext μ S.length p) (S ++ [Ob.lst l]).length :=
  s.new (o := .lst l) hp fun _ _ _ _ g f e => ⟨f, vs, e, r.mono g⟩
/-- an object written -/
theorem Sim.write {k : Nat} {o o' : Ob} {u : HO} (s : Sim ca K B F μ S H) (hk : S[k]? = some o) (ho : OR ca K F μ S.length (upd H (μ k) u) (μ k) o') (hb : ∀ c, B c → k < c → belO c o' = true) (hF : F (μ k) = none)
    (hown : ∀ a, H (μ k) ≠ some (.own a)) : Sim ca K B F μ (S.set k o') (upd H (μ k) u) := by
  have hk' : k < S.length := (List.getElem?_eq_some_iff.mp hk).1
  refine ⟨fun a x e => ?_, fun c hc => by simpa using s.bl c hc, fun j x e => ?_, fun i j hi hj e => s.inj i j (by simpa using hi) (by simpa using hj) e, fun c hc j x hj e => ?_⟩
  · rw [upd_ne (ne_of_none e hF)]; exact s.le _ _ e
  · rw [List.length_set]
    by_cases hj : j = k
    · subst hj
      rw [List.getElem?_set_self hk'] at e
      cases e
      exact ho
    · rw [List.getElem?_set_ne (Ne.symm hj)] at e
      have hj' : j < S.length := (List.getElem?_eq_some_iff.mp e).1
      refine (s.ob j x e).carry .refl id fun c w e2 h2 => ?_
      rw [upd_ne ?_]
      · exact e2
      · rcases h2 with h2 | h2
        · rw [h2]; exact fun z => hj (s.inj j k hj' hk' z)
        · intro z; subst z; rw [h2] at e2; exact hown _ e2
  · by_cases hj' : j = k
    · subst hj'
      rw [List.getElem?_set_self hk'] at e
      cases e
      exact hb c hc hj
    · rw [List.getElem?_set_ne (Ne.symm hj')] at e
      exact s.cl c hc j x hj e
theorem Sim.writeL {k : Nat} {l l' : List D} {vs' : List V} (s : Sim ca K B F μ S H) (hk : S[k]? = some (.lst l)) (r : RVs K F μ S.length l' vs') (hb : ∀ c, B c → k < c → bels c l' = true) : Sim ca K B F μ (S.set k (.lst l')) (upd H (μ k) (.lst vs')) := by
  obtain ⟨f, vs, e, _⟩ := s.ob k _ hk
  exact s.write hk ⟨f, vs', upd_same, r⟩ hb f fun a z => by rw [e] at z; cases z

/-! ### freezing -/
/-- what was made from b on becomes frozen -/
noncomputable def frozen (F H : Hp) (μ : Nat → Addr) (b n : Nat) : Hp := fun a => match F a with
  | some o => some o
  | none => open Classical in if ∃ k, b ≤ k ∧ k < n ∧ μ k = a then H a else none
theorem frozen_old {a : Addr} {o : HO} (h : F a = some o) : frozen F H μ b n a = some o := by unfold frozen; rw [h]
theorem frozen_new {k : Nat} (h : F (μ k) = none) (h1 : b ≤ k) (h2 : k < n) : frozen F H μ b n (μ k) = H (μ k) := by
  unfold frozen; rw [h]; exact if_pos ⟨k, h1, h2, rfl⟩
theorem frozen_none {a : Addr} (h : F a = none) (h1 : ∀ k, b ≤ k → k < n → μ k ≠ a) : frozen F H μ b n a = none := by
  unfold frozen; rw [h]; exact if_neg fun ⟨k, x, y, z⟩ => h1 k x y z
theorem mapM_nil {α β : Type} {f : α → Option β} : ([] : List α).mapM f = some [] := by simp
theorem mapM_some_cons {α β : Type} {f : α → Option β} {a : α} {l : List α} {r : List β} (h : (a :: l).mapM f = some r) : ∃ x xs, f a = some x ∧ l.mapM f = some xs ∧ r = x :: xs := by
  rw [List.mapM_cons] at h
  cases e1 : f a with
  | none => simp [e1] at h
  | some x =>
    cases e2 : l.mapM f with
    | none => simp [e1, e2] at h
    | some xs => simp [e1, e2] at h; exact ⟨x, xs, rfl, rfl, h.symm⟩
theorem fz_gr (c : Nat) : Gr F μ c (frozen F H μ b n) μ c := ⟨fun _ _ h => frozen_old h, fun _ _ => rfl, Nat.le_refl _⟩
theorem fz_ok (s : Sim ca K B F μ S H) (c : Nat) : ∀ (k : Nat) (d d' : D) (v : V), fz S c k d = some d' → RV K F μ S.length d v → RV K (frozen F H μ c S.length) μ c d' v
  | 0, _, _, _, h, _ => by cases h
  | k + 1, d, d', v, h, r => by
    have ih := fz_ok s c k
    have all : ∀ (l l' : List D) (vs : List V), l.mapM (fz S c k) = some l' → RVs K F μ S.length l vs → RVs K (frozen F H μ c S.length) μ c l' vs := by
      intro l
      induction l with
      | nil => intro l' vs h r; rw [mapM_nil] at h; cases h; cases r; exact .nil
      | cons a l ihl =>
        intro l' vs h r
        obtain ⟨x, xs, h1, h2, e⟩ := mapM_some_cons h
        subst e
        cases r with
        | cons r t => exact .cons (ih _ _ _ h1 r) (ihl _ _ h2 t)
    unfold fz at h
    by_cases hb : bel c d = true
    · rw [if_pos hb] at h
      cases h
      exact (r.low hb).mono (fz_gr c)
    · rw [if_neg hb] at h
      cases r with
      | non => exact absurd rfl hb
      | bl => exact absurd rfl hb
      | int => exact absurd rfl hb
      | str => exact absurd rfl hb
      | scr => exact absurd rfl hb
      | tup e r =>
        obtain ⟨l', h1, h2⟩ := Option.map_eq_some_iff.mp h
        subst h2
        exact .tup (frozen_old e) (all _ _ _ h1 r)
      | lst e r =>
        obtain ⟨l', h1, h2⟩ := Option.map_eq_some_iff.mp h
        subst h2
        exact .lst (frozen_old e) (all _ _ _ h1 r)
      | dicK e k r => cases h
      | dicT e k r => cases h
      | @ref i hi =>
        have hc : c ≤ i := by
          simp only [bel, decide_eq_true_eq] at hb
          omega
        simp only at h
        split at h
        · rename_i l hl
          obtain ⟨l', h1, h2⟩ := Option.map_eq_some_iff.mp h
          subst h2
          obtain ⟨f, vs, e, r⟩ := s.ob i _ hl
          exact .lst ((frozen_new f hc hi).trans e) (all _ _ _ h1 r)
        · rename_i t kvs hl
          obtain ⟨vs', h1, h2⟩ := Option.map_eq_some_iff.mp h
          subst h2
          obtain ⟨f, o, e, r⟩ := s.ob i _ hl
          have h3 : (kvs.map (·.2)).mapM (fz S c k) = some vs' := by rw [List.mapM_map]; exact h1
          cases t with
          | false =>
            obtain ⟨ps, e1, kk, r⟩ := r
            subst e1
            exact .dicK ((frozen_new f hc hi).trans e) (by rw [List.map_map]; exact kk) (all _ _ _ h3 r)
          | true =>
            obtain ⟨ps, e1, kk, r⟩ := r
            subst e1
            exact .dicT ((frozen_new f hc hi).trans e) (by rw [List.map_map]; exact kk) (all _ _ _ h3 r)
        · cases h
/-- a region ends -/
theorem Sim.leave {B' : Nat → Prop} {c : Nat} (s : Sim ca K B' F μ S H) (hc' : B' c) (hB : ∀ d, B d → B' d ∧ d ≤ c) :
    Sim ca K B (frozen F H μ c S.length) μ (S.take c) H := by
  have hc := s.bl c hc'
  have get : ∀ {k : Nat} {o : Ob}, (S.take c)[k]? = some o → k < c ∧ S[k]? = some o := fun {k o} e => by
    have h1 : k < (S.take c).length := (List.getElem?_eq_some_iff.mp e).1
    rw [List.length_take] at h1
    rw [List.getElem?_take_of_lt (by omega)] at e
    exact ⟨by omega, e⟩
  refine ⟨fun a o e => ?_, fun d hd => by rw [List.length_take]; have := (hB d hd).2; omega, fun k o e => ?_, fun j k hj hk e => s.inj j k (by rw [List.length_take] at hj; omega) (by rw [List.length_take] at hk; omega) e,
    fun d hd k o hk e => s.cl d (hB d hd).1 k o hk (get e).2⟩
  · unfold frozen at e
    cases q : F a with
    | some u => rw [q] at e; cases e; exact s.le _ _ q
    | none =>
      rw [q] at e
      simp only at e
      split at e
      · exact e
      · cases e
  · obtain ⟨hk, e⟩ := get e
    rw [show (S.take c).length = c by rw [List.length_take]; omega]
    refine ((s.ob k o e).low (s.cl c hc' k o hk e)).carry (fz_gr c) (fun f => frozen_none f fun j h1 h2 z => ?_) fun _ _ e _ => e
    have := s.inj j k h2 (by omega) z
    omega
end
end NR

namespace NR
open PySem PySem.Spec PyProof.Rows L2

/-! ### readings -/
/-- the slots -/
def Sl (K : PySem.W.Frag) (F : Hp) (μ : Nat → Addr) (n : Nat) (ρ : Env) (σ : L2.St) : Prop := ρ.length = σ.length ∧ ∀ (i : Nat) (d : D), ρ[i]? = some (some d) → ∃ v, σ[i]? = some (some v) ∧ RV K F μ n d v
theorem Sl.mono {K : PySem.W.Frag} {F F' : Hp} {μ μ' : Nat → Addr} {n n' : Nat} {ρ : Env} {σ : L2.St} (g : Gr F μ n F' μ' n') (h : Sl K F μ n ρ σ) : Sl K F' μ' n' ρ σ :=
  ⟨h.1, fun i d e => let ⟨v, e1, r⟩ := h.2 i d e; ⟨v, e1, r.mono g⟩⟩
theorem Sl.set {K : PySem.W.Frag} {F : Hp} {μ : Nat → Addr} {n : Nat} {ρ : Env} {σ : L2.St} {i : Nat} {d : D} {v : V} (h : Sl K F μ n ρ σ) (r : RV K F μ n d v) : Sl K F μ n (ρ.set i (some d)) (σ.set i (some v)) := by
  refine ⟨by simpa using h.1, fun j e he => ?_⟩
  by_cases hj : j = i
  · subst hj
    have hl : j < ρ.length := by
      have := (List.getElem?_eq_some_iff.mp he).1
      simpa using this
    rw [List.getElem?_set_self hl] at he
    cases he
    exact ⟨v, by rw [List.getElem?_set_self (h.1 ▸ hl)], r⟩
  · rw [List.getElem?_set_ne (Ne.symm hj)] at he
    obtain ⟨w', e1, r1⟩ := h.2 j e he
    exact ⟨w', by rw [List.getElem?_set_ne (Ne.symm hj)]; exact e1, r1⟩

abbrev Wish := Nat → Hp → Prop
abbrev W0 : Wish := fun _ _ => False
section
variable (ca : Nat → Addr) (K : PySem.W.Frag)
abbrev RA (α : Type) := Hp → (Nat → Addr) → Store → α → Hp → Prop
def RK {α : Type} (W : Wish) (B : Nat → Prop) (F : Hp) (μ : Nat → Addr) (n : Nat) (r : Res α) (R : RA α) : Prop := match r with
  | .ok a S' => ∀ H' F' μ', Gr F μ n F' μ' S'.length → Sim ca K B F' μ' S' H' → R F' μ' S' a H'
  | .exc c S' => ∀ H' F' μ', Gr F μ n F' μ' S'.length → Sim ca K B F' μ' S' H' → W c H'
  | .no => False
/-- a value is wanted -/
def VQ (K : PySem.W.Frag) (Q : VK) : RA D := fun F μ S d H => ∀ v, RV K F μ S.length d v → Q v H
def AQ (K : PySem.W.Frag) (Q : List V → Hp → Prop) : RA (List D) := fun F μ S ds H => ∀ vs, RVs K F μ S.length ds vs → Q vs H
def BQ (Q : Bool → Hp → Prop) : RA Bool := fun _ _ _ k H => Q k H
/-- from a state -/
def RM {α : Type} (W : Wish) (m : Nat → Env → Store → Res α) (σ : L2.St) (H : Hp) (R : RA α) : Prop := ∃ b B F μ ρ S, (∀ c, B c → c ≤ b) ∧ Sim ca K B F μ S H ∧ Sl K F μ S.length ρ σ ∧ RK ca K W B F μ S.length (m b ρ S) R
def RE (W : Wish) (m : Ex) : TE := fun σ H Q => RM ca K W m σ H (VQ K Q)
def RAs (W : Wish) (m : Exs) : TA := fun σ H Q => RM ca K W m σ H (AQ K Q)
def RT (W : Wish) (m : Te) : TT := fun σ H Q => RM ca K W m σ H (BQ Q)
end
section
variable {ca : Nat → Addr} {K : PySem.W.Frag} {α β : Type} {W : Wish} {B : Nat → Prop} {b n n' : Nat} {F F' : Hp} {μ μ' : Nat → Addr} {S : Store} {σ : L2.St} {H : Hp} {X : Cx}
theorem RK.gr {r : Res α} {R : RA α} (h : RK ca K W B F μ n r R) (g : Gr F μ n F' μ' n') : RK ca K W B F' μ' n' r R := by
  cases r with
  | ok a S' => exact fun H' F2 μ2 g2 s => h H' F2 μ2 (g.trans g2) s
  | exc c S' => exact fun H' F2 μ2 g2 s => h H' F2 μ2 (g.trans g2) s
  | no => exact h
theorem RK.mono {r : Res α} {R R' : RA α} (h : RK ca K W B F μ n r R) (hR : ∀ a S' H' F' μ', r = .ok a S' → Gr F μ n F' μ' S'.length → Sim ca K B F' μ' S' H' → R F' μ' S' a H' → R' F' μ' S' a H') : RK ca K W B F μ n r R' := by
  cases r with
  | ok a S' => exact fun H' F2 μ2 g2 s => hR a S' H' F2 μ2 rfl g2 s (h H' F2 μ2 g2 s)
  | exc c S' => exact h
  | no => exact h
theorem RK.bind {r : Res α} {f : α → Store → Res β} {R : RA β} (h : RK ca K W B F μ n (r.bind f) R) : RK ca K W B F μ n r (fun F' μ' S' a _ => RK ca K W B F' μ' S'.length (f a S') R) := by
  cases r with
  | ok a S' => exact fun H' F2 μ2 g2 s => RK.gr (show RK ca K W B F μ n (f a S') R from h) g2
  | exc c S' => exact h
  | no => exact h
/-- at a state that is there, what is reckoned there -/
theorem RK.now {a : α} {R : RA α} (h : RK ca K W B F μ S.length (.ok a S) R) (s : Sim ca K B F μ S H) : R F μ S a H := h H F μ .refl s
theorem RM.mk {m : Nat → Env → Store → Res α} {R : RA α} {ρ : Env} (hb : ∀ c, B c → c ≤ b) (s : Sim ca K B F μ S H) (l : Sl K F μ S.length ρ σ) (k : RK ca K W B F μ S.length (m b ρ S) R) : RM ca K W m σ H R := ⟨b, B, F, μ, ρ, S, hb, s, l, k⟩

theorem _root_.L2.PE.conv {e : Expr} {t t' : TE} (h : PE X e t) (c : ∀ σ H Q, t' σ H Q → t σ H Q) : PE X e t' := ⟨fun pins s σ H Q I hw => h.run pins s σ H Q I (c _ _ _ hw)⟩
theorem _root_.L2.PT.conv {e : Expr} {t t' : TT} (h : PT X e t) (c : ∀ σ H Q, t' σ H Q → t σ H Q) : PT X e t' := ⟨fun pins s σ H Q I hw => h.run pins s σ H Q I (c _ _ _ hw)⟩
theorem _root_.L2.PA.conv {e : List Expr} {t t' : TA} (h : PA X e t) (c : ∀ σ H Q, t' σ H Q → t σ H Q) : PA X e t' := ⟨fun pos pins s σ H Q I hw => h.run pos pins s σ H Q I (c _ _ _ hw)⟩
theorem _root_.L2.PS.conv {e : Stmt} {t t' : TS} (h : PS X e t) (c : ∀ D σ H, t' D σ H → t D σ H) : PS X e t' := ⟨fun pins s σ H D I hw => h.run pins s σ H D I (c _ _ _ hw)⟩
theorem _root_.L2.PSs.conv {e : List Stmt} {t t' : TS} (h : PSs X e t) (c : ∀ D σ H, t' D σ H → t D σ H) : PSs X e t' := ⟨fun pins s σ H D I hw => h.run pins s σ H D I (c _ _ _ hw)⟩

/-! ### what an operation must tell -/
def Pr1 (K : PySem.W.Frag) (f : P1) (r : V → Hp → VK → Prop) : Prop := ∀ (ca : Nat → Addr) (W : Wish) (b : Nat) (B : Nat → Prop) (F : Hp) (μ : Nat → Addr) (S : Store) (H : Hp) (d : D) (v : V) (Q : VK), (∀ c, B c → c ≤ b) → Sim ca K B F μ S H → RV K F μ S.length d v → RK ca K W B F μ S.length (f b d S) (VQ K Q) → r v H Q
def Pr2 (K : PySem.W.Frag) (f : P2) (r : R2) : Prop := ∀ (ca : Nat → Addr) (W : Wish) (b : Nat) (B : Nat → Prop) (F : Hp) (μ : Nat → Addr) (S : Store) (H : Hp) (d e : D) (v u : V) (Q : VK), (∀ c, B c → c ≤ b) → Sim ca K B F μ S H → RV K F μ S.length d v → RV K F μ S.length e u → RK ca K W B F μ S.length (f b d e S) (VQ K Q) → r v u H Q

section
variable {x y z : Ex} {as : Exs}
theorem re_e1 {f : P1} {r : V → Hp → VK → Prop} (p : Pr1 K f r) {Q : VK} (h : RE ca K W (e1 f x) σ H Q) : RE ca K W x σ H (fun v H' => r v H' Q) := by
  obtain ⟨b, B, F, μ, ρ, S, hb, s, l, k⟩ := h
  refine .mk hb s l (RK.mono (RK.bind k) fun d S' H' F' μ' _ g s' hk => ?_)
  exact fun v rv => p ca W b B F' μ' S' H' d v Q hb s' rv hk
theorem re_e2 {f : P2} {r : R2} (p : Pr2 K f r) {Q : VK} (h : RE ca K W (e2 f x y) σ H Q) : RE ca K W x σ H (fun v H' => RE ca K W y σ H' fun u H'' => r v u H'' Q) := by
  obtain ⟨b, B, F, μ, ρ, S, hb, s, l, k⟩ := h
  refine .mk hb s l (RK.mono (RK.bind k) fun d S' H' F' μ' _ g s' hk => ?_)
  refine fun v rv => .mk hb s' (l.mono g) (RK.mono (RK.bind hk) fun e S2 H2 F2 μ2 _ g2 s2 hk2 => ?_)
  exact fun u ru => p ca W b B F2 μ2 S2 H2 d e v u Q hb s2 (rv.mono g2) ru hk2
end

/-! ### names and constants -/
theorem r_v (i : Nat) {nm : Str} {pos : Pos} (hN : X.N[i]? = some nm := by rfl) (hv : Vis X.env.scope nm := by first | exact Or.inl rfl | exact Or.inr (Or.inl rfl) | exact Or.inr (Or.inr rfl)) (hd : (nm == ("__debug__" : Str)) = false := by decide)
    (hcd : (nm == ("__classdict__" : Str)) = false := by decide) : PE X (.Name nm pos) (RE ca X.K W (eV i)) := (pe_var hN hv hd hcd).conv fun σ H Q h => by
  obtain ⟨b, B, F, μ, ρ, S, hb, s, l, k⟩ := h
  unfold eV at k
  split at k
  · rename_i d e
    obtain ⟨v, e1, r⟩ := l.2 i d e
    exact ⟨v, e1, RK.now k s v r⟩
  · exact k.elim
theorem re_c {d : D} {v : V} {Q : VK} (h : RE ca K W (eC d) σ H Q) (r : ∀ F μ n, RV K F μ n d v) : Q v H := by
  obtain ⟨b, B, F, μ, ρ, S, hb, s, l, k⟩ := h
  exact RK.now k s v (r _ _ _)
theorem r_int {i : Int} {j : Nat} {pos : Pos} : PE X (.Constant (.int i) j pos) (RE ca X.K W (eC (.int i))) := pe_int.conv fun _ _ _ h => re_c h fun _ _ _ => .int i
theorem r_bl {k : Bool} {j : Nat} {pos : Pos} : PE X (.Constant (.bool k) j pos) (RE ca X.K W (eC (.bl k))) := pe_bl.conv fun _ _ _ h => re_c h fun _ _ _ => .bl k
theorem r_non {j : Nat} {pos : Pos} : PE X (.Constant .none j pos) (RE ca X.K W (eC .non)) := pe_non.conv fun _ _ _ h => re_c h fun _ _ _ => .non
theorem r_str {z : Str} {l : List Nat} {j : Nat} {pos : Pos} (e : z.cps.toList = l) : PE X (.Constant (.str z) j pos) (RE ca X.K W (eC (.str l))) := pe_str.conv fun _ _ _ h => re_c h fun _ _ _ => by
  have : z = toS l := by subst e; simp [toS]
  rw [this]; exact .str l
/-- a module's number, text -/
theorem r_gint {nm : Str} {i : Int} {pos : Pos} (hg : Gl X nm) (hm : ∃ t, X.mg nm = some (.int i t)) (hd : (nm == ("__debug__" : Str)) = false := by decide) : PE X (.Name nm pos) (RE ca X.K W (eC (.int i))) := by
  obtain ⟨t, e⟩ := hm
  exact (pe_glob (v := .int i) hg e ⟨t, rfl⟩ hd).conv fun _ _ _ h => re_c h fun _ _ _ => .int i
theorem r_gstr {nm : Str} {z : Str} {l : List Nat} {pos : Pos} (e : z.cps.toList = l) (hg : Gl X nm) (hm : ∃ t, X.mg nm = some (.str z t)) (hd : (nm == ("__debug__" : Str)) = false := by decide) : PE X (.Name nm pos) (RE ca X.K W (eC (.str l))) := by
  obtain ⟨t, e2⟩ := hm
  exact (pe_glob (v := .str z) hg e2 ⟨t, rfl⟩ hd).conv fun _ _ _ h => re_c h fun _ _ _ => by
    have : z = toS l := by subst e; simp [toS]
    rw [this]; exact .str l

/-! ### regions -/
theorem leave_gr {F F' H : Hp} {μ μ' : Nat → Addr} {S S' : Store} (g : Gr F μ S.length F' μ' S'.length) : Gr F μ S.length (frozen F' H μ' S.length S'.length) μ' (S'.take S.length).length :=
  ⟨fun a o q => frozen_old (g.f a o q), g.m, by have := g.l; rw [List.length_take]; omega⟩
theorem Sim.out {ca : Nat → Addr} {K : PySem.W.Frag} {B : Nat → Prop} {F F' : Hp} {μ μ' : Nat → Addr} {S S' : Store} {H H' : Hp} (s : Sim ca K B F μ S H) (s' : Sim ca K (fun c => B c ∨ c = S.length) F' μ' S' H') : Sim ca K B (frozen F' H' μ' S.length S'.length) μ' (S'.take S.length) H' :=
  s'.leave (.inr rfl) fun d hd => ⟨.inl hd, s.bl d hd⟩
theorem take_len {S S' : Store} (h : S.length ≤ S'.length) : (S'.take S.length).length = S.length := by rw [List.length_take]; omega
theorem re_gc {m : Ex} {Q : VK} (h : RE ca K W (gc m) σ H Q) : RE ca K W m σ H Q := by
  obtain ⟨b, B, F, μ, ρ, S, hb, s, l, k⟩ := h
  refine .mk (b := S.length) (fun c hc => hc.elim (s.bl c) fun e => Nat.le_of_eq e) s.region l ?_
  unfold gc at k
  cases e : m S.length ρ S with
  | no => rw [e] at k; exact k
  | exc c S' =>
    rw [e] at k
    exact fun H' F' μ' g s' => k H' _ μ' (leave_gr g) (s.out s')
  | ok d S' =>
    rw [e] at k
    simp only at k
    cases e2 : fz S' S.length fuelF d with
    | none => rw [e2] at k; exact k.elim
    | some d' =>
      rw [e2] at k
      intro H' F' μ' g s' v r
      refine k H' _ μ' (leave_gr g) (s.out s') v ?_
      have := fz_ok s' S.length fuelF d d' v e2 r
      rw [take_len g.l]
      exact this
end
end NR

namespace NR
open PySem PySem.Spec PyProof.Rows L2

section
variable {ca : Nat → Addr} {K : PySem.W.Frag} {W : Wish} {B : Nat → Prop} {b n n' : Nat} {F F' : Hp} {μ μ' : Nat → Addr} {S : Store} {σ : L2.St} {H : Hp} {X : Cx}
theorem line_eq : line = sizeLine := by rw [sizeLine_eq]; rfl
/-! ### answers -/
theorem RK.val {d : D} {Q : VK} {v : V} (k : RK ca K W B F μ S.length (.ok d S) (VQ K Q)) (s : Sim ca K B F μ S H) (r : RV K F μ S.length d v) : Q v H := RK.now k s v r
theorem RK.newL {l : List D} {vs : List V} {Q : VK} (k : RK ca K W B F μ S.length (new (.lst l) S) (VQ K Q)) (s : Sim ca K B F μ S H) (r : RVs K F μ S.length l vs) : ∀ p, H p = none → Q (.ref p) (upd H p (.lst vs)) := fun p hp => by
  obtain ⟨s', g⟩ := s.newL hp r
  refine k _ _ _ g s' _ ?_
  have := RV.ref (K := K) (F := F) (μ := ext μ S.length p) (n := (S ++ [Ob.lst l]).length) (k := S.length) (by simp)
  rwa [ext_same] at this
theorem RK.newT {l : List D} {vs : List V} {Q : VK} (k : RK ca K W B F μ S.length (.ok (.tup l) S) (VQ K Q)) (s : Sim ca K B F μ S H) (r : RVs K F μ S.length l vs) : ∀ p, H p = none → Q (.ref p) (upd H p (.tup vs)) := fun p hp => by
  obtain ⟨s', g⟩ := s.tup (vs := vs) hp
  exact k _ _ _ g s' _ (.tup upd_same (r.mono g))

/-! ### lists and tuples -/
theorem rv_tup {l : List D} {v : V} (s : Sim ca K B F μ S H) (r : RV K F μ n (.tup l) v) : ∃ a vs, v = .ref a ∧ F a = some (.tup vs) ∧ H a = some (.tup vs) ∧ RVs K F μ n l vs := by
  cases r with
  | tup e r => exact ⟨_, _, rfl, e, s.le _ _ e, r⟩
/-- a list that may be read: frozen or an object -/
theorem items_L {d : D} {l : List D} {v : V} (s : Sim ca K B F μ S H) (r : RV K F μ S.length d v) (h : items S d = some l) (hl : isL d = true) : ∃ a vs, v = .ref a ∧ H a = some (.lst vs) ∧ RVs K F μ S.length l vs := by
  cases r with
  | lst e r => simp only [items, Option.some.injEq] at h; subst h; exact ⟨_, _, rfl, s.le _ _ e, r⟩
  | @ref i hi =>
    simp only [items] at h
    split at h
    · rename_i m e
      cases h
      obtain ⟨_, vs, e1, r⟩ := s.ob i _ e
      exact ⟨_, vs, rfl, e1, r⟩
    · cases h
  | _ => cases hl
theorem items_A {d : D} {l : List D} {v : V} (s : Sim ca K B F μ S H) (r : RV K F μ S.length d v) (h : items S d = some l) : ∃ a vs, v = .ref a ∧ RVs K F μ S.length l vs ∧ ((H a = some (.lst vs) ∧ isL d = true) ∨ (H a = some (.tup vs) ∧ d = .tup l)) := by
  cases r with
  | tup e r => simp only [items, Option.some.injEq] at h; subst h; exact ⟨_, _, rfl, r, .inr ⟨s.le _ _ e, rfl⟩⟩
  | lst e r => simp only [items, Option.some.injEq] at h; subst h; exact ⟨_, _, rfl, r, .inl ⟨s.le _ _ e, rfl⟩⟩
  | ref hi =>
    obtain ⟨a, vs, e, e1, r⟩ := items_L s (.ref hi) h rfl
    exact ⟨a, vs, e, r, .inl ⟨e1, rfl⟩⟩
  | _ => cases h

/-! ### numbers and texts -/
def rAdd4 (K : PySem.W.Frag) : R2 := fun x y H Q => rI0 (fun i j => .int (i + j)) x y H Q ∨ (∃ i j, x = .str i ∧ y = .str j ∧ i.length + j.length ≤ sizeLine ∧ Q (.str (i ++ j)) H) ∨ rCatA K x y H Q ∨ rCat x y H Q
theorem op_add4 : OpR X (binaryOp .Add) (rAdd4 X.K) := op_add.or (op_add_str.or (op_catA.or op_cat))
theorem pr_add : Pr2 K pAdd (rAdd4 K) := by
  intro ca W b B F μ S H d e v u Q hb s rv ru k
  unfold pAdd at k
  split at k
  · cases rv; cases ru
    exact .inl ⟨_, _, rfl, rfl, k.val s (.int _)⟩
  · rename_i a c
    cases rv; cases ru
    split at k
    · rename_i hz
      refine .inr (.inl ⟨_, _, rfl, rfl, by rw [toS_len, toS_len, ← line_eq]; exact hz, ?_⟩)
      rw [toS_app]
      exact k.val s (.str _)
    · exact k.elim
  · rename_i a c
    obtain ⟨p, vs, rfl, hp, hpH, r1⟩ := rv_tup s rv
    obtain ⟨q, ws, rfl, hq, hqH, r2⟩ := rv_tup s ru
    split at k
    · rename_i hz
      refine .inr (.inr (.inl ⟨p, q, vs, ws, rfl, rfl, .of hpH, .of hqH, by rw [← r1.length, ← r2.length, ← line_eq]; exact hz, fun e => ?_, fun _ e => ?_, fun _ _ z hz => ?_⟩))
      · subst e
        cases r1
        exact k.val s (.tup hq r2)
      · subst e
        cases r2
        rw [List.append_nil] at k
        exact k.val s (.tup hp r1)
      · exact k.newT s (r1.append r2) z hz
    · exact k.elim
  · split at k
    · rename_i hl
      simp only [Bool.and_eq_true] at hl
      split at k
      · rename_i a c ha hc
        obtain ⟨p, vs, rfl, hp, r1⟩ := items_L s rv ha hl.1
        obtain ⟨q, ws, rfl, hq, r2⟩ := items_L s ru hc hl.2
        split at k
        · rename_i hz
          exact .inr (.inr (.inr ⟨p, q, vs, ws, rfl, rfl, hp, hq, by rw [← r1.length, ← r2.length, ← line_eq]; exact hz, k.newL s (r1.append r2)⟩))
        · exact k.elim
      · exact k.elim
    · exact k.elim
theorem pr_sub : Pr2 K pSub (rI0 fun i j => .int (i - j)) := by
  intro ca W b B F μ S H d e v u Q hb s rv ru k
  unfold pSub at k
  split at k
  · cases rv; cases ru; exact ⟨_, _, rfl, rfl, k.val s (.int _)⟩
  · exact k.elim
def rMul4 (K : PySem.W.Frag) : R2 := fun x y H Q => rI CMul (fun i j => .int (i * j)) x y H Q ∨ rI CMulW (fun i j => .int (i * j)) x y H Q ∨ rRep x y H Q
theorem op_mul4 : OpR X (binaryOp .Mult) (rMul4 X.K) := op_mul.or (op_mulW.or op_rep)
theorem RVs.rep {l : List D} {vs : List V} (h : RVs K F μ n l vs) : ∀ k : Nat, RVs K F μ n (List.replicate k l).flatten (List.replicate k vs).flatten
  | 0 => .nil
  | k + 1 => by
    rw [List.replicate_succ, List.replicate_succ, List.flatten_cons, List.flatten_cons]
    exact h.append (RVs.rep h k)
/-- numbers and lists alone -/
def pMulN : P2 := fun b x y S => match x with | .str _ => .no | .tup _ => .no | _ => pMul b x y S
theorem pr_mul : Pr2 K pMulN (rMul4 K) := by
  intro ca W b B F μ S H d e v u Q hb s rv ru k
  unfold pMulN at k
  split at k
  · exact k.elim
  · exact k.elim
  rename_i n1 n2
  unfold pMul at k
  split at k
  · rename_i i j
    cases rv; cases ru
    split at k
    · rename_i hg
      simp only [big, Bool.or_eq_true, Bool.and_eq_true, decide_eq_true_eq] at hg
      have kk := k.val s (.int (i * j))
      rcases hg with (hg | hg) | hg
      · exact .inl ⟨_, _, rfl, rfl, .inl (by omega), kk⟩
      · exact .inl ⟨_, _, rfl, rfl, .inr (by omega), kk⟩
      · exact .inr (.inl ⟨_, _, rfl, rfl, wide_mul hg.1 hg.2 (by omega) (by omega) (by omega), kk⟩)
    · exact k.elim
  · exact (n1 _ rfl).elim
  · exact (n2 _ rfl).elim
  · rename_i i _ _ _
    cases ru
    split at k
    · rename_i hl
      split at k
      · rename_i a ha
        obtain ⟨p, vs, rfl, hp, r1⟩ := items_L s rv ha hl
        split at k
        · rename_i hz
          obtain ⟨h1, h2, h3⟩ := hz
          exact .inr (.inr ⟨p, i, vs, rfl, rfl, hp, by omega, by omega, by rw [← r1.length, ← line_eq]; exact h3, k.newL s (r1.rep _)⟩)
        · exact k.elim
      · exact k.elim
    · exact k.elim
  · exact k.elim
theorem pr_div : Pr2 K pDiv (rI CDiv fun i j => .int (i / j)) := by
  intro ca W b B F μ S H d e v u Q hb s rv ru k
  unfold pDiv at k
  split at k
  · cases rv; cases ru
    split at k
    · rename_i hz
      exact ⟨_, _, rfl, rfl, hz, k.val s (.int _)⟩
    · exact k.elim
  · exact k.elim
theorem pr_mod : Pr2 K pMod (rI (fun _ j => 0 < j) fun i j => .int (i % j)) := by
  intro ca W b B F μ S H d e v u Q hb s rv ru k
  unfold pMod at k
  split at k
  · cases rv; cases ru
    split at k
    · rename_i hz
      exact ⟨_, _, rfl, rfl, hz, k.val s (.int _)⟩
    · exact k.elim
  · exact k.elim
theorem pr_pow : Pr2 K pPow (rI CPow fun i j => .int (i ^ j.toNat)) := by
  intro ca W b B F μ S H d e v u Q hb s rv ru k
  unfold pPow at k
  split at k
  · cases rv; cases ru
    split at k
    · rename_i hz
      exact ⟨_, _, rfl, rfl, hz, k.val s (.int _)⟩
    · exact k.elim
  · exact k.elim
theorem pr_neg : Pr1 K pNeg (rU fun i => .int (-i)) := by
  intro ca W b B F μ S H d v Q hb s rv k
  unfold pNeg at k
  split at k
  · cases rv; exact ⟨_, rfl, k.val s (.int _)⟩
  · exact k.elim

/-! ### comparisons -/
theorem pr_lt : Pr2 K pLt (rI0 fun i j => .bl (decide (i < j))) := by
  intro ca W b B F μ S H d e v u Q hb s rv ru k
  unfold pLt at k
  split at k
  · cases rv; cases ru; exact ⟨_, _, rfl, rfl, k.val s (.bl _)⟩
  · exact k.elim
theorem pr_le : Pr2 K pLe (rI0 fun i j => .bl (decide (i ≤ j))) := by
  intro ca W b B F μ S H d e v u Q hb s rv ru k
  unfold pLe at k
  split at k
  · cases rv; cases ru; exact ⟨_, _, rfl, rfl, k.val s (.bl _)⟩
  · exact k.elim
theorem pr_gt : Pr2 K pGt (rI0 fun i j => .bl (decide (j < i))) := by
  intro ca W b B F μ S H d e v u Q hb s rv ru k
  unfold pGt at k
  split at k
  · cases rv; cases ru; exact ⟨_, _, rfl, rfl, k.val s (.bl _)⟩
  · exact k.elim
theorem pr_ge : Pr2 K pGe (rI0 fun i j => .bl (decide (j ≤ i))) := by
  intro ca W b B F μ S H d e v u Q hb s rv ru k
  unfold pGe at k
  split at k
  · cases rv; cases ru; exact ⟨_, _, rfl, rfl, k.val s (.bl _)⟩
  · exact k.elim
end
end NR

namespace NR
open PySem PySem.Spec PyProof.Rows L2
mutual
def toP : D → PyData
  | .non => .none
  | .bl b => .bool b
  | .int i => .int i
  | .str s => .str (toS s)
  | .tup l => .tuple (toPs l)
  | .lst l => .list (toPs l)
  | _ => .none
def toPs : List D → List PyData
  | [] => []
  | d :: l => toP d :: toPs l
end
mutual
theorem shp_ok : ∀ (d : D) (k : Nat), dep d ≤ k → k < 1000 → (toP d).canLay0 = true ∧ (toP d).depth ≤ k
  | .non, _, _, _ => ⟨rfl, Nat.zero_le _⟩
  | .bl _, _, _, _ => ⟨rfl, Nat.zero_le _⟩
  | .int _, _, _, _ => ⟨rfl, Nat.zero_le _⟩
  | .str s, k, h, hk => by
    simp only [dep] at h
    split at h
    · rename_i e
      refine ⟨?_, Nat.zero_le _⟩
      show ((toS s).cps.all (· < 0x110000)) = true
      simpa [toS] using e
    · omega
  | .tup l, k, h, hk => by
    simp only [dep] at h
    obtain ⟨h1, h2⟩ := shps_ok l (k - 1) (by omega) (by omega)
    refine ⟨?_, ?_⟩
    · show PyData.canLayAll0 (toPs l) = true; exact h1
    · show PyData.depthAll (toPs l) + 1 ≤ k; omega
  | .lst l, k, h, hk => by
    simp only [dep] at h
    obtain ⟨h1, h2⟩ := shps_ok l (k - 1) (by omega) (by omega)
    refine ⟨?_, ?_⟩
    · show PyData.canLayAll0 (toPs l) = true; exact h1
    · show PyData.depthAll (toPs l) + 1 ≤ k; omega
  | .dic _ _, k, h, hk => by simp only [dep] at h; omega
  | .ref _, k, h, hk => by simp only [dep] at h; omega
  | .exn _, k, h, hk => by simp only [dep] at h; omega
  | .scr _, k, h, hk => by simp only [dep] at h; omega
theorem shps_ok : ∀ (l : List D) (k : Nat), deps l ≤ k → k < 1000 → PyData.canLayAll0 (toPs l) = true ∧ PyData.depthAll (toPs l) ≤ k
  | [], _, _, _ => ⟨rfl, Nat.zero_le _⟩
  | d :: l, k, h, hk => by
    simp only [deps] at h
    obtain ⟨h1, h2⟩ := shp_ok d k (by omega) hk
    obtain ⟨h3, h4⟩ := shps_ok l k (by omega) hk
    refine ⟨?_, ?_⟩
    · show ((toP d).canLay0 && PyData.canLayAll0 (toPs l)) = true; rw [h1, h3]; rfl
    · show max (toP d).depth (PyData.depthAll (toPs l)) ≤ k; omega
end
theorem shp_shaped {d : D} (h : shp d = true) : SeqAt.shaped (toP d) = true := by
  simp only [shp, decide_eq_true_eq] at h
  obtain ⟨h1, h2⟩ := shp_ok d 60 h (by omega)
  unfold SeqAt.shaped
  rw [h1, decide_eq_true (by omega : (toP d).depth ≤ 64)]; rfl
theorem beq_toS (a b : List Nat) : (toS a == toS b) = (a == b) := by
  rw [Bool.eq_iff_iff, beq_iff_eq, beq_iff_eq]
  exact ⟨toS_inj, fun e => by rw [e]⟩
mutual
theorem eqv_toP : ∀ (a b : D), dep a < 1000 → dep b < 1000 → PyData.eqv (toP a) (toP b) = eqD a b
  | .dic _ _, _, h, _ => by simp only [dep] at h; omega
  | .ref _, _, h, _ => by simp only [dep] at h; omega
  | .exn _, _, h, _ => by simp only [dep] at h; omega
  | .scr _, _, h, _ => by simp only [dep] at h; omega
  | a, .dic _ _, _, h => by simp only [dep] at h; omega
  | a, .ref _, _, h => by simp only [dep] at h; omega
  | a, .exn _, _, h => by simp only [dep] at h; omega
  | a, .scr _, _, h => by simp only [dep] at h; omega
  | .tup l, .tup m, h1, h2 => by
    simp only [dep] at h1 h2
    show PyData.eqvAll (toPs l) (toPs m) = eqDs l m
    exact eqvs_toP l m (by omega) (by omega)
  | .lst l, .lst m, h1, h2 => by
    simp only [dep] at h1 h2
    show PyData.eqvAll (toPs l) (toPs m) = eqDs l m
    exact eqvs_toP l m (by omega) (by omega)
  | .str l, .str m, _, _ => beq_toS l m
  | .non, .non, _, _ => rfl
  | .non, .bl _, _, _ => rfl
  | .non, .int _, _, _ => rfl
  | .non, .str _, _, _ => rfl
  | .non, .tup _, _, _ => rfl
  | .non, .lst _, _, _ => rfl
  | .bl _, .non, _, _ => rfl
  | .bl _, .bl _, _, _ => rfl
  | .bl _, .int _, _, _ => rfl
  | .bl _, .str _, _, _ => rfl
  | .bl _, .tup _, _, _ => rfl
  | .bl _, .lst _, _, _ => rfl
  | .int _, .non, _, _ => rfl
  | .int _, .bl _, _, _ => rfl
  | .int _, .int _, _, _ => rfl
  | .int _, .str _, _, _ => rfl
  | .int _, .tup _, _, _ => rfl
  | .int _, .lst _, _, _ => rfl
  | .str _, .non, _, _ => rfl
  | .str _, .bl _, _, _ => rfl
  | .str _, .int _, _, _ => rfl
  | .str _, .tup _, _, _ => rfl
  | .str _, .lst _, _, _ => rfl
  | .tup _, .non, _, _ => rfl
  | .tup _, .bl _, _, _ => rfl
  | .tup _, .int _, _, _ => rfl
  | .tup _, .str _, _, _ => rfl
  | .tup _, .lst _, _, _ => rfl
  | .lst _, .non, _, _ => rfl
  | .lst _, .bl _, _, _ => rfl
  | .lst _, .int _, _, _ => rfl
  | .lst _, .str _, _, _ => rfl
  | .lst _, .tup _, _, _ => rfl
theorem eqvs_toP : ∀ (a b : List D), deps a < 1000 → deps b < 1000 → PyData.eqvAll (toPs a) (toPs b) = eqDs a b
  | [], [], _, _ => rfl
  | [], _ :: _, _, _ => rfl
  | _ :: _, [], _, _ => rfl
  | a :: as, b :: bs, h1, h2 => by
    simp only [deps] at h1 h2
    show (PyData.eqv (toP a) (toP b) && PyData.eqvAll (toPs as) (toPs bs)) = (eqD a b && eqDs as bs)
    rw [eqv_toP a b (by omega) (by omega), eqvs_toP as bs (by omega) (by omega)]
end
section
variable {ca : Nat → Addr} {K : PySem.W.Frag} {W : Wish} {B : Nat → Prop} {b n n' : Nat} {F F' : Hp} {μ μ' : Nat → Addr} {S : Store} {σ : L2.St} {H : Hp} {X : Cx}
mutual
theorem RV.dp (hF : ∀ a o, F a = some o → H a = some o) : ∀ {d : D} {v : V}, RV K F μ 0 d v → dep d < 1000 → Dp K H v (toP d)
  | _, _, .non, _ => .non
  | _, _, .bl b, _ => .bl b
  | _, _, .int i, _ => .int i
  | _, _, .str l, _ => .str _
  | .tup l, _, .tup e r, h => .tup (.of (hF _ _ e)) (RVs.dp hF r (by simp only [dep] at h; omega))
  | .lst l, _, .lst e r, h => .lst (.of (hF _ _ e)) (RVs.dp hF r (by simp only [dep] at h; omega))
  | _, _, .scr _, h => by simp only [dep] at h; omega
  | _, _, .dicK _ _ _, h => by simp only [dep] at h; omega
  | _, _, .dicT _ _ _, h => by simp only [dep] at h; omega
  | _, _, .ref h, _ => absurd h (Nat.not_lt_zero _)
theorem RVs.dp (hF : ∀ a o, F a = some o → H a = some o) : ∀ {l : List D} {vs : List V}, RVs K F μ 0 l vs → deps l < 1000 → DpAll K H vs (toPs l)
  | _, _, .nil, _ => .nil
  | d :: l, _, .cons r t, h => .cons (RV.dp hF r (by simp only [deps] at h; omega)) (RVs.dp hF t (by simp only [deps] at h; omega))
end
theorem frozen_le (s : Sim ca K B F μ S H) {c m : Nat} : ∀ a o, frozen F H μ c m a = some o → H a = some o := fun a o e => by
  unfold frozen at e
  cases q : F a with
  | some u => rw [q] at e; cases e; exact s.le _ _ q
  | none =>
    rw [q] at e
    simp only at e
    split at e
    · exact e
    · cases e
theorem rd_dp {d d' : D} {v : V} (s : Sim ca K B F μ S H) (r : RV K F μ S.length d v) (h : rd S d = some d') (hs : shp d' = true) : Dp K H v (toP d') :=
  RV.dp (frozen_le s) (fz_ok s 0 fuelF d d' v h r) (by simp only [shp, decide_eq_true_eq] at hs; omega)

/-! ### == -/
def rEqA (K : PySem.W.Frag) (neg : Bool) : R2 := fun x y H Q => if neg then rNe x y H Q ∨ rNeD K x y H Q else rEq x y H Q ∨ rEqD K x y H Q
theorem op_eqA (hu : X.A.units + 64 < cLine) : OpR X (compareOp .Eq) (rEqA X.K false) := op_eq.or (op_eqD hu)
theorem op_neA (hu : X.A.units + 64 < cLine) : OpR X (compareOp .NotEq) (rEqA X.K true) := op_ne.or (op_neD hu)
theorem dec_V {a b : D} {v u : V} (hs : scalD a b = true) (rv : RV K F μ n a v) (ru : RV K F μ n b u) : scal v u = true ∧ decide (v = u) = eqD a b := by
  cases rv <;> cases ru <;> first
    | exact absurd (show false = true from hs) Bool.false_ne_true
    | (refine ⟨rfl, ?_⟩
       first
         | rfl
         | (simp only [eqD, dec_int, dec_bl]; done)
         | (rw [dec_str]; exact beq_toS _ _)
         | (simp [eqD]; done))
theorem cmp_ok {a b : D} {v u : V} {k : Bool} (s : Sim ca K B F μ S H) (rv : RV K F μ S.length a v) (ru : RV K F μ S.length b u) (h : cmpEq S a b = some k) :
    (scal v u = true ∧ decide (v = u) = k) ∨ ∃ d e, Dp K H v d ∧ Dp K H u e ∧ SeqAt.shaped d = true ∧ SeqAt.shaped e = true ∧ PyData.eqv d e = k := by
  unfold cmpEq at h
  split at h
  · rename_i hs
    cases h
    exact .inl (dec_V hs rv ru)
  · split at h
    · rename_i a' b' e1 e2
      split at h
      · rename_i hs
        simp only [Bool.and_eq_true] at hs
        cases h
        have l1 : dep a' < 1000 := by have := hs.1; simp only [shp, decide_eq_true_eq] at this; omega
        have l2 : dep b' < 1000 := by have := hs.2; simp only [shp, decide_eq_true_eq] at this; omega
        exact .inr ⟨_, _, rd_dp s rv e1 hs.1, rd_dp s ru e2 hs.2, shp_shaped hs.1, shp_shaped hs.2, eqv_toP _ _ l1 l2⟩
      · cases h
    · cases h
theorem pr_eq : Pr2 K pEq (rEqA K false) := by
  intro ca W b B F μ S H d e v u Q hb s rv ru k
  unfold pEq at k
  split at k
  · rename_i c hc
    have q := k.val s (.bl c)
    rcases cmp_ok s rv ru hc with ⟨h1, h2⟩ | ⟨d1, e1, h1, h2, h3, h4, h5⟩
    · exact .inl ⟨h1, by rw [h2]; exact q⟩
    · exact .inr ⟨d1, e1, h1, h2, h3, h4, by rw [h5]; exact q⟩
  · exact k.elim
theorem pr_ne : Pr2 K pNe (rEqA K true) := by
  intro ca W b B F μ S H d e v u Q hb s rv ru k
  unfold pNe at k
  split at k
  · rename_i c hc
    have q := k.val s (.bl !c)
    rcases cmp_ok s rv ru hc with ⟨h1, h2⟩ | ⟨d1, e1, h1, h2, h3, h4, h5⟩
    · exact .inl ⟨h1, by rw [h2]; exact q⟩
    · exact .inr ⟨d1, e1, h1, h2, h3, h4, by rw [h5]; exact q⟩
  · exact k.elim
end
end NR

namespace NR
open PySem PySem.Spec PyProof.Rows L2
section
variable {ca : Nat → Addr} {K : PySem.W.Frag} {W : Wish} {B : Nat → Prop} {b n n' : Nat} {F F' : Hp} {μ μ' : Nat → Addr} {S : Store} {σ : L2.St} {H : Hp} {X : Cx}
/-! ### in -/
theorem flat_V {d : D} {v : V} (r : RV K F μ n d v) (h : flat d = true) : flatV v = true := by
  cases r <;> first | rfl | exact absurd (show false = true from h) Bool.false_ne_true
theorem flats_V : ∀ {l : List D} {vs : List V}, RVs K F μ n l vs → l.all flat = true → vs.all flatV = true
  | _, _, .nil, _ => rfl
  | _, _, .cons r t, h => by
    simp only [List.all_cons, Bool.and_eq_true] at h ⊢
    exact ⟨flat_V r h.1, flats_V t h.2⟩
theorem eqV_D {a b : D} {v u : V} (rv : RV K F μ n a v) (ru : RV K F μ n b u) (ha : flat a = true) (hb : flat b = true) : eqV v u = eqD a b := by
  cases rv <;> first
    | exact absurd (show false = true from ha) Bool.false_ne_true
    | (cases ru <;> first
        | exact absurd (show false = true from hb) Bool.false_ne_true
        | rfl
        | exact beq_toS _ _)
theorem inV_D {x : D} {v : V} (rv : RV K F μ n x v) (hx : flat x = true) : ∀ {l : List D} {vs : List V}, RVs K F μ n l vs → l.all flat = true → inV v vs = l.any fun y => eqD y x
  | _, _, .nil, _ => rfl
  | _, _, .cons r t, h => by
    simp only [List.all_cons, Bool.and_eq_true] at h
    simp only [inV, List.any_cons, eqV_D r rv h.1 hx]
    exact congrArg _ (inV_D rv hx t h.2)
theorem any_toPs {x : D} (hx : dep x < 1000) : ∀ {l : List D}, deps l < 1000 → (toPs l).any (fun z => PyData.eqv z (toP x)) = l.any fun y => eqD y x
  | [], _ => rfl
  | d :: l, h => by
    simp only [deps] at h
    show (PyData.eqv (toP d) (toP x) || (toPs l).any fun z => PyData.eqv z (toP x)) = _
    rw [List.any_cons, eqv_toP d x (by omega) hx, any_toPs hx (by omega)]
def neg (k b : Bool) : Bool := if k then !b else b
/-- x in c, but a dict -/
def rInA (K : PySem.W.Frag) (k : Bool) : R2 := fun x y H Q => (∃ (c : Nat) (z : Str), x = .str ⟨#[c]⟩ ∧ y = .str z ∧ Q (.bl (neg k (decide (c ∈ z.cps.toList)))) H) ∨ rIn K k x y H Q ∨ (if k then rNotInD K x y H Q else rInD K x y H Q)
theorem op_inA (hu : X.A.units + 65 < cLine) : OpR X (compareOp .In) (rInA X.K false) := op_in_sign.or (op_in_seq.or (op_inD hu))
theorem op_notInA (hu : X.A.units + 65 < cLine) : OpR X (compareOp .NotIn) (rInA X.K true) := op_notIn_sign.or (op_notIn_seq.or (op_notInD hu))
/-- but a dict -/
def inN (S : Store) (x c : D) : Option Bool := match pairsOf S c with
  | some _ => none
  | none => inD S x c
theorem in_ok {k : Bool} {x c : D} {v u : V} {r : Bool} {Q : VK} (s : Sim ca K B F μ S H) (rv : RV K F μ S.length x v) (ru : RV K F μ S.length c u) (h : inN S x c = some r) (q : Q (.bl (neg k r)) H) : rInA K k v u H Q := by
  unfold inN at h
  split at h
  · cases h
  rename_i hp
  unfold inD at h
  split at h
  · split at h
    · cases h; cases rv; cases ru
      refine .inl ⟨_, _, rfl, rfl, ?_⟩
      rw [toS_cps]; exact q
    · cases h
  · rename_i hns
    split at h
    · rename_i l hl
      obtain ⟨a, vs, rfl, r1, h1⟩ := items_A s ru hl
      split at h
      · rename_i hf
        simp only [Bool.and_eq_true] at hf
        cases h
        refine .inr (.inl ⟨a, vs, rfl, ?_, flat_V rv hf.1, flats_V r1 hf.2, ?_⟩)
        · rcases h1 with h1 | h1
          · exact .inl (.of h1.1)
          · exact .inr (.of h1.1)
        · rw [inV_D rv hf.1 r1 hf.2]; exact q
      · split at h
        · split at h
          · rename_i x' l' e1 e2
            split at h
            · rename_i hs
              simp only [Bool.and_eq_true] at hs
              cases h
              have d1 := rd_dp s rv e1 hs.1
              have d2 : Dp K H _ (.list (toPs l')) := rd_dp s ru e2 hs.2
              have l1 : dep x' < 1000 := by have := hs.1; simp only [shp, decide_eq_true_eq] at this; omega
              have l2 : deps l' < 1000 := by have : deps l' + 1 ≤ 60 := of_decide_eq_true hs.2; omega
              have sh : SeqAt.shaped (.list (toPs l')) = true := shp_shaped hs.2
              refine .inr (.inr ?_)
              cases k with
              | false => exact ⟨_, _, d1, d2, shp_shaped hs.1, sh, by rw [any_toPs l1 l2]; exact q⟩
              | true => exact ⟨_, _, d1, d2, shp_shaped hs.1, sh, by rw [any_toPs l1 l2]; exact q⟩
            · cases h
          · cases h
        · cases h
    · rw [hp] at h
      cases h
def pInN : P2 := fun _ x y S => match inN S x y with
  | some b => .ok (.bl b) S
  | none => .no
def pNotInN : P2 := fun _ x y S => match inN S x y with
  | some b => .ok (.bl (!b)) S
  | none => .no
theorem pr_in : Pr2 K pInN (rInA K false) := by
  intro ca W b B F μ S H d e v u Q hb s rv ru k
  unfold pInN at k
  split at k
  · rename_i c hc; exact in_ok s rv ru hc (k.val s (.bl c))
  · exact k.elim
theorem pr_notIn : Pr2 K pNotInN (rInA K true) := by
  intro ca W b B F μ S H d e v u Q hb s rv ru k
  unfold pNotInN at k
  split at k
  · rename_i c hc; exact in_ok s rv ru hc (k.val s (.bl !c))
  · exact k.elim

/-! ### subscripts -/
theorem at_I {α : Type} (xs : List α) (i : Int) : at_ xs i = atI xs i := rfl
theorem RVs.at_ {l : List D} {vs : List V} {i : Int} {d : D} (r : RVs K F μ n l vs) (h : at_ l i = some d) : ∃ v, atI vs i = some v ∧ RV K F μ n d v := by
  unfold NR.at_ at h
  obtain ⟨j, h1, h2⟩ := Option.bind_eq_some_iff.mp h
  obtain ⟨v, e, rv⟩ := r.get h2
  refine ⟨v, ?_, rv⟩
  unfold atI
  rw [← r.length]
  exact Option.bind_eq_some_iff.mpr ⟨j, h1, e⟩
/-- but a dict -/
def pIxN : P2 := fun b x y S => match pairsOf S x with
  | some _ => .no
  | none => pIx b x y S
theorem pr_ix : Pr2 K pIxN (rIx K) := by
  intro ca W b B F μ S H d e v u Q hb s rv ru k
  unfold pIxN at k
  split at k
  · exact k.elim
  rename_i hp
  unfold pIx at k
  split at k
  · split at k
    · split at k
      · rename_i hz
        split at k
        · rename_i c hc
          cases rv; cases ru
          refine .inr (.inr ⟨_, _, c, rfl, rfl, by rw [toS_len, ← line_eq]; exact hz, by rw [toS_cps]; exact hc, ?_⟩)
          exact k.val s (.str [c])
        · exact k.elim
      · exact k.elim
    · exact k.elim
  · split at k
    · rename_i l hl
      split at k
      · split at k
        · rename_i d' hd
          obtain ⟨a, vs, rfl, r1, h1⟩ := items_A s rv hl
          cases ru
          obtain ⟨v', e1, r2⟩ := r1.at_ hd
          have q := k.val s r2
          rcases h1 with h1 | h1
          · exact .inl ⟨a, vs, _, v', rfl, rfl, .of h1.1, e1, q⟩
          · exact .inr (.inl ⟨a, vs, _, v', rfl, rfl, .of h1.1, e1, q⟩)
        · exact k.elim
      · exact k.elim
    · rw [hp] at k
      exact k.elim

/-! ### slices -/
theorem six_eq (n d : Nat) (o : Option Int) : six n d o = HT.sIx n d o := by
  cases o <;> rfl
theorem RVs.cut {l : List D} {vs : List V} (r : RVs K F μ n l vs) (lo hi : Option Int) : RVs K F μ n (cut l lo hi) (cutV vs lo hi) := by
  unfold NR.cut cutV
  rw [← r.length]
  simp only [six_eq]
  exact (r.drop _).take _
theorem cut_str (l : List Nat) (lo hi : Option Int) : cutS (toS l) lo hi = toS (cut l lo hi) := by
  unfold cutS NR.cut
  simp only [six_eq, toS_len, toS_cps]
  rfl
theorem RVs.map_int : ∀ l : List Int, RVs K F μ n (l.map .int) (l.map V.int)
  | [] => .nil
  | i :: l => .cons (.int i) (RVs.map_int l)
def rSl4 (K : PySem.W.Frag) : V → Option Int → Option Int → Hp → VK → Prop := fun x lo hi H Q => rSlS x lo hi H Q ∨ rSlA K x lo hi H Q ∨ rSlL K x lo hi H Q
theorem sl_4 : SlR X (rSl4 X.K) := sl_str.or (sl_tupA.or sl_list)
theorem pr_sl {d : D} {v : V} {lo hi : Option Int} {Q : VK} (s : Sim ca K B F μ S H) (rv : RV K F μ S.length d v) (k : RK ca K W B F μ S.length (slD d lo hi S) (VQ K Q)) : rSl4 K v lo hi H Q := by
  unfold slD at k
  split at k
  · rename_i z
    cases rv
    split at k
    · rename_i hz
      exact .inl ⟨_, rfl, by rw [toS_len, ← line_eq]; exact hz, by rw [cut_str]; exact k.val s (.str _)⟩
    · exact k.elim
  · rename_i l
    obtain ⟨a, vs, rfl, hF, hH, r1⟩ := rv_tup s rv
    refine .inr (.inl ⟨a, vs, rfl, .of hH, fun e => ?_, fun _ => k.newT s (r1.cut lo hi)⟩)
    refine k.val s (.tup hF ?_)
    have : cutV vs lo hi = vs := by
      unfold cutV
      rw [e.1, e.2, List.drop_zero, Nat.sub_zero, List.take_length]
    have r2 := r1.cut lo hi
    rw [this] at r2
    exact r2
  · rename_i l
    cases rv with
    | scr e =>
      refine .inr (.inr ⟨_, _, rfl, SqL.mono s.le e, ?_⟩)
      exact k.newL s ((RVs.map_int l).cut lo hi)
  · split at k
    · rename_i hl
      split at k
      · rename_i l he
        obtain ⟨a, vs, rfl, hH, r1⟩ := items_L s rv he hl
        exact .inr (.inr ⟨a, vs, rfl, .of hH, k.newL s (r1.cut lo hi)⟩)
      · exact k.elim
    · exact k.elim
end
end NR

namespace NR
open PySem PySem.Spec PyProof.Rows L2
section
variable {ca : Nat → Addr} {K : PySem.W.Frag} {W : Wish} {B : Nat → Prop} {b n n' : Nat} {F F' : Hp} {μ μ' : Nat → Addr} {S : Store} {σ : L2.St} {H : Hp} {X : Cx}
/-! ### the rules of operators -/
theorem re_mono {x : Ex} {Q Q' : VK} (h : RE ca K W x σ H Q) (hq : ∀ v H', Q v H' → Q' v H') : RE ca K W x σ H Q' := by
  obtain ⟨b, B, F, μ, ρ, S, hb, s, l, k⟩ := h
  exact .mk hb s l (k.mono fun _ _ _ _ _ _ _ _ q v rv => hq v _ (q v rv))
section
variable {a c e : Expr} {pos : Pos} {x y z : Ex}
theorem r_op {op : Operator} {f : P2} {r : R2} (ho : OpR X (binaryOp op) r) (p : Pr2 X.K f r) (ha : PE X a (RE ca X.K W x)) (hc : PE X c (RE ca X.K W y)) : PE X (.BinOp a op c pos) (RE ca X.K W (e2 f x y)) :=
  (pe_op ho ha hc).conv fun _ _ _ h => re_e2 p h
theorem r_neg (ha : PE X a (RE ca X.K W x)) : PE X (.UnaryOp .USub a pos) (RE ca X.K W (e1 pNeg x)) := (pe_un un_neg ha).conv fun _ _ _ h => re_e1 pr_neg h
theorem r_cmp {op : CmpOp} {f : P2} {r : R2} (ho : OpR X (compareOp op) r) (p : Pr2 X.K f r) (ha : PE X a (RE ca X.K W x)) (hc : PE X c (RE ca X.K W y)) (hm : behindInMarks op c = false) : PE X (.Compare a [op] [c] pos) (RE ca X.K W (e2 f x y)) :=
  (pe_cmpR ho ha hc hm).conv fun _ _ _ h => re_e2 p h
theorem r_isN {j : Nat} {p2 : Pos} (ha : PE X a (RE ca X.K W x)) : PE X (.Compare a [.Is] [.Constant .none j p2] pos) (RE ca X.K W (e1 pIsN x)) :=
  (pe_cmpR op_isN ha pe_non (nomark _)).conv fun σ H Q h =>
    re_mono (re_e1 (r := fun v H Q => Q (.bl (decide (v = .non))) H) (fun ca W b B F μ S H d v Q hb s rv k => by
      unfold pIsN at k
      have q := k.val s (.bl _)
      cases rv <;> exact q) h) fun v H' q => ⟨rfl, q⟩
theorem r_notN {j : Nat} {p2 : Pos} (ha : PE X a (RE ca X.K W x)) : PE X (.Compare a [.IsNot] [.Constant .none j p2] pos) (RE ca X.K W (e1 pNotN x)) :=
  (pe_cmpR op_notN ha pe_non (nomark _)).conv fun σ H Q h =>
    re_mono (re_e1 (r := fun v H Q => Q (.bl (!decide (v = .non))) H) (fun ca W b B F μ S H d v Q hb s rv k => by
      unfold pNotN at k
      have q := k.val s (.bl _)
      cases rv <;> exact q) h) fun v H' q => ⟨rfl, q⟩
theorem r_isB {j : Nat} {p2 : Pos} {t : Bool} (ha : PE X a (RE ca X.K W x)) : PE X (.Compare a [.Is] [.Constant (.bool t) j p2] pos) (RE ca X.K W (e1 (pIsB t) x)) :=
  (pe_cmpR op_isBl ha pe_bl (nomark _)).conv fun σ H Q h =>
    re_mono (re_e1 (r := fun v H Q => ∃ k : Bool, v = .bl k ∧ Q (.bl (decide (k = t))) H) (fun ca W b B F μ S H d v Q hb s rv k => by
      unfold pIsB at k
      split at k
      · cases rv; exact ⟨_, rfl, k.val s (.bl _)⟩
      · exact k.elim) h) fun v H' q => let ⟨k, e1, e2⟩ := q; ⟨k, t, e1, rfl, e2⟩
theorem r_ix (ha : PE X a (RE ca X.K W x)) (hc : PE X c (RE ca X.K W y)) (hs : PlainIx c) : PE X (.Subscript a c pos) (RE ca X.K W (e2 pIxN x y)) := (pe_ix ix_seq ha hc hs).conv fun _ _ _ h => re_e2 pr_ix h
end

/-! ### slices -/
def PQ (Q : Option Int → Hp → Prop) : RA (Option Int) := fun _ _ _ o H => Q o H
def RO (ca : Nat → Addr) (K : PySem.W.Frag) (W : Wish) (m : Po) : TO := fun σ H Q => RM ca K W m σ H (PQ Q)
theorem _root_.L2.PO.conv {e : Option Expr} {t t' : TO} (h : PO X e t) (c : ∀ σ H Q, t' σ H Q → t σ H Q) : PO X e t' := ⟨fun pins s σ H Q I hw => h.run pins s σ H Q I (c _ _ _ hw)⟩
theorem r_oN : PO X none (RO ca X.K W oN) := po_none.conv fun σ H Q h => by
  obtain ⟨b, B, F, μ, ρ, S, hb, s, l, k⟩ := h
  exact RK.now (R := PQ Q) k s
theorem r_oS {e : Expr} {x : Ex} (he : PE X e (RE ca X.K W x)) : PO X (some e) (RO ca X.K W (oS x)) := (po_some he).conv fun σ H Q h => by
  obtain ⟨b, B, F, μ, ρ, S, hb, s, l, k⟩ := h
  refine .mk hb s l (RK.mono (RK.bind k) fun d S' H' F' μ' _ g s' hk => fun v rv => ?_)
  split at hk
  · cases rv; exact ⟨_, rfl, RK.now (R := PQ Q) hk s'⟩
  · exact hk.elim
theorem r_sl {e : Expr} {lo hi : Option Expr} {p2 pos : Pos} {x : Ex} {l h : Po} (he : PE X e (RE ca X.K W x)) (hl : PO X lo (RO ca X.K W l)) (hh : PO X hi (RO ca X.K W h)) : PE X (.Subscript e (.Slice lo hi none p2) pos) (RE ca X.K W (eSl x l h)) :=
  (pe_slice sl_4 he hl hh).conv fun σ H Q hw => by
    obtain ⟨b, B, F, μ, ρ, S, hb, s, ll, k⟩ := hw
    refine .mk hb s ll (RK.mono (RK.bind k) fun d S1 H1 F1 μ1 _ g1 s1 k1 => fun v rv => ?_)
    refine .mk hb s1 (ll.mono g1) (RK.mono (RK.bind k1) fun o1 S2 H2 F2 μ2 _ g2 s2 k2 => ?_)
    refine .mk hb s2 (ll.mono (g1.trans g2)) (RK.mono (RK.bind k2) fun o2 S3 H3 F3 μ3 _ g3 s3 k3 => ?_)
    exact pr_sl s3 (rv.mono (g2.trans g3)) k3

/-! ### argument lists -/
theorem r_aN : PA X [] (RAs ca X.K W aN) := pa_nil.conv fun σ H Q h => by
  obtain ⟨b, B, F, μ, ρ, S, hb, s, l, k⟩ := h
  exact RK.now k s _ .nil
theorem ra_c {x : Ex} {as : Exs} {Q : List V → Hp → Prop} (h : RAs ca K W (aC x as) σ H Q) : RE ca K W x σ H fun v H1 => RAs ca K W as σ H1 fun vs H2 => Q (v :: vs) H2 := by
  obtain ⟨b, B, F, μ, ρ, S, hb, s, l, k⟩ := h
  refine .mk hb s l (RK.mono (RK.bind k) fun d S' H' F' μ' _ g s' hk => fun v rv => ?_)
  refine .mk hb s' (l.mono g) (RK.mono (RK.bind hk) fun ds S2 H2 F2 μ2 _ g2 s2 hk2 => fun vs rvs => ?_)
  exact RK.now hk2 s2 _ (.cons (rv.mono g2) rvs)
theorem r_aC {e : Expr} {es : List Expr} {x : Ex} {as : Exs} (he : PE X e (RE ca X.K W x)) (hr : PA X es (RAs ca X.K W as)) (hs : starEach (e :: es) X.env = (false, eval e X.env) :: starEach es X.env := by rfl) : PA X (e :: es) (RAs ca X.K W (aC x as)) :=
  (pa_cons he hr hs).conv fun _ _ _ h => ra_c h
/-- what an operation over an argument list must tell -/
def PrN (K : PySem.W.Frag) (f : PN) (r : List V → Hp → VK → Prop) : Prop := ∀ (ca : Nat → Addr) (W : Wish) (b : Nat) (B : Nat → Prop) (F : Hp) (μ : Nat → Addr) (S : Store) (H : Hp) (ds : List D) (vs : List V) (Q : VK), (∀ c, B c → c ≤ b) → Sim ca K B F μ S H → RVs K F μ S.length ds vs → RK ca K W B F μ S.length (f b ds S) (VQ K Q) → r vs H Q
theorem re_N {f : PN} {as : Exs} {r : List V → Hp → VK → Prop} (p : PrN K f r) {Q : VK} (h : RE ca K W (eN f as) σ H Q) : RAs ca K W as σ H fun vs H1 => r vs H1 Q := by
  obtain ⟨b, B, F, μ, ρ, S, hb, s, l, k⟩ := h
  refine .mk hb s l (RK.mono (RK.bind k) fun ds S' H' F' μ' _ g s' hk => fun vs rv => p ca W b B F' μ' S' H' ds vs Q hb s' rv hk)
section
variable {e : Expr} {es : List Expr} {as : Exs} {pos p : Pos} {nm : Str}
theorem r_tup {j : Nat} (h : PA X es (RAs ca X.K W as)) : PE X (.Tuple es j pos) (RE ca X.K W (eN pTup as)) := (pe_tup h).conv fun _ _ _ h => re_N (r := fun vs H Q => vs.length ≤ sizeLine ∧ ∀ p, H p = none → Q (.ref p) (upd H p (.tup vs))) (fun ca W b B F μ S H ds vs Q hb s rv k => by
  unfold pTup at k
  split at k
  · rename_i hz
    exact ⟨by rw [← rv.length, ← line_eq]; exact hz, k.newT s rv⟩
  · exact k.elim) h
theorem r_lst (h : PA X es (RAs ca X.K W as)) : PE X (.List es pos) (RE ca X.K W (eN pLst as)) := (pe_lst h).conv fun _ _ _ h => re_N (r := fun vs H Q => vs.length ≤ sizeLine ∧ ∀ p, H p = none → Q (.ref p) (upd H p (.lst vs))) (fun ca W b B F μ S H ds vs Q hb s rv k => by
  unfold pLst at k
  split at k
  · rename_i hz
    exact ⟨by rw [← rv.length, ← line_eq]; exact hz, k.newL s rv⟩
  · exact k.elim) h
theorem r_B {f : PN} {id : String} {r : List V → Hp → VK → Prop} (hc : CallR X (.builtin id) r) (q : PrN X.K f r) (hg : Gl X nm) (hm : X.mg nm = none) (hv : bootBuiltins nm = some (.builtin id)) (ha : PA X (e :: es) (RAs ca X.K W as)) (hn : nm ≠ "__name__" := by decide)
    (hdb : (nm == ("__debug__" : Str)) = false := by decide) (he : starEach (e :: es) X.env = (false, eval e X.env) :: starEach es X.env := by rfl) (hpl : (backTo pos (starEach es X.env)).any (·.1) = false := by rfl) :
    PE X (.Call (.Name nm p) (e :: es) [] pos) (RE ca X.K W (eN f as)) := (pe_callB hc hg hm hv ha hn hdb he hpl).conv fun _ _ _ h => re_N q h
theorem r_Ty {f : PN} {T : String} {r : List V → Hp → VK → Prop} (hc : CallR X (.type T) r) (q : PrN X.K f r) (hg : Gl X nm) (hm : X.mg nm = none) (hv : bootBuiltins nm = some (.type T)) (ha : PA X (e :: es) (RAs ca X.K W as)) (hn : nm ≠ "__name__" := by decide)
    (hdb : (nm == ("__debug__" : Str)) = false := by decide) (he : starEach (e :: es) X.env = (false, eval e X.env) :: starEach es X.env := by rfl) (hpl : (backTo pos (starEach es X.env)).any (·.1) = false := by rfl) :
    PE X (.Call (.Name nm p) (e :: es) [] pos) (RE ca X.K W (eN f as)) := (pe_callTy hc hg hm hv ha hn hdb he hpl).conv fun _ _ _ h => re_N q h
end
/-- one argument, two -/
def n1 (f : P1) : PN := fun b ds S => match ds with
  | [d] => f b d S
  | _ => .no
def n2 (f : P2) : PN := fun b ds S => match ds with
  | [d, e] => f b d e S
  | _ => .no
theorem prN1 {f : P1} {r : List V → Hp → VK → Prop} (p : Pr1 K f fun v H Q => r [v] H Q) : PrN K (n1 f) r := fun ca W b B F μ S H ds vs Q hb s rv k => by
  unfold n1 at k
  split at k
  · cases rv with
    | cons r1 r2 => cases r2; exact p ca W b B F μ S H _ _ Q hb s r1 k
  · exact k.elim
theorem prN2 {f : P2} {r : List V → Hp → VK → Prop} (p : Pr2 K f fun v u H Q => r [v, u] H Q) : PrN K (n2 f) r := fun ca W b B F μ S H ds vs Q hb s rv k => by
  unfold n2 at k
  split at k
  · cases rv with
    | cons r1 r2 =>
      cases r2 with
      | cons r2 r3 => cases r3; exact p ca W b B F μ S H _ _ _ _ Q hb s r1 r2 k
  · exact k.elim

/-! ### built-ins -/
def rLenA (K : PySem.W.Frag) : List V → Hp → VK → Prop := fun xs H Q => (∃ x n, xs = [x] ∧ LenV K x H n ∧ Q (.int n) H) ∨ (∃ (d : Addr) (kvs : List (Key × V)), xs = [.ref d] ∧ H d = some (.dK kvs) ∧ Q (.int (kvs.length : Nat)) H) ∨ rLenT xs H Q
theorem items_none {d : D} (h : items S d = none) {l : List D} (e : d = .tup l ∨ d = .lst l) : False := by
  rcases e with e | e <;> subst e <;> cases h
def pLenN : P1 := fun b x S => match x with | .str _ => pLen b x S | x => match items S x with | some _ => pLen b x S | none => .no
theorem pr_len0 : PrN K (n1 pLenN) (fun xs H Q => ∃ x n, xs = [x] ∧ LenV K x H n ∧ Q (.int n) H) := prN1 fun ca W b B F μ S H d v Q hb s rv k => by
  unfold pLenN at k
  split at k
  · rename_i z
    cases rv
    unfold pLen at k
    simp only at k
    split at k
    · rename_i hz
      exact ⟨_, z.length, rfl, ⟨by rw [toS_len, ← line_eq]; exact hz, (toS_len z).symm⟩, k.val s (.int _)⟩
    · exact k.elim
  · rename_i hns
    split at k
    · rename_i l hl
      have k2 : RK ca K W B F μ S.length (.ok (.int (l.length : Nat)) S) (VQ K Q) := by
        unfold pLen at k
        split at k
        · exact absurd rfl (hns _)
        · rw [hl] at k; exact k
      obtain ⟨a, vs, rfl, r1, h1⟩ := items_A s rv hl
      refine ⟨_, l.length, rfl, ?_, k2.val s (.int _)⟩
      rcases h1 with h1 | h1
      · exact .inl ⟨vs, .of h1.1, r1.length⟩
      · exact .inr ⟨vs, .of h1.1, r1.length⟩
    · exact k.elim
theorem pr_abs : PrN K (n1 pAbs) (fun xs H Q => ∃ i, xs = [.int i] ∧ Q (.int (if i < 0 then -i else i)) H) := prN1 fun ca W b B F μ S H d v Q hb s rv k => by
  unfold pAbs at k
  split at k
  · cases rv; exact ⟨_, rfl, k.val s (.int _)⟩
  · exact k.elim
theorem pr_max2 : PrN K (n2 pMax2) (fun xs H Q => ∃ i j, xs = [.int i, .int j] ∧ Q (.int (if j > i then j else i)) H) := prN2 fun ca W b B F μ S H d e v u Q hb s rv ru k => by
  unfold pMax2 at k
  split at k
  · cases rv; cases ru; exact ⟨_, _, rfl, k.val s (.int _)⟩
  · exact k.elim
theorem pr_min2 : PrN K (n2 pMin2) (fun xs H Q => ∃ i j, xs = [.int i, .int j] ∧ Q (.int (if j < i then j else i)) H) := prN2 fun ca W b B F μ S H d e v u Q hb s rv ru k => by
  unfold pMin2 at k
  split at k
  · cases rv; cases ru; exact ⟨_, _, rfl, k.val s (.int _)⟩
  · exact k.elim
theorem ints_L {d : D} {v : V} {l : List Int} (s : Sim ca K B F μ S H) (rv : RV K F μ S.length d v) (h : intsL S d = some l) : ∃ a, v = .ref a ∧ H a = some (.lst (l.map V.int)) := by
  unfold intsL at h
  split at h
  · rename_i hl
    obtain ⟨m, h1, h2⟩ := Option.bind_eq_some_iff.mp h
    obtain ⟨a, vs, e, hH, r⟩ := items_L s rv h1 hl
    exact ⟨a, e, by rw [← r.intsD h2]; exact hH⟩
  · cases h
theorem pr_sum : PrN K (n1 pSum) (rSum K) := prN1 fun ca W b B F μ S H d v Q hb s rv k => by
  unfold pSum at k
  split at k
  · rename_i l hl
    obtain ⟨a, rfl, e⟩ := ints_L s rv hl
    exact ⟨a, l, rfl, .of e, k.val s (.int _)⟩
  · exact k.elim
theorem maxL_spec : ∀ {l : List Int}, l ≠ [] → maxL l ∈ l ∧ ∀ y ∈ l, y ≤ maxL l
  | [x], _ => ⟨List.mem_singleton.mpr rfl, fun y hy => by rw [List.mem_singleton.mp hy]; exact Int.le_refl _⟩
  | x :: y :: l, _ => by
    obtain ⟨h1, h2⟩ := maxL_spec (l := y :: l) (by simp)
    have e : maxL (x :: y :: l) = max x (maxL (y :: l)) := rfl
    rw [e]
    refine ⟨?_, fun z hz => ?_⟩
    · by_cases h : x ≤ maxL (y :: l)
      · rw [Int.max_eq_right h]; exact List.mem_cons_of_mem _ h1
      · rw [Int.max_eq_left (by omega)]; exact List.mem_cons_self
    · rcases List.mem_cons.mp hz with q | q
      · subst q; omega
      · have := h2 z q; omega
theorem minL_spec : ∀ {l : List Int}, l ≠ [] → minL l ∈ l ∧ ∀ y ∈ l, minL l ≤ y
  | [x], _ => ⟨List.mem_singleton.mpr rfl, fun y hy => by rw [List.mem_singleton.mp hy]; exact Int.le_refl _⟩
  | x :: y :: l, _ => by
    obtain ⟨h1, h2⟩ := minL_spec (l := y :: l) (by simp)
    have e : minL (x :: y :: l) = min x (minL (y :: l)) := rfl
    rw [e]
    refine ⟨?_, fun z hz => ?_⟩
    · by_cases h : x ≤ minL (y :: l)
      · rw [Int.min_eq_left h]; exact List.mem_cons_self
      · rw [Int.min_eq_right (by omega)]; exact List.mem_cons_of_mem _ h1
    · rcases List.mem_cons.mp hz with q | q
      · subst q; omega
      · have := h2 z q; omega
theorem pr_maxL : PrN K (n1 pMaxL) (rMax K) := prN1 fun ca W b B F μ S H d v Q hb s rv k => by
  unfold pMaxL at k
  split at k
  · rename_i l hl
    obtain ⟨a, rfl, e⟩ := ints_L s rv hl
    split at k
    · exact k.elim
    · rename_i hne
      refine ⟨a, l, rfl, .of e, List.length_pos_iff.mpr hne, fun m hm hle => ?_⟩
      obtain ⟨h1, h2⟩ := maxL_spec hne
      have : m = maxL l := by have := h2 m hm; have := hle _ h1; omega
      rw [this]; exact k.val s (.int _)
  · exact k.elim
theorem pr_minL : PrN K (n1 pMinL) (rMin K) := prN1 fun ca W b B F μ S H d v Q hb s rv k => by
  unfold pMinL at k
  split at k
  · rename_i l hl
    obtain ⟨a, rfl, e⟩ := ints_L s rv hl
    split at k
    · exact k.elim
    · rename_i hne
      refine ⟨a, l, rfl, .of e, List.length_pos_iff.mpr hne, fun m hm hle => ?_⟩
      obtain ⟨h1, h2⟩ := minL_spec hne
      have : m = minL l := by have := h2 m hm; have := hle _ h1; omega
      rw [this]; exact k.val s (.int _)
  · exact k.elim
theorem pr_all : PrN K (n1 pAll) (rAll K) := prN1 fun ca W b B F μ S H d v Q hb s rv k => by
  unfold pAll at k
  split at k
  · rename_i hl
    split at k
    · rename_i l he
      obtain ⟨m, h1, h2⟩ := Option.bind_eq_some_iff.mp he
      obtain ⟨a, vs, e, hH, r⟩ := items_L s rv h1 hl
      subst e
      exact ⟨a, l, rfl, .of (by rw [← r.boolsD h2]; exact hH), k.val s (.bl _)⟩
    · exact k.elim
  · exact k.elim
theorem pr_tuple : PrN K (n1 pTuple) (fun xs H Q => ∃ p ys, xs = [.ref p] ∧ ((SqL K H p ys ∧ ∀ l, H l = none → Q (.ref l) (upd H l (.tup ys))) ∨ (SqT K H p ys ∧ Q (.ref p) H))) := prN1 fun ca W b B F μ S H d v Q hb s rv k => by
  unfold pTuple at k
  split at k
  · rename_i l hl
    obtain ⟨a, vs, rfl, r1, h1⟩ := items_A s rv hl
    refine ⟨a, vs, rfl, ?_⟩
    rcases h1 with h1 | h1
    · exact .inl ⟨.of h1.1, k.newT s r1⟩
    · obtain ⟨h1, rfl⟩ := h1
      exact .inr ⟨.of h1, k.val s rv⟩
  · exact k.elim
theorem pr_list : PrN K (n1 pList) (fun xs H Q => ∃ p ys, xs = [.ref p] ∧ (SqL K H p ys ∨ SqT K H p ys) ∧ ∀ l, H l = none → Q (.ref l) (upd H l (.lst ys))) := prN1 fun ca W b B F μ S H d v Q hb s rv k => by
  unfold pList at k
  split at k
  · rename_i l hl
    obtain ⟨a, vs, rfl, r1, h1⟩ := items_A s rv hl
    refine ⟨a, vs, rfl, ?_, k.newL s r1⟩
    rcases h1 with h1 | h1
    · exact .inl (.of h1.1)
    · exact .inr (.of h1.1)
  · exact k.elim
theorem pr_int : PrN K (n1 pInt) (fun xs H Q => (∃ i, xs = [.int i] ∧ Q (.int i) H) ∨ ∃ k, xs = [.bl k] ∧ Q (.int (if k then 1 else 0)) H) := prN1 fun ca W b B F μ S H d v Q hb s rv k => by
  unfold pInt at k
  split at k
  · cases rv; exact .inl ⟨_, rfl, k.val s (.int _)⟩
  · cases rv; exact .inr ⟨_, rfl, k.val s (.int _)⟩
  · exact k.elim
theorem ins_perm (x : Int) : ∀ l : List Int, (ins x l).Perm (x :: l)
  | [] => .refl _
  | y :: l => by
    unfold ins
    split
    · exact .refl _
    · exact ((ins_perm x l).cons y).trans (.swap x y l)
theorem sortI_perm : ∀ l : List Int, (sortI l).Perm l
  | [] => .refl _
  | x :: l => (ins_perm x _).trans ((sortI_perm l).cons x)
theorem ins_le {x : Int} : ∀ {l : List Int}, l.Pairwise (· ≤ ·) → (ins x l).Pairwise (· ≤ ·)
  | [], _ => List.pairwise_singleton _ _
  | y :: l, h => by
    unfold ins
    obtain ⟨h1, h2⟩ := List.pairwise_cons.mp h
    split
    · rename_i hx
      exact List.pairwise_cons.mpr ⟨fun z hz => (List.mem_cons.mp hz).elim (fun e => e ▸ hx) fun e => Int.le_trans hx (h1 z e), h⟩
    · rename_i hx
      refine List.pairwise_cons.mpr ⟨fun z hz => ?_, ins_le h2⟩
      rcases List.mem_cons.mp ((ins_perm x l).mem_iff.mp hz) with e | e
      · subst e; omega
      · exact h1 z e
theorem sortI_le : ∀ l : List Int, (sortI l).Pairwise (· ≤ ·)
  | [] => .nil
  | x :: l => ins_le (sortI_le l)
theorem sort_unique {l m : List Int} (p : l.Perm m) (h1 : l.Pairwise (· ≤ ·)) (h2 : m.Pairwise (· ≤ ·)) : l = m :=
  p.eq_of_pairwise (fun a b _ _ x y => Int.le_antisymm x y) h1 h2
theorem RVs.of_int : ∀ l : List Int, RVs K F μ n (l.map .int) (l.map V.int) := RVs.map_int
theorem pr_sorted : PrN K (n1 pSorted) (rSortedI K) := prN1 fun ca W b B F μ S H d v Q hb s rv k => by
  unfold pSorted at k
  split at k
  · rename_i l hl
    obtain ⟨a, rfl, e⟩ := ints_L s rv hl
    refine ⟨a, l, rfl, .of e, fun ns' p hp hs hn => ?_⟩
    have : ns' = sortI l := sort_unique (hp.trans (sortI_perm l).symm) hs (sortI_le l)
    subst this
    exact k.newL s (RVs.map_int _) p hn
  · exact k.elim

/-! ### isinstance -/
def tyNm : Ty → String
  | .int => "int" | .bool => "bool" | .str => "str" | .list => "list" | .tuple => "tuple" | .dict => "dict" | .none => "NoneType"
theorem kit_tys (t u : Ty) (hu : u ≠ .none) : kitB (tyNm t) (tyNm u) = some (isTy u t) := by
  cases t <;> cases u <;> first | exact absurd rfl hu | decide +kernel
theorem ty_ok {d : D} {v : V} {t : Ty} (s : Sim ca K B F μ S H) (rv : RV K F μ S.length d v) (h : tyOf S d = some t) : TyX K H v (.type (tyNm t)) := by
  cases rv with
  | non => cases h; exact .base .non
  | bl k => cases h; exact .base (.bl k)
  | int i => cases h; exact .base (.int i)
  | str l => cases h; exact .base (.str _)
  | tup e r => cases h; exact .base (.tup (s.le _ _ e))
  | lst e r => cases h; exact .base (.lst (s.le _ _ e))
  | dicK e k r => cases h; exact .base (.dK (s.le _ _ e))
  | dicT e k r => cases h; exact .base (.dT (s.le _ _ e))
  | scr e =>
    cases h
    rcases SqL.mono s.le e with (e | ⟨o, e⟩) | ⟨o, its, n, e, c, _⟩
    · exact .base (.lst e)
    · exact .base (.frz e)
    · exact .kList e c
  | @ref i hi =>
    simp only [tyOf] at h
    split at h
    · rename_i e
      cases h
      obtain ⟨_, vs, e1, _⟩ := s.ob i _ e
      exact .base (.lst e1)
    · rename_i t kvs e
      cases h
      obtain ⟨_, o, e1, r⟩ := s.ob i _ e
      cases t with
      | false => obtain ⟨ps, rfl, _⟩ := r; exact .base (.dK e1)
      | true => obtain ⟨ps, rfl, _⟩ := r; exact .base (.dT e1)
    · cases h
/-- isinstance(x, T) -/
theorem r_isI {u : Ty} {e c : Expr} {x : Ex} {p pos : Pos} (hu : u ≠ .none) (hg : Gl X "isinstance") (hm : X.mg "isinstance" = none) (he : PE X e (RE ca X.K W x)) (hc : PE X c (tC (.ty (tyNm u))))
    (h1 : starEach [e, c] X.env = (false, eval e X.env) :: starEach [c] X.env := by rfl) (h2 : starEach [c] X.env = (false, eval c X.env) :: starEach [] X.env := by rfl) (hpl : (backTo pos (starEach [c] X.env)).any (·.1) = false := by rfl) :
    PE X (.Call (.Name "isinstance" p) [e, c] [] pos) (RE ca X.K W (e1 (pIsI u) x)) :=
  (pe_callB call_isi hg hm (by decide +kernel) (pa_cons he (pa_cons hc pa_nil h2) h1) (by decide) (by decide) h1 hpl).conv fun σ H Q h => by
    refine re_e1 (r := fun v H Q => rIsi X.K [v, .ty (tyNm u)] H Q) ?_ h
    intro ca W b B F μ S H d v Q hb s rv k
    unfold pIsI at k
    split at k
    · rename_i t ht
      exact ⟨v, .ty (tyNm u), .type (tyNm t), .type (tyNm u), isTy u t, rfl, .ty _, ty_ok s rv ht, kit_ty (kit_tys t u hu), k.val s (.bl _)⟩
    · exact k.elim
end
end NR

namespace NR
open PySem PySem.Spec PyProof.Rows L2
section
variable {ca : Nat → Addr} {K : PySem.W.Frag} {W : Wish} {B : Nat → Prop} {b n n' : Nat} {F F' : Hp} {μ μ' : Nat → Addr} {S : Store} {σ : L2.St} {H : Hp} {X : Cx}
/-! ### tests -/
theorem rt_v {x : Ex} {Q : Bool → Hp → Prop} (h : RT ca K W (tV x) σ H Q) : RE ca K W x σ H fun v H' => ∃ k, v = .bl k ∧ Q k H' := by
  obtain ⟨b, B, F, μ, ρ, S, hb, s, l, k⟩ := h
  refine .mk hb s l (RK.mono (RK.bind k) fun d S' H' F' μ' _ g s' hk => fun v rv => ?_)
  split at hk
  · cases rv; exact ⟨_, rfl, RK.now (R := BQ Q) hk s'⟩
  · exact hk.elim
section
variable {a c e : Expr} {rest : List Expr} {pos : Pos} {x y z : Ex} {t u : Te}
theorem r_tV (h : PE X e (RE ca X.K W x)) (he : ∀ whole, isTrue e X.env whole = (do let v ← whole; standAt e.pos; holding [v] (truthy v)) := by intro _; rfl) : PT X e (RT ca X.K W (tV x)) :=
  (pt_val h he).conv fun _ _ _ h => rt_v h
theorem r_tcmp {op : CmpOp} {f : P2} {r : R2} (ho : OpR X (compareOp op) r) (p : Pr2 X.K f r) (ha : PE X a (RE ca X.K W x)) (hc : PE X c (RE ca X.K W y)) (hm : behindInMarks op c = false) : PT X (.Compare a [op] [c] pos) (RT ca X.K W (tV (e2 f x y))) :=
  (pt_cmpR ho ha hc hm).conv fun _ _ _ h => re_e2 p (rt_v h)
theorem r_tisN {j : Nat} {p2 : Pos} (ha : PE X a (RE ca X.K W x)) : PT X (.Compare a [.Is] [.Constant .none j p2] pos) (RT ca X.K W (tV (e1 pIsN x))) :=
  (pt_cmpR op_isN ha pe_non (nomark _)).conv fun σ H Q h =>
    re_mono (re_e1 (r := fun v H Q => Q (.bl (decide (v = .non))) H) (fun ca W b B F μ S H d v Q hb s rv k => by
      unfold pIsN at k
      have q := k.val s (.bl _)
      cases rv <;> exact q) (rt_v h)) fun v H' q => ⟨rfl, q⟩
theorem r_tnotN {j : Nat} {p2 : Pos} (ha : PE X a (RE ca X.K W x)) : PT X (.Compare a [.IsNot] [.Constant .none j p2] pos) (RT ca X.K W (tV (e1 pNotN x))) :=
  (pt_cmpR op_notN ha pe_non (nomark _)).conv fun σ H Q h =>
    re_mono (re_e1 (r := fun v H Q => Q (.bl (!decide (v = .non))) H) (fun ca W b B F μ S H d v Q hb s rv k => by
      unfold pNotN at k
      have q := k.val s (.bl _)
      cases rv <;> exact q) (rt_v h)) fun v H' q => ⟨rfl, q⟩
theorem r_tisB {j : Nat} {p2 : Pos} {t : Bool} (ha : PE X a (RE ca X.K W x)) : PT X (.Compare a [.Is] [.Constant (.bool t) j p2] pos) (RT ca X.K W (tV (e1 (pIsB t) x))) :=
  (pt_cmpR op_isBl ha pe_bl (nomark _)).conv fun σ H Q h =>
    re_mono (re_e1 (r := fun v H Q => ∃ k : Bool, v = .bl k ∧ Q (.bl (decide (k = t))) H) (fun ca W b B F μ S H d v Q hb s rv k => by
      unfold pIsB at k
      split at k
      · cases rv; exact ⟨_, rfl, k.val s (.bl _)⟩
      · exact k.elim) (rt_v h)) fun v H' q => let ⟨k, e1, e2⟩ := q; ⟨k, t, e1, rfl, e2⟩
theorem re_chain {f g : P2} {r r' : R2} (p : Pr2 K f r) (p' : Pr2 K g r') {Q : VK} (h : RE ca K W (eChain f g x y z) σ H Q) : tChain r r' (RE ca K W x) (RE ca K W y) (RE ca K W z) σ H Q := by
  obtain ⟨b, B, F, μ, ρ, S, hb, s, l, k⟩ := h
  refine .mk hb s l (RK.mono (RK.bind k) fun d S1 H1 F1 μ1 _ g1 s1 k1 => fun v rv => ?_)
  refine .mk hb s1 (l.mono g1) (RK.mono (RK.bind k1) fun e S2 H2 F2 μ2 _ g2 s2 k2 => fun u ru => ?_)
  refine p ca W b B F2 μ2 S2 H2 d e v u _ hb s2 (rv.mono g2) ru (RK.mono (RK.bind k2) fun q S3 H3 F3 μ3 _ g3 s3 k3 => fun w rw => ?_)
  split at k3
  · rename_i kk _
    cases rw
    refine ⟨kk, rfl, ?_⟩
    cases kk with
    | true =>
      refine iteT ?_
      have k3' : RK ca K W B F3 μ3 S3.length ((z b ρ S3).bind fun dz S => g b e dz S) (VQ K Q) := k3
      refine RM.mk hb s3 (((l.mono g1).mono g2).mono g3) (RK.mono (RK.bind k3') fun e' S4 H4 F4 μ4 _ g4 s4 k4 => fun u' ru' => ?_)
      exact p' ca W b B F4 μ4 S4 H4 e e' u u' _ hb s4 ((ru.mono g3).mono g4) ru' k4
    | false => exact iteF (RK.val (d := .bl false) k3 s3 (.bl false))
  · exact k3.elim
theorem r_chain {op op' : CmpOp} {f g : P2} {r r' : R2} (ho : OpR X (compareOp op) r) (p : Pr2 X.K f r) (ho' : OpR X (compareOp op') r') (p' : Pr2 X.K g r') (ha : PE X a (RE ca X.K W x)) (hc : PE X c (RE ca X.K W y)) (he : PE X e (RE ca X.K W z))
    (hm : lastMarks [op, op'] [c, e] = false := by with_unfolding_all rfl) : PE X (.Compare a [op, op'] [c, e] pos) (RE ca X.K W (eChain f g x y z)) := (pe_chain ho ho' ha hc he hm).conv fun _ _ _ h => re_chain p p' h
theorem r_tchain {op op' : CmpOp} {f g : P2} {r r' : R2} (ho : OpR X (compareOp op) r) (p : Pr2 X.K f r) (ho' : OpR X (compareOp op') r') (p' : Pr2 X.K g r') (ha : PE X a (RE ca X.K W x)) (hc : PE X c (RE ca X.K W y)) (he : PE X e (RE ca X.K W z))
    (hm : lastMarks [op, op'] [c, e] = false := by with_unfolding_all rfl) : PT X (.Compare a [op, op'] [c, e] pos) (RT ca X.K W (tV (eChain f g x y z))) := (pt_chain ho ho' ha hc he hm).conv fun _ _ _ h => re_chain p p' (rt_v h)
theorem r_tnot (h : PT X a (RT ca X.K W t)) : PT X (.UnaryOp .Not a pos) (RT ca X.K W (tNot t)) := (pt_not h).conv fun σ H Q h => by
  obtain ⟨b, B, F, μ, ρ, S, hb, s, l, k⟩ := h
  exact .mk hb s l (RK.mono (RK.bind k) fun d S' H' F' μ' _ g s' hk => RK.now (R := BQ Q) hk s')
theorem r_wand1 (h : PT X a (RT ca X.K W t)) : PW X (.BoolOp .And [a] pos) (RT ca X.K W t) := pw_and1 h
theorem r_wor1 (h : PT X a (RT ca X.K W t)) : PW X (.BoolOp .Or [a] pos) (RT ca X.K W t) := pw_or1 h
theorem _root_.L2.PW.conv {e : Expr} {t t' : TT} (h : PW X e t) (c : ∀ σ H Q, t' σ H Q → t σ H Q) : PW X e t' := ⟨fun wh pins s σ H Q I hw => h.run wh pins s σ H Q I (c _ _ _ hw)⟩
theorem r_wand (h : PT X a (RT ca X.K W t)) (h2 : PW X (.BoolOp .And (c :: rest) pos) (RT ca X.K W u)) : PW X (.BoolOp .And (a :: c :: rest) pos) (RT ca X.K W (NR.tAnd t u)) := (pw_and h h2).conv fun σ H Q h => by
  obtain ⟨b, B, F, μ, ρ, S, hb, s, l, k⟩ := h
  refine .mk hb s l (RK.mono (RK.bind k) fun d S' H' F' μ' _ g s' hk => ?_)
  cases d with
  | true =>
    show RT ca X.K W u σ H' Q
    exact RM.mk hb s' (l.mono g) hk
  | false => show Q false H'; exact RK.now (R := BQ Q) hk s'
theorem r_wor (h : PT X a (RT ca X.K W t)) (h2 : PW X (.BoolOp .Or (c :: rest) pos) (RT ca X.K W u)) : PW X (.BoolOp .Or (a :: c :: rest) pos) (RT ca X.K W (NR.tOr t u)) := (pw_or h h2).conv fun σ H Q h => by
  obtain ⟨b, B, F, μ, ρ, S, hb, s, l, k⟩ := h
  refine .mk hb s l (RK.mono (RK.bind k) fun d S' H' F' μ' _ g s' hk => ?_)
  cases d with
  | true => show Q true H'; exact RK.now (R := BQ Q) hk s'
  | false =>
    show RT ca X.K W u σ H' Q
    exact RM.mk hb s' (l.mono g) hk
theorem r_if (h : PT X c (RT ca X.K W t)) (ha : PE X a (RE ca X.K W x)) (he : PE X e (RE ca X.K W y)) : PE X (.IfExp c a e pos) (RE ca X.K W (eIf t x y)) := (pe_ifExp h ha he).conv fun σ H Q h => by
  obtain ⟨b, B, F, μ, ρ, S, hb, s, l, k⟩ := h
  refine .mk hb s l (RK.mono (RK.bind k) fun d S' H' F' μ' _ g s' hk => ?_)
  cases d with
  | true =>
    show RE ca X.K W x σ H' Q
    exact RM.mk hb s' (l.mono g) hk
  | false =>
    show RE ca X.K W y σ H' Q
    exact RM.mk hb s' (l.mono g) hk
theorem r_not (ha : PE X a (RE ca X.K W x)) : PE X (.UnaryOp .Not a pos) (RE ca X.K W (eNot x)) := (pe_not ha).conv fun σ H Q h => by
  obtain ⟨b, B, F, μ, ρ, S, hb, s, l, k⟩ := h
  refine .mk hb s l (RK.mono (RK.bind k) fun d S' H' F' μ' _ g s' hk => fun v rv => ?_)
  split at hk
  · cases rv; exact ⟨_, rfl, hk.val s' (.bl _)⟩
  · exact hk.elim
theorem r_one {op : BoolOp} (h : PE X a (RE ca X.K W x)) : PE X (.BoolOp op [a] pos) (RE ca X.K W x) := pe_one h
theorem r_and (ha : PE X a (RE ca X.K W x)) (hb : PE X (.BoolOp .And (c :: rest) pos) (RE ca X.K W y)) : PE X (.BoolOp .And (a :: c :: rest) pos) (RE ca X.K W (eAnd x y)) := (pe_and ha hb).conv fun σ H Q h => by
  obtain ⟨b, B, F, μ, ρ, S, hb, s, l, k⟩ := h
  refine .mk hb s l (RK.mono (RK.bind k) fun d S' H' F' μ' _ g s' hk => fun v rv => ?_)
  split at hk
  · rename_i kk _
    cases rv
    refine ⟨kk, rfl, ?_⟩
    cases kk with
    | true =>
      show RE ca X.K W y σ H' Q
      exact RM.mk hb s' (l.mono g) hk
    | false => show Q (.bl false) H'; exact RK.val (d := .bl false) hk s' (.bl false)
  · exact hk.elim
theorem r_or (ha : PE X a (RE ca X.K W x)) (hb : PE X (.BoolOp .Or (c :: rest) pos) (RE ca X.K W y)) : PE X (.BoolOp .Or (a :: c :: rest) pos) (RE ca X.K W (eOr x y)) := (pe_or ha hb).conv fun σ H Q h => by
  obtain ⟨b, B, F, μ, ρ, S, hb, s, l, k⟩ := h
  refine .mk hb s l (RK.mono (RK.bind k) fun d S' H' F' μ' _ g s' hk => fun v rv => ?_)
  split at hk
  · rename_i kk _
    cases rv
    refine ⟨kk, rfl, ?_⟩
    cases kk with
    | true => show Q (.bl true) H'; exact RK.val (d := .bl true) hk s' (.bl true)
    | false =>
      show RE ca X.K W y σ H' Q
      exact RM.mk hb s' (l.mono g) hk
  · exact hk.elim
end

/-! ### calls of defs -/
/-- what a def keeps that computes f and lets nothing out -/
def SpD (ca : Nat → Addr) (K : PySem.W.Frag) (f : Fn) : Sp := fun vs H Q _ => ∃ b B F μ S ds, (∀ c, B c → c ≤ b) ∧ Sim ca K B F μ S H ∧ RVs K F μ S.length ds vs ∧ RK ca K W0 B F μ S.length (f b ds S) (VQ K Q)
theorem SpD.gc {f : Fn} {vs : List V} {Q : VK} {E : XK} (h : SpD ca K (gcF f) vs H Q E) : SpD ca K f vs H Q E := by
  obtain ⟨b, B, F, μ, S, ds, hb, s, r, k⟩ := h
  refine ⟨S.length, _, F, μ, S, ds, fun c hc => hc.elim (s.bl c) fun e => Nat.le_of_eq e, s.region, r, ?_⟩
  unfold gcF at k
  cases e : f S.length ds S with
  | no => rw [e] at k; exact k
  | exc c S' =>
    rw [e] at k
    exact fun H' F' μ' g s' => k H' _ μ' (leave_gr g) (s.out s')
  | ok d S' =>
    rw [e] at k
    simp only at k
    cases e2 : fz S' S.length fuelF d with
    | none => rw [e2] at k; exact k.elim
    | some d' =>
      rw [e2] at k
      intro H' F' μ' g s' v r
      refine k H' _ μ' (leave_gr g) (s.out s') v ?_
      rw [take_len g.l]
      exact fz_ok s' S.length fuelF d d' v e2 r
theorem re_call {f : Fn} {as : Exs} {Q : VK} {E : XK} (h : RE ca K W (eCall f as) σ H Q) : RAs ca K W as σ H fun vs H1 => SpD ca K f vs H1 Q E := by
  obtain ⟨b, B, F, μ, ρ, S, hb, s, l, k⟩ := h
  refine .mk hb s l (RK.mono (RK.bind k) fun ds S' H' F' μ' _ g s' hk => fun vs rv => ⟨b, B, F', μ', S', ds, hb, s', rv, ?_⟩)
  cases e : f b ds S' with
  | ok d S2 => rw [e] at hk; exact hk
  | exc c S2 => rw [e] at hk; exact hk.elim
  | no => rw [e] at hk; exact hk.elim
section
variable {f : Fn} {k : Nat} {fa : Addr} {fd : FuncData} {ps : List Str} {nm : Str} {p pos : Pos} {e : Expr} {es : List Expr} {as : Exs}
theorem fn_gc {P : Program} {w : World} {mg : Str → Option Value} {base : Heap} {CX : CXT} (G : FnOk P w K mg base CX k fa fd ps (SpD ca K f)) : FnOk P w K mg base CX k fa fd ps (SpD ca K (gcF f)) := G.imp fun _ _ _ _ h => h.gc
/-- what a caller knows of a def -/
structure Df (ca : Nat → Addr) (X : Cx) (nm : Str) (k : Nat) (f : Fn) : Prop where
  ex : ∃ (fa : Addr) (fd : FuncData) (ps : List Str), FnOk X.prog X.w X.K X.mg X.base CX0 k fa fd ps (SpD ca X.K f) ∧ X.mg nm = some (.ref fa) ∧ PySem.W.keepIn X.K (.ref fa) = true ∧ Binds X.K fd ps []
theorem Df.gc (d : Df ca X nm k f) : Df ca X nm k (gcF f) := by
  obtain ⟨fa, fd, ps, G, h⟩ := d.ex
  exact ⟨fa, fd, ps, fn_gc G, h⟩
theorem r_call (d : Df ca X nm k f) (hr : Room k X.A) (hg : Gl X nm) (ha : PA X (e :: es) (RAs ca X.K W as)) (hdb : (nm == ("__debug__" : Str)) = false := by decide) (he : starEach (e :: es) X.env = (false, eval e X.env) :: starEach es X.env := by rfl)
    (hpl : (backTo pos (starEach es X.env)).any (·.1) = false := by rfl) : PE X (.Call (.Name nm p) (e :: es) [] pos) (RE ca X.K W (eCall f as)) := by
  obtain ⟨fa, fd, ps, G, hm, hk, hb⟩ := d.ex
  exact (pe_call G hr hg hm hk hb .nil pass0 ha hdb he hpl).conv fun σ H Q h => by
    have := re_call (E := E0) h
    show RAs ca X.K W as σ H fun vs H1 => SpD ca X.K f (vs ++ []) H1 Q E0
    simpa using this
theorem r_call0 (d : Df ca X nm k f) (hr : Room k X.A) (hg : Gl X nm) (hdb : (nm == ("__debug__" : Str)) = false := by decide) : PE X (.Call (.Name nm p) [] [] pos) (RE ca X.K W (eCall f aN)) := by
  obtain ⟨fa, fd, ps, G, hm, hk, hb⟩ := d.ex
  exact (pe_call0 G hr hg hm hk hb .nil pass0 hdb).conv fun σ H Q h => by
    have := re_call (E := E0) h
    obtain ⟨b, B, F, μ, ρ, S, hb, s, l, k⟩ := this
    exact RK.now k s [] .nil
end
theorem r_gc {e : Expr} {x : Ex} (h : PE X e (RE ca X.K W x)) : PE X e (RE ca X.K W (gc x)) := h.conv fun _ _ _ h => re_gc h
end
end NR

namespace NR
open PySem PySem.Spec PyProof.Rows L2
/-! ### statements -/
def RKs (ca : Nat → Addr) (K : PySem.W.Frag) (W : Wish) (B : Nat → Prop) (F : Hp) (μ : Nat → Addr) (n : Nat) (r : SR) (D : Ends) : Prop := match r with
  | .ok f ρ S' => match f with
    | .nx => ∀ σ' H' F' μ', Gr F μ n F' μ' S'.length → Sim ca K B F' μ' S' H' → Sl K F' μ' S'.length ρ σ' → D.nx σ' H'
    | .bk => ∀ σ' H' F' μ', Gr F μ n F' μ' S'.length → Sim ca K B F' μ' S' H' → Sl K F' μ' S'.length ρ σ' → D.bk σ' H'
    | .ct => ∀ σ' H' F' μ', Gr F μ n F' μ' S'.length → Sim ca K B F' μ' S' H' → Sl K F' μ' S'.length ρ σ' → D.ct σ' H'
    | .rt d => ∀ v H' F' μ', Gr F μ n F' μ' S'.length → Sim ca K B F' μ' S' H' → RV K F' μ' S'.length d v → D.rt v H'
  | .exc c S' => ∀ H' F' μ', Gr F μ n F' μ' S'.length → Sim ca K B F' μ' S' H' → W c H'
  | .no => False
def RS (ca : Nat → Addr) (K : PySem.W.Frag) (W : Wish) (s : Stm) : TS := fun D σ H => ∃ b B F μ ρ S, (∀ c, B c → c ≤ b) ∧ Sim ca K B F μ S H ∧ Sl K F μ S.length ρ σ ∧ RKs ca K W B F μ S.length (s b ρ S) D
section
variable {ca : Nat → Addr} {K : PySem.W.Frag} {W : Wish} {B : Nat → Prop} {b n n' : Nat} {F F' : Hp} {μ μ' : Nat → Addr} {S : Store} {σ : L2.St} {H : Hp} {X : Cx}
theorem RKs.gr {r : SR} {D : Ends} (h : RKs ca K W B F μ n r D) (g : Gr F μ n F' μ' n') : RKs ca K W B F' μ' n' r D := by
  cases r with
  | ok f ρ S' => cases f <;> exact fun x H' F2 μ2 g2 s => h x H' F2 μ2 (g.trans g2) s
  | exc c S' => exact fun H' F2 μ2 g2 s => h H' F2 μ2 (g.trans g2) s
  | no => exact h
theorem RKs.of {α : Type} {r : Res α} {f : α → Store → SR} {D : Ends} (h : RKs ca K W B F μ n (SR.of r f) D) : RK ca K W B F μ n r (fun F' μ' S' a _ => RKs ca K W B F' μ' S'.length (f a S') D) := by
  cases r with
  | ok a S' => exact fun H' F2 μ2 g2 s => RKs.gr (show RKs ca K W B F μ n (f a S') D from h) g2
  | exc c S' => exact h
  | no => exact h
theorem RS.mk {s : Stm} {D : Ends} {ρ : Env} (hb : ∀ c, B c → c ≤ b) (si : Sim ca K B F μ S H) (l : Sl K F μ S.length ρ σ) (k : RKs ca K W B F μ S.length (s b ρ S) D) : RS ca K W s D σ H := ⟨b, B, F, μ, ρ, S, hb, si, l, k⟩
theorem RKs.nx {ρ : Env} {D : Ends} (k : RKs ca K W B F μ S.length (.ok .nx ρ S) D) (s : Sim ca K B F μ S H) {σ' : L2.St} (l : Sl K F μ S.length ρ σ') : D.nx σ' H := k σ' H F μ .refl s l

section
variable {st : Stmt} {rest body : List Stmt} {s t : Stm} {e : Expr} {x : Ex} {pos : Pos}
theorem r_nil : PSs X [] (RS ca X.K W sNil) := pss_nil.conv fun D σ H h => by
  obtain ⟨b, B, F, μ, ρ, S, hb, si, l, k⟩ := h
  exact k.nx si l
theorem r_seq (h1 : PS X st (RS ca X.K W s)) (h2 : PSs X rest (RS ca X.K W t)) : PSs X (st :: rest) (RS ca X.K W (sSeq s t)) := (pss_cons h1 h2).conv fun D σ H h => by
  obtain ⟨b, B, F, μ, ρ, S, hb, si, l, k⟩ := h
  refine .mk hb si l ?_
  unfold sSeq at k
  cases e : s b ρ S with
  | ok f ρ' S' =>
    rw [e] at k
    cases f with
    | nx => exact fun σ' H' F' μ' g s' l' => .mk hb s' l' (RKs.gr (show RKs ca X.K W B F μ S.length (t b ρ' S') D from k) g)
    | rt d => exact k
    | bk => exact k
    | ct => exact k
  | exc c S' => rw [e] at k; exact k
  | no => rw [e] at k; exact k
theorem r_last (h1 : PS X st (RS ca X.K W s)) : PSs X [st] (RS ca X.K W s) := pss_one h1
theorem r_pass : PS X (.Pass pos) (RS ca X.K W sNil) := ps_pass.conv fun D σ H h => by
  obtain ⟨b, B, F, μ, ρ, S, hb, si, l, k⟩ := h
  exact k.nx si l
theorem r_break : PS X (.Break pos) (RS ca X.K W sBk) := ps_break.conv fun D σ H h => by
  obtain ⟨b, B, F, μ, ρ, S, hb, si, l, k⟩ := h
  exact k σ H F μ .refl si l
theorem r_ret (h : PE X e (RE ca X.K W x)) : PS X (.Return (some e) pos) (RS ca X.K W (sRet x)) := (ps_ret h).conv fun D σ H h => by
  obtain ⟨b, B, F, μ, ρ, S, hb, si, l, k⟩ := h
  exact .mk hb si l (RK.mono (RKs.of k) fun d S' H' F' μ' _ g s' hk => fun v rv => hk v H' F' μ' .refl s' rv)
theorem r_retN : PS X (.Return none pos) (RS ca X.K W sRetN) := ps_retN.conv fun D σ H h => by
  obtain ⟨b, B, F, μ, ρ, S, hb, si, l, k⟩ := h
  exact k .non H F μ .refl si .non
theorem r_ex (h : PE X e (RE ca X.K W x)) (hs : swapsWith e none pos.line X.env = pure false := by rfl) : PS X (.Expr e pos) (RS ca X.K W (sEx x)) := (ps_expr h hs).conv fun D σ H h => by
  obtain ⟨b, B, F, μ, ρ, S, hb, si, l, k⟩ := h
  exact .mk hb si l (RK.mono (RKs.of k) fun d S' H' F' μ' _ g s' hk => fun v rv => hk.nx s' (l.mono g))
theorem r_ifS {c : Expr} {p q : List Stmt} {tt : Te} (hc : PT X c (RT ca X.K W tt)) (hp : PSs X p (RS ca X.K W s)) (hq : PSs X q (RS ca X.K W t)) : PS X (.If c p q pos) (RS ca X.K W (sIf tt s t)) := (ps_if hc hp hq).conv fun D σ H h => by
  obtain ⟨b, B, F, μ, ρ, S, hb, si, l, k⟩ := h
  refine .mk hb si l (RK.mono (RKs.of k) fun d S' H' F' μ' _ g s' hk => ?_)
  cases d with
  | true =>
    show RS ca X.K W s D σ H'
    exact .mk hb s' (l.mono g) hk
  | false =>
    show RS ca X.K W t D σ H'
    exact .mk hb s' (l.mono g) hk
/-- code that is never come to -/
theorem r_no : PS X st (RS ca X.K W sNo) := ps_never.conv fun D σ H h => by
  obtain ⟨b, B, F, μ, ρ, S, hb, si, l, k⟩ := h
  exact k
theorem r_doc {z : Str} {j : Nat} {p2 : Pos} : PS X (.Expr (.Constant (.str z) j p2) pos) (RS ca X.K W sNil) := ps_doc.conv fun D σ H h => by
  obtain ⟨b, B, F, μ, ρ, S, hb, si, l, k⟩ := h
  exact k.nx si l
end

/-! ### targets -/
/-- is: the slots that may change -/
def GR (K : PySem.W.Frag) (is : List Nat) (g : Tgt) : TG := fun v σ H Q => ∃ F μ n ρ d ρ', (∀ a o, F a = some o → H a = some o) ∧ RV K F μ n d v ∧ Sl K F μ n ρ σ ∧ g d ρ = some ρ' ∧
  ∀ σ', Sl K F μ n ρ' σ' → σ'.length = σ.length → (∀ j, j ∉ is → σ'[j]? = σ[j]?) → Q σ' H
def GRs (K : PySem.W.Frag) (is : List Nat) (gs : List Tgt) : TGs := fun vs σ H Q => ∃ F μ n ρ ds ρ', (∀ a o, F a = some o → H a = some o) ∧ RVs K F μ n ds vs ∧ Sl K F μ n ρ σ ∧ gAll gs ds ρ = some ρ' ∧
  ∀ σ', Sl K F μ n ρ' σ' → σ'.length = σ.length → (∀ j, j ∉ is → σ'[j]? = σ[j]?) → Q σ' H
theorem _root_.L2.PG.conv {e : Expr} {t t' : TG} (h : PG X e t) (c : ∀ v σ H Q, t' v σ H Q → t v σ H Q) : PG X e t' := ⟨fun pins s σ H v u Q I r hw => h.run pins s σ H v u Q I r (c _ _ _ _ hw)⟩
theorem _root_.L2.PGs.conv {e : List Expr} {t t' : TGs} (h : PGs X e t) (c : ∀ v σ H Q, t' v σ H Q → t v σ H Q) : PGs X e t' := ⟨fun pins s σ H v u Q I r hw => h.run pins s σ H v u Q I r (c _ _ _ _ hw)⟩
theorem gn_ok {i : Nat} {v : V} {Q : L2.St → Hp → Prop} (h : GR K [i] (gN i) v σ H Q) : gName i v σ H Q := by
  obtain ⟨F, μ, n, ρ, d, ρ', hF, rv, l, e, q⟩ := h
  cases e
  exact q _ (l.set rv) (by simp) fun j hj => List.getElem?_set_ne (by simpa using fun e => hj (by simp [e]))
theorem r_gN {i : Nat} {nm : Str} {pos : Pos} (hN : X.N.Nodup) (hi : X.N[i]? = some nm := by rfl) (hx : Loc X.env.scope nm := by first | exact Or.inl rfl | exact Or.inr rfl) (hf : X.fn nm = true ∨ X.env.scope.names.lookup nm = some .local := by first | exact .inl rfl | exact .inr rfl) :
    PG X (.Name nm pos) (GR X.K [i] (gN i)) := (pg_name hN hi hx hf).conv fun _ _ _ _ h => gn_ok h
theorem r_gs0 : PGs X [] (GRs X.K [] []) := pgs_nil.conv fun vs σ H Q h => by
  obtain ⟨F, μ, n, ρ, ds, ρ', hF, rv, l, e, q⟩ := h
  cases rv with
  | nil => cases e; exact ⟨rfl, q σ l rfl fun _ _ => rfl⟩
  | cons => cases e
theorem r_gsC {e : Expr} {es : List Expr} {is js : List Nat} {g : Tgt} {gs : List Tgt} (h1 : PG X e (GR X.K is g)) (h2 : PGs X es (GRs X.K js gs)) (hs : (assignEach (e :: es) X.env).map (·.2) = assign e X.env :: (assignEach es X.env).map (·.2) := by rfl) :
    PGs X (e :: es) (GRs X.K (is ++ js) (g :: gs)) := (pgs_cons h1 h2 hs).conv fun vs σ H Q h => by
  obtain ⟨F, μ, n, ρ, ds, ρ', hF, rv, l, e, q⟩ := h
  cases rv with
  | nil => cases e
  | @cons d v ds vs r rs =>
    obtain ⟨ρ1, e1, e2⟩ := Option.bind_eq_some_iff.mp e
    refine ⟨_, _, rfl, F, μ, n, ρ, d, ρ1, hF, r, l, e1, fun σ1 l1 n1 c1 => ⟨F, μ, n, ρ1, ds, ρ', hF, rs, l1, e2, fun σ2 l2 n2 c2 => q σ2 l2 (n2.trans n1) fun j hj => ?_⟩⟩
    simp only [List.mem_append, not_or] at hj
    exact (c2 j hj.2).trans (c1 j hj.1)
theorem r_gT {es : List Expr} {k : Nat} {is : List Nat} {gs : List Tgt} {pos : Pos} (hc : X.calm = true) (h : PGs X es (GRs X.K is gs)) (hl : (assignEach es X.env).length = gs.length := by rfl) (hst : (assignEach es X.env).findIdx? (·.1) = none := by rfl) :
    PG X (.Tuple es k pos) (GR X.K is (gT gs)) := (pg_tup hc h hl hst).conv fun v σ H Q h => by
  obtain ⟨F, μ, n, ρ, d, ρ', hF, rv, l, e, q⟩ := h
  unfold gT at e
  split at e
  · rename_i ds
    cases rv with
    | tup e1 rs =>
      have len : ∀ (gs : List Tgt) (ds : List D) (ρ : Env), gAll gs ds ρ = some ρ' → ds.length = gs.length := by
        intro gs
        induction gs with
        | nil => intro ds ρ h; cases ds with | nil => rfl | cons _ _ => cases h
        | cons g gs ih =>
          intro ds ρ h
          cases ds with
          | nil => cases h
          | cons d ds =>
            obtain ⟨ρ1, _, h2⟩ := Option.bind_eq_some_iff.mp h
            simp [ih ds ρ1 h2]
      exact ⟨_, _, rfl, .of (hF _ _ e1), by rw [← rs.length, len gs ds ρ e], F, μ, n, ρ, ds, ρ', hF, rs, l, e, q⟩
  · cases e
section
variable {e tg : Expr} {x : Ex} {pos : Pos} {g : Tgt} {is : List Nat}
theorem asg_ok {D : Ends} (h : RS ca K W (sAsg x g) D σ H) : RE ca K W x σ H fun v H1 => GR K is g v σ H1 D.nx := by
  obtain ⟨b, B, F, μ, ρ, S, hb, si, l, k⟩ := h
  refine .mk hb si l (RK.mono (RKs.of k) fun d S' H' F' μ' _ gr s' hk => fun v rv => ?_)
  split at hk
  · rename_i ρ' hg
    exact ⟨F', μ', S'.length, ρ, d, ρ', s'.le, rv, l.mono gr, hg, fun σ' l' _ _ => hk.nx s' l'⟩
  · exact hk.elim
theorem r_set {i : Nat} {nm : Str} {pos' : Pos} (hN : X.N.Nodup) (he : PE X e (RE ca X.K W x)) (hi : X.N[i]? = some nm := by rfl) (hx : Loc X.env.scope nm := by first | exact Or.inl rfl | exact Or.inr rfl) (hs : swapsWith e (some (.Name nm pos')) pos.line X.env = pure false := by rfl)
    (hf : X.fn nm = true ∨ X.env.scope.names.lookup nm = some .local := by first | exact .inl rfl | exact .inr rfl) : PS X (.Assign [.Name nm pos'] e pos) (RS ca X.K W (sAsg x (gN i))) :=
  (ps_set hN hi hx he hs hf).conv fun D σ H h => re_mono (asg_ok h) fun v H' q => gn_ok q
theorem r_asg (he : PE X e (RE ca X.K W x)) (hg : PG X tg (GR X.K is g)) (hs : swapsWithSole [tg] e pos.line X.env = pure false := by rfl) (hw : swappedStores [tg] e X.env = pure none := by rfl)
    (h1 : (assignEach [tg] X.env).map (·.2) = [assign tg X.env] := by rfl) : PS X (.Assign [tg] e pos) (RS ca X.K W (sAsg x g)) :=
  (ps_asg he hg hs hw h1).conv fun D σ H h => asg_ok h
/-- x op= e -/
theorem r_aug {op : Operator} {f : P2} {r : R2} {i : Nat} {nm : Str} {pos' : Pos} (hN : X.N.Nodup) (ho : OpR X (inplaceOp op) r) (p : Pr2 X.K f r) (he : PE X e (RE ca X.K W x)) (hi : X.N[i]? = some nm := by rfl) (hx : Loc X.env.scope nm := by first | exact Or.inl rfl | exact Or.inr rfl)
    (hf : X.fn nm = true ∨ X.env.scope.names.lookup nm = some .local := by first | exact .inl rfl | exact .inr rfl) : PS X (.AugAssign (.Name nm pos') op e pos) (RS ca X.K W (sAug i f x)) :=
  (ps_aug hN hi hx he (ti := r) (fun pins s σ H x y v u Q I r1 r2 h => ho pins s σ H x y v u Q I r1 r2 h) hf).conv fun D σ H h => by
    obtain ⟨b, B, F, μ, ρ, S, hb, si, l, k⟩ := h
    unfold sAug at k
    split at k
    · rename_i d hd
      obtain ⟨v, e1, rv⟩ := l.2 i d hd
      refine ⟨v, e1, .mk hb si l (RK.mono (RKs.of k) fun d' S' H' F' μ' _ gr s' hk => fun u ru => ?_)⟩
      refine p ca W b B F' μ' S' H' d d' v u _ hb s' (rv.mono gr) ru (RK.mono (RKs.of hk) fun q S2 H2 F2 μ2 _ g2 s2 k2 => fun z rz => ?_)
      exact k2.nx s2 (((l.mono gr).mono g2).set rz)
    · exact k.elim
/-- i, j = x, y -/
theorem r_par {i j : Nat} {n1 n2 : Str} {a c : Expr} {px py pt : Pos} {kt k2 : Nat} {pt2 : Pos} {y : Ex} (hc : X.calm = true) (hN : X.N.Nodup) (ha : PE X a (RE ca X.K W x)) (hcc : PE X c (RE ca X.K W y)) (hi : X.N[i]? = some n1 := by rfl) (hj : X.N[j]? = some n2 := by rfl) (hij : i ≠ j := by decide)
    (hx : X.env.scope.names.lookup n1 = some .local := by rfl) (hy : X.env.scope.names.lookup n2 = some .local := by rfl) (hw : swappedStores [.Tuple [.Name n1 px, .Name n2 py] kt pt] (.Tuple [a, c] k2 pt2) X.env = pure (some [n1, n2]) := by rfl)
    (hs : swapsWithSole [.Tuple [.Name n1 px, .Name n2 py] kt pt] (.Tuple [a, c] k2 pt2) pos.line X.env = pure false := by rfl)
    (hst : starEach [a, c] X.env = (false, eval a X.env) :: starEach [c] X.env := by rfl) (hst2 : starEach [c] X.env = (false, eval c X.env) :: starEach [] X.env := by rfl) :
    PS X (.Assign [.Tuple [.Name n1 px, .Name n2 py] kt pt] (.Tuple [a, c] k2 pt2) pos) (RS ca X.K W (sPar i j x y)) :=
  (ps_par hc hN hi hj hij hx hy (pa_cons ha (pa_cons hcc pa_nil hst2) hst) hw hs).conv fun D σ H h => by
    obtain ⟨b, B, F, μ, ρ, S, hb, si, l, k⟩ := h
    refine RM.mk (m := x) hb si l (RK.mono (RKs.of k) fun d S' H' F' μ' _ gr s' hk => fun v rv => ?_)
    refine RM.mk (m := y) hb s' (l.mono gr) (RK.mono (RKs.of hk) fun d2 S2 H2 F2 μ2 _ g2 s2 k2 => fun u ru => ?_)
    exact ⟨v, u, rfl, k2.nx s2 ((((l.mono gr).mono g2).set (rv.mono g2)).set ru)⟩
end

/-! ### while -/
theorem r_while {c : Expr} {body : List Stmt} {tt : Te} {s : Stm} {pos : Pos} (hp : PassesOwn (model X.prog X.w) X.A X.env X.xe) (hc : PT X c (RT ca X.K W tt)) (hb : PSs X body (RS ca X.K W s)) : PS X (.While c body [] pos) (RS ca X.K W (sWhile tt s)) :=
  (ps_while hp hc hb).conv fun D σ H h => by
    obtain ⟨b, B, F, μ, ρ, S, hb, si, l, k⟩ := h
    refine ⟨fun m σ H => ∃ F μ ρ S, Sim ca X.K B F μ S H ∧ Sl X.K F μ S.length ρ σ ∧ RKs ca X.K W B F μ S.length (whileL tt s b m ρ S) D, ⟨fuelW, F, μ, ρ, S, si, l, k⟩, ?_⟩
    rintro m σ H ⟨F, μ, ρ, S, si, l, k⟩
    cases m with
    | zero => exact k.elim
    | succ m =>
      refine RM.mk hb si l (RK.mono (RKs.of k) fun d S' H' F' μ' _ gr s' hk => ?_)
      cases d with
      | false => exact hk.nx s' (l.mono gr)
      | true =>
        refine ⟨fun σ' H' => ∃ F μ ρ S, Sim ca X.K B F μ S H' ∧ Sl X.K F μ S.length ρ σ' ∧ RKs ca X.K W B F μ S.length (whileL tt s b m ρ S) D, fun σ' H' q => ⟨m, Nat.lt_succ_self _, q⟩, .mk hb s' (l.mono gr) ?_⟩
        have hk : RKs ca X.K W B F' μ' S'.length (match s b ρ S' with
            | .ok .nx ρ S => whileL tt s b m ρ S
            | .ok .ct ρ S => whileL tt s b m ρ S
            | .ok .bk ρ S => .ok .nx ρ S
            | r => r) D := hk
        cases e : s b ρ S' with
        | ok f ρ2 S2 =>
          rw [e] at hk
          cases f with
          | nx => exact fun σ3 H3 F3 μ3 g3 s3 l3 => ⟨F3, μ3, ρ2, S2, s3, l3, RKs.gr hk g3⟩
          | ct => exact fun σ3 H3 F3 μ3 g3 s3 l3 => ⟨F3, μ3, ρ2, S2, s3, l3, RKs.gr hk g3⟩
          | bk => exact hk
          | rt d => exact hk
        | exc c S2 => rw [e] at hk; exact hk
        | no => rw [e] at hk; exact hk

/-! ### what is walked -/
/-- J tells the things ds, one by one -/
structure Walks (K : PySem.W.Frag) (F : Hp) (μ : Nat → Addr) (n : Nat) (J : It) (ds : List D) : Prop where
  go : ∀ (i : Nat) (d : D) (H : Hp), (∀ a o, F a = some o → H a = some o) → ds[i]? = some d → J.go i H ∧ ∀ x H', J.yld i H x H' →
    (H' = H ∧ RV K F μ n d x) ∨ ∃ T vs l, H T = none ∧ x = .ref T ∧ H' = upd H T (.tup vs) ∧ d = .tup l ∧ RVs K F μ n l vs
  stop : ∀ H : Hp, (∀ a o, F a = some o → H a = some o) → J.stop ds.length H
def RI (ca : Nat → Addr) (K : PySem.W.Frag) (W : Wish) (m : Src) : TI := fun σ H R => RM ca K W m σ H fun F μ S ds H' => ∀ J, Walks K F μ S.length J ds → R J H'
theorem _root_.L2.PI.conv {tg e : Expr} {t t' : TI} (h : PI X tg e t) (c : ∀ σ H R, t' σ H R → t σ H R) : PI X tg e t' := ⟨fun pins s σ H R I hw => h.run pins s σ H R I (c _ _ _ hw)⟩
theorem walk_list {a : Addr} {vs : List V} {ds : List D} (e : F a = some (.lst vs)) (r : RVs K F μ n ds vs) : Walks K F μ n (Itl K a) ds := by
  refine ⟨fun i d H hF hd => ?_, fun H hF => ⟨vs, .of (hF _ _ e), by rw [r.length]; exact Nat.le_refl _⟩⟩
  obtain ⟨v, e1, rv⟩ := r.get hd
  refine ⟨⟨vs, v, .of (hF _ _ e), e1⟩, fun x H' ⟨h1, h2⟩ => .inl ⟨h1, ?_⟩⟩
  have := h2 vs (.of (hF _ _ e))
  rw [e1] at this; cases this; exact rv
theorem walk_tup {a : Addr} {vs : List V} {ds : List D} (e : F a = some (.tup vs)) (r : RVs K F μ n ds vs) : Walks K F μ n (Itt K a) ds := by
  refine ⟨fun i d H hF hd => ?_, fun H hF => ⟨vs, .of (hF _ _ e), by rw [r.length]; exact Nat.le_refl _⟩⟩
  obtain ⟨v, e1, rv⟩ := r.get hd
  refine ⟨⟨vs, v, .of (hF _ _ e), e1⟩, fun x H' ⟨h1, h2⟩ => .inl ⟨h1, ?_⟩⟩
  have := h2 vs (.of (hF _ _ e))
  rw [e1] at this; cases this; exact rv
theorem walk_str {l : List Nat} : Walks K F μ n (Its (toS l)) (l.map fun c => .str [c]) := by
  have hz : (toS l).cps.size = l.length := by simp [toS]
  refine ⟨fun i d H hF hd => ?_, fun H hF => by show (toS l).cps.size ≤ _; rw [hz, List.length_map]; exact Nat.le_refl _⟩
  rw [List.getElem?_map] at hd
  obtain ⟨c, h1, h2⟩ := Option.map_eq_some_iff.mp hd
  subst h2
  refine ⟨by show i < (toS l).cps.size; rw [hz]; exact (List.getElem?_eq_some_iff.mp h1).1, fun x H' ⟨e1, c', e2, e3⟩ => .inl ⟨e1, ?_⟩⟩
  have : (toS l).cps[i]? = l[i]? := by simp [toS]
  rw [this, h1] at e2; cases e2
  subst e3
  exact .str [c]
theorem walk_rng {i j : Int} : Walks K F μ n (Itr i (j - i).toNat) (rng i j) := by
  refine ⟨fun k d H hF hd => ?_, fun H hF => by show (j - i).toNat ≤ _; simp [rng]⟩
  unfold rng at hd
  rw [List.getElem?_map] at hd
  obtain ⟨c, h1, h2⟩ := Option.map_eq_some_iff.mp hd
  subst h2
  obtain ⟨h3, h4⟩ := List.getElem?_eq_some_iff.mp h1
  rw [List.getElem_range] at h4
  rw [List.length_range] at h3
  subst h4
  exact ⟨h3, fun x H' ⟨e1, e2⟩ => .inl ⟨e1, by rw [e2]; exact .int _⟩⟩
section
variable {tg e : Expr} {x : Ex}
theorem PI.or {t u : TI} (h : PI X tg e t) (h2 : PI X tg e u) : PI X tg e (fun σ H R => t σ H R ∨ u σ H R) := ⟨fun pins s σ H R I hw => hw.elim (h.run pins s σ H R I) (h2.run pins s σ H R I)⟩
/-- for over a list, a tuple, a text -/
theorem w_S (he : PE X e (RE ca X.K W x)) : PI X tg e (RI ca X.K W (wS x)) := (PI.or (pi_list he) (PI.or (pi_tup he) (pi_str he))).conv fun σ H R h => by
  obtain ⟨b, B, F, μ, ρ, S, hb, s, l, k⟩ := h
  unfold wS at k
  cases hx : x b ρ S with
  | no => rw [hx] at k; exact k.elim
  | exc c S' => rw [hx] at k; exact .inl (.mk hb s l (by rw [hx]; exact k))
  | ok d S' =>
    rw [hx] at k
    simp only [Res.bind_ok] at k
    cases d with
    | lst ds =>
      refine .inl (.mk hb s l ?_)
      rw [hx]
      exact fun H' F' μ' g s' v rv => by
        cases rv with
        | lst e r => exact ⟨_, rfl, ⟨_, .of (s'.le _ _ e)⟩, RK.now (k.gr g) s' _ (walk_list e r)⟩
    | tup ds =>
      refine .inr (.inl (.mk hb s l ?_))
      rw [hx]
      exact fun H' F' μ' g s' v rv => by
        cases rv with
        | tup e r => exact ⟨_, rfl, ⟨_, .of (s'.le _ _ e)⟩, RK.now (k.gr g) s' _ (walk_tup e r)⟩
    | str z =>
      refine .inr (.inr (.mk hb s l ?_))
      rw [hx]
      exact fun H' F' μ' g s' v rv => by
        cases rv with
        | str => exact ⟨_, rfl, RK.now (k.gr g) s' _ walk_str⟩
    | _ => exact k.elim
section
variable {a c : Expr} {as : Exs} {p pos : Pos}
theorem w_range1 (hg : Gl X "range") (hm : X.mg "range" = none) (ha : PA X [a] (RAs ca X.K W as)) (hs : starEach [a] X.env = [(false, eval a X.env)] := by rfl) : PI X tg (.Call (.Name "range" p) [a] [] pos) (RI ca X.K W (wRange1 as)) :=
  (pi_range1 hg hm ha hs).conv fun σ H R h => by
    obtain ⟨b, B, F, μ, ρ, S, hb, s, l, k⟩ := h
    refine .mk hb s l (RK.mono (RK.bind k) fun ds S' H' F' μ' _ g s' hk => fun vs rv => ?_)
    split at hk
    · rename_i j _
      split at hk
      · rename_i hz
        cases rv with
        | cons r1 r2 =>
          cases r1; cases r2
          exact ⟨j, rfl, by omega, by omega, RK.now hk s' _ (by have := walk_rng (K := X.K) (F := F') (μ := μ') (n := S'.length) (i := 0) (j := j); simpa using this)⟩
      · exact hk.elim
    · exact hk.elim
theorem w_range2 (hg : Gl X "range") (hm : X.mg "range" = none) (ha : PA X [a, c] (RAs ca X.K W as)) (hs : starEach [a, c] X.env = [(false, eval a X.env), (false, eval c X.env)] := by rfl) (hs2 : starEach [c] X.env = [(false, eval c X.env)] := by rfl) :
    PI X tg (.Call (.Name "range" p) [a, c] [] pos) (RI ca X.K W (wRange2 as)) :=
  (pi_range2 hg hm ha hs hs2).conv fun σ H R h => by
    obtain ⟨b, B, F, μ, ρ, S, hb, s, l, k⟩ := h
    refine .mk hb s l (RK.mono (RK.bind k) fun ds S' H' F' μ' _ g s' hk => fun vs rv => ?_)
    split at hk
    · rename_i i j _
      split at hk
      · rename_i hz
        cases rv with
        | cons r1 r2 =>
          cases r2 with
          | cons r2 r3 =>
            cases r1; cases r2; cases r3
            exact ⟨i, j, rfl, ⟨by omega, by omega, by omega, by omega⟩, RK.now hk s' _ walk_rng⟩
      · exact hk.elim
    · exact hk.elim
end
end

/-! ### for -/
theorem r_for {tg iter : Expr} {body : List Stmt} {src : Src} {g : Tgt} {is : List Nat} {s : Stm} {pos : Pos} (hp : PassesOwn (model X.prog X.w) X.A X.env X.xe) (hc : X.calm = true) (hi : PI X tg iter (RI ca X.K W src)) (hg : PG X tg (GR X.K is g)) (hb : PSs X body (RS ca X.K W s))
    (hs : ∀ x, foldedSetIterable iter X.env x = pure x := by intro _; rfl) : PS X (.For tg iter body [] pos) (RS ca X.K W (sFor src g s)) :=
  (ps_for hp hc hi hg hb hs).conv fun D σ H h => by
    obtain ⟨b, B, F, μ, ρ, S, hb, si, l, k⟩ := h
    refine RM.mk hb si l (RK.mono (RKs.of k) fun ds S1 H1 F1 μ1 _ g1 s1 k1 => fun J wk => ?_)
    refine ⟨fun i m σ H => ∃ F μ ρ S, Gr F1 μ1 S1.length F μ S.length ∧ Sim ca X.K B F μ S H ∧ Sl X.K F μ S.length ρ σ ∧ i + m = ds.length ∧ RKs ca X.K W B F μ S.length (forL g s b (ds.drop i) ρ S) D,
      ⟨ds.length, F1, μ1, ρ, S1, .refl, s1, l.mono g1, by omega, k1⟩, ?_⟩
    rintro i m σ H ⟨F, μ, ρ, S, gr, si, l, hm, k⟩
    by_cases hi : i < ds.length
    · have hd : ds[i]? = some ds[i] := List.getElem?_eq_getElem hi
      rw [List.drop_eq_getElem_cons hi] at k
      obtain ⟨go, yl⟩ := wk.go i ds[i] H (fun a o e => si.le _ _ (gr.f _ _ e)) hd
      refine .inr ⟨go, fun σ' H' => ∃ F μ ρ S, Gr F1 μ1 S1.length F μ S.length ∧ Sim ca X.K B F μ S H' ∧ Sl X.K F μ S.length ρ σ' ∧ i + 1 + (m - 1) = ds.length ∧ RKs ca X.K W B F μ S.length (forL g s b (ds.drop (i + 1)) ρ S) D,
        fun σ' H' q => ⟨m - 1, by omega, q⟩, fun x H' hy => ?_⟩
      -- the thing told, in a world that may have a tuple more
      have key : ∀ (F2 : Hp), Gr F μ S.length F2 μ S.length → Sim ca X.K B F2 μ S H' → RV X.K F2 μ S.length ds[i] x → GR X.K is g x σ H' fun σ2 H2 => RS ca X.K W s { D with
          nx := fun σ' H' => ∃ F μ ρ S, Gr F1 μ1 S1.length F μ S.length ∧ Sim ca X.K B F μ S H' ∧ Sl X.K F μ S.length ρ σ' ∧ i + 1 + (m - 1) = ds.length ∧ RKs ca X.K W B F μ S.length (forL g s b (ds.drop (i + 1)) ρ S) D,
          ct := fun σ' H' => ∃ F μ ρ S, Gr F1 μ1 S1.length F μ S.length ∧ Sim ca X.K B F μ S H' ∧ Sl X.K F μ S.length ρ σ' ∧ i + 1 + (m - 1) = ds.length ∧ RKs ca X.K W B F μ S.length (forL g s b (ds.drop (i + 1)) ρ S) D, bk := D.nx } σ2 H2 := by
        intro F2 g2 s2 rx
        unfold forL at k
        cases hgt : g ds[i] ρ with
        | none => rw [hgt] at k; exact k.elim
        | some ρ1 =>
          rw [hgt] at k
          simp only at k
          refine ⟨F2, μ, S.length, ρ, ds[i], ρ1, s2.le, rx, l.mono g2, hgt, fun σ2 l2 _ _ => .mk hb s2 l2 ?_⟩
          cases e : s b ρ1 S with
          | ok f ρ3 S3 =>
            rw [e] at k
            cases f with
            | nx => exact fun σ3 H3 F3 μ3 g3 s3 l3 => ⟨F3, μ3, ρ3, S3, gr.trans (g2.trans g3), s3, l3, by omega, RKs.gr (RKs.gr k g2) g3⟩
            | ct => exact fun σ3 H3 F3 μ3 g3 s3 l3 => ⟨F3, μ3, ρ3, S3, gr.trans (g2.trans g3), s3, l3, by omega, RKs.gr (RKs.gr k g2) g3⟩
            | bk => exact RKs.gr k g2
            | rt d => exact RKs.gr k g2
          | exc c S3 => rw [e] at k; exact RKs.gr k g2
          | no => rw [e] at k; exact k
      rcases yl x H' hy with ⟨rfl, rx⟩ | ⟨T, vs, l', hT, rfl, rfl, e1, rs⟩
      · exact key F .refl si (rx.mono gr)
      · obtain ⟨s2, g2⟩ := si.tup (vs := vs) hT
        exact key _ g2 s2 (by rw [e1]; exact .tup upd_same ((rs.mono gr).mono g2))
    · have e : i = ds.length := by omega
      subst e
      rw [List.drop_length] at k
      exact .inl ⟨wk.stop H fun a o e => si.le _ _ (gr.f _ _ e), k.nx si l⟩

/-! ### comprehensions -/
theorem dropE_len : ∀ (is : List Nat) (ρ : Env), (dropE is ρ).length = ρ.length
  | [], _ => rfl
  | i :: is, ρ => by
    show (dropE is (ρ.set i none)).length = _
    rw [dropE_len is, List.length_set]
theorem dropE_some : ∀ {is : List Nat} {ρ : Env} {j : Nat} {d : D}, (dropE is ρ)[j]? = some (some d) → ρ[j]? = some (some d) ∧ j ∉ is
  | [], _, _, _, h => ⟨h, by simp⟩
  | i :: is, ρ, j, d, h => by
    obtain ⟨h1, h2⟩ := dropE_some (is := is) (ρ := ρ.set i none) h
    by_cases hj : i = j
    · subst hj
      have hl : i < ρ.length := by have := (List.getElem?_eq_some_iff.mp h1).1; simpa using this
      rw [List.getElem?_set_self hl] at h1
      cases h1
    · rw [List.getElem?_set_ne hj] at h1
      exact ⟨h1, by simp only [List.mem_cons, not_or]; exact ⟨fun e => hj e.symm, h2⟩⟩
theorem wipe_get {σ : L2.St} {j : Nat} : ∀ {vs : List Nat}, j ∉ vs → (wipe σ vs)[j]? = σ[j]?
  | [], _ => rfl
  | v :: vs, h => by
    simp only [List.mem_cons, not_or] at h
    show ((wipe σ vs).set v none)[j]? = _
    rw [List.getElem?_set_ne (fun e => h.1 e.symm)]
    exact wipe_get h.2
theorem wipe_in {σ : L2.St} {j : Nat} : ∀ {vs : List Nat}, j ∈ vs → j < σ.length → (wipe σ vs)[j]? = some none
  | v :: vs, h, hl => by
    show ((wipe σ vs).set v none)[j]? = _
    by_cases e : v = j
    · subst e; rw [List.getElem?_set_self (by rw [wipe_length]; exact hl)]
    · rw [List.getElem?_set_ne e]
      exact wipe_in ((List.mem_cons.mp h).elim (fun q => absurd q.symm e) id) hl
theorem wipe_eq {σ σ' : L2.St} {vs : List Nat} (hl : σ'.length = σ.length) (h : ∀ j, j ∉ vs → σ'[j]? = σ[j]?) : wipe σ' vs = wipe σ vs := by
  refine List.ext_getElem? fun j => ?_
  by_cases hj : j ∈ vs
  · by_cases hlt : j < σ.length
    · rw [wipe_in hj (hl ▸ hlt), wipe_in hj hlt]
    · rw [List.getElem?_eq_none (by rw [wipe_length]; omega), List.getElem?_eq_none (by rw [wipe_length]; omega)]
  · rw [wipe_get hj, wipe_get hj, h j hj]
theorem Sl.wipe {ρ : Env} (l : Sl K F μ n ρ σ) (own : List Nat) : Sl K F μ n (dropE own ρ) (L2.wipe σ own) := by
  refine ⟨by rw [dropE_len, wipe_length]; exact l.1, fun i d e => ?_⟩
  obtain ⟨h1, h2⟩ := dropE_some e
  obtain ⟨v, e1, r⟩ := l.2 i d h1
  exact ⟨v, by rw [wipe_get h2]; exact e1, r⟩
theorem lc_ok {src : Src} {g : Tgt} {is own : List Nat} {t : Te} {x : Ex} {Q : VK} (hsub : ∀ j ∈ is, j ∈ own) (h : RE ca K W (eLc own src g t x) σ H Q) : tLc (RI ca K W src) (GR K is g) (RT ca K W0 t) (RE ca K W0 x) own σ H Q := by
  obtain ⟨b, B, F, μ, ρ, S, hb, si, l, k⟩ := h
  refine RM.mk hb si l (RK.mono (RK.bind k) fun ds S1 H1 F1 μ1 _ g1 s1 k1 => fun J wk => fun Da hD => ?_)
  obtain ⟨s0, g0⟩ := s1.newL (l := []) (vs := []) hD .nil
  have hk0 : ext μ1 S1.length Da S1.length = Da := ext_same
  refine ⟨fun i m H => ∃ F μ S, Gr F1 (ext μ1 S1.length Da) (S1.length + 1) F μ S.length ∧ Sim ca K B F μ S H ∧ i + m = ds.length ∧ RK ca K W B F μ S.length (lcL g t x b S1.length (ds.drop i) (dropE own ρ) S) (VQ K Q),
    ⟨ds.length, F1, _, _, by have := (Gr.refl (F := F1) (μ := ext μ1 S1.length Da) (n := (S1 ++ [Ob.lst []]).length)); simpa using this, s0, by omega, k1.gr g0⟩, ?_⟩
  rintro i m H ⟨F, μ, S, gr, si, hm, k⟩
  have hDm : μ S1.length = Da := (gr.m _ (Nat.lt_succ_self _)).trans hk0
  have gr1 : Gr F1 μ1 S1.length F μ S.length := Gr.trans ⟨fun _ _ e => e, fun k hk => ext_lt hk, Nat.le_succ _⟩ gr
  have l1 : Sl K F μ S.length (dropE own ρ) (L2.wipe σ own) := ((l.mono g1).mono gr1).wipe own
  by_cases hi : i < ds.length
  · have hd : ds[i]? = some ds[i] := List.getElem?_eq_getElem hi
    rw [List.drop_eq_getElem_cons hi] at k
    obtain ⟨go, yl⟩ := wk.go i ds[i] H (fun a o e => si.le _ _ (gr1.f _ _ e)) hd
    refine .inr ⟨go, fun H => ∃ F μ S, Gr F1 (ext μ1 S1.length Da) (S1.length + 1) F μ S.length ∧ Sim ca K B F μ S H ∧ i + 1 + (m - 1) = ds.length ∧ RK ca K W B F μ S.length (lcL g t x b S1.length (ds.drop (i + 1)) (dropE own ρ) S) (VQ K Q),
      fun H' q => ⟨m - 1, by omega, q⟩, fun v H' hy => ?_⟩
    have key : ∀ (F2 : Hp), Gr F μ S.length F2 μ S.length → Sim ca K B F2 μ S H' → RV K F2 μ S.length ds[i] v → GR K is g v (L2.wipe σ own) H' fun σ2 H2 => L2.wipe σ2 own = L2.wipe σ own ∧ RT ca K W0 t σ2 H2 fun kb H3 =>
        if kb = true then RE ca K W0 x σ2 H3 fun y H4 => ∃ acc, H4 Da = some (.lst acc) ∧ acc.length < sizeLine ∧ (fun H => ∃ F μ S, Gr F1 (ext μ1 S1.length Da) (S1.length + 1) F μ S.length ∧ Sim ca K B F μ S H ∧ i + 1 + (m - 1) = ds.length ∧
          RK ca K W B F μ S.length (lcL g t x b S1.length (ds.drop (i + 1)) (dropE own ρ) S) (VQ K Q)) (upd H4 Da (.lst (acc ++ [y]))) else (fun H => ∃ F μ S, Gr F1 (ext μ1 S1.length Da) (S1.length + 1) F μ S.length ∧ Sim ca K B F μ S H ∧ i + 1 + (m - 1) = ds.length ∧
          RK ca K W B F μ S.length (lcL g t x b S1.length (ds.drop (i + 1)) (dropE own ρ) S) (VQ K Q)) H3 := by
      intro F2 g2 s2 rv
      unfold lcL at k
      cases hgt : g ds[i] (dropE own ρ) with
      | none => rw [hgt] at k; exact k.elim
      | some ρ1 =>
        rw [hgt] at k
        simp only at k
        refine ⟨F2, μ, S.length, dropE own ρ, ds[i], ρ1, s2.le, rv, l1.mono g2, hgt, fun σ2 l2 n2 c2 => ⟨?_, ?_⟩⟩
        · rw [wipe_eq n2 fun j hj => c2 j fun q => hj (hsub j q)]
          exact wipe_eq (wipe_length _ _) fun j hj => wipe_get hj
        · refine RM.mk hb s2 l2 ?_
          cases e : t b ρ1 S with
          | no => rw [e] at k; exact k.elim
          | exc c S2 => rw [e] at k; exact k.elim
          | ok kb S2 =>
            rw [e] at k
            intro H3 F3 μ3 g3 s3
            cases kb with
            | false => exact ⟨F3, μ3, S2, gr.trans (g2.trans g3), s3, by omega, RK.gr (RK.gr k g2) g3⟩
            | true =>
              simp only at k
              show RE ca K W0 x σ2 H3 _
              refine RM.mk hb s3 (l2.mono g3) ?_
              cases e2 : x b ρ1 S2 with
              | no => rw [e2] at k; exact k.elim
              | exc c S3 => rw [e2] at k; exact k.elim
              | ok y S3 =>
                rw [e2] at k
                intro H4 F4 μ4 g4 s4 yv ry
                simp only at k
                split at k
                · rename_i acc hn
                  split at k
                  · rename_i hlt
                    obtain ⟨_, vs, e5, rs⟩ := s4.ob _ _ hn
                    have gt := gr.trans (g2.trans (g3.trans g4))
                    have hDm4 : μ4 S1.length = Da := (gt.m _ (Nat.lt_succ_self _)).trans hk0
                    rw [hDm4] at e5
                    have s5 := s4.writeL hn (rs.append (.cons ry .nil)) fun c hc hlt => absurd (s1.bl c hc) (by omega)
                    rw [hDm4] at s5
                    have e6 : (S3.set S1.length (Ob.lst (acc ++ [y]))).length = S3.length := List.length_set
                    refine ⟨vs, e5, by rw [← rs.length, ← line_eq]; exact hlt, F4, μ4, _, by rw [e6]; exact gt, s5, by omega, ?_⟩
                    rw [e6]
                    exact RK.gr k (g2.trans (g3.trans g4))
                  · exact k.elim
                · exact k.elim
    rcases yl v H' hy with ⟨rfl, rx⟩ | ⟨T, vs, l', hT, rfl, rfl, e1, rs⟩
    · exact key F .refl si (rx.mono gr1)
    · obtain ⟨s2, g2⟩ := si.tup (vs := vs) hT
      exact key _ g2 s2 (by rw [e1]; exact .tup upd_same ((rs.mono gr1).mono g2))
  · have e : i = ds.length := by omega
    subst e
    rw [List.drop_length] at k
    refine .inl ⟨wk.stop H fun a o e => si.le _ _ (gr1.f _ _ e), ?_⟩
    have := RK.val k si (.ref (k := S1.length) (by have := gr.l; omega))
    rwa [hDm] at this
section
variable {elt tg iter : Expr} {ifs : List Expr} {scope : Scope} {own : List (Str × Nat)} {pos : Pos} {src : Src} {g : Tgt} {is : List Nat} {t : Te} {x : Ex}
theorem r_lc (hc : X.calm = true) (hN : X.N.Nodup) (hi : PI X tg iter (RI ca X.K W src)) (ok : BlkOk X.N X.env.scope scope own)
    (hg : ∀ (s : Shared) (H : Hp) (C : Addr) (cl : List (Str × Addr)) (fp : List Addr), PG (X.blk s H scope (compEnvC scope cl C X.env) fp) tg (GR X.K is g)) (ht : ∀ (s : Shared) (H : Hp) (C : Addr) (cl : List (Str × Addr)) (fp : List Addr), PTs (X.blk s H scope (compEnvC scope cl C X.env) fp) ifs (RT ca X.K W0 t))
    (he : ∀ (s : Shared) (H : Hp) (C : Addr) (cl : List (Str × Addr)) (fp : List Addr), PE (X.blk s H scope (compEnvC scope cl C X.env) fp) elt (RE ca X.K W0 x)) (hsub : ∀ j ∈ is, j ∈ own.map (·.2) := by decide) (hs : ∀ x, foldedSetIterable iter X.env x = pure x := by intro _; rfl) :
    PE X (.ListComp elt [⟨tg, iter, ifs, 0⟩] scope pos) (RE ca X.K W (eLc (own.map (·.2)) src g t x)) := (pe_lc hc hN hi ok hg ht he hs).conv fun _ _ _ h => lc_ok hsub h
theorem r_setLc {i : Nat} {y : Str} {py spos : Pos} (hc : X.calm = true) (hN : X.N.Nodup) (hy : X.N[i]? = some y) (hyl : X.env.scope.names.lookup y = some .local) (hsw : swapsWith (.ListComp elt [⟨tg, iter, ifs, 0⟩] scope pos) (some (.Name y py)) spos.line X.env = pure true)
    (hi : PI X tg iter (RI ca X.K W src)) (ok : BlkOk X.N X.env.scope scope own)
    (hg : ∀ (s : Shared) (H : Hp) (C : Addr) (cl : List (Str × Addr)) (fp : List Addr), PG (X.blk s H scope (compEnvC scope cl C X.env) fp) tg (GR X.K is g)) (ht : ∀ (s : Shared) (H : Hp) (C : Addr) (cl : List (Str × Addr)) (fp : List Addr), PTs (X.blk s H scope (compEnvC scope cl C X.env) fp) ifs (RT ca X.K W0 t))
    (he : ∀ (s : Shared) (H : Hp) (C : Addr) (cl : List (Str × Addr)) (fp : List Addr), PE (X.blk s H scope (compEnvC scope cl C X.env) fp) elt (RE ca X.K W0 x)) (hsub : ∀ j ∈ is, j ∈ own.map (·.2) := by decide) (hs : ∀ x, foldedSetIterable iter X.env x = pure x := by intro _; rfl) :
    PS X (.Assign [.Name y py] (.ListComp elt [⟨tg, iter, ifs, 0⟩] scope pos) spos) (RS ca X.K W (sAsg (eLc (own.map (·.2)) src g t x) (gN i))) := (ps_setLc hc hN hy hyl hsw hi ok hg ht he hs).conv fun D σ H h =>
  lc_ok hsub (re_mono (asg_ok (is := [i]) h) fun v H' q => gn_ok q)
/-- .. in a region of its own -/
theorem r_setLcG {i : Nat} {y : Str} {py spos : Pos} (hc : X.calm = true) (hN : X.N.Nodup) (hy : X.N[i]? = some y) (hyl : X.env.scope.names.lookup y = some .local) (hsw : swapsWith (.ListComp elt [⟨tg, iter, ifs, 0⟩] scope pos) (some (.Name y py)) spos.line X.env = pure true)
    (hi : PI X tg iter (RI ca X.K W src)) (ok : BlkOk X.N X.env.scope scope own)
    (hg : ∀ (s : Shared) (H : Hp) (C : Addr) (cl : List (Str × Addr)) (fp : List Addr), PG (X.blk s H scope (compEnvC scope cl C X.env) fp) tg (GR X.K is g)) (ht : ∀ (s : Shared) (H : Hp) (C : Addr) (cl : List (Str × Addr)) (fp : List Addr), PTs (X.blk s H scope (compEnvC scope cl C X.env) fp) ifs (RT ca X.K W0 t))
    (he : ∀ (s : Shared) (H : Hp) (C : Addr) (cl : List (Str × Addr)) (fp : List Addr), PE (X.blk s H scope (compEnvC scope cl C X.env) fp) elt (RE ca X.K W0 x)) (hsub : ∀ j ∈ is, j ∈ own.map (·.2) := by decide) (hs : ∀ x, foldedSetIterable iter X.env x = pure x := by intro _; rfl) :
    PS X (.Assign [.Name y py] (.ListComp elt [⟨tg, iter, ifs, 0⟩] scope pos) spos) (RS ca X.K W (sAsg (gc (eLc (own.map (·.2)) src g t x)) (gN i))) := (ps_setLc hc hN hy hyl hsw hi ok hg ht he hs).conv fun D σ H h =>
  lc_ok hsub (re_gc (re_mono (asg_ok (is := [i]) h) fun v H' q => gn_ok q))
theorem _root_.L2.PTs.conv2 {ifs : List Expr} {t t' : TT} (h : PTs X ifs t) (c : ∀ σ H Q, t' σ H Q → t σ H Q) : PTs X ifs t' := ⟨fun pins s σ H Q I hw => h.run pins s σ H Q I (c _ _ _ hw)⟩
theorem r_t0 : PTs X [] (RT ca X.K W tT) := pts_nil.conv2 fun σ H Q h => by
  obtain ⟨b, B, F, μ, ρ, S, hb, s, l, k⟩ := h
  exact RK.now (R := BQ Q) k s
theorem r_t1 {c : Expr} (h : PT X c (RT ca X.K W t)) : PTs X [c] (RT ca X.K W t) := pts_one h
end

/-! ### defs -/
theorem start_len (N : List Str) (vs : List V) (h : vs.length ≤ N.length) : (L2.start N vs).length = N.length := by
  unfold L2.start
  simp; omega
theorem fin_ok {r : SR} {Q : VK} (h : RK ca K W B F μ n (fin r) (VQ K Q)) : RKs ca K W B F μ n r { nx := fun _ H' => Q .non H', rt := Q } := by
  cases r with
  | ok f ρ S' =>
    cases f with
    | nx => exact fun σ' H' F' μ' g s _ => h H' F' μ' g s .non .non
    | rt d => exact fun v H' F' μ' g s r => h H' F' μ' g s v r
    | bk => exact h.elim
    | ct => exact h.elim
  | exc c S' => exact h
  | no => exact h
theorem sl_start {ds : List D} {vs : List V} {N : List Str} {m : Nat} (r : RVs K F μ n ds vs) (hm : N.length = m) (h : ds.length ≤ m) : Sl K F μ n (ds.map some ++ List.replicate (m - ds.length) none) (L2.start N vs) := by
  have hl := r.length
  subst hm
  refine ⟨by rw [start_len _ _ (by omega)]; simp; omega, fun i d e => ?_⟩
  by_cases hi : i < ds.length
  · rw [List.getElem?_append_left (by simpa using hi), List.getElem?_map] at e
    obtain ⟨d', h1, h2⟩ := Option.map_eq_some_iff.mp e
    cases h2
    obtain ⟨v, h3, h4⟩ := r.get h1
    refine ⟨v, ?_, h4⟩
    unfold L2.start
    rw [List.getElem?_append_left (by rw [List.length_map, ← hl]; exact hi), List.getElem?_map, h3]
    rfl
  · rw [List.getElem?_append_right (by simpa using hi)] at e
    have := List.mem_of_getElem? e
    rw [List.mem_replicate] at this
    exact absurd this.2 (by simp)
theorem body_ok {k m : Nat} {s : Stm} {vs : List V} {N : List Str} {Q : VK} {E : XK} (hm : N.length = m) (hk : k ≤ m) (h : SpD ca K (mkF k m s) vs H Q E) : RS ca K W0 s { nx := fun _ H' => Q .non H', rt := Q } (L2.start N vs) H := by
  obtain ⟨b, B, F, μ, S, ds, hb, si, r, kk⟩ := h
  unfold mkF at kk
  split at kk
  · rename_i e
    subst e
    exact .mk hb si (sl_start r hm hk) (fin_ok kk)
  · exact kk.elim
theorem len_ok {k m : Nat} {s : Stm} {vs : List V} {Q : VK} {E : XK} (h : SpD ca K (mkF k m s) vs H Q E) : vs.length = k := by
  obtain ⟨b, B, F, μ, S, ds, hb, si, r, kk⟩ := h
  unfold mkF at kk
  split at kk
  · rename_i e; rw [← r.length]; exact e
  · exact kk.elim
/-- THE RULE for a def that lets nothing out -/
theorem def_ok {P : Program} {w : World} {mg : Str → Option Value} {base : Heap} {nm : Str} {st : Stmt} {fa : Addr} {fd : FuncData} {N ps : List Str} {k m lv : Nat} {s : Stm} (Fn : FunD K nm nm (defArgs st) (defBody st) (defScope st) [] [] fa fd)
    (sc : FnScope N ps (defScope st)) (hk : ps.length = k) (hm : N.length = m) (hkm : k ≤ m)
    (body : ∀ (cdv : Value) (A : Around) (outer : List PySem.Env) (s0 : Shared) (H : Hp) (E : XK), Room lv (A.deeper (envOfC nm (defScope st) s0.heap.objs.size fa cdv)) →
      PSs (cxOf CX0 P w K mg base N nm (defScope st) fa cdv A outer s0 H E).nox (defBody st) (RS ca K W0 s)) : FnOk P w K mg base CX0 (lv + 1) fa fd ps (SpD ca K (mkF k m s)) :=
  Fn.ok sc (fun vs H Q E h => by rw [len_ok h, hk]) fun cdv A outer s0 H vs Q E hr h => ⟨_, PSs.nox (body cdv A outer s0 H E hr), body_ok hm hkm h⟩
/-- a def that is never come to (no fuel) -/
theorem def_no {P : Program} {w : World} {mg : Str → Option Value} {base : Heap} {fa : Addr} {fd : FuncData} {ps : List Str} {lv : Nat} : FnOk P w K mg base CX0 lv fa fd ps (SpD ca K noF) :=
  ⟨fun vs H Q E h => (by obtain ⟨b, B, F, μ, S, ds, hb, si, r, kk⟩ := h; exact kk.elim), fun A outer s H args us vs Q E _ _ _ _ h => (by obtain ⟨b, B, F, μ, S, ds, hb, si, r, kk⟩ := h; exact kk.elim)⟩
end
end NR

namespace NR
open PySem PySem.Spec PyProof.Rows L2
/-! ### methods -/
inductive Rc where | list | str | dict
def Rc.nm : Rc → String
  | .list => "list" | .str => "str" | .dict => "dict"
def isRc (S : Store) (d : D) : Rc → Bool
  | .str => match d with | .str _ => true | _ => false
  | .list => match d with
    | .lst _ => true
    | .ref n => match S[n]? with | some (.lst _) => true | _ => false
    | _ => false
  | .dict => match d with
    | .dic _ _ => true
    | .ref n => match S[n]? with | some (.dic _ _) => true | _ => false
    | _ => false
abbrev PM := Nat → D → List D → Store → Res D
def eM (T : Rc) (f : PM) (o : Ex) (as : Exs) : Ex := fun b ρ S => (o b ρ S).bind fun d S => if isRc S d T then (as b ρ S).bind fun ds S => f b d ds S else .no
def m1 (f : P2) : PM := fun b d ds S => match ds with
  | [e] => f b d e S
  | _ => .no
def m0 (f : P1) : PM := fun b d ds S => match ds with
  | [] => f b d S
  | _ => .no
def m2 (f : P3) : PM := fun b d ds S => match ds with
  | [e, g] => f b d e g S
  | _ => .no
def PrM (K : PySem.W.Frag) (f : PM) (r : V → List V → Hp → VK → Prop) : Prop := ∀ (ca : Nat → Addr) (W : Wish) (b : Nat) (B : Nat → Prop) (F : Hp) (μ : Nat → Addr) (S : Store) (H : Hp) (d : D) (v : V) (ds : List D) (vs : List V) (Q : VK),
  (∀ c, B c → c ≤ b) → Sim ca K B F μ S H → RV K F μ S.length d v → RVs K F μ S.length ds vs → RK ca K W B F μ S.length (f b d ds S) (VQ K Q) → r v vs H Q
section
variable {ca : Nat → Addr} {K : PySem.W.Frag} {W : Wish} {B : Nat → Prop} {b n n' : Nat} {F F' : Hp} {μ μ' : Nat → Addr} {S : Store} {σ : L2.St} {H : Hp} {X : Cx}
theorem isRc_ok {d : D} {v : V} {T : Rc} (s : Sim ca K B F μ S H) (rv : RV K F μ S.length d v) (h : isRc S d T = true) : tyV K T.nm v H := by
  cases T with
  | str => cases rv <;> first | exact (rfl : "str" = "str") | exact absurd (show false = true from h) Bool.false_ne_true
  | list =>
    cases rv with
    | lst e r => exact .inl ⟨rfl, _, .of (s.le _ _ e)⟩
    | @ref i hi =>
      simp only [isRc] at h
      split at h
      · rename_i l e
        obtain ⟨_, vs, e1, _⟩ := s.ob i _ e
        exact .inl ⟨rfl, _, .of e1⟩
      · cases h
    | _ => cases h
  | dict =>
    cases rv with
    | dicK e r => exact .inr (.inr (.inl ⟨rfl, .inl ⟨_, s.le _ _ e⟩⟩))
    | dicT e r => exact .inr (.inr (.inl ⟨rfl, .inr ⟨_, s.le _ _ e⟩⟩))
    | @ref i hi =>
      simp only [isRc] at h
      split at h
      · rename_i t kvs e
        obtain ⟨_, o, e1, r⟩ := s.ob i _ e
        cases t with
        | false => obtain ⟨ps, rfl, _⟩ := r; exact .inr (.inr (.inl ⟨rfl, .inl ⟨_, e1⟩⟩))
        | true => obtain ⟨ps, rfl, _⟩ := r; exact .inr (.inr (.inl ⟨rfl, .inr ⟨_, e1⟩⟩))
      · cases h
    | _ => cases h
theorem re_M {T : Rc} {f : PM} {o : Ex} {as : Exs} {r : V → List V → Hp → VK → Prop} (p : PrM K f r) {Q : VK} (h : RE ca K W (eM T f o as) σ H Q) : RE ca K W o σ H fun v H1 => tyV K T.nm v H1 ∧ RAs ca K W as σ H1 fun vs H2 => r v vs H2 Q := by
  obtain ⟨b, B, F, μ, ρ, S, hb, s, l, k⟩ := h
  refine .mk hb s l (RK.mono (RK.bind k) fun d S' H' F' μ' _ g s' hk => fun v rv => ?_)
  split at hk
  · rename_i hT
    exact ⟨isRc_ok s' rv hT, .mk hb s' (l.mono g) (RK.mono (RK.bind hk) fun ds S2 H2 F2 μ2 _ g2 s2 k2 => fun vs rvs => p ca W b B F2 μ2 S2 H2 d v ds vs Q hb s2 (rv.mono g2) rvs k2)⟩
  · exact hk.elim
section
variable {o e : Expr} {es : List Expr} {name : Str} {apos cpos : Pos} {id : String} {T : Rc} {f : PM} {x : Ex} {as : Exs} {r : V → List V → Hp → VK → Prop}
theorem r_M (pa : PlainAttrs T.nm) (slot : Slot T.nm name id) (hty : typeOf (.builtin id) = pure (.type "method_descriptor")) (hm : MtR X id r) (p : PrM X.K f r) (ho : PE X o (RE ca X.K W x)) (ha : PA X (e :: es) (RAs ca X.K W as))
    (hbase : attributeBase o name X.env (eval o X.env) = eval o X.env := by rfl)
    (hfew : ((backTo cpos (starEach (e :: es) X.env)).all (fun x => !x.1) && (backToKw cpos (keywordEach [] X.env)).all (fun x => x.1.isSome)
      && decide ((e :: es).length + ([] : List Keyword).length + (if ([] : List Keyword).isEmpty then 0 else 1) < 30)) = true := by rfl)
    (hline : (apos.endLine == cpos.line) = true := by rfl) (hs : starEach (e :: es) X.env = (false, eval e X.env) :: starEach es X.env := by rfl) (hplain : (backTo cpos (starEach es X.env)).any (·.1) = false := by rfl) :
    PE X (.Call (.Attribute o name apos) (e :: es) [] cpos) (RE ca X.K W (eM T f x as)) := (pe_bm pa slot hty hm ho ha hbase hfew hline hs hplain).conv fun _ _ _ h => re_M p h
theorem r_M0 {f : P1} {r : V → List V → Hp → VK → Prop} (pa : PlainAttrs T.nm) (slot : Slot T.nm name id) (hty : typeOf (.builtin id) = pure (.type "method_descriptor")) (hm : MtR X id r) (p : PrM X.K (m0 f) r) (ho : PE X o (RE ca X.K W x))
    (hbase : attributeBase o name X.env (eval o X.env) = eval o X.env := by rfl) (hline : (apos.endLine == cpos.line) = true := by rfl) : PE X (.Call (.Attribute o name apos) [] [] cpos) (RE ca X.K W (eM T (m0 f) x aN)) :=
  (pe_bm0 pa slot hty hm ho hbase hline).conv fun σ H Q h => re_mono (re_M p h) fun v H' q => ⟨q.1, by
    obtain ⟨b, B, F, μ, ρ, S, hb, s, l, k⟩ := q.2
    exact RK.now k s [] .nil⟩
end
theorem prM1 {f : P2} {r : V → List V → Hp → VK → Prop} (p : Pr2 K f fun v u H Q => r v [u] H Q) : PrM K (m1 f) r := fun ca W b B F μ S H d v ds vs Q hb s rv rvs k => by
  unfold m1 at k
  split at k
  · cases rvs with
    | cons r1 r2 => cases r2; exact p ca W b B F μ S H _ _ _ _ Q hb s rv r1 k
  · exact k.elim
theorem prM0 {f : P1} {r : V → List V → Hp → VK → Prop} (p : Pr1 K f fun v H Q => r v [] H Q) : PrM K (m0 f) r := fun ca W b B F μ S H d v ds vs Q hb s rv rvs k => by
  unfold m0 at k
  split at k
  · cases rvs; exact p ca W b B F μ S H _ _ Q hb s rv k
  · exact k.elim
def Pr3 (K : PySem.W.Frag) (f : P3) (r : V → V → V → Hp → VK → Prop) : Prop := ∀ (ca : Nat → Addr) (W : Wish) (b : Nat) (B : Nat → Prop) (F : Hp) (μ : Nat → Addr) (S : Store) (H : Hp) (d e g : D) (v u w : V) (Q : VK), (∀ c, B c → c ≤ b) → Sim ca K B F μ S H → RV K F μ S.length d v → RV K F μ S.length e u → RV K F μ S.length g w →
  RK ca K W B F μ S.length (f b d e g S) (VQ K Q) → r v u w H Q
theorem prM2 {f : P3} {r : V → List V → Hp → VK → Prop} (p : Pr3 K f fun v u w H Q => r v [u, w] H Q) : PrM K (m2 f) r := fun ca W b B F μ S H d v ds vs Q hb s rv rvs k => by
  unfold m2 at k
  split at k
  · cases rvs with
    | cons r1 r2 =>
      cases r2 with
      | cons r2 r3 => cases r3; exact p ca W b B F μ S H _ _ _ _ _ _ Q hb s rv r1 r2 k
  · exact k.elim
theorem bel_bels {l : List D} {d : D} {c : Nat} (h : bels c l = true) (hd : bel c d = true) : bels c (l ++ [d]) = true := by
  rw [bels_all, List.all_append, ← bels_all, h]
  simp only [List.all_cons, List.all_nil, hd, Bool.and_self]
/-- a list that was changed: where the object lies below a base, what was put has no references -/
theorem RK.wr {k : Nat} {l l' : List D} {vs' : List V} {d : D} {Q : VK} {v : V} (kk : RK ca K W B F μ S.length (.ok d (S.set k (.lst l'))) (VQ K Q)) (s : Sim ca K B F μ S H) (hk : S[k]? = some (.lst l)) (r : RVs K F μ S.length l' vs') (hb : ∀ c, B c → k < c → bels c l' = true)
    (rd : RV K F μ S.length d v) : Q v (upd H (μ k) (.lst vs')) := by
  have s' := s.writeL hk r hb
  have e : (S.set k (Ob.lst l')).length = S.length := List.length_set
  exact kk _ _ _ (by rw [e]; exact .refl) s' v (by rw [e]; exact rd)
theorem clL {k : Nat} {l : List D} (s : Sim ca K B F μ S H) (hk : S[k]? = some (.lst l)) {c : Nat} (hc : B c) (h : k < c) : bels c l = true := s.cl c hc k _ h hk
theorem pr_append : PrM K (m1 pAppend) rAppend := prM1 fun ca W b B F μ S H d e v u Q hb s rv ru k => by
  unfold pAppend at k
  split at k
  · rename_i i
    split at k
    · rename_i hz
      split at k
      · rename_i l hl
        split at k
        · rename_i hlt
          obtain ⟨_, vs, e1, r1⟩ := s.ob i _ hl
          cases rv
          refine ⟨_, vs, u, rfl, rfl, e1, by rw [← r1.length, ← line_eq]; exact hlt, ?_⟩
          refine k.wr s hl (r1.append (.cons ru .nil)) (fun c hc h => ?_) .non
          rcases hz with hz | hz
          · have := hb c hc; omega
          · exact bel_bels (clL s hl hc h) (bel_mono (Nat.zero_le _) hz)
        · exact k.elim
      · exact k.elim
    · exact k.elim
  · exact k.elim
theorem at_sign {x : List Nat} {c i : Nat} : StrLaws.At (toS x) ⟨#[c]⟩ (toS x).length i ↔ x[i]? = some c := by
  have := StrLaws.subAt_one (toS x) c i
  rw [toS_cps] at this
  exact this
theorem find_sign (x : List Nat) (c : Nat) : Txt.find (toS x) ⟨#[c]⟩ = match x.findIdx? (· == c) with | some k => (k : Int) | none => -1 := by
  rcases PyProof.Rows.find_whole (toS x) ⟨#[c]⟩ with ⟨h1, h2⟩ | ⟨i, h1, h2, h3⟩
  · rw [h1]
    have : x.findIdx? (· == c) = none := by
      rw [List.findIdx?_eq_none_iff]
      intro y hy
      obtain ⟨i, hi⟩ := List.getElem?_of_mem hy
      rw [beq_eq_false_iff_ne]
      intro e
      exact h2 i (at_sign.mpr (by rw [hi, e]))
    rw [this]
  · rw [h1]
    have h2 := at_sign.mp h2
    obtain ⟨hl, he⟩ := List.getElem?_eq_some_iff.mp h2
    have : x.findIdx? (· == c) = some i := by
      rw [List.findIdx?_eq_some_iff_getElem]
      refine ⟨hl, by rw [he]; exact beq_self_eq_true c, fun j hj => ?_⟩
      have := h3 j hj
      intro e
      exact this (at_sign.mpr (by rw [List.getElem?_eq_getElem (by omega), beq_iff_eq.mp e]))
    rw [this]
theorem pr_find : PrM K (m1 pFind) (fun x xs H Q => ∃ a b, x = .str a ∧ xs = [.str b] ∧ Q (.int (Txt.find a b)) H) := prM1 fun ca W b B F μ S H d e v u Q hb s rv ru k => by
  unfold pFind at k
  split at k
  · rename_i x c
    cases rv; cases ru
    refine ⟨_, _, rfl, rfl, ?_⟩
    have := find_sign x c
    show Q (.int (Txt.find (toS x) ⟨#[c]⟩)) H
    rw [this]
    exact k.val s (.int _)
  · exact k.elim
theorem map_toS_len (l : List (List Nat)) : (l.map toS).map (·.length) = l.map List.length := by
  rw [List.map_map]
  exact List.map_congr_left fun x _ => toS_len x
theorem join_toS (z : List Nat) (l : List (List Nat)) : Txt.join (toS z) (l.map toS) = toS (z.intercalate l) := by
  show Builtin.Str.glued _ _ = _
  rw [StrLaws.glued_eq_join]
  induction l with
  | nil => rfl
  | cons x l ih =>
    cases l with
    | nil => show toS x = toS _; simp [List.intercalate]
    | cons y l =>
      show toS x ++ toS z ++ Str.join (toS z) ((y :: l).map toS) = _
      rw [ih, toS_app, toS_app]
      simp [List.intercalate, List.intersperse]
theorem pr_join : PrM K (m1 pJoin) (fun x xs H Q => ∃ a p, ∃ ys : List Str, x = .str a ∧ xs = [.ref p] ∧ (SqL K H p (ys.map V.str) ∨ SqT K H p (ys.map V.str)) ∧ (ys.map (·.length)).sum + ys.length * a.length ≤ 16777216 ∧ Q (.str (Txt.join a ys)) H) := prM1 fun ca W b B F μ S H d e v u Q hb s rv ru k => by
  unfold pJoin at k
  split at k
  · rename_i z
    split at k
    · rename_i l hl
      obtain ⟨m, h1, h2⟩ := Option.bind_eq_some_iff.mp hl
      obtain ⟨a, vs, rfl, r1, h3⟩ := items_A s ru h1
      have hv := r1.strsD h2
      split at k
      · rename_i hz
        cases rv
        refine ⟨_, a, l.map toS, rfl, rfl, ?_, ?_, ?_⟩
        · rw [List.map_map]
          rcases h3 with h3 | h3
          · exact .inl (.of (by rw [h3.1, hv]; rfl))
          · exact .inr (.of (by rw [h3.1, hv]; rfl))
        · rw [map_toS_len, List.length_map, toS_len]
          have : l.length * (z.length + 1) = l.length * z.length + l.length := Nat.mul_succ _ _
          unfold line at hz
          omega
        · rw [join_toS]; exact k.val s (.str _)
      · exact k.elim
    · exact k.elim
  · exact k.elim

/-! ### o[i] = v -/
section
variable {o i e : Expr} {pos pos' : Pos} {x y z : Ex}
theorem put_ok {do_ di dv : D} {v u w : V} {S' : Store} {Q : Hp → Prop} (hb : ∀ c, B c → c ≤ b) (s : Sim ca K B F μ S H) (ro : RV K F μ S.length do_ v) (ri : RV K F μ S.length di u) (rw' : RV K F μ S.length dv w) (hl : isRc S do_ .list = true) (h : put b do_ di dv S = some S')
    (q : ∀ H' F' μ', Gr F μ S.length F' μ' S'.length → Sim ca K B F' μ' S' H' → Q H') : rSetL v u w H Q := by
  unfold put at h
  split at h
  · rename_i n
    split at h
    · rename_i hz
      split at h
      · rename_i l hn
        split at h
        · rename_i j
          split at h
          · rename_i jj hj
            cases h
            obtain ⟨_, vs, e1, r1⟩ := s.ob n _ hn
            cases ro; cases ri
            refine ⟨_, vs, j, jj, rfl, rfl, e1, by rw [← r1.length]; exact hj, ?_⟩
            have s' := s.writeL hn (RVs.set rw' jj r1) fun c hc h => by
              rcases hz with hz | hz
              · have := hb c hc; omega
              · refine bels_of fun d hd => ?_
                rcases List.mem_or_eq_of_mem_set hd with hd | hd
                · exact bels_mem (clL s hn hc h) hd
                · rw [hd]; exact bel_mono (Nat.zero_le _) hz
            exact q _ _ _ (by rw [List.length_set]; exact .refl) s'
          · cases h
        · cases h
      · rename_i hn
        simp only [isRc, hn] at hl
        cases hl
      · cases h
    · cases h
  · cases h
/-- .. of a list -/
def sPutL (o i v : Ex) : Stm := fun b ρ S => SR.of (v b ρ S) fun dv S => SR.of (o b ρ S) fun d S => SR.of (i b ρ S) fun di S => if isRc S d .list then (match put b d di dv S with
  | some S => .ok .nx ρ S
  | none => .no) else .no
theorem r_putL (hv : PE X e (RE ca X.K W z)) (ho : PE X o (RE ca X.K W x)) (hi : PE X i (RE ca X.K W y)) (hs : swapsWithSole [.Subscript o i pos'] e pos.line X.env = pure false := by rfl) (hw : swappedStores [.Subscript o i pos'] e X.env = pure none := by rfl)
    (h1 : (assignEach [.Subscript o i pos'] X.env).map (·.2) = [assign (.Subscript o i pos') X.env] := by rfl)
    (ha : ∀ v, assign (.Subscript o i pos') X.env v = (do
      let ov ← holding [v] (eval o X.env)
      let iv ← holding [v, ov] (eval i X.env)
      standAt pos'
      holding [v, ov, iv] (setItem ov iv v)
      release [v, ov, iv] []) := by intro _; rfl) : PS X (.Assign [.Subscript o i pos'] e pos) (RS ca X.K W (sPutL x y z)) :=
  (ps_asg hv (pg_sub ho hi set_list ha) hs hw h1).conv fun D σ H h => by
    obtain ⟨b, B, F, μ, ρ, S, hb, s, l, k⟩ := h
    refine RM.mk (m := z) hb s l (RK.mono (RKs.of k) fun dv S1 H1 F1 μ1 _ g1 s1 k1 => fun w rw' => ?_)
    refine RM.mk (m := x) hb s1 (l.mono g1) (RK.mono (RKs.of k1) fun d S2 H2 F2 μ2 _ g2 s2 k2 => fun v rv => ?_)
    refine RM.mk (m := y) hb s2 ((l.mono g1).mono g2) (RK.mono (RKs.of k2) fun di S3 H3 F3 μ3 _ g3 s3 k3 => fun u ru => ?_)
    split at k3
    · rename_i hl
      split at k3
      · rename_i S4 hp
        exact put_ok hb s3 (rv.mono g3) ru ((rw'.mono g2).mono g3) hl hp fun H4 F4 μ4 g4 s4 => k3 σ H4 F4 μ4 g4 s4 ((((l.mono g1).mono g2).mono g3).mono g4)
      · exact k3.elim
    · exact k3.elim
/-- a list's item, by values -/
theorem get_list : PGet X (rIxL X.K) := by
  intro pins s σ H x y v u Q I rx ry h
  obtain ⟨p, xs, i, z, rfl, rfl, hq, he, q⟩ := h
  cases rx
  obtain ⟨t, rfl⟩ := ry
  obtain ⟨its, r, pl, hz⟩ := I.list hq
  obtain ⟨j, h1, h2, h3, h4, h5⟩ := atI_get he
  obtain ⟨w, ew, rw'⟩ := r.get h2
  have hl := r.length
  have hn := line63
  by_cases h0 : 0 ≤ i
  · have hj : i.toNat = j := by
      rw [seqIndex_of h0 h5] at h1
      exact Option.some.inj h1
    exact wpAny_getItem_list (x := w) pl.isList h0 (by omega) (by rw [hj]; simpa using ew) ⟨z, H, I, rw', q⟩
  · have hj : (i + (its.toArray.size : Int)).toNat = j := by
      rw [seqIndex_neg (by omega) h4] at h1
      rw [List.size_toArray, ← hl]
      exact Option.some.inj h1
    exact wpAny_getItem_list_neg (x := w) pl.isList (by omega) (by rw [List.size_toArray]; omega) (by omega) (by rw [hj]; simpa using ew) ⟨z, H, I, rw', q⟩
/-- o[i] op= v of a list -/
def sPutAugL (f : P2) (o i v : Ex) : Stm := fun b ρ S => SR.of (o b ρ S) fun d S => SR.of (i b ρ S) fun di S => if isRc S d .list then SR.of (pIxN b d di S) fun old S => SR.of (v b ρ S) fun dv S => SR.of (f b old dv S) fun r S => if isRc S d .list then (match put b d di r S with
  | some S => .ok .nx ρ S
  | none => .no) else .no else .no
theorem pr_ixL {d di : D} {v u : V} {Q : VK} (s : Sim ca K B F μ S H) (rv : RV K F μ S.length d v) (ru : RV K F μ S.length di u) (hl : isRc S d .list = true) (k : RK ca K W B F μ S.length (pIxN b d di S) (VQ K Q)) : rIxL K v u H Q := by
  unfold pIxN at k
  split at k
  · exact k.elim
  · unfold pIx at k
    split at k
    · cases hl
    · split at k
      · rename_i l he
        split at k
        · split at k
          · rename_i d' hd
            obtain ⟨a, vs, rfl, r1, h1⟩ := items_A s rv he
            cases ru
            obtain ⟨v', e1, r2⟩ := r1.at_ hd
            rcases h1 with h1 | h1
            · exact ⟨a, vs, _, v', rfl, rfl, .of h1.1, e1, k.val s r2⟩
            · rw [h1.2] at hl; cases hl
          · exact k.elim
        · exact k.elim
      · split at k
        · split at k
          · split at k
            · rename_i hp _ _ _ _ _ _ _; simp_all
            · exact k.elim
          · exact k.elim
        · exact k.elim
theorem r_putAugL {op : Operator} {f : P2} {r : R2} {tpos : Pos} (hop : OpR X (inplaceOp op) r) (p : Pr2 X.K f r) (ho : PE X o (RE ca X.K W x)) (hi : PE X i (RE ca X.K W y)) (he : PE X e (RE ca X.K W z))
    (ha : ∀ ov iv new, augStore i ov iv new = (do holding [new, ov, iv] (setItem ov iv new); release [new, ov, iv] []; pure .next) := by intros; rfl) : PS X (.AugAssign (.Subscript o i tpos) op e pos) (RS ca X.K W (sPutAugL f x y z)) :=
  (ps_augS (tip := r) ho hi get_list he (fun pins s σ H x y v u Q I r1 r2 h => hop pins s σ H x y v u Q I r1 r2 h) set_list ha).conv fun D σ H h => by
    obtain ⟨b, B, F, μ, ρ, S, hb, s, l, k⟩ := h
    refine RM.mk (m := x) hb s l (RK.mono (RKs.of k) fun d S1 H1 F1 μ1 _ g1 s1 k1 => fun v rv => ?_)
    refine RM.mk (m := y) hb s1 (l.mono g1) (RK.mono (RKs.of k1) fun di S2 H2 F2 μ2 _ g2 s2 k2 => fun u ru => ?_)
    split at k2
    · rename_i hl
      refine pr_ixL (W := W) (b := b) s2 (rv.mono g2) ru hl (RK.mono (RKs.of k2) fun old S3 H3 F3 μ3 _ g3 s3 k3 => fun w rw' => ?_)
      refine RM.mk (m := z) hb s3 (((l.mono g1).mono g2).mono g3) (RK.mono (RKs.of k3) fun dv S4 H4 F4 μ4 _ g4 s4 k4 => fun w2 r2 => ?_)
      refine p ca W b B F4 μ4 S4 H4 old dv w w2 _ hb s4 (rw'.mono g4) r2 (RK.mono (RKs.of k4) fun rr S5 H5 F5 μ5 _ g5 s5 k5 => fun w3 r3 => ?_)
      split at k5
      · rename_i hl5
        split at k5
        · rename_i S6 hp
          exact put_ok hb s5 ((((rv.mono g2).mono g3).mono g4).mono g5) (((ru.mono g3).mono g4).mono g5) r3 hl5 hp fun H6 F6 μ6 g6 s6 => k5 σ H6 F6 μ6 g6 s6 ((((((l.mono g1).mono g2).mono g3).mono g4).mono g5).mono g6)
        · exact k5.elim
      · exact k5.elim
    · exact k2.elim
end

/-! ### regions of statements -/
theorem mergeE_ok {S' : Store} {is js : List Nat} {m : Nat} (s : Sim ca K B F μ S' H) (hm : m ≤ S'.length) : ∀ (i : Nat) (ρ' ρ : Env) (σ : L2.St), Sl K F μ S'.length ρ' σ → (∀ (j : Nat) (d : NR.D), ρ[j]? = some (some d) → bel m d = true) →
    Sl K (frozen F H μ m S'.length) μ m (mergeE S' m is js i ρ ρ') σ := by
  intro i ρ'
  induction ρ' generalizing i with
  | nil =>
    intro ρ σ l hb
    have e : mergeE S' m is js i ρ [] = [] := by cases ρ <;> rfl
    rw [e]
    exact ⟨l.1, fun j d e => by cases e⟩
  | cons o' ρ' ih =>
    intro ρ σ l hb
    obtain ⟨l1, l2⟩ := l
    cases σ with
    | nil => cases l1
    | cons v σ =>
      have tl : Sl K F μ S'.length ρ' σ := ⟨by simpa using l1, fun j d e => by simpa using l2 (j + 1) d (by simpa using e)⟩
      cases ρ with
      | nil =>
        have ih := ih (i + 1) [] σ tl fun j d e => by cases e
        refine ⟨by show (_ :: mergeE S' m is js (i + 1) [] ρ').length = _; rw [List.length_cons, ih.1, List.length_cons], fun j d e => ?_⟩
        cases j with
        | succ j => simpa using ih.2 j d (by simpa [mergeE] using e)
        | zero => simp [mergeE] at e
      | cons o ρ =>
        have ih := ih (i + 1) ρ σ tl fun j d e => hb (j + 1) d (by simpa using e)
        refine ⟨by show (_ :: mergeE S' m is js (i + 1) ρ ρ').length = _; rw [List.length_cons, ih.1, List.length_cons], fun j d e => ?_⟩
        cases j with
        | succ j => simpa using ih.2 j d (by simpa [mergeE] using e)
        | zero =>
          have e : (if is.contains i then o'.bind (fz S' m fuelF) else if js.contains i then none else if o' = o then o else none) = some d := by simpa [mergeE] using e
          split at e
          · obtain ⟨d0, h1, h2⟩ := Option.bind_eq_some_iff.mp e
            obtain ⟨w, e1, r⟩ := l2 0 d0 (by rw [h1]; rfl)
            exact ⟨w, e1, fz_ok s m fuelF d0 d w h2 r⟩
          · split at e
            · cases e
            · split at e
              · rename_i he
                obtain ⟨w, e1, r⟩ := l2 0 d (by rw [he, e]; rfl)
                exact ⟨w, e1, (r.low (hb 0 d (by rw [e]; rfl))).mono (fz_gr m)⟩
              · cases e
theorem rg_ok {is js : List Nat} {s : Stm} {En : Ends} (h : RS ca K W (rg is js s) En σ H) : RS ca K W s En σ H := by
  obtain ⟨b, B, F, μ, ρ, S, hb, si, l, k⟩ := h
  refine .mk (b := S.length) (fun c hc => hc.elim (si.bl c) fun e => Nat.le_of_eq e) si.region l ?_
  have hbel : ∀ (j : Nat) (d : D), ρ[j]? = some (some d) → bel S.length d = true := fun j d e => let ⟨_, _, r⟩ := l.2 j d e; r.bel
  unfold rg at k
  cases e : s S.length ρ S with
  | no => rw [e] at k; exact k
  | exc c S' =>
    rw [e] at k
    exact fun H' F' μ' g s' => k H' _ μ' (leave_gr g) (si.out s')
  | ok f ρ' S' =>
    rw [e] at k
    cases f with
    | rt d =>
      simp only at k
      split at k
      · rename_i d' he
        intro v H' F' μ' g s' r
        refine k v H' _ μ' (leave_gr g) (si.out s') ?_
        rw [take_len g.l]
        exact fz_ok s' S.length fuelF d d' v he r
      · exact k.elim
    | nx => exact fun σ' H' F' μ' g s' l' => k σ' H' _ μ' (leave_gr g) (si.out s') (by rw [take_len g.l]; exact mergeE_ok s' g.l 0 ρ' ρ σ' l' hbel)
    | bk => exact fun σ' H' F' μ' g s' l' => k σ' H' _ μ' (leave_gr g) (si.out s') (by rw [take_len g.l]; exact mergeE_ok s' g.l 0 ρ' ρ σ' l' hbel)
    | ct => exact fun σ' H' F' μ' g s' l' => k σ' H' _ μ' (leave_gr g) (si.out s') (by rw [take_len g.l]; exact mergeE_ok s' g.l 0 ρ' ρ σ' l' hbel)
theorem r_rg {is js : List Nat} {s : Stm} {st : List Stmt} (h : PSs X st (RS ca X.K W s)) : PSs X st (RS ca X.K W (rg is js s)) := h.conv fun _ _ _ h => rg_ok h
end
end NR

namespace NR
open PySem PySem.Spec PyProof.Rows L2
theorem room65 {k : Nat} {A : Around} (r : Room k A) : A.units + 65 < cLine := by have := r.un; omega
theorem hu64 {A : Around} (h : A.units + 65 < cLine) : A.units + 64 < cLine := by omega
theorem hu1 {A : Around} (h : A.units + 65 < cLine) : A.units + 1 < cLine := by omega
section
variable {ca : Nat → Addr} {K : PySem.W.Frag} {W : Wish} {B : Nat → Prop} {b n n' : Nat} {F F' : Hp} {μ μ' : Nat → Addr} {S : Store} {σ : L2.St} {H : Hp} {X : Cx}
/-! ### x is not True -/
def pNotB (k : Bool) : P1 := fun _ x S => match x with
  | .bl b => .ok (.bl (!decide (b = k))) S
  | _ => .no
theorem notB_ok {t : Bool} {x : Ex} {Q : VK} (h : RE ca K W (e1 (pNotB t) x) σ H Q) : RE ca K W x σ H fun v H' => rNotB v (.bl t) H' Q :=
  re_mono (re_e1 (r := fun v H Q => ∃ k : Bool, v = .bl k ∧ Q (.bl (!decide (k = t))) H) (fun ca W b B F μ S H d v Q hb s rv k => by
      unfold pNotB at k
      split at k
      · cases rv; exact ⟨_, rfl, k.val s (.bl _)⟩
      · exact k.elim) h) fun v H' q => let ⟨k, e1, e2⟩ := q; ⟨k, t, e1, rfl, e2⟩
section
variable {a e c : Expr} {pos : Pos} {x y z : Ex} {t : Te}
theorem r_notB {j : Nat} {p2 : Pos} {t : Bool} (ha : PE X a (RE ca X.K W x)) : PE X (.Compare a [.IsNot] [.Constant (.bool t) j p2] pos) (RE ca X.K W (e1 (pNotB t) x)) := (pe_cmpR op_notBl ha pe_bl (nomark _)).conv fun _ _ _ h => notB_ok h
theorem r_tnotB {j : Nat} {p2 : Pos} {t : Bool} (ha : PE X a (RE ca X.K W x)) : PT X (.Compare a [.IsNot] [.Constant (.bool t) j p2] pos) (RT ca X.K W (tV (e1 (pNotB t) x))) := (pt_cmpR op_notBl ha pe_bl (nomark _)).conv fun _ _ _ h => notB_ok (rt_v h)
/-- a comparison in a region of its own -/
theorem r_tcmpG {op : CmpOp} {f : P2} {r : R2} (ho : OpR X (compareOp op) r) (p : Pr2 X.K f r) (ha : PE X a (RE ca X.K W x)) (hc : PE X c (RE ca X.K W y)) (hm : behindInMarks op c = false) : PT X (.Compare a [op] [c] pos) (RT ca X.K W (tV (gc (e2 f x y)))) :=
  (pt_cmpR ho ha hc hm).conv fun _ _ _ h => re_e2 p (re_gc (rt_v h))
theorem r_dicK : PE X (.Dict [] [] pos) (RE ca X.K W (eDic0 false)) := pe_dnewK.conv fun σ H Q h => by
  obtain ⟨b, B, F, μ, ρ, S, hb, s, l, k⟩ := h
  intro p hp
  obtain ⟨s', g⟩ := s.new (o := .dic false []) (u := .dK []) hp fun F' H' μ' m g f e => ⟨f, _, e, [], rfl, rfl, .nil⟩
  refine k _ _ _ g s' _ ?_
  have := RV.ref (K := X.K) (F := F) (μ := ext μ S.length p) (n := (S ++ [Ob.dic false []]).length) (k := S.length) (by simp)
  rwa [ext_same] at this
theorem r_dicT : PE X (.Dict [] [] pos) (RE ca X.K W (eDic0 true)) := pe_dnewT.conv fun σ H Q h => by
  obtain ⟨b, B, F, μ, ρ, S, hb, s, l, k⟩ := h
  intro p hp
  obtain ⟨s', g⟩ := s.new (o := .dic true []) (u := .dT []) hp fun F' H' μ' m g f e => ⟨f, _, e, [], rfl, rfl, .nil⟩
  refine k _ _ _ g s' _ ?_
  have := RV.ref (K := X.K) (F := F) (μ := ext μ S.length p) (n := (S ++ [Ob.dic true []]).length) (k := S.length) (by simp)
  rwa [ext_same] at this
end
/-! ### in place -/
def pIAdd : P2 := fun b x y S => match x, y with
  | .int i, .int j => .ok (.int (i + j)) S
  | .str a, .str c => if a.length + c.length ≤ line then .ok (.str (a ++ c)) S else .no
  | .ref n, y => if isL y then (match S[n]?, items S y with
      | some (.lst l), some m => if l.length + m.length ≤ line ∧ (b ≤ n ∨ bels 0 m = true) then .ok (.ref n) (S.set n (.lst (l ++ m))) else .no
      | _, _ => .no) else .no
  | _, _ => .no
def rIAdd3 : R2 := fun x y H Q => rI0 (fun i j => .int (i + j)) x y H Q ∨ (∃ i j, x = .str i ∧ y = .str j ∧ i.length + j.length ≤ sizeLine ∧ Q (.str (i ++ j)) H) ∨ rExt2 x y H Q
theorem iop_add3 : OpR X (inplaceOp .Add) rIAdd3 := iop_add.or (iop_add_str.or iop_ext)
theorem bels_app {l m : List D} {c : Nat} (h : bels c l = true) (h2 : bels c m = true) : bels c (l ++ m) = true := by
  rw [bels_all, List.all_append, ← bels_all, ← bels_all, h, h2]; rfl
theorem bels_up {l : List D} {c : Nat} (h : bels 0 l = true) : bels c l = true := bels_mono (Nat.zero_le _) h
theorem pr_iadd : Pr2 K pIAdd rIAdd3 := by
  intro ca W b B F μ S H d e v u Q hb s rv ru k
  unfold pIAdd at k
  split at k
  · cases rv; cases ru; exact .inl ⟨_, _, rfl, rfl, k.val s (.int _)⟩
  · cases rv; cases ru
    split at k
    · rename_i hz
      refine .inr (.inl ⟨_, _, rfl, rfl, by rw [toS_len, toS_len, ← line_eq]; exact hz, ?_⟩)
      rw [toS_app]
      exact k.val s (.str _)
    · exact k.elim
  · split at k
    · rename_i n _ hl
      split at k
      · rename_i l m h1 h2
        split at k
        · rename_i hz
          obtain ⟨_, vs, e1, r1⟩ := s.ob _ _ h1
          obtain ⟨q, ws, rfl, hq, r2⟩ := items_L s ru h2 hl
          cases rv with
          | ref hi =>
            refine .inr (.inr ⟨_, q, vs, ws, rfl, rfl, e1, hq, by rw [← r1.length, ← r2.length, ← line_eq]; exact hz.1, ?_⟩)
            refine k.wr s h1 (r1.append r2) (fun c hc h => ?_) (.ref hi)
            rcases hz.2 with hz | hz
            · have := hb c hc; omega
            · exact bels_app (clL s h1 hc h) (bels_up hz)
        · exact k.elim
      · exact k.elim
    · exact k.elim
  · exact k.elim

/-! ### further methods of lists -/
def pIndex : P2 := fun _ x y S => if isL x then (match items S x with
  | some l => if flat y && l.all flat then (match l.findIdx? fun z => eqD z y with
      | some k => .ok (.int (k : Nat)) S
      | none => .no) else .no
  | none => .no) else .no
theorem pr_index : PrM K (m1 pIndex) (rIndex K) := prM1 fun ca W b B F μ S H d e v u Q hb s rv ru k => by
  unfold pIndex at k
  split at k
  · rename_i hl
    split at k
    · rename_i l he
      split at k
      · rename_i hf
        simp only [Bool.and_eq_true] at hf
        split at k
        · rename_i j hj
          obtain ⟨a, vs, rfl, hH, r1⟩ := items_L s rv he hl
          obtain ⟨hlt, h1, h2⟩ := List.findIdx?_eq_some_iff_getElem.mp hj
          obtain ⟨z, e1, rz⟩ := r1.get (List.getElem?_eq_getElem hlt)
          have fl : ∀ {i : Nat} {w : D}, l[i]? = some w → flat w = true := fun h => List.all_eq_true.mp hf.2 _ (List.mem_of_getElem? h)
          refine ⟨a, vs, u, j, z, rfl, rfl, .of hH, flat_V ru hf.1, flats_V r1 hf.2, e1, ?_, fun m z' hm hz => ?_, k.val s (.int _)⟩
          · rw [eqV_D rz ru (fl (List.getElem?_eq_getElem hlt)) hf.1]; exact h1
          · have hm' : m < l.length := by omega
            obtain ⟨z2, e2, r2⟩ := r1.get (List.getElem?_eq_getElem hm')
            rw [hz] at e2; cases e2
            rw [eqV_D r2 ru (fl (List.getElem?_eq_getElem hm')) hf.1]
            have := h2 m hm
            simpa using this
        · exact k.elim
      · exact k.elim
    · exact k.elim
  · exact k.elim
theorem RVs.erase {l : List D} {vs : List V} : ∀ (i : Nat), RVs K F μ n l vs → RVs K F μ n (l.eraseIdx i) (vs.eraseIdx i)
  | _, .nil => .nil
  | 0, .cons _ t => t
  | i + 1, .cons r t => .cons r (RVs.erase i t)
def pPopAt : P2 := fun _ x y S => match x with
  | .ref n => match S[n]? with
    | some (.lst l) => match y with
      | .int i => if -(2 ^ 63) ≤ i ∧ i < 2 ^ 63 then (match ixn l.length i with
          | some j => match l[j]? with
            | some d => .ok d (S.set n (.lst (l.eraseIdx j)))
            | none => .no
          | none => .no) else .no
      | _ => .no
    | _ => .no
  | _ => .no
theorem bels_erase {l : List D} {c j : Nat} (h : bels c l = true) : bels c (l.eraseIdx j) = true := bels_of fun d hd => bels_mem h (List.mem_of_mem_eraseIdx hd)
theorem pr_popAt : PrM K (m1 pPopAt) rPopAt := prM1 fun ca W b B F μ S H d e v u Q hb s rv ru k => by
  unfold pPopAt at k
  split at k
  · rename_i n
    split at k
    · rename_i l hn
      split at k
      · rename_i i
        split at k
        · rename_i hz
          split at k
          · rename_i j hj
            split at k
            · rename_i d' hd
              obtain ⟨_, vs, e1, r1⟩ := s.ob n _ hn
              obtain ⟨z, e2, rz⟩ := r1.get hd
              cases rv; cases ru
              refine ⟨_, vs, i, j, z, rfl, rfl, e1, hz.1, hz.2, ?_, e2, ?_⟩
              · rw [← r1.length]; exact (ixN_seq hj).1
              · exact k.wr s hn (r1.erase j) (fun c hc h => bels_erase (clL s hn hc h)) rz
            · exact k.elim
          · exact k.elim
        · exact k.elim
      · exact k.elim
    · exact k.elim
  · exact k.elim
def pInsert : P3 := fun b x y z S => match x with
  | .ref n => match S[n]? with
    | some (.lst l) => match y with
      | .int i => if l.length < line ∧ 0 ≤ i ∧ i < 2 ^ 63 ∧ (b ≤ n ∨ bel 0 z = true) then .ok .non (S.set n (.lst (l.take i.toNat ++ [z] ++ l.drop i.toNat))) else .no
      | _ => .no
    | _ => .no
  | _ => .no
theorem pr_insert : PrM K (m2 pInsert) (fun x vs H Q => ∃ (l : Addr) (xs : List V) (i : Int) (y : V), x = .ref l ∧ vs = [.int i, y] ∧ H l = some (.lst xs) ∧ xs.length < sizeLine ∧ 0 ≤ i ∧ i < 2 ^ 63 ∧
    Q .non (upd H l (.lst (xs.take i.toNat ++ [y] ++ xs.drop i.toNat)))) := prM2 fun ca W b B F μ S H d e g v u w Q hb s rv ru rw' k => by
  unfold pInsert at k
  split at k
  · rename_i n
    split at k
    · rename_i l hn
      split at k
      · rename_i i
        split at k
        · rename_i hz
          obtain ⟨_, vs, e1, r1⟩ := s.ob n _ hn
          cases rv; cases ru
          refine ⟨_, vs, i, w, rfl, rfl, e1, by rw [← r1.length, ← line_eq]; exact hz.1, hz.2.1, hz.2.2.1, ?_⟩
          refine k.wr s hn (((r1.take _).append (.cons rw' .nil)).append (r1.drop _)) (fun c hc h => ?_) .non
          have hc' := clL s hn hc h
          have h0 : bels c (l.take i.toNat) = true := bels_of fun d hd => bels_mem hc' (List.mem_of_mem_take hd)
          have h1 : bels c (l.drop i.toNat) = true := bels_of fun d hd => bels_mem hc' (List.mem_of_mem_drop hd)
          rcases hz.2.2.2 with hz | hz
          · have := hb c hc; omega
          · exact bels_app (bel_bels h0 (bel_mono (Nat.zero_le _) hz)) h1
        · exact k.elim
      · exact k.elim
    · exact k.elim
  · exact k.elim

/-! ### a list becomes frozen -/
/-- the list at slot i is no longer changed: it is a value from here on -/
def sFz (i : Nat) : Stm := fun b ρ S => match ρ[i]? with
  | some (some (.ref n)) => if b ≤ n then (match S[n]? with
      | some (.lst l) => if bels 0 l = true then .ok .nx (ρ.set i (some (.lst l))) (S.set n .gone) else .no
      | _ => .no) else .no
  | _ => .no
theorem r_fz {i : Nat} {t : Stm} {st : List Stmt} (h : PSs X st (RS ca X.K W t)) : PSs X st (RS ca X.K W (sSeq (sFz i) t)) := h.conv fun D σ H h => by
  obtain ⟨b, B, F, μ, ρ, S, hb, s, l, k⟩ := h
  unfold sSeq sFz at k
  split at k
  · rename_i n hi
    split at k
    · rename_i hbn
      split at k
      · rename_i ds hn
        split at k
        · rename_i hz
          have k : RKs ca X.K W B F μ S.length (t b (ρ.set i (some (.lst ds))) (S.set n .gone)) D := k
          obtain ⟨hF, vs, e1, r1⟩ := s.ob n _ hn
          have hn' : n < S.length := (List.getElem?_eq_some_iff.mp hn).1
          have g : Gr F μ S.length (upd F (μ n) (.lst vs)) μ (S.set n .gone).length := ⟨fun a o e => by rw [upd_ne (ne_of_none e hF)]; exact e, fun _ _ => rfl, by simp⟩
          have s' : Sim ca X.K B (upd F (μ n) (.lst vs)) μ (S.set n .gone) H := by
            refine ⟨fun a o e => ?_, fun c hc => by simpa using s.bl c hc, fun j o e => ?_, fun i j hi hj e => s.inj i j (by simpa using hi) (by simpa using hj) e, fun c hc j o hj e => ?_⟩
            · by_cases ha : a = μ n
              · subst ha; rw [upd_same] at e; cases e; exact e1
              · rw [upd_ne ha] at e; exact s.le _ _ e
            · by_cases hj : j = n
              · subst hj; rw [List.getElem?_set_self hn'] at e; cases e; exact ⟨_, e1⟩
              · rw [List.getElem?_set_ne (Ne.symm hj)] at e
                have hj' : j < S.length := (List.getElem?_eq_some_iff.mp e).1
                exact (s.ob j o e).carry g (fun f => by rw [upd_ne fun z => hj (s.inj j n hj' hn' z)]; exact f) fun _ _ e _ => e
            · by_cases hj' : j = n
              · subst hj'; rw [List.getElem?_set_self hn'] at e; cases e; rfl
              · rw [List.getElem?_set_ne (Ne.symm hj')] at e; exact s.cl c hc j o hj e
          obtain ⟨v, ev, rv⟩ := l.2 i _ hi
          refine ⟨b, B, _, μ, _, _, hb, s', ?_, k.gr g⟩
          have l2 := l.mono g
          refine ⟨by simpa using l2.1, fun j d e => ?_⟩
          by_cases hj : j = i
          · subst hj
            have hl : j < ρ.length := (List.getElem?_eq_some_iff.mp hi).1
            rw [List.getElem?_set_self hl] at e
            cases e
            refine ⟨v, ev, ?_⟩
            cases rv with
            | ref _ => exact .lst upd_same (r1.mono g)
          · rw [List.getElem?_set_ne (Ne.symm hj)] at e
            exact l2.2 j d e
        · exact k.elim
      · exact k.elim
    · exact k.elim
  · exact k.elim

/-! ### the law -/
theorem law_sp {f : Fn} {a : Addr} {ns : List Int} (hS : SqL K H a (ns.map V.int)) (h : ∃ S', f 0 [.scr ns] [] = .ok (.bl true) S') : SpD ca K f [.ref a] H (fun v _ => v = .bl true) (fun _ _ _ => False) := by
  obtain ⟨S', e⟩ := h
  refine ⟨0, fun _ => False, H, fun _ => 0, [], [.scr ns], fun _ z => False.elim z, ⟨fun _ _ e => e, fun _ z => False.elim z, fun k o e => (by simp at e), fun j k hj => absurd hj (Nat.not_lt_zero _), fun _ z => False.elim z⟩, .cons (.scr hS) .nil, ?_⟩
  rw [e]
  intro H' F' μ' g s v r
  cases r
  rfl
end
end NR

set_option linter.all false
namespace NR
open PySem PySem.Spec PyProof.Rows L2
section
variable {X : Cx} {ca : Nat → Addr} {W : Wish} {K : PySem.W.Frag} {B : Nat → Prop} {b : Nat} {F : Hp} {μ : Nat → Addr} {S : Store} {σ : L2.St} {H : Hp}

/-! ### a slice of a list given new items -/
abbrev TSet4 := V → V → V → V → Hp → (Hp → Prop) → Prop
def rSetS : TSet4 := fun o lo hi v H Q => ∃ l c xs ys i j, o = .ref l ∧ v = .ref c ∧ l ≠ c ∧ H l = some (.lst xs) ∧ H c = some (.lst ys) ∧ lo = .int i ∧ hi = .int j ∧ 0 ≤ i ∧ i ≤ j ∧ j ≤ xs.length ∧ xs.length + ys.length ≤ sizeLine ∧
  Q (upd H l (.lst (xs.take i.toNat ++ ys ++ xs.drop j.toNat)))
def gSubS (to tl th : TE) (t : TSet4) : TG := fun v σ H Q => to σ H fun o H1 => tl σ H1 fun i H2 => th σ H2 fun j H3 => t o i j v H3 fun H4 => Q σ H4
section
variable {o lo hi e : Expr} {pos pos' p2 : Pos} {x y z u : Ex}
theorem pg_subS {to tl th : TE} (ho : PE X o to) (hl : PE X lo tl) (hh : PE X hi th)
    (ha : ∀ v, assign (.Subscript o (.Slice (some lo) (some hi) none p2) pos) X.env v = (do
      let ov ← holding [v] (eval o X.env)
      let iv ← holding [v, ov] (eval (.Slice (some lo) (some hi) none p2) X.env)
      standAt pos
      holding [v, ov, iv] (setItem ov iv v)
      release [iv, v, ov] []) := by intro _; rfl) : PG X (.Subscript o (.Slice (some lo) (some hi) none p2) pos) (gSubS to tl th rSetS) := by
  refine ⟨fun pins s σ H v u Q I r h => ?_⟩
  rw [ha]
  refine wpAny_bind (wpAny_holding (thn (ho.run pins s σ H _ I h) fun ov s1 ⟨x, H1, I1, r1, q1⟩ => ?_))
  refine wpAny_bind (wpAny_holding (wpAny_Slice ?_))
  rw [evalPart_some]
  refine thn (hl.run pins s1 σ H1 _ I1 q1) fun vl s2 ⟨i, H2, I2, r2, q2⟩ => ?_
  rw [evalPart_some]
  refine thn (hh.run pins s2 σ H2 _ I2 q2) fun vh s3 ⟨j, H3, I3, r3, q3⟩ => ?_
  rw [evalPart_none]
  refine wpAny_pure ?_
  have I4 : Inv X pins σ H3 { s3 with heap := s3.heap.push { cls := .type "slice", data := .fields #[vl, vh, .none] } } := I3.kept (t' := s3.toks) fun b ob q => Heap.get?_push_of_some _ q
  refine wpAny_bind (wpAny_standAt (wpAny_bind (wpAny_holding ?_)))
  obtain ⟨l, c, xs, ys, i', j', rfl, rfl, hne, hH, hB, rfl, rfl, h0, h1, h2, hz, q⟩ := q3
  cases (show ov = Value.ref l from r1)
  cases (show u = Value.ref c from r)
  refine thn (set_slice (Q := fun _ s' => ∃ H', Inv X pins σ H' s' ∧ Q σ H') I4 hH hB hne (Heap.IsSliceOf.new ..) r2 r3 h0 h1 h2 hz fun s' I' => ⟨_, I', q⟩) fun _ s5 ⟨H5, I5, q5⟩ => ?_
  exact wpAny_release ⟨σ, H5, I5, q5⟩
def notRef (n : Nat) : D → Bool
  | .ref k => k != n
  | _ => true
/-- o[lo:hi] = v, of lists -/
def putS (b : Nat) (o lo hi v : D) (S : Store) : Option Store := match o, lo, hi with
  | .ref n, .int i, .int j => (match S[n]?, items S v with
    | some (.lst l), some m => if isL v = true ∧ 0 ≤ i ∧ i ≤ j ∧ j ≤ l.length ∧ l.length + m.length ≤ line ∧ (b ≤ n ∨ bels 0 m = true) ∧ notRef n v = true then some (S.set n (.lst (l.take i.toNat ++ m ++ l.drop j.toNat))) else none
    | _, _ => none)
  | _, _, _ => none
/-- .. -/
theorem putS_ok {d_ dl dh dv : D} {v i j w : V} {S' : Store} {Q : Hp → Prop} (hb : ∀ c, B c → c ≤ b) (s : Sim ca K B F μ S H) (ro : RV K F μ S.length d_ v) (rl : RV K F μ S.length dl i) (rh : RV K F μ S.length dh j) (rw' : RV K F μ S.length dv w)
    (h : putS b d_ dl dh dv S = some S') (q : ∀ H' F' μ', Gr F μ S.length F' μ' S'.length → Sim ca K B F' μ' S' H' → Q H') : rSetS v i j w H Q := by
  unfold putS at h
  split at h
  · rename_i n i j
    split at h
    · rename_i l m hn hm
      split at h
      · rename_i hz
        obtain ⟨hv, h0, h1, h2, h3, h4, h5⟩ := hz
        cases h
        obtain ⟨hF, vs, e1, r1⟩ := s.ob n _ hn
        cases ro; cases rl; cases rh
        obtain ⟨c, ws, rfl, hq, r2⟩ := items_L s rw' hm hv
        refine ⟨_, c, vs, ws, i, j, rfl, rfl, ?_, e1, hq, rfl, rfl, h0, h1, by rw [← r1.length]; exact h2, by rw [← r1.length, ← r2.length, ← line_eq]; exact h3, ?_⟩
        · intro e
          cases rw' with
          | lst f _ => rw [e] at hF; rw [f] at hF; cases hF
          | ref hk => exact absurd (s.inj _ _ hk (List.getElem?_eq_some_iff.mp hn).1 e.symm) (by simpa [notRef] using h5)
          | scr _ => cases hv
          | tup _ _ => cases hv
          | dicK _ _ _ => cases hv
          | dicT _ _ _ => cases hv
        · have s' := s.writeL hn (((r1.take i.toNat).append r2).append (r1.drop j.toNat)) fun c hc h => by
            refine bels_app (bels_app ?_ ?_) ?_
            · exact bels_of fun d hd => bels_mem (clL s hn hc h) (List.mem_of_mem_take hd)
            · rcases h4 with hz | hz
              · have := hb c hc; omega
              · exact bels_up hz
            · exact bels_of fun d hd => bels_mem (clL s hn hc h) (List.mem_of_mem_drop hd)
          exact q _ _ _ (by rw [List.length_set]; exact .refl) s'
      · cases h
    · cases h
  · cases h
def sPutS (o lo hi v : Ex) : Stm := fun b ρ S => SR.of (v b ρ S) fun dv S => SR.of (o b ρ S) fun d S => SR.of (lo b ρ S) fun di S => SR.of (hi b ρ S) fun dj S => match putS b d di dj dv S with
  | some S => .ok .nx ρ S
  | none => .no
theorem r_putS (ho : PE X o (RE ca X.K W x)) (hl : PE X lo (RE ca X.K W y)) (hh : PE X hi (RE ca X.K W u)) (hv : PE X e (RE ca X.K W z)) (hs : swapsWithSole [.Subscript o (.Slice (some lo) (some hi) none p2) pos'] e pos.line X.env = pure false := by rfl) (hw : swappedStores [.Subscript o (.Slice (some lo) (some hi) none p2) pos'] e X.env = pure none := by rfl)
    (h1 : (assignEach [.Subscript o (.Slice (some lo) (some hi) none p2) pos'] X.env).map (·.2) = [assign (.Subscript o (.Slice (some lo) (some hi) none p2) pos') X.env] := by rfl)
    (ha : ∀ v, assign (.Subscript o (.Slice (some lo) (some hi) none p2) pos') X.env v = (do
      let ov ← holding [v] (eval o X.env)
      let iv ← holding [v, ov] (eval (.Slice (some lo) (some hi) none p2) X.env)
      standAt pos'
      holding [v, ov, iv] (setItem ov iv v)
      release [iv, v, ov] []) := by intro _; rfl) : PS X (.Assign [.Subscript o (.Slice (some lo) (some hi) none p2) pos'] e pos) (RS ca X.K W (sPutS x y u z)) :=
  (ps_asg hv (pg_subS ho hl hh ha) hs hw h1).conv fun D σ H h => by
    obtain ⟨b, B, F, μ, ρ, S, hb, s, l, k⟩ := h
    refine RM.mk (m := z) hb s l (RK.mono (RKs.of k) fun dv S1 H1 F1 μ1 _ g1 s1 k1 => fun w rw' => ?_)
    refine RM.mk (m := x) hb s1 (l.mono g1) (RK.mono (RKs.of k1) fun d S2 H2 F2 μ2 _ g2 s2 k2 => fun v rv => ?_)
    refine RM.mk (m := y) hb s2 ((l.mono g1).mono g2) (RK.mono (RKs.of k2) fun di S3 H3 F3 μ3 _ g3 s3 k3 => fun u1 ru => ?_)
    refine RM.mk (m := u) hb s3 (((l.mono g1).mono g2).mono g3) (RK.mono (RKs.of k3) fun dj S4 H4 F4 μ4 _ g4 s4 k4 => fun u2 ru2 => ?_)
    split at k4
    · rename_i S5 hp
      exact putS_ok hb s4 ((rv.mono g3).mono g4) (ru.mono g4) ru2 (((rw'.mono g2).mono g3).mono g4) hp fun H5 F5 μ5 g5 s5 => k4 σ H5 F5 μ5 g5 s5 (((((l.mono g1).mono g2).mono g3).mono g4).mono g5)
    · exact k4.elim
end

/-! ### != of a thing and one just like it, dicts without keys among them -/
mutual
def likeD : D → D → Bool
  | .non, .non => true
  | .bl a, .bl b => a == b
  | .int a, .int b => a == b
  | .str a, .str b => a == b
  | .tup a, .tup b => likeDs a b
  | .lst a, .lst b => likeDs a b
  | .dic [] [], .dic [] [] => true
  | _, _ => false
def likeDs : List D → List D → Bool
  | [], [] => true
  | a :: l, b :: m => likeD a b && likeDs l m
  | _, _ => false
end
mutual
def nest : D → Nat
  | .tup l => nests l + 1
  | .lst l => nests l + 1
  | _ => 0
def nests : List D → Nat
  | [] => 0
  | d :: l => max (nest d) (nests l)
end
theorem dict0_any {P P' : Program} {w w' : World} {h : Heap} {a : Addr} (x : h.DictOf (mixKind P w) a []) : h.DictOf (mixKind P' w') a [] := by
  obtain ⟨o, es, ep, h1, h2, h3, h4, h5, h6⟩ := x
  have e : es.toList = [] := by
    cases hs : es.toList with
    | nil => rfl
    | cons a l => rw [hs] at h5; cases h5
  refine ⟨o, es, ep, h1, h2, h3, ?_, by rw [e]; exact .nil, h6⟩
  intro z hz
  have : z ∈ es.toList := by simpa using hz
  rw [e] at this
  cases this
end
section
variable {X : Cx} {ca : Nat → Addr} {W : Wish} {B : Nat → Prop} {b n : Nat} {F : Hp} {μ : Nat → Addr} {S : Store} {σ : L2.St} {H : Hp} {s : Shared} {pins : List (Addr × Obj)}
theorem dict0_at (I : Inv X pins σ H s) {a : Addr} (h : H a = some (.dK []) ∨ H a = some (.dT [])) : (a == sysModules) = false ∧ ∀ (P : Program) (w : World), s.heap.DictOf (mixKind P w) a [] := by
  rcases h with h | h
  · obtain ⟨_, y, va, ra, da⟩ := (show ObjOk X.prog X.w H s.heap a (.dK []) from I.hok a _ h)
    unfold KV at ra
    cases ra
    exact ⟨y, fun P w => dict0_any da⟩
  · obtain ⟨_, y, xs, pr, o, es, ep, h1, h2, h3, h4, h5⟩ := (show ObjOk X.prog X.w H s.heap a (.dT []) from I.hok a _ h)
    cases pr
    have e : es.toList = [] := by rw [h4]; rfl
    refine ⟨y, fun P w => ⟨o, es, ep, h1, h2, h3, ?_, by rw [e]; exact .nil, by exact List.nodup_nil⟩⟩
    intro z hz
    have : z ∈ es.toList := by simpa using hz
    rw [e] at this
    cases this
theorem rv_dic0 (hF : ∀ a o, F a = some o → H a = some o) {v : V} (r : RV X.K F μ n (.dic [] []) v) : ∃ a, v = .ref a ∧ (H a = some (.dK []) ∨ H a = some (.dT [])) := by
  cases r with
  | @dicK _ _ a kvs e k _ =>
    have : kvs = [] := by
      have := congrArg List.length k
      simpa using this.symm
    subst this
    exact ⟨a, rfl, .inl (hF _ _ e)⟩
  | @dicT _ _ a kvs e k _ =>
    have : kvs = [] := by
      have := congrArg List.length k
      simpa using this.symm
    subst this
    exact ⟨a, rfl, .inr (hF _ _ e)⟩
theorem eqAt_refs' {A : Around} {a c : Addr} (h : SeqAt.RcAt A s (.ref a) (.ref c) true) : SeqAt.EqAt A s (.ref a) (.ref c) true := by
  by_cases e : a = c
  · subst e; exact .same _
  · exact .of_refs e h
theorem isTuple_of {h : Heap} {a : Addr} {its : Array Value} (x : IsTup h a its) : h.IsTuple a its := by
  obtain ⟨o, e, c, n, d⟩ := x
  exact ⟨o, e, c, n, d⟩
theorem all_true (n : Nat) : ((List.range n).all fun _ => true) = true := List.all_eq_true.mpr fun _ _ => rfl
mutual
theorem like_at (I : Inv X pins σ H s) (hF : ∀ a o, F a = some o → H a = some o) : ∀ (d e : D) (v u : V) (vv uu : Value) (A : Around), likeD d e = true → RV X.K F μ n d v → RV X.K F μ n e u → RelV v vv → RelV u uu → A.units + nest d < cLine → SeqAt.EqAt A s vv uu true
  | .non, e, _, _, _, _, A, h, r, r2, a, c, hu => by
    cases e <;> first | exact absurd (show false = true from h) Bool.false_ne_true | (cases r; cases r2; cases a; cases c; exact .same _)
  | .bl i, e, _, _, _, _, A, h, r, r2, a, c, hu => by
    cases e <;> first | exact absurd (show false = true from h) Bool.false_ne_true | (cases r; cases r2; cases a; cases c; cases eq_of_beq (show (_ == _) = true from h); exact .same _)
  | .int i, e, _, _, _, _, A, h, r, r2, a, c, hu => by
    cases e <;> first
      | exact absurd (show false = true from h) Bool.false_ne_true
      | (cases r; cases r2; obtain ⟨t, rfl⟩ := a; obtain ⟨t', rfl⟩ := c
         cases eq_of_beq (show (_ == _) = true from h)
         have := SeqAt.EqAt.int_int (A := A) (s := s) i t i t'
         rwa [beq_self_eq_true] at this)
  | .str i, e, _, _, _, _, A, h, r, r2, a, c, hu => by
    cases e <;> first
      | exact absurd (show false = true from h) Bool.false_ne_true
      | (cases r; cases r2; obtain ⟨t, rfl⟩ := a; obtain ⟨t', rfl⟩ := c
         cases eq_of_beq (show (_ == _) = true from h)
         have := SeqAt.EqAt.str_str (A := A) (s := s) (toS i) t (toS i) t'
         rwa [beq_self_eq_true] at this)
  | .tup l, e, _, _, _, _, A, h, r, r2, a, c, hu => by
    cases e with
    | tup m =>
      cases r with
      | tup e1 q1 =>
        cases r2 with
        | tup e2 q2 =>
          cases a
          cases c
          obtain ⟨its, p1, t1, _⟩ := I.tuple (.inl (.inl (hF _ _ e1)))
          obtain ⟨its2, p2, t2, _⟩ := I.tuple (.inl (.inl (hF _ _ e2)))
          simp only [nest] at hu
          obtain ⟨hl, k⟩ := likes_at I hF l m _ _ its its2 A.in1 h q1 q2 p1 p2 (by show A.units + 1 + nests l < cLine; omega)
          refine eqAt_refs' ?_
          have := SeqAt.RcAt.tuples (e := fun _ => true) (isTuple_of t1) (isTuple_of t2) (by omega : A.units < cLine) (fun j h1 h2 => by
            have := k j (by simpa using h1) (by simpa using h2)
            simpa using this)
          rw [all_true] at this
          simpa [hl] using this
    | _ => exact absurd (show false = true from h) Bool.false_ne_true
  | .lst l, e, _, _, _, _, A, h, r, r2, a, c, hu => by
    cases e with
    | lst m =>
      cases r with
      | lst e1 q1 =>
        cases r2 with
        | lst e2 q2 =>
          cases a
          cases c
          obtain ⟨its, p1, t1, _⟩ := I.list (.inl (.inl (hF _ _ e1)))
          obtain ⟨its2, p2, t2, _⟩ := I.list (.inl (.inl (hF _ _ e2)))
          simp only [nest] at hu
          obtain ⟨hl, k⟩ := likes_at I hF l m _ _ its its2 A.in1 h q1 q2 p1 p2 (by show A.units + 1 + nests l < cLine; omega)
          refine eqAt_refs' ?_
          have := SeqAt.RcAt.lists (e := fun _ => true) t1.isList t2.isList (by simpa using hl) (by omega : A.units < cLine) (fun j h1 h2 => by
            have := k j (by simpa using h1) (by simpa using h2)
            simpa using this)
          rwa [all_true] at this
    | _ => exact absurd (show false = true from h) Bool.false_ne_true
  | .dic ks vs, e, _, _, _, _, A, h, r, r2, a, c, hu => by
    obtain ⟨rfl, rfl, rfl⟩ : ks = [] ∧ vs = [] ∧ e = .dic [] [] := by
      cases e with
      | dic ks' vs' => cases ks <;> cases vs <;> cases ks' <;> cases vs' <;> first | exact ⟨rfl, rfl, rfl⟩ | exact absurd (show false = true from h) Bool.false_ne_true
      | _ => cases ks <;> cases vs <;> exact absurd (show false = true from h) Bool.false_ne_true
    obtain ⟨a1, rfl, k1⟩ := rv_dic0 hF r
    obtain ⟨a2, rfl, k2⟩ := rv_dic0 hF r2
    cases a
    cases c
    obtain ⟨y1, f1⟩ := dict0_at I k1
    obtain ⟨y2, f2⟩ := dict0_at I k2
    refine eqAt_refs' fun P w E Q q => ?_
    exact PySem.W.keq_eq (knd := mixKind P w) (r := true) y1 y2 (f1 P w) (f2 P w) (by omega) (fun _ => .nil) q
  | .ref _, e, _, _, _, _, A, h, r, r2, a, c, hu => by cases e <;> exact absurd (show false = true from h) Bool.false_ne_true
  | .exn _, e, _, _, _, _, A, h, r, r2, a, c, hu => by cases e <;> exact absurd (show false = true from h) Bool.false_ne_true
  | .scr _, e, _, _, _, _, A, h, r, r2, a, c, hu => by cases e <;> exact absurd (show false = true from h) Bool.false_ne_true
theorem likes_at (I : Inv X pins σ H s) (hF : ∀ a o, F a = some o → H a = some o) : ∀ (l m : List D) (vs us : List V) (its its2 : List Value) (A : Around), likeDs l m = true → RVs X.K F μ n l vs → RVs X.K F μ n m us → Vals vs its → Vals us its2 → A.units + nests l < cLine →
    its.length = its2.length ∧ ∀ j (h1 : j < its.length) (h2 : j < its2.length), SeqAt.EqAt A s its[j] its2[j] true
  | [], m, _, _, _, _, A, h, r, r2, a, c, hu => by
    cases m with
    | nil => cases r; cases r2; cases a; cases c; exact ⟨rfl, fun j h1 => absurd h1 (Nat.not_lt_zero _)⟩
    | cons _ _ => exact absurd (show false = true from h) Bool.false_ne_true
  | d :: l, m, _, _, _, _, A, h, r, r2, a, c, hu => by
    cases m with
    | nil => exact absurd (show false = true from h) Bool.false_ne_true
    | cons e m =>
      simp only [likeDs, Bool.and_eq_true] at h
      simp only [nests] at hu
      cases r with
      | cons r1 r1' =>
        cases r2 with
        | cons r2 r2' =>
          cases a with
          | cons a1 a1' =>
            cases c with
            | cons c1 c1' =>
              have k1 := like_at I hF d e _ _ _ _ A h.1 r1 r2 a1 c1 (by omega)
              obtain ⟨hl, k2⟩ := likes_at I hF l m _ _ _ _ A h.2 r1' r2' a1' c1' (by omega)
              refine ⟨by simp [hl], fun j h1 h2 => ?_⟩
              cases j with
              | zero => exact k1
              | succ j => exact k2 j (by simpa using h1) (by simpa using h2)
end
/-- x != y, y just like x -/
def rLike (K : PySem.W.Frag) : R2 := fun x y H Q => ∃ (F : Hp) (μ : Nat → Addr) (n : Nat) (d e : D), (∀ a o, F a = some o → H a = some o) ∧ likeD d e = true ∧ nest d ≤ 60 ∧ RV K F μ n d x ∧ RV K F μ n e y ∧
  ((∃ l m, d = .lst l ∧ e = .lst m) ∨ (∃ l m, d = .tup l ∧ e = .tup m) ∨ (d = .dic [] [] ∧ e = .dic [] [])) ∧ Q (.bl false) H
theorem op_like (hu : X.A.units + 64 < cLine) : OpR X (compareOp .NotEq) (rLike X.K) := by
  intro pins s σ H x y v u Q I rx ry h
  obtain ⟨F, μ, n, d, e, hF, hl, hn, r, r2, hs, q⟩ := h
  rcases hs with ⟨l, m, rfl, rfl⟩ | ⟨l, m, rfl, rfl⟩ | ⟨rfl, rfl⟩
  · cases r with
    | lst e1 q1 =>
      cases r2 with
      | lst e2 q2 =>
        cases rx
        cases ry
        simp only [nest] at hn
        obtain ⟨its, p1, t1, _⟩ := I.list (.inl (.inl (hF _ _ e1)))
        obtain ⟨its2, p2, t2, _⟩ := I.list (.inl (.inl (hF _ _ e2)))
        obtain ⟨hz, k⟩ := likes_at I hF l m _ _ its its2 X.A.in1 hl q1 q2 p1 p2 (by show X.A.units + 1 + nests l < cLine; omega)
        have := SeqAt.RcNeAt.lists (e := fun _ => true) t1.isList t2.isList (by simpa using hz) (by omega : X.A.units < cLine) (fun j h1 h2 => by
            have := k j (by simpa using h1) (by simpa using h2)
            simpa using this)
        rw [all_true] at this
        exact this X.prog X.w _ _ ⟨.bl false, H, I, rfl, q⟩
  · cases r with
    | tup e1 q1 =>
      cases r2 with
      | tup e2 q2 =>
        cases rx
        cases ry
        simp only [nest] at hn
        obtain ⟨its, p1, t1, _⟩ := I.tuple (.inl (.inl (hF _ _ e1)))
        obtain ⟨its2, p2, t2, _⟩ := I.tuple (.inl (.inl (hF _ _ e2)))
        obtain ⟨hz, k⟩ := likes_at I hF l m _ _ its its2 X.A.in1 hl q1 q2 p1 p2 (by show X.A.units + 1 + nests l < cLine; omega)
        have := SeqAt.RcNeAt.tuples (e := fun _ => true) (isTuple_of t1) (isTuple_of t2) (by omega : X.A.units < cLine) (fun j h1 h2 => by
            have := k j (by simpa using h1) (by simpa using h2)
            simpa using this)
        rw [all_true] at this
        have := this X.prog X.w X.xe (EP X pins σ Q) ?_
        · exact this
        · simp [hz]
          exact ⟨.bl false, H, I, rfl, q⟩
  · obtain ⟨a1, rfl, k1⟩ := rv_dic0 hF r
    obtain ⟨a2, rfl, k2⟩ := rv_dic0 hF r2
    cases rx
    cases ry
    obtain ⟨y1, f1⟩ := dict0_at I k1
    obtain ⟨y2, f2⟩ := dict0_at I k2
    exact PySem.W.keq_ne (knd := mixKind X.prog X.w) (r := true) y1 y2 (f1 _ _) (f2 _ _) (by omega) (fun _ => .nil) ⟨.bl false, H, I, rfl, q⟩
def isBox : D → Bool
  | .lst _ => true
  | .tup _ => true
  | .dic _ _ => true
  | _ => false
def pNeL : P2 := fun b x y S => if likeD x y && decide (nest x ≤ 60) && isBox x then .ok (.bl false) S else pNe b x y S
theorem op_neL (hu : X.A.units + 64 < cLine) : OpR X (compareOp .NotEq) (fun x y H Q => rLike X.K x y H Q ∨ rEqA X.K true x y H Q) := (op_like hu).or (op_neA hu)
theorem like_shape {d e : D} (h : likeD d e = true) (hs : isBox d = true) : (∃ l m, d = .lst l ∧ e = .lst m) ∨ (∃ l m, d = .tup l ∧ e = .tup m) ∨ (d = .dic [] [] ∧ e = .dic [] []) := by
  cases d with
  | lst l => cases e with
    | lst m => exact .inl ⟨_, _, rfl, rfl⟩
    | _ => exact absurd (show false = true from h) Bool.false_ne_true
  | tup l => cases e with
    | tup m => exact .inr (.inl ⟨_, _, rfl, rfl⟩)
    | _ => exact absurd (show false = true from h) Bool.false_ne_true
  | dic ks vs => cases e with
    | dic ks' vs' => cases ks <;> cases vs <;> cases ks' <;> cases vs' <;> first | exact .inr (.inr ⟨rfl, rfl⟩) | exact absurd (show false = true from h) Bool.false_ne_true
    | _ => cases ks <;> cases vs <;> exact absurd (show false = true from h) Bool.false_ne_true
  | _ => cases hs
theorem pr_neL {K : PySem.W.Frag} : Pr2 K pNeL (fun x y H Q => rLike K x y H Q ∨ rEqA K true x y H Q) := by
  intro ca W b B F μ S H d e v u Q hb s rv ru k
  unfold pNeL at k
  split at k
  · rename_i c
    simp only [Bool.and_eq_true, decide_eq_true_eq] at c
    exact .inl ⟨F, μ, S.length, d, e, s.le, c.1.1, c.1.2, rv, ru, like_shape c.1.1 c.2, k.val s (.bl false)⟩
  · exact .inr (pr_ne ca W b B F μ S H d e v u Q hb s rv ru k)
end
end NR





set_option linter.all false
set_option Elab.async false
set_option maxRecDepth 100000
namespace NR
/-! ### what is reached -/
structure Tk {α : Type} (P : α → Store → Prop) : Type where
structure Tq {α : Type} (P : α → Prop) : Type where
structure TkS (P : Fl → Env → Store → Prop) : Type where
/-- what is reached has the property (the last argument keeps a rewriter out of the property) -/
def Ok {α : Type} (r : Res α) (P : α → Store → Prop) (_ : Tk P := ⟨⟩) : Prop := match r with
  | .ok a S => P a S
  | _ => False
def OkS (r : SR) (P : Fl → Env → Store → Prop) (_ : TkS P := ⟨⟩) : Prop := match r with
  | .ok f ρ S => P f ρ S
  | _ => False
/-- there is one, and it has the property -/
def So {α : Type} (o : Option α) (P : α → Prop) (_ : Tq P := ⟨⟩) : Prop := match o with
  | some a => P a
  | none => False
@[simp ↓] theorem so_some {α : Type} {a : α} {P : α → Prop} : So (some a) P = P a := id rfl
@[simp ↓] theorem so_none {α : Type} {P : α → Prop} : So none P = False := id rfl
/-- a slot's value -/
def At (o : Option (Option D)) (P : D → Prop) (_ : Tq P := ⟨⟩) : Prop := match o with
  | some (some a) => P a
  | _ => False
@[simp ↓] theorem at_some {a : D} {P : D → Prop} : At (some (some a)) P = P a := id rfl
theorem Ok.ext {α : Type} {r : Res α} {P Q : α → Store → Prop} (h : ∀ a S, P a S = Q a S) : Ok r P = Ok r Q := by
  cases r with
  | ok a S => exact h a S
  | _ => rfl
section
variable {α β : Type} {b n : Nat} {ρ : Env} {S : Store} {P : D → Store → Prop} {PS : Fl → Env → Store → Prop}
@[simp ↓] theorem ok_ok {a : α} {S : Store} {P : α → Store → Prop} : Ok (.ok a S) P = P a S := id rfl
@[simp ↓] theorem ok_no {P : α → Store → Prop} : Ok (.no : Res α) P = False := id rfl
@[simp ↓] theorem ok_bind {r : Res α} {f : α → Store → Res β} {P : β → Store → Prop} : Ok (r.bind f) P = Ok r fun a S => Ok (f a S) P := by cases r <;> rfl
@[simp ↓] theorem okS_ok {f : Fl} {ρ : Env} {S : Store} : OkS (.ok f ρ S) PS = PS f ρ S := id rfl
@[simp ↓] theorem okS_no : OkS .no PS = False := id rfl
@[simp ↓] theorem okS_of {r : Res α} {f : α → Store → SR} : OkS (SR.of r f) PS = Ok r fun a S => OkS (f a S) PS := by cases r <;> rfl
/-- what follows a statement -/
def nxK (k : Env → Store → Prop) (P : Fl → Env → Store → Prop) : Fl → Env → Store → Prop
  | .nx => k
  | f => P f
@[simp ↓] theorem nxK_nx {k : Env → Store → Prop} : nxK k PS .nx ρ S = k ρ S := id rfl
@[simp ↓] theorem nxK_rt {k : Env → Store → Prop} {d : D} : nxK k PS (.rt d) ρ S = PS (.rt d) ρ S := id rfl
@[simp ↓] theorem nxK_bk {k : Env → Store → Prop} : nxK k PS .bk ρ S = PS .bk ρ S := id rfl
@[simp ↓] theorem nxK_ct {k : Env → Store → Prop} : nxK k PS .ct ρ S = PS .ct ρ S := id rfl
@[simp ↓] theorem ok_nxt {r : SR} {f : Env → Store → SR} : OkS (r.nxt f) PS = OkS r (nxK (fun ρ S => OkS (f ρ S) PS) PS) := by
  cases r with
  | ok f ρ S => cases f <;> rfl
  | _ => rfl
@[simp ↓] theorem ok_ite {c : Prop} [Decidable c] {r r' : Res α} {P : α → Store → Prop} : Ok (if c then r else r') P = if c then Ok r P else Ok r' P := by split <;> rfl
@[simp ↓] theorem okS_ite {c : Prop} [Decidable c] {r r' : SR} : OkS (if c then r else r') PS = if c then OkS r PS else OkS r' PS := by split <;> rfl
theorem Ok.imp {r : Res α} {P Q : α → Store → Prop} (h : Ok r P) (k : ∀ a S, P a S → Q a S) : Ok r Q := by
  cases r with
  | ok a S => exact k _ _ h
  | _ => exact h.elim
theorem OkS.imp {r : SR} {P Q : Fl → Env → Store → Prop} (h : OkS r P) (k : ∀ f ρ S, P f ρ S → Q f ρ S) : OkS r Q := by
  cases r with
  | ok f ρ S => exact k _ _ _ h
  | _ => exact h.elim
theorem Ok.ex {r : Res α} {P : α → Store → Prop} (h : Ok r P) : ∃ a S, r = .ok a S ∧ P a S := by
  cases r with
  | ok a S => exact ⟨a, S, rfl, h⟩
  | _ => exact h.elim
theorem Ok.of {r : Res α} {P : α → Store → Prop} {a : α} {S : Store} (h : r = .ok a S) (k : P a S) : Ok r P := by rw [h]; exact k

/-! ### expressions -/
@[simp ↓] theorem okV {i : Nat} {P : D → Store → Prop} : Ok (eV i b ρ S) P = At ρ[i]? fun d => P d S := by
  unfold eV
  cases ρ[i]? with
  | none => rfl
  | some o => cases o <;> rfl
@[simp ↓] theorem okC {d : D} : Ok (eC d b ρ S) P = P d S := id rfl
@[simp ↓] theorem ok1 {f : P1} {x : Ex} : Ok (e1 f x b ρ S) P = Ok (x b ρ S) fun d S => Ok (f b d S) P := ok_bind
@[simp ↓] theorem ok2 {f : P2} {x y : Ex} : Ok (e2 f x y b ρ S) P = Ok (x b ρ S) fun d S => Ok (y b ρ S) fun e S => Ok (f b d e S) P := by
  show Ok (Res.bind _ _) P = _
  rw [ok_bind]
  exact Ok.ext fun _ _ => ok_bind
@[simp ↓] theorem okAN {P : List D → Store → Prop} : Ok (aN b ρ S) P = P [] S := id rfl
@[simp ↓] theorem okAC {x : Ex} {r : Exs} {P : List D → Store → Prop} : Ok (aC x r b ρ S) P = Ok (x b ρ S) fun d S => Ok (r b ρ S) fun ds S => P (d :: ds) S := by
  show Ok (Res.bind _ _) P = _
  rw [ok_bind]
  exact Ok.ext fun _ _ => ok_bind
@[simp ↓] theorem okN {f : PN} {as : Exs} : Ok (eN f as b ρ S) P = Ok (as b ρ S) fun ds S => Ok (f b ds S) P := ok_bind
@[simp ↓] theorem okN1 {f : P1} {d : D} : n1 f b [d] S = f b d S := id rfl
@[simp ↓] theorem okN2 {f : P2} {d e : D} : n2 f b [d, e] S = f b d e S := id rfl
@[simp ↓] theorem okM1 {f : P2} {d e : D} : m1 f b d [e] S = f b d e S := id rfl
@[simp ↓] theorem okM2 {f : P3} {d e g : D} : m2 f b d [e, g] S = f b d e g S := id rfl
@[simp ↓] theorem okM0 {f : P1} {d : D} : m0 f b d [] S = f b d S := id rfl
@[simp ↓] theorem okM {T : Rc} {f : PM} {o : Ex} {as : Exs} : Ok (eM T f o as b ρ S) P = Ok (o b ρ S) fun d S => if isRc S d T then Ok (as b ρ S) fun ds S => Ok (f b d ds S) P else False := by
  show Ok (Res.bind _ _) P = _
  rw [ok_bind]
  refine Ok.ext fun _ _ => ?_
  rw [ok_ite, ok_bind]; rfl
@[simp ↓] theorem okCall {f : Fn} {as : Exs} : Ok (eCall f as b ρ S) P = Ok (as b ρ S) fun ds S => Ok (f b ds S) P := by
  show Ok (Res.bind _ _) P = _
  rw [ok_bind]
  refine Ok.ext fun ds S => ?_
  cases f b ds S <;> rfl
theorem okGc {m : Ex} : Ok (gc m b ρ S) P = Ok (m S.length ρ S) fun d S' => So (fz S' S.length fuelF d) fun d' => P d' (S'.take S.length) := by
  unfold gc
  cases m S.length ρ S with
  | ok d S' => simp only [ok_ok]; cases fz S' S.length fuelF d <;> rfl
  | _ => rfl
theorem okGcF {f : Fn} {ds : List D} : Ok (gcF f b ds S) P = Ok (f S.length ds S) fun d S' => So (fz S' S.length fuelF d) fun d' => P d' (S'.take S.length) := by
  unfold gcF
  cases f S.length ds S with
  | ok d S' => simp only [ok_ok]; cases fz S' S.length fuelF d <;> rfl
  | _ => rfl
/-- a truth -/
def blK (P : Bool → Store → Prop) : D → Store → Prop
  | .bl k, S => P k S
  | _, _ => False
@[simp ↓] theorem blK_bl {P : Bool → Store → Prop} {k : Bool} : blK P (.bl k) S = P k S := id rfl
@[simp ↓] theorem okTV {x : Ex} {P : Bool → Store → Prop} : Ok (tV x b ρ S) P = Ok (x b ρ S) (blK P) := by
  show Ok (Res.bind _ _) P = _
  rw [ok_bind]
  refine Ok.ext fun d S => ?_
  cases d <;> rfl
@[simp ↓] theorem okTNot {t : Te} {P : Bool → Store → Prop} : Ok (tNot t b ρ S) P = Ok (t b ρ S) fun k S => P (!k) S := by
  show Ok (Res.bind _ _) P = _
  rw [ok_bind]; rfl
@[simp ↓] theorem okTAnd {t u : Te} {P : Bool → Store → Prop} : Ok (NR.tAnd t u b ρ S) P = Ok (t b ρ S) fun k S => if k then Ok (u b ρ S) P else P false S := by
  show Ok (Res.bind _ _) P = _
  rw [ok_bind]
  exact Ok.ext fun _ _ => ok_ite
@[simp ↓] theorem okTOr {t u : Te} {P : Bool → Store → Prop} : Ok (NR.tOr t u b ρ S) P = Ok (t b ρ S) fun k S => if k then P true S else Ok (u b ρ S) P := by
  show Ok (Res.bind _ _) P = _
  rw [ok_bind]
  exact Ok.ext fun _ _ => ok_ite
@[simp ↓] theorem okIf {t : Te} {x y : Ex} : Ok (eIf t x y b ρ S) P = Ok (t b ρ S) fun k S => if k then Ok (x b ρ S) P else Ok (y b ρ S) P := by
  show Ok (Res.bind _ _) P = _
  rw [ok_bind]
  exact Ok.ext fun _ _ => ok_ite
@[simp ↓] theorem okNot {x : Ex} : Ok (eNot x b ρ S) P = Ok (x b ρ S) (blK fun k S => P (.bl (!k)) S) := by
  show Ok (Res.bind _ _) P = _
  rw [ok_bind]
  refine Ok.ext fun d S => ?_
  cases d <;> rfl
@[simp ↓] theorem okAnd {x y : Ex} : Ok (eAnd x y b ρ S) P = Ok (x b ρ S) (blK fun k S => if k then Ok (y b ρ S) P else P (.bl false) S) := by
  show Ok (Res.bind _ _) P = _
  rw [ok_bind]
  refine Ok.ext fun d S => ?_
  cases d with
  | bl k => cases k <;> rfl
  | _ => rfl
@[simp ↓] theorem okOr {x y : Ex} : Ok (eOr x y b ρ S) P = Ok (x b ρ S) (blK fun k S => if k then P (.bl true) S else Ok (y b ρ S) P) := by
  show Ok (Res.bind _ _) P = _
  rw [ok_bind]
  refine Ok.ext fun d S => ?_
  cases d with
  | bl k => cases k <;> rfl
  | _ => rfl
@[simp ↓] theorem okT {P : Bool → Store → Prop} : Ok (tT b ρ S) P = P true S := id rfl
/-! slices -/
@[simp ↓] theorem okON {P : Option Int → Store → Prop} : Ok (oN b ρ S) P = P none S := id rfl
def inK (P : Option Int → Store → Prop) : D → Store → Prop
  | .int i, S => P (some i) S
  | _, _ => False
@[simp ↓] theorem inK_int {P : Option Int → Store → Prop} {i : Int} : inK P (.int i) S = P (some i) S := id rfl
@[simp ↓] theorem okOS {x : Ex} {P : Option Int → Store → Prop} : Ok (oS x b ρ S) P = Ok (x b ρ S) (inK P) := by
  show Ok (Res.bind _ _) P = _
  rw [ok_bind]
  refine Ok.ext fun d S => ?_
  cases d <;> rfl
@[simp ↓] theorem okSl {x : Ex} {l h : Po} : Ok (eSl x l h b ρ S) P = Ok (x b ρ S) fun d S => Ok (l b ρ S) fun i S => Ok (h b ρ S) fun j S => Ok (slD d i j S) P := by
  show Ok (Res.bind _ _) P = _
  rw [ok_bind]
  refine Ok.ext fun _ _ => ?_
  rw [ok_bind]
  exact Ok.ext fun _ _ => ok_bind
@[simp ↓] theorem okDic {t : Bool} : Ok (eDic0 t b ρ S) P = P (.ref S.length) (S ++ [.dic t []]) := id rfl
@[simp ↓] theorem okTup {ds : List D} : Ok (pTup b ds S) P = if ds.length ≤ line then P (.tup ds) S else False := by
  unfold pTup; rw [ok_ite]; rfl
@[simp ↓] theorem okLst {ds : List D} : Ok (pLst b ds S) P = if ds.length ≤ line then P (.ref S.length) (S ++ [.lst ds]) else False := by
  unfold pLst; rw [ok_ite]; rfl

/-! ### statements -/
theorem okS_so {o : Option Store} : OkS (match o with | some S => SR.ok .nx ρ S | none => .no) PS = So o fun S => PS .nx ρ S := by cases o <;> rfl
@[simp ↓] theorem okNil : OkS (sNil b ρ S) PS = PS .nx ρ S := id rfl
@[simp ↓] theorem okSeq {s t : Stm} : OkS (sSeq s t b ρ S) PS = OkS (s b ρ S) (nxK (fun ρ S => OkS (t b ρ S) PS) PS) := ok_nxt
def tgK (g : Tgt) (ρ : Env) (k : Env → Store → Prop) : D → Store → Prop := fun d S => So (g d ρ) fun ρ' => k ρ' S
@[simp ↓] theorem okAsg {x : Ex} {g : Tgt} : OkS (sAsg x g b ρ S) PS = Ok (x b ρ S) (tgK g ρ (PS .nx)) := by
  show OkS (SR.of _ _) PS = _
  rw [okS_of]
  refine Ok.ext fun d S => ?_
  unfold tgK
  cases g d ρ <;> rfl
@[simp ↓] theorem tgK_N {i : Nat} {k : Env → Store → Prop} {d : D} : tgK (gN i) ρ k d S = k (ρ.set i (some d)) S := id rfl
@[simp ↓] theorem tgK_T {gs : List Tgt} {k : Env → Store → Prop} {l : List D} : tgK (gT gs) ρ k (.tup l) S = So (gAll gs l ρ) fun ρ' => k ρ' S := id rfl
@[simp ↓] theorem gAll_0 : gAll [] [] ρ = some ρ := id rfl
@[simp ↓] theorem gAll_c {g : Tgt} {gs : List Tgt} {d : D} {ds : List D} : gAll (g :: gs) (d :: ds) ρ = (g d ρ).bind fun ρ => gAll gs ds ρ := id rfl
@[simp ↓] theorem gN_ap {i : Nat} {d : D} : gN i d ρ = some (ρ.set i (some d)) := id rfl
@[simp ↓] theorem gT_ap {gs : List Tgt} {l : List D} : gT gs (.tup l) ρ = gAll gs l ρ := id rfl
@[simp ↓] theorem okEx {x : Ex} : OkS (sEx x b ρ S) PS = Ok (x b ρ S) fun _ S => PS .nx ρ S := by
  show OkS (SR.of _ _) PS = _
  rw [okS_of]; rfl
@[simp ↓] theorem okRet {x : Ex} : OkS (sRet x b ρ S) PS = Ok (x b ρ S) fun d S => PS (.rt d) ρ S := by
  show OkS (SR.of _ _) PS = _
  rw [okS_of]; rfl
@[simp ↓] theorem okRetN : OkS (sRetN b ρ S) PS = PS (.rt .non) ρ S := id rfl
@[simp ↓] theorem okBk : OkS (sBk b ρ S) PS = PS .bk ρ S := id rfl
@[simp ↓] theorem okCt : OkS (sCt b ρ S) PS = PS .ct ρ S := id rfl
@[simp ↓] theorem okIfS {t : Te} {s u : Stm} : OkS (sIf t s u b ρ S) PS = Ok (t b ρ S) fun k S => if k then OkS (s b ρ S) PS else OkS (u b ρ S) PS := by
  show OkS (SR.of _ _) PS = _
  rw [okS_of]
  exact Ok.ext fun _ _ => okS_ite
@[simp ↓] theorem okPar {i j : Nat} {x y : Ex} : OkS (sPar i j x y b ρ S) PS = Ok (x b ρ S) fun d S => Ok (y b ρ S) fun e S => PS .nx ((ρ.set i (some d)).set j (some e)) S := by
  show OkS (SR.of _ _) PS = _
  rw [okS_of]
  exact Ok.ext fun _ _ => okS_of
@[simp ↓] theorem okAug {i : Nat} {f : P2} {x : Ex} : OkS (sAug i f x b ρ S) PS = At ρ[i]? fun d => Ok (x b ρ S) fun e S => Ok (f b d e S) fun r S => PS .nx (ρ.set i (some r)) S := by
  unfold sAug
  cases ρ[i]? with
  | none => rfl
  | some o => cases o with
    | none => rfl
    | some d =>
      simp only [okS_of, at_some]
      exact Ok.ext fun _ _ => okS_of
@[simp ↓] theorem okPutL {o i v : Ex} : OkS (sPutL o i v b ρ S) PS = Ok (v b ρ S) fun dv S => Ok (o b ρ S) fun d S => Ok (i b ρ S) fun di S => if isRc S d .list then So (put b d di dv S) fun S => PS .nx ρ S else False := by
  show OkS (SR.of _ _) PS = _
  rw [okS_of]
  refine Ok.ext fun _ _ => ?_
  rw [okS_of]
  refine Ok.ext fun _ _ => ?_
  rw [okS_of]
  refine Ok.ext fun _ _ => ?_
  rw [okS_ite]
  congr 1
  exact okS_so
@[simp ↓] theorem okPutS {o l h v : Ex} : OkS (sPutS o l h v b ρ S) PS = Ok (v b ρ S) fun dv S => Ok (o b ρ S) fun d S => Ok (l b ρ S) fun di S => Ok (h b ρ S) fun dj S => So (putS b d di dj dv S) fun S => PS .nx ρ S := by
  show OkS (SR.of _ _) PS = _
  rw [okS_of]
  refine Ok.ext fun _ _ => ?_
  rw [okS_of]
  refine Ok.ext fun _ _ => ?_
  rw [okS_of]
  refine Ok.ext fun _ _ => ?_
  rw [okS_of]
  refine Ok.ext fun _ _ => ?_
  exact okS_so
@[simp ↓] theorem okPutAugL {f : P2} {o i v : Ex} : OkS (sPutAugL f o i v b ρ S) PS = Ok (o b ρ S) fun d S => Ok (i b ρ S) fun di S => if isRc S d .list then Ok (pIxN b d di S) fun old S => Ok (v b ρ S) fun dv S => Ok (f b old dv S) fun r S => (if isRc S d .list then So (put b d di r S) fun S => PS .nx ρ S else False) else False := by
  show OkS (SR.of _ _) PS = _
  rw [okS_of]
  refine Ok.ext fun _ _ => ?_
  rw [okS_of]
  refine Ok.ext fun _ _ => ?_
  rw [okS_ite]
  congr 1
  rw [okS_of]
  refine Ok.ext fun _ _ => ?_
  rw [okS_of]
  refine Ok.ext fun _ _ => ?_
  rw [okS_of]
  refine Ok.ext fun _ _ => ?_
  rw [okS_ite]
  congr 1
  exact okS_so
def fzL (P : List D → Prop) : Option Ob → Prop
  | some (.lst l) => P l
  | _ => False
@[simp ↓] theorem fzL_l {P : List D → Prop} {l : List D} : fzL P (some (.lst l)) = P l := id rfl
def fzK (b i : Nat) (ρ : Env) (S : Store) (PS : Fl → Env → Store → Prop) : D → Prop
  | .ref n => if b ≤ n then fzL (fun l => if bels 0 l = true then PS .nx (ρ.set i (some (.lst l))) (S.set n .gone) else False) S[n]? else False
  | _ => False
@[simp ↓] theorem fzK_r {i n : Nat} : fzK b i ρ S PS (.ref n) = if b ≤ n then fzL (fun l => if bels 0 l = true then PS .nx (ρ.set i (some (.lst l))) (S.set n .gone) else False) S[n]? else False := id rfl
@[simp ↓] theorem okFz {i : Nat} : OkS (sFz i b ρ S) PS = At ρ[i]? (fzK b i ρ S PS) := by
  unfold sFz
  cases hs : ρ[i]? with
  | none => rfl
  | some o => cases o with
    | none => rfl
    | some d => cases d with
      | ref n =>
        simp only [okS_ite, okS_no, at_some, fzK_r]
        congr 1
        cases hn : S[n]? with
        | none => rfl
        | some o => cases o with
          | lst l => simp only [okS_ite, okS_no, okS_ok]; rfl
          | _ => rfl
      | _ => rfl
/-- behind a region -/
def rgK (is js : List Nat) (ρ : Env) (n : Nat) (P : Fl → Env → Store → Prop) : Fl → Env → Store → Prop := fun f ρ' S' => match f with
  | .rt d => So (fz S' n fuelF d) fun d' => P (.rt d') ρ (S'.take n)
  | f => P f (mergeE S' n is js 0 ρ ρ') (S'.take n)
@[simp ↓] theorem okRg {is js : List Nat} {s : Stm} : OkS (rg is js s b ρ S) PS = OkS (s S.length ρ S) (rgK is js ρ S.length PS) := by
  unfold rg
  cases s S.length ρ S with
  | ok f ρ' S' =>
    cases f with
    | rt d => simp only [okS_ok, rgK]; cases fz S' S.length fuelF d <;> rfl
    | _ => rfl
  | _ => rfl
@[simp ↓] theorem rgK_nx {is js : List Nat} {ρ' : Env} : rgK is js ρ n PS .nx ρ' S = PS .nx (mergeE S n is js 0 ρ ρ') (S.take n) := id rfl
@[simp ↓] theorem rgK_ct {is js : List Nat} {ρ' : Env} : rgK is js ρ n PS .ct ρ' S = PS .ct (mergeE S n is js 0 ρ ρ') (S.take n) := id rfl
@[simp ↓] theorem rgK_bk {is js : List Nat} {ρ' : Env} : rgK is js ρ n PS .bk ρ' S = PS .bk (mergeE S n is js 0 ρ ρ') (S.take n) := id rfl
@[simp ↓] theorem rgK_rt {is js : List Nat} {ρ' : Env} {d : D} : rgK is js ρ n PS (.rt d) ρ' S = So (fz S n fuelF d) fun d' => PS (.rt d') ρ (S.take n) := id rfl
/-- the end of a def -/
def finK (P : D → Store → Prop) : Fl → Env → Store → Prop
  | .rt d, _, S => P d S
  | .nx, _, S => P .non S
  | _, _, _ => False
@[simp ↓] theorem finK_rt {d : D} : finK P (.rt d) ρ S = P d S := id rfl
@[simp ↓] theorem finK_nx : finK P .nx ρ S = P .non S := id rfl
@[simp ↓] theorem okF {k m : Nat} {s : Stm} {ds : List D} : Ok (mkF k m s b ds S) P = if ds.length = k then OkS (s b (ds.map some ++ List.replicate (m - k) none) S) (finK P) else False := by
  unfold mkF
  rw [ok_ite]
  congr 1
  cases s b (ds.map some ++ List.replicate (m - k) none) S with
  | ok f ρ S => cases f <;> rfl
  | _ => rfl

/-! ### loops -/
/-- behind a turn -/
def lpK (I : Env → Store → Prop) (P : Fl → Env → Store → Prop) : Fl → Env → Store → Prop
  | .nx, ρ, S => I ρ S
  | .ct, ρ, S => I ρ S
  | .bk, ρ, S => P .nx ρ S
  | .rt d, ρ, S => P (.rt d) ρ S
@[simp ↓] theorem lpK_nx {I : Env → Store → Prop} : lpK I PS .nx ρ S = I ρ S := id rfl
@[simp ↓] theorem lpK_ct {I : Env → Store → Prop} : lpK I PS .ct ρ S = I ρ S := id rfl
@[simp ↓] theorem lpK_bk {I : Env → Store → Prop} : lpK I PS .bk ρ S = PS .nx ρ S := id rfl
@[simp ↓] theorem lpK_rt {I : Env → Store → Prop} {d : D} : lpK I PS (.rt d) ρ S = PS (.rt d) ρ S := id rfl
/-- a loop over what is walked, by an invariant -/
theorem ok_for {g : Tgt} {s : Stm} {Q : Env → Store → Prop} (I : List D → Env → Store → Prop) : ∀ (ds : List D) (ρ : Env) (S : Store), I ds ρ S →
    (∀ d ds ρ S, I (d :: ds) ρ S → ∃ ρ1, g d ρ = some ρ1 ∧ OkS (s b ρ1 S) (lpK (I ds) PS)) →
    (∀ ρ S, I [] ρ S → PS .nx ρ S) → OkS (forL g s b ds ρ S) PS
  | [], ρ, S, h, _, e => e ρ S h
  | d :: ds, ρ, S, h, st, e => by
    obtain ⟨ρ1, h1, h2⟩ := st d ds ρ S h
    unfold forL
    rw [h1]
    simp only
    cases hs : s b ρ1 S with
    | ok f ρ' S' =>
      rw [hs] at h2
      cases f with
      | nx => exact ok_for (Q := Q) I ds ρ' S' h2 st e
      | ct => exact ok_for (Q := Q) I ds ρ' S' h2 st e
      | bk => exact h2
      | rt d => exact h2
    | exc _ _ => rw [hs] at h2; exact h2.elim
    | no => rw [hs] at h2; exact h2.elim
theorem ok_while {t : Te} {s : Stm} (I : Nat → Env → Store → Prop) : ∀ (k m : Nat) (ρ : Env) (S : Store), I m ρ S → m < k →
    (∀ m ρ S, I m ρ S → Ok (t b ρ S) fun c S => if c then OkS (s b ρ S) (lpK (fun ρ' S' => ∃ m', m' < m ∧ I m' ρ' S') PS) else PS .nx ρ S) →
    OkS (whileL t s b k ρ S) PS
  | 0, _, _, _, _, hk, _ => absurd hk (Nat.not_lt_zero _)
  | k + 1, m, ρ, S, h, hk, st => by
    have := st m ρ S h
    unfold whileL
    rw [okS_of]
    refine this.imp fun c S1 h1 => ?_
    cases c with
    | false => exact h1
    | true =>
      simp only [if_true] at h1 ⊢
      cases hs : s b ρ S1 with
      | ok f ρ' S' =>
        rw [hs] at h1
        cases f with
        | nx => obtain ⟨m', l, i⟩ := h1; exact ok_while I k m' ρ' S' i (by omega) st
        | ct => obtain ⟨m', l, i⟩ := h1; exact ok_while I k m' ρ' S' i (by omega) st
        | bk => exact h1
        | rt d => exact h1
      | exc _ _ => rw [hs] at h1; exact h1.elim
      | no => rw [hs] at h1; exact h1.elim
@[simp ↓] theorem okFor {src : Src} {g : Tgt} {s : Stm} : OkS (sFor src g s b ρ S) PS = Ok (src b ρ S) fun ds S => OkS (forL g s b ds ρ S) PS := by
  show OkS (SR.of _ _) PS = _
  rw [okS_of]
theorem ok_lc {g : Tgt} {t : Te} {x : Ex} {n : Nat} (I : List D → List D → Store → Prop) : ∀ (ds acc : List D) (ρ : Env) (T : Store), T.length = n → I ds acc T → acc.length + ds.length ≤ line →
    (∀ d ds acc T, T.length = n → I (d :: ds) acc T → ∃ ρ1, g d ρ = some ρ1 ∧ Ok (t b ρ1 (T ++ [.lst acc])) fun c S1 => if c then Ok (x b ρ1 S1) fun y S2 => ∃ T', T'.length = n ∧ S2 = T' ++ [.lst acc] ∧ I ds (acc ++ [y]) T' else ∃ T', T'.length = n ∧ S1 = T' ++ [.lst acc] ∧ I ds acc T') →
    (∀ acc T, T.length = n → I [] acc T → P (.ref n) (T ++ [.lst acc])) → Ok (lcL g t x b n ds ρ (T ++ [.lst acc])) P
  | [], acc, ρ, T, hT, h, _, st, e => e acc T hT h
  | d :: ds, acc, ρ, T, hT, h, hl, st, e => by
    obtain ⟨ρ1, h1, h2⟩ := st d ds acc T hT h
    simp only [List.length_cons] at hl
    unfold lcL
    rw [h1]
    simp only
    obtain ⟨c, S1, e1, h2⟩ := h2.ex
    rw [e1]
    cases c with
    | false =>
      simp only [Bool.false_eq_true, if_false] at h2 ⊢
      obtain ⟨T', hT', rfl, i⟩ := h2
      exact ok_lc I ds acc ρ T' hT' i (by omega) st e
    | true =>
      simp only [if_true] at h2 ⊢
      obtain ⟨y, S2, e2, T', hT', rfl, i⟩ := h2.ex
      rw [e2]
      simp only
      rw [show (T' ++ [Ob.lst acc])[n]? = some (.lst acc) from by subst hT'; simp]
      simp only
      rw [if_pos (by omega), show (T' ++ [Ob.lst acc]).set n (.lst (acc ++ [y])) = T' ++ [.lst (acc ++ [y])] from by subst hT'; simp]
      exact ok_lc I ds _ ρ T' hT' i (by simp only [List.length_append, List.length_cons, List.length_nil]; omega) st e
theorem okLc {own : List Nat} {src : Src} {g : Tgt} {t : Te} {x : Ex} : Ok (eLc own src g t x b ρ S) P = Ok (src b ρ S) fun ds S => Ok (lcL g t x b S.length ds (dropE own ρ) (S ++ [.lst []])) P := ok_bind
/-- a list of values of one sort from each thing walked, with nothing changed -/
theorem lcL_map {g : Tgt} {x : Ex} (f : D → D) (T : Store) : ∀ (ds acc : List D) (ρ : Env), acc.length + ds.length ≤ line →
    (∀ d ∈ ds, ∀ acc, ∃ ρ1, g d ρ = some ρ1 ∧ x b ρ1 (T ++ [.lst acc]) = .ok (f d) (T ++ [.lst acc])) → lcL g tT x b T.length ds ρ (T ++ [.lst acc]) = .ok (.ref T.length) (T ++ [.lst (acc ++ ds.map f)])
  | [], acc, ρ, _, _ => by simp [lcL]
  | d :: ds, acc, ρ, hl, h => by
    obtain ⟨ρ1, h1, h2⟩ := h d List.mem_cons_self acc
    simp only [List.length_cons] at hl
    unfold lcL
    rw [h1]
    simp only [tT, h2]
    rw [show (T ++ [Ob.lst acc])[T.length]? = some (.lst acc) from by simp]
    simp only
    rw [if_pos (by omega), show (T ++ [Ob.lst acc]).set T.length (.lst (acc ++ [f d])) = T ++ [.lst (acc ++ [f d])] from by simp]
    rw [lcL_map f T ds _ ρ (by simp only [List.length_append, List.length_cons, List.length_nil]; omega) fun e he => h e (List.mem_cons_of_mem _ he)]
    simp
end
end NR

namespace NR
section
variable {α : Type} {b n : Nat} {ρ : Env} {S : Store}
/-! ### what operations give on values -/
@[simp] theorem v_add {i j : Int} : pAdd b (.int i) (.int j) S = .ok (.int (i + j)) S := id rfl
@[simp] theorem v_addS {i j : List Nat} : pAdd b (.str i) (.str j) S = if i.length + j.length ≤ line then .ok (.str (i ++ j)) S else .no := id rfl
@[simp] theorem v_addT {i j : List D} : pAdd b (.tup i) (.tup j) S = if i.length + j.length ≤ line then .ok (.tup (i ++ j)) S else .no := id rfl
@[simp] theorem v_iadd {i j : Int} : pIAdd b (.int i) (.int j) S = .ok (.int (i + j)) S := id rfl
@[simp] theorem v_iaddS {i j : List Nat} : pIAdd b (.str i) (.str j) S = if i.length + j.length ≤ line then .ok (.str (i ++ j)) S else .no := id rfl
@[simp] theorem v_sub {i j : Int} : pSub b (.int i) (.int j) S = .ok (.int (i - j)) S := id rfl
@[simp] theorem v_mul {i j : Int} : pMulN b (.int i) (.int j) S = if big i j then .ok (.int (i * j)) S else .no := id rfl
@[simp] theorem v_div {i j : Int} : pDiv b (.int i) (.int j) S = if 0 < j ∧ j < 1073741824 then .ok (.int (i / j)) S else .no := id rfl
@[simp] theorem v_mod {i j : Int} : pMod b (.int i) (.int j) S = if 0 < j then .ok (.int (i % j)) S else .no := id rfl
@[simp] theorem v_pow {i j : Int} : pPow b (.int i) (.int j) S = if 0 ≤ j ∧ j ≤ 1000000 ∧ i.natAbs < 2 ^ 64 then .ok (.int (i ^ j.toNat)) S else .no := id rfl
@[simp] theorem v_neg {i : Int} : pNeg b (.int i) S = .ok (.int (-i)) S := id rfl
@[simp] theorem v_lt {i j : Int} : pLt b (.int i) (.int j) S = .ok (.bl (decide (i < j))) S := id rfl
@[simp] theorem v_le {i j : Int} : pLe b (.int i) (.int j) S = .ok (.bl (decide (i ≤ j))) S := id rfl
@[simp] theorem v_gt {i j : Int} : pGt b (.int i) (.int j) S = .ok (.bl (decide (j < i))) S := id rfl
@[simp] theorem v_ge {i j : Int} : pGe b (.int i) (.int j) S = .ok (.bl (decide (j ≤ i))) S := id rfl
@[simp] theorem v_eq {i j : Int} : pEq b (.int i) (.int j) S = .ok (.bl (decide (i = j))) S := by
  show Res.ok (D.bl (i == j)) S = _
  congr 2
@[simp] theorem v_ne {i j : Int} : pNe b (.int i) (.int j) S = .ok (.bl (!decide (i = j))) S := by
  show Res.ok (D.bl (!(i == j))) S = _
  congr 3
@[simp] theorem v_abs {i : Int} : pAbs b (.int i) S = .ok (.int (if i < 0 then -i else i)) S := id rfl
@[simp] theorem v_max {i j : Int} : pMax2 b (.int i) (.int j) S = .ok (.int (if j > i then j else i)) S := id rfl
@[simp] theorem v_min {i j : Int} : pMin2 b (.int i) (.int j) S = .ok (.int (if j < i then j else i)) S := id rfl
@[simp] theorem v_intI {i : Int} : pInt b (.int i) S = .ok (.int i) S := id rfl
@[simp] theorem v_intB {k : Bool} : pInt b (.bl k) S = .ok (.int (if k then 1 else 0)) S := id rfl
@[simp] theorem v_lenS {s : List Nat} : pLen b (.str s) S = if s.length ≤ line then .ok (.int s.length) S else .no := id rfl
@[simp] theorem v_lenT {l : List D} : pLen b (.tup l) S = .ok (.int l.length) S := id rfl
@[simp] theorem v_lenL {l : List D} : pLen b (.lst l) S = .ok (.int l.length) S := id rfl
theorem v_lenR {n : Nat} {l : List D} (h : S[n]? = some (.lst l)) : pLen b (.ref n) S = .ok (.int l.length) S := by
  simp only [pLen, items, h]
@[simp ↓] theorem v_lnS {s : List Nat} : pLenN b (.str s) S = if s.length ≤ line then .ok (.int s.length) S else .no := id rfl
@[simp ↓] theorem v_lnT {l : List D} : pLenN b (.tup l) S = .ok (.int l.length) S := id rfl
@[simp ↓] theorem v_lnL {l : List D} : pLenN b (.lst l) S = .ok (.int l.length) S := id rfl
theorem v_lnR {n : Nat} {l : List D} (h : S[n]? = some (.lst l)) : pLenN b (.ref n) S = .ok (.int l.length) S := by
  simp only [pLenN, pLen, items, h]
@[simp ↓] theorem v_ixT {l : List D} {i : Int} {P : D → Store → Prop} : Ok (pIxN b (.tup l) (.int i) S) P = So (at_ l i) fun d => P d S := by
  show Ok (match at_ l i with | some d => .ok d S | none => .no) P = _
  cases at_ l i <;> rfl
@[simp ↓] theorem v_ixL {l : List D} {i : Int} {P : D → Store → Prop} : Ok (pIxN b (.lst l) (.int i) S) P = So (at_ l i) fun d => P d S := by
  show Ok (match at_ l i with | some d => .ok d S | none => .no) P = _
  cases at_ l i <;> rfl
@[simp ↓] theorem v_ixS {l : List Nat} {i : Int} {P : D → Store → Prop} : Ok (pIxN b (.str l) (.int i) S) P = if l.length ≤ line then So (at_ l i) fun d => P (.str [d]) S else False := by
  show Ok (if l.length ≤ line then (match at_ l i with | some d => .ok (.str [d]) S | none => .no) else .no) P = _
  rw [ok_ite]
  congr 1
  cases at_ l i <;> rfl
/-- a list object -/
def LoB (o : Option Ob) (P : List D → Prop) (_ : Tq P := ⟨⟩) : Prop := match o with
  | some (.lst l) => P l
  | _ => False
@[simp ↓] theorem lob_l {P : List D → Prop} {l : List D} : LoB (some (.lst l)) P = P l := id rfl
@[simp ↓] theorem lob_n {P : List D → Prop} : LoB none P = False := id rfl
@[simp ↓] theorem lob_d {P : List D → Prop} {t : Bool} {l : List (D × D)} : LoB (some (.dic t l)) P = False := id rfl
@[simp ↓] theorem lob_i {P : List D → Prop} {t : Nat} {l : List (String × D)} : LoB (some (.ins t l)) P = False := id rfl
@[simp ↓] theorem lob_g {P : List D → Prop} : LoB (some .gone) P = False := id rfl
theorem v_ixR {n : Nat} {i : Int} {P : D → Store → Prop} {l : List D} (h : S[n]? = some (.lst l)) : Ok (pIxN b (.ref n) (.int i) S) P = So (at_ l i) fun d => P d S := by
  have : pIxN b (.ref n) (.int i) S = match at_ l i with | some d => .ok d S | none => .no := by
    unfold pIxN pairsOf
    simp only [h]
    unfold pIx
    simp only [items, h]
    try (cases at_ l i <;> rfl)
  rw [this]
  cases at_ l i <;> rfl
theorem at_nn {α : Type} {l : List α} {i : Int} (h : 0 ≤ i) : at_ l i = l[i.toNat]? := by
  unfold at_ ixn
  rw [if_pos h]
  split
  · rfl
  · rename_i hh
    rw [List.getElem?_eq_none (by omega)]; rfl
theorem at_lit {α : Type} {l : List α} {k : Nat} : at_ l (no_index (OfNat.ofNat k)) = l[k]? := at_nn (by simp)
theorem at_in {α : Type} {l : List α} {i : Int} (h : 0 ≤ i) (h2 : i < l.length) : at_ l i = some (l[i.toNat]'(by omega)) := by
  rw [at_nn h, List.getElem?_eq_getElem]
@[simp] theorem isRc_s {s : List Nat} : isRc S (.str s) .str = true := id rfl
@[simp] theorem isRc_l {s : List D} : isRc S (.lst s) .list = true := id rfl
theorem isRc_r {n : Nat} {l : List D} (h : S[n]? = some (.lst l)) : isRc S (.ref n) .list = true := by
  simp only [isRc, h]
theorem put_r {n : Nat} {l : List D} {k : Int} {v : D} (h : S[n]? = some (.lst l)) (hb : bel 0 v = true ∨ b ≤ n) (h0 : 0 ≤ k) (h1 : k < l.length) : put b (.ref n) (.int k) v S = some (S.set n (.lst (l.set k.toNat v))) := by
  unfold put
  have hb' : b ≤ n ∨ bel 0 v = true := hb.symm
  simp only [h, ixn, if_pos h0, if_pos h1, if_pos hb']
@[simp ↓] theorem fz_int {i : Int} : fz S n fuelF (.int i) = some (.int i) := fz_of_bel rfl
@[simp ↓] theorem fz_bl {i : Bool} : fz S n fuelF (.bl i) = some (.bl i) := fz_of_bel rfl
@[simp ↓] theorem fz_non : fz S n fuelF .non = some .non := fz_of_bel rfl
@[simp ↓] theorem fz_str {i : List Nat} : fz S n fuelF (.str i) = some (.str i) := fz_of_bel rfl
@[simp] theorem bel_int {i : Int} : bel n (.int i) = true := id rfl
@[simp] theorem bel_bl {i : Bool} : bel n (.bl i) = true := id rfl
@[simp] theorem bel_non : bel n .non = true := id rfl
@[simp] theorem bel_str {i : List Nat} : bel n (.str i) = true := id rfl
@[simp] theorem bel_tup {l : List D} : bel n (.tup l) = bels n l := id rfl
@[simp] theorem bel_lst {l : List D} : bel n (.lst l) = bels n l := id rfl
@[simp] theorem bels_nil : bels n [] = true := id rfl
@[simp] theorem bels_cons {d : D} {l : List D} : bels n (d :: l) = (bel n d && bels n l) := id rfl
theorem fz_cl {d : D} (h : bel 0 d = true) : fz S n fuelF d = some d := fz_of_bel (bel_mono (Nat.zero_le _) h)
end
/-! ### the law's source of draws -/
def b_draw : Stm := sSeq (sPutAugL pIAdd (eV 0) (eC (.int 3)) (eC (.int 1))) (sSeq (sIf (NR.tAnd (tV (e2 pEq (e2 pIxN (eV 0) (eC (.int 2))) (eC (.int 0)))) (tV (e2 pLt (e2 pIxN (eV 0) (eC (.int 1))) (eN (n1 pLenN) (aC (e2 pIxN (eV 0) (eC (.int 0))) (aN)))))) (sSeq (sAsg (e2 pIxN (e2 pIxN (eV 0) (eC (.int 0))) (e2 pIxN (eV 0) (eC (.int 1)))) (gN 2)) (sSeq (sPutAugL pIAdd (eV 0) (eC (.int 1)) (eC (.int 1))) (sIf (tV (e2 pGe (eV 2) (e2 pPow (eC (.int 10)) (eC (.int 18))))) (sPutL (eV 0) (eC (.int 2)) (eV 2)) (sPutL (eV 0) (eC (.int 4)) (e2 pMod (e2 pAdd (e2 pMulN (e2 pIxN (eV 0) (eC (.int 4))) (eC (.int 31))) (eV 2)) (eC (.int 2147483647))))))) (sNil)) (sSeq (sIf (tV (e2 pGt (e2 pIxN (eV 0) (eC (.int 2))) (eC (.int 0)))) (sSeq (sAsg (e2 pMod (e2 pIxN (eV 0) (eC (.int 2))) (eV 1)) (gN 3)) (sSeq (sPutAugL pDiv (eV 0) (eC (.int 2)) (eV 1)) (sRet (eV 3)))) (sNil)) (sSeq (sAsg (e2 pMod (e2 pPow (e2 pAdd (e2 pAdd (e2 pIxN (eV 0) (eC (.int 4))) (eC (.int 1))) (e2 pMulN (e2 pIxN (eV 0) (eC (.int 3))) (eC (.int 7919)))) (eC (.int 3))) (eC (.int 2147483647))) (gN 3)) (sRet (e2 pMod (e2 pDiv (e2 pMod (e2 pPow (e2 pAdd (e2 pMulN (eV 3) (eC (.int 48271))) (e2 pIxN (eV 0) (eC (.int 3)))) (eC (.int 2))) (eC (.int 2147483629))) (eC (.int 64))) (eV 1))))))
def d_draw : Fn := mkF 2 4 b_draw
def b_source : Stm := sSeq (sAsg (gc (eLc [2] (wS (gc (eSl (eV 0) (oN) (oS (eC (.int 63)))))) (gN 2) (tT) (e2 pAdd (e2 pMulN (eC (.int 2)) (eN (n1 pAbs) (aC (eV 2) (aN)))) (eN (n1 pInt) (aC (e2 pLt (eV 2) (eC (.int 0))) (aN)))))) (gN 1)) (sRet (eN pLst (aC (eV 1) (aC (eC (.int 0)) (aC (eC (.int 0)) (aC (eC (.int 0)) (aC (e2 pMod (eN (n1 pSum) (aC (eV 1) (aN))) (eC (.int 2147483647))) (aN))))))))
def d_source : Fn := mkF 1 3 b_source
def srcO (cells : List Int) (i q t m : Int) : Ob := .lst [.lst (cells.map .int), .int i, .int q, .int t, .int m]
def SrcO (c : Int) (o : Ob) : Prop := ∃ cells i q t m, o = srcO cells i q t m ∧ (∀ x ∈ cells, 0 ≤ x) ∧ 0 ≤ i ∧ 0 ≤ q ∧ 0 ≤ t ∧ t ≤ c ∧ 0 ≤ m ∧ m < 2147483647
theorem SrcO.le {c c' : Int} {o : Ob} (h : SrcO c o) (l : c ≤ c') : SrcO c' o := by
  obtain ⟨cells, i, q, t, m, e, h1, h2, h3, h4, h5, h6, h7⟩ := h
  exact ⟨cells, i, q, t, m, e, h1, h2, h3, h4, by omega, h6, h7⟩
@[simp ↓] theorem v_ixR0 {b : Nat} {T : Store} {l : List D} {i : Int} {P : D → Store → Prop} : Ok (pIxN b (.ref 0) (.int i) (.lst l :: T)) P = So (at_ l i) fun d => P d (.lst l :: T) := v_ixR rfl
@[simp] theorem isRc_r0 {T : Store} {l : List D} : isRc (.lst l :: T) (.ref 0) .list = true := id rfl
theorem put_0 {b : Nat} {T : Store} {l : List D} {k : Int} {v : D} : put b (.ref 0) (.int k) v (.lst l :: T) = if b ≤ 0 ∨ bel 0 v = true then (ixn l.length k).map fun j => .lst (l.set j v) :: T else none := by
  unfold put
  simp only [List.getElem?_cons_zero]
  split
  · cases ixn l.length k <;> simp
  · rfl
theorem at_map {α β : Type} {f : α → β} {l : List α} {i : Int} (h : 0 ≤ i) (h2 : i < l.length) : at_ (l.map f) i = some (f (l[i.toNat]'(by omega))) := by
  rw [at_in h (by simpa using h2)]
  simp
theorem big_r {i : Int} {k : Nat} (h : k < 2 ^ 64) : big i (no_index (OfNat.ofNat k)) = true := by
  unfold big
  have : Int.natAbs (OfNat.ofNat k : Int) = k := rfl
  simp [this, h]
theorem draw_end {T : Store} {c many : Int} {P : D → Store → Prop} (hc : c < 1099511627776) (hm : 0 < many) (hm2 : many < 1073741824)
    (k : ∀ k o', 0 ≤ k → k < many → SrcO (c + 1) o' → P (.int k) (o' :: T)) {cells : List Int} {i q t m : Int} (h1 : ∀ x ∈ cells, 0 ≤ x) (h2 : 0 ≤ i) (h3 : 0 ≤ q) (h4 : 0 ≤ t) (h5 : t ≤ c) (h6 : 0 ≤ m) (h7 : m < 2147483647) :
    if 0 < q then 0 < many ∧ (0 < many ∧ many < 1073741824) ∧ P (D.int (q % many)) (Ob.lst [D.lst (List.map D.int cells), D.int i, D.int (q / many), D.int (t + 1), D.int m] :: T)
    else big (t + 1) 7919 = true ∧ (m + 1 + (t + 1) * 7919).natAbs < 18446744073709551616 ∧ big ((m + 1 + (t + 1) * 7919) ^ 3 % 2147483647) 48271 = true ∧
      ((m + 1 + (t + 1) * 7919) ^ 3 % 2147483647 * 48271 + (t + 1)).natAbs < 18446744073709551616 ∧ 0 < many ∧
      P (D.int (((m + 1 + (t + 1) * 7919) ^ 3 % 2147483647 * 48271 + (t + 1)) ^ 2 % 2147483629 / 64 % many)) (Ob.lst [D.lst (List.map D.int cells), D.int i, D.int q, D.int (t + 1), D.int m] :: T) := by
  split
  · refine ⟨hm, ⟨hm, hm2⟩, k _ _ (Int.emod_nonneg _ (by omega)) (Int.emod_lt_of_pos _ hm) ⟨cells, i, q / many, t + 1, m, rfl, h1, h2, Int.ediv_nonneg h3 (by omega), by omega, by omega, h6, h7⟩⟩
  · refine ⟨big_r (by decide), by omega, big_r (by decide), by omega, hm, k _ _ (Int.emod_nonneg _ (by omega)) (Int.emod_lt_of_pos _ hm) ⟨cells, i, q, t + 1, m, rfl, h1, h2, h3, by omega, by omega, h6, h7⟩⟩
theorem draw_ok {b : Nat} {T : Store} {o : Ob} {c many : Int} {P : D → Store → Prop} (h : SrcO c o) (hc : c < 1099511627776) (hm : 0 < many) (hm2 : many < 1073741824)
    (k : ∀ k o', 0 ≤ k → k < many → SrcO (c + 1) o' → P (.int k) (o' :: T)) : Ok (d_draw b [.ref 0, .int many] (o :: T)) P := by
  obtain ⟨cells, i, q, t, m, rfl, h1, h2, h3, h4, h5, h6, h7⟩ := h
  unfold srcO
  have e := @draw_end T c many P hc hm hm2 k cells
  simp [d_draw, b_draw, at_lit, put_0, ixn]
  split
  · split
    · rename_i hq hi
      have hx := h1 _ (List.getElem_mem (show i.toNat < cells.length by omega))
      simp [at_lit, put_0, ixn, at_map h2 hi]
      split
      · exact e h1 (by omega) hx h4 h5 h6 h7
      · refine ⟨big_r (by decide), ?_⟩
        exact e h1 (by omega) h3 h4 h5 (Int.emod_nonneg _ (by omega)) (Int.emod_lt_of_pos _ (by omega))
    · exact e h1 h2 h3 h4 h5 h6 h7
  · exact e h1 h2 h3 h4 h5 h6 h7
end NR

namespace NR
section
variable {α : Type} {b n k : Nat} {ρ : Env} {S T : Store} {o : Ob} {c many : Int} {P : D → Store → Prop} {PS : Fl → Env → Store → Prop}
theorem gdraw_ok (h : SrcO c o) (hc : c < 1099511627776) (hm : 0 < many) (hm2 : many < 1073741824)
    (k : ∀ k o', 0 ≤ k → k < many → SrcO (c + 1) o' → P (.int k) (o' :: T)) : Ok (gcF d_draw b [.ref 0, .int many] (o :: T)) P := by
  rw [okGcF]
  refine draw_ok h hc hm hm2 fun i o' h1 h2 h3 => ?_
  simp
  exact k i o' h1 h2 h3
theorem bels_map {f : α → D} {l : List α} (h : ∀ x, bel b (f x) = true) : bels b (l.map f) = true := bels_of fun d hd => by
  obtain ⟨x, _, rfl⟩ := List.mem_map.mp hd
  exact h x
@[simp] theorem bels_ints {l : List Int} : bels b (l.map D.int) = true := bels_map fun _ => rfl
theorem mapM_cl {k : Nat} : ∀ {l : List D}, bels 0 l = true → l.mapM (fz S b (k + 1)) = some l
  | [], _ => rfl
  | d :: l, h => by
    simp only [bels, Bool.and_eq_true] at h
    rw [List.mapM_cons, fz_of_bel (bel_mono (Nat.zero_le _) h.1), mapM_cl h.2]
    rfl
theorem fz_ref {l : List D} (hS : S[n]? = some (.lst l)) (hb : b ≤ n) (h : bels 0 l = true) : fz S b (k + 2) (.ref n) = some (.lst l) := by
  have : ¬ (bel b (.ref n) = true) := by simp [bel]; omega
  rw [fz, if_neg this]
  simp only [hS, mapM_cl h]
  rfl
theorem fz_refF {l : List D} (hS : S[n]? = some (.lst l)) (hb : b ≤ n) (h : bels 0 l = true) : fz S b fuelF (.ref n) = some (.lst l) := fz_ref hS hb h
theorem fz_tup2 {d e d' e' : D} (h1 : fz S b (k + 1) d = some d') (h2 : fz S b (k + 1) e = some e') : fz S b (k + 2) (.tup [d, e]) = some (.tup [d', e']) := by
  rw [fz]
  split
  · rename_i h
    simp only [bel, bels, Bool.and_eq_true] at h
    rw [fz_of_bel h.1] at h1
    rw [fz_of_bel h.2.1] at h2
    cases h1; cases h2; rfl
  · simp [List.mapM_cons, h1, h2]
/-- a list frozen at the end of a comprehension -/
@[simp ↓] theorem okWS {x : Ex} {P : List D → Store → Prop} : Ok (wS x b ρ S) P = Ok (x b ρ S) fun d S => So (srcD S d) fun l => P l S := by
  show Ok (Res.bind _ _) P = _
  rw [ok_bind]
  refine Ok.ext fun d S => ?_
  cases srcD S d <;> rfl
@[simp] theorem srcD_t {l : List D} : srcD S (.tup l) = some l := id rfl
@[simp] theorem srcD_l {l : List D} : srcD S (.lst l) = some l := id rfl
@[simp] theorem srcD_s {l : List Nat} : srcD S (.str l) = some (l.map fun c => .str [c]) := id rfl
@[simp ↓] theorem okR1 {as : Exs} {P : List D → Store → Prop} : Ok (wRange1 as b ρ S) P = Ok (as b ρ S) fun ds S => match ds with
  | [.int j] => if j < 2 ^ 60 ∧ -(2 ^ 60) < j then P (rng 0 j) S else False
  | _ => False := by
  show Ok (Res.bind _ _) P = _
  rw [ok_bind]
  refine Ok.ext fun ds S => ?_
  split
  · rw [ok_ite]; rfl
  · rename_i h
    first
      | rfl
      | (split
         · exact (h _ rfl).elim
         · rfl)
@[simp ↓] theorem okR2 {as : Exs} {P : List D → Store → Prop} : Ok (wRange2 as b ρ S) P = Ok (as b ρ S) fun ds S => match ds with
  | [.int i, .int j] => if i < 2 ^ 60 ∧ -(2 ^ 60) < i ∧ j < 2 ^ 60 ∧ -(2 ^ 60) < j then P (rng i j) S else False
  | _ => False := by
  show Ok (Res.bind _ _) P = _
  rw [ok_bind]
  refine Ok.ext fun ds S => ?_
  split
  · rw [ok_ite]; rfl
  · rename_i h
    first
      | rfl
      | (split
         · exact (h _ _ rfl).elim
         · rfl)
theorem mem_rng {i j : Int} {d : D} (h : d ∈ rng i j) : ∃ k : Int, d = .int k ∧ i ≤ k ∧ k < j := by
  unfold rng at h
  obtain ⟨x, hx, rfl⟩ := List.mem_map.mp h
  rw [List.mem_range] at hx
  exact ⟨_, rfl, by omega, by omega⟩
theorem len_rng {i j : Int} : (rng i j).length = (j - i).toNat := by simp [rng]
theorem rng_nil {i j : Int} (h : j ≤ i) : rng i j = [] := by
  unfold rng
  rw [show (j - i).toNat = 0 by omega]; rfl
theorem rng_cons {i j : Int} (h : i < j) : rng i j = .int i :: rng (i + 1) j := by
  unfold rng
  obtain ⟨n, hn⟩ : ∃ n, (j - i).toNat = n + 1 := ⟨(j - i).toNat - 1, by omega⟩
  rw [hn, show (j - (i + 1)).toNat = n by omega, List.range_succ_eq_map]
  simp
  intro a _
  omega
theorem cut_to {xs : List α} {h : Int} (h0 : 0 ≤ h) : cut xs none (some h) = xs.take h.toNat := by
  unfold cut six
  simp only [if_neg (by omega : ¬ h < 0), List.drop_zero, Nat.sub_zero]
  rw [← List.take_eq_take_min]
theorem cut_from {xs : List α} {i : Int} (h0 : 0 ≤ i) : cut xs (some i) none = xs.drop i.toNat := by
  unfold cut six
  simp only [if_neg (by omega : ¬ i < 0)]
  by_cases h : i.toNat ≤ xs.length
  · rw [Nat.min_eq_left h, List.take_of_length_le (by simp)]
  · rw [Nat.min_eq_right (by omega), List.drop_length, List.drop_of_length_le (by omega)]
    simp
@[simp] theorem sl_scr {l : List Int} {i j : Option Int} : slD (.scr l) i j S = .ok (.ref S.length) (S ++ [.lst (cut (l.map .int) i j)]) := id rfl
@[simp] theorem sl_str {l : List Nat} {i j : Option Int} : slD (.str l) i j S = if l.length ≤ line then .ok (.str (cut l i j)) S else .no := id rfl
@[simp] theorem sl_tup {l : List D} {i j : Option Int} : slD (.tup l) i j S = .ok (.tup (cut l i j)) S := id rfl
@[simp] theorem sl_lst {l : List D} {i j : Option Int} : slD (.lst l) i j S = .ok (.ref S.length) (S ++ [.lst (cut l i j)]) := id rfl
theorem intsD_map : ∀ {l : List Int}, intsD (l.map .int) = some l
  | [] => rfl
  | x :: l => by simp [intsD, intsD_map (l := l)]
@[simp] theorem sum_l {l : List Int} : pSum b (.lst (l.map .int)) S = .ok (.int l.sum) S := by
  simp [pSum, intsL, isL, items, intsD_map]
theorem ok_eq {r : Res α} {a : α} (h : Ok r fun x S' => x = a ∧ S' = S) : r = .ok a S := by
  obtain ⟨x, S', e, rfl, rfl⟩ := h.ex
  exact e
/-- a comprehension without a test whose items change nothing, as a frozen list -/
theorem gc_lc {own : List Nat} {src : Src} {g : Tgt} {x : Ex} {ds : List D} (f : D → D) (hs : Ok (src S.length ρ S) fun l S' => l = ds ∧ S' = S) (hl : ds.length ≤ line)
    (h : ∀ d ∈ ds, ∀ acc, So (g d (dropE own ρ)) fun ρ1 => Ok (x S.length ρ1 (S ++ [.lst acc])) fun y S' => y = f d ∧ S' = S ++ [.lst acc]) (hf : ∀ d ∈ ds, bel 0 (f d) = true) (k : P (.lst (ds.map f)) S) : Ok (gc (eLc own src g tT x) b ρ S) P := by
  rw [okGc, okLc, ok_eq hs, ok_ok, lcL_map f S ds [] _ (by simpa using hl) fun d hd acc => ?_, ok_ok]
  · rw [fz_refF (l := ds.map f) (by simp) (Nat.le_refl _) (bels_of fun d hd => by obtain ⟨x, hx, rfl⟩ := List.mem_map.mp hd; exact hf x hx)]
    simpa using k
  · have := h d hd acc
    cases hg : g d (dropE own ρ) with
    | none => rw [hg] at this; exact this.elim
    | some ρ1 => rw [hg] at this; exact ⟨ρ1, rfl, ok_eq this⟩
theorem nn_sum : ∀ {l : List Int}, (∀ x ∈ l, 0 ≤ x) → 0 ≤ l.sum
  | [], _ => by simp
  | x :: l, h => by
    have h1 := h x (by simp)
    have h2 := nn_sum fun y hy => h y (List.mem_cons_of_mem _ hy)
    rw [List.sum_cons]; omega
def onI (f : Int → Int) : D → D
  | .int i => .int (f i)
  | d => d
theorem map_onI {f : Int → Int} {l : List Int} : (l.map D.int).map (onI f) = (l.map f).map D.int := by
  rw [List.map_map, List.map_map]; rfl
def cellOf (i : Int) : Int := 2 * (if i < 0 then -i else i) + (if i < 0 then 1 else 0)
theorem cell_nn (i : Int) : 0 ≤ cellOf i := by unfold cellOf; split <;> omega
theorem source_ok {ns : List Int} (h : ns.length ≤ 63) (k : ∀ o, SrcO 0 o → P (.ref 0) [o]) : Ok (d_source 0 [.scr ns] []) P := by
  simp [d_source, b_source]
  refine gc_lc (ds := ns.map .int) (onI cellOf) ?_ (by simp [line]; omega) ?_ ?_ ?_
  · simp [okGc]
    rw [fz_refF (l := ns.map .int) (by simp [cut_to]; rw [List.take_of_length_le (by simpa using h)]) (Nat.le_refl _) bels_ints]
    simp
  · intro d hd acc
    obtain ⟨x, _, rfl⟩ := List.mem_map.mp hd
    have e : big 2 (if x < 0 then -x else x) = true := by simp [big]
    simp [dropE, e, cellOf, onI]
  · intro d hd
    obtain ⟨x, _, rfl⟩ := List.mem_map.mp hd
    rfl
  · rw [map_onI]
    have hc : ∀ x ∈ ns.map cellOf, 0 ≤ x := fun x hx => by obtain ⟨y, _, rfl⟩ := List.mem_map.mp hx; exact cell_nn y
    revert hc
    generalize ns.map cellOf = cs
    intro hc
    simp [line]
    exact k _ ⟨cs, 0, 0, 0, _, rfl, hc, by omega, by omega, by omega, by omega, Int.emod_nonneg _ (by omega), Int.emod_lt_of_pos _ (by omega)⟩
/-! ### signs and tongues -/
def b_signs : Stm := sSeq (sAsg (eC (.str [32, 33, 34, 35, 36, 38, 39, 40, 41, 42, 43, 44, 45, 46, 47, 48, 49, 50, 51, 52, 53, 54, 55, 56, 57, 58, 59, 60, 61, 62, 63, 64, 65, 66, 67, 68, 69, 70, 71, 72, 73, 74, 75, 76, 77, 78, 79, 80, 81, 82, 83, 84, 85, 86, 87, 88, 89, 90, 91, 92, 93, 94, 95, 96])) (gN 0)) (sRet (e2 pAdd (eV 0) (eC (.str [97, 98, 99, 100, 101, 102, 103, 104, 105, 106, 107, 108, 109, 110, 111, 112, 113, 114, 115, 116, 117, 118, 119, 120, 121, 122, 123, 124, 125, 126, 10]))))
def d_signs : Fn := mkF 0 1 b_signs
def b_tongue : Stm := sSeq (sAsg (eCall (gcF (d_signs)) aN) (gN 1)) (sSeq (sAsg (eC (.str [])) (gN 2)) (sSeq (sFor (wRange1 (aC (e2 pAdd (eC (.int 1)) (eCall (gcF (d_draw)) (aC (eV 0) (aC (eC (.int 6)) (aN))))) (aN))) (gN 3) (rg [1, 2] [3, 4] (sSeq (sAsg (eCall (gcF (d_draw)) (aC (eV 0) (aC (eN (n1 pLenN) (aC (eV 1) (aN))) (aN)))) (gN 4)) (sSeq (sAug 2 pIAdd (e2 pIxN (eV 1) (eV 4))) (sAsg (gc (e2 pAdd (eSl (eV 1) (oN) (oS (eV 4))) (eSl (eV 1) (oS (e2 pAdd (eV 4) (eC (.int 1)))) (oN)))) (gN 1)))))) (sRet (eV 2))))
def d_tongue : Fn := mkF 1 5 b_tongue
theorem signs_ok (k : ∀ s, s.length = 95 → P (.str s) S) : Ok (d_signs b [] S) P := by
  simp [d_signs, b_signs, line]
  exact k _ rfl
theorem tongue_ok (h : SrcO c o) (hc : c < 1000000000) (k : ∀ s o', s ≠ [] → s.length ≤ 6 → SrcO (c + 7) o' → P (.str s) (o' :: T)) : Ok (d_tongue b [.ref 0] (o :: T)) P := by
  simp [d_tongue, b_tongue]
  rw [okGcF]
  refine signs_ok fun s hs => ?_
  simp
  refine gdraw_ok h (by omega) (by omega) (by omega) fun j o1 h1 h2 h3 => ?_
  simp
  refine ⟨by omega, ?_⟩
  refine ok_for (Q := fun _ _ => True) (fun ds ρ S => ∃ o' rest told cc, ρ = [some (.ref 0), some (.str rest), some (.str told), none, none] ∧ S = o' :: T ∧ SrcO cc o' ∧ cc + ds.length ≤ c + 7 ∧ told.length + ds.length = 1 + j.toNat ∧ rest.length + told.length = 95) _ _ _ ?_ ?_ ?_
  · exact ⟨o1, s, [], c + 1, rfl, rfl, h3, by rw [len_rng]; omega, by rw [len_rng]; simp; omega, by simp [hs]⟩
  · rintro d ds _ _ ⟨o', rest, told, cc, rfl, rfl, hs', hcc, hl, hr⟩
    simp only [List.length_cons] at hcc hl
    refine ⟨_, rfl, ?_⟩
    simp
    refine ⟨by simp [line]; omega, ?_⟩
    refine gdraw_ok hs' (by omega) (by omega) (by omega) fun i o2 g1 g2 g3 => ?_
    simp
    have hL : rest.length ≤ line := by simp [line]; omega
    refine ⟨hL, ?_⟩
    rw [at_in g1 g2, so_some]
    have h4 : told.length + 1 ≤ line := by simp [line]; omega
    simp [okGc, hL, h4, cut_to g1, cut_from (show 0 ≤ i + 1 by omega), mergeE]
    exact ⟨by simp [line]; omega, _, _, _, ⟨rfl, rfl⟩, rfl, _, g3, by omega, by simp; omega, by simp; omega⟩
  · rintro _ _ ⟨o', rest, told, cc, rfl, rfl, hs', hcc, hl, hr⟩
    simp at hl hcc
    simp
    refine k told o' ?_ (by omega) (hs'.le (by omega))
    intro e
    rw [e] at hl
    simp at hl
    omega
end
end NR

namespace NR
section
variable {α : Type} {b n k : Nat} {ρ : Env} {S T U : Store} {o x y : Ob} {c many : Int} {P : D → Store → Prop} {PS : Fl → Env → Store → Prop}
@[simp] theorem st_get : (o :: (T ++ x :: U))[T.length + 1]? = some x := by simp
@[simp] theorem st_set : (o :: (T ++ x :: U)).set (T.length + 1) y = o :: (T ++ y :: U) := by simp
@[simp] theorem st_set0 : (T ++ x :: U).set T.length y = T ++ y :: U := by simp
@[simp] theorem st_set01 {z : Ob} : (T ++ x :: y :: U).set (T.length + 1) z = T ++ x :: z :: U := by
  rw [List.set_append_right _ _ (by omega)]
  simp
@[simp] theorem st_take : (o :: (T ++ U)).take (T.length + 1) = o :: T := by simp
@[simp] theorem st_get2 : (o :: (T ++ x :: y :: U))[T.length + 1 + 1]? = some y := by
  rw [List.getElem?_cons_succ, List.getElem?_append_right (by omega)]
  simp
@[simp] theorem st_set2 {z : Ob} : (o :: (T ++ x :: y :: U)).set (T.length + 1 + 1) z = o :: (T ++ x :: z :: U) := by
  rw [List.set_cons_succ, List.set_append_right _ _ (by omega)]
  simp
@[simp] theorem take_p1 : (T ++ x :: U).take (T.length + 1) = T ++ [x] := by rw [List.take_append, List.take_of_length_le (by omega)]; simp
@[simp] theorem take_p2 : (T ++ x :: y :: U).take (T.length + 2) = T ++ [x, y] := by rw [List.take_append, List.take_of_length_le (by omega)]; simp
@[simp] theorem take_1 : (T ++ [x]).take (T.length + 1) = T ++ [x] := List.take_of_length_le (by simp)
@[simp] theorem take_2 : (T ++ [x, y]).take (T.length + 2) = T ++ [x, y] := List.take_of_length_le (by simp)
@[simp] theorem take_3 {z : Ob} : (T ++ [x, y, z]).take (T.length + 3) = T ++ [x, y, z] := List.take_of_length_le (by simp)
@[simp] theorem take_4 {z u : Ob} : (T ++ [x, y, z, u]).take (T.length + 4) = T ++ [x, y, z, u] := List.take_of_length_le (by simp)
@[simp ↓] theorem v_app {v : D} : Ok (pAppend b (.ref n) v S) P = if b ≤ n ∨ bel 0 v = true then LoB S[n]? fun l => if l.length < line then P .non (S.set n (.lst (l ++ [v]))) else False else False := by
  show Ok (if b ≤ n ∨ bel 0 v = true then _ else _) P = _
  rw [ok_ite]
  congr 1
  cases S[n]? with
  | none => rfl
  | some o => cases o with
    | lst l => simp only [lob_l, ok_ite]; rfl
    | _ => rfl
@[simp ↓] theorem v_ixR' {i : Int} : Ok (pIxN b (.ref n) (.int i) S) P = LoB S[n]? fun l => So (at_ l i) fun d => P d S := by
  cases h : S[n]? with
  | none => simp [pIxN, pairsOf, h, pIx, items]
  | some o => cases o with
    | lst l => rw [v_ixR h, lob_l]
    | _ => simp [pIxN, pairsOf, h, pIx, items]
@[simp ↓] theorem v_lnR' : Ok (pLenN b (.ref n) S) P = LoB S[n]? fun l => P (.int l.length) S := by
  cases h : S[n]? with
  | none => simp [pLenN, items, h]
  | some o => cases o with
    | lst l => rw [v_lnR h, lob_l, ok_ok]
    | _ => simp [pLenN, items, h]
def lstO : Option Ob → Bool
  | some (.lst _) => true
  | _ => false
@[simp] theorem lstO_l {l : List D} : lstO (some (.lst l)) = true := id rfl
@[simp] theorem isRc_r' : isRc S (.ref n) .list = lstO S[n]? := by
  cases h : S[n]? with
  | none => simp only [isRc, h]; rfl
  | some o => cases o <;> simp only [isRc, h] <;> rfl
/-- a comprehension in a region, its items with draws -/
theorem gc_lcI {own : List Nat} {src : Src} {g : Tgt} {t : Te} {x : Ex} {ds : List D} (I : List D → List D → Store → Prop) (hs : Ok (src S.length ρ S) fun l S' => l = ds ∧ S' = S) (hl : ds.length ≤ line) (h0 : I ds [] S)
    (st : ∀ d ds acc T, T.length = S.length → I (d :: ds) acc T → So (g d (dropE own ρ)) fun ρ1 => Ok (t S.length ρ1 (T ++ [.lst acc])) fun c S1 => if c = true then Ok (x S.length ρ1 S1) fun y S2 => ∃ T', T'.length = S.length ∧ S2 = T' ++ [.lst acc] ∧ I ds (acc ++ [y]) T' else ∃ T', T'.length = S.length ∧ S1 = T' ++ [.lst acc] ∧ I ds acc T')
    (hf : ∀ acc T, T.length = S.length → I [] acc T → bels 0 acc = true ∧ P (.lst acc) T) : Ok (gc (eLc own src g t x) b ρ S) P := by
  rw [okGc, okLc, ok_eq hs, ok_ok]
  refine ok_lc I ds [] _ S rfl h0 (by simpa using hl) (fun d ds acc T hT hI => ?_) fun acc T hT hI => ?_
  · have := st d ds acc T hT hI
    cases hg : g d (dropE own ρ) with
    | none => rw [hg] at this; exact this.elim
    | some ρ1 => rw [hg] at this; exact ⟨ρ1, rfl, this⟩
  · obtain ⟨h1, h2⟩ := hf acc T hT hI
    rw [fz_refF (l := acc) (by rw [← hT]; simp) (Nat.le_refl _) h1, so_some, show (T ++ [Ob.lst acc]).take S.length = T from by rw [← hT]; simp]
    exact h2
/-- a row of draws -/
theorem gc_draws {own : List Nat} {src : Src} {i : Nat} {x : Ex} {ds : List D} (hs : Ok (src (T.length + 1) ρ (o :: T)) fun l S' => l = ds ∧ S' = o :: T) (hl : ds.length ≤ 100000) (h : SrcO c o) (hc : c < 1000000000) (hm : 0 < many) (hm2 : many < 1073741824)
    (hx : ∀ d o' acc (P : D → Store → Prop), Ok (gcF d_draw (T.length + 1) [.ref 0, .int many] (o' :: (T ++ [.lst acc]))) P → Ok (x (T.length + 1) ((dropE own ρ).set i (some d)) (o' :: (T ++ [.lst acc]))) P)
    (k : ∀ (l : List Int) o', l.length = ds.length → (∀ z ∈ l, 0 ≤ z ∧ z < many) → SrcO (c + ds.length) o' → P (.lst (l.map D.int)) (o' :: T)) : Ok (gc (eLc own src (gN i) tT x) b ρ (o :: T)) P := by
  refine gc_lcI (ds := ds) (fun es acc S => ∃ (l : List Int) (o' : Ob) (cc : Int), acc = l.map D.int ∧ S = o' :: T ∧ l.length + es.length = ds.length ∧ (∀ z ∈ l, 0 ≤ z ∧ z < many) ∧ SrcO cc o' ∧ cc + es.length ≤ c + ds.length) hs (by simp [line]; omega) ⟨[], o, c, rfl, rfl, by simp, by simp, h, by omega⟩ ?_ ?_
  · rintro d es acc S hS ⟨l, o', cc, rfl, rfl, hl', hz, ho, hcc⟩
    simp only [List.length_cons] at hl' hcc
    simp
    refine hx d o' _ _ (gdraw_ok ho (by omega) hm hm2 fun j o2 g1 g2 g3 => ?_)
    refine ⟨o2 :: T, by simp, by simp, l ++ [j], o2, cc + 1, by simp, rfl, by simp; omega, fun z hz' => ?_, g3, by omega⟩
    rcases List.mem_append.mp hz' with e | e
    · exact hz z e
    · simp at e; subst e; exact ⟨g1, g2⟩
  · rintro acc S hS ⟨l, o', cc, rfl, rfl, hl', hz, ho, hcc⟩
    simp at hl' hcc
    exact ⟨bels_ints, k l o' hl' hz (ho.le hcc)⟩
/-- a list of numbers from numbers -/
theorem gc_ints {own : List Nat} {src : Src} {i : Nat} {x : Ex} {l : List Int} (f : Int → Int) (hs : Ok (src S.length ρ S) fun l' S' => l' = l.map D.int ∧ S' = S) (hl : l.length ≤ 1000000)
    (h : ∀ z ∈ l, ∀ acc, Ok (x S.length ((dropE own ρ).set i (some (.int z))) (S ++ [.lst acc])) fun y S' => y = .int (f z) ∧ S' = S ++ [.lst acc]) (k : ∀ row : List Int, row = l.map f → P (.lst (row.map D.int)) S) : Ok (gc (eLc own src (gN i) tT x) b ρ S) P := by
  refine gc_lc (ds := l.map D.int) (onI f) hs (by simp [line]; omega) ?_ ?_ ?_
  · intro d hd acc
    obtain ⟨z, hz, rfl⟩ := List.mem_map.mp hd
    exact h z hz acc
  · intro d hd
    obtain ⟨z, hz, rfl⟩ := List.mem_map.mp hd
    rfl
  · rw [map_onI]; exact k _ rfl
/-! ### lists of numbers -/
theorem eqD_ints (x z : Int) : eqD (.int x) (.int z) = (x == z) := rfl
theorem any_ints {l : List Int} {z : Int} : ((l.map D.int).any fun y => eqD y (.int z)) = decide (z ∈ l) := by
  rw [List.any_map]
  have : ((fun y => eqD y (.int z)) ∘ D.int) = fun x => x == z := by funext x; exact eqD_ints x z
  rw [this, Bool.eq_iff_iff, List.any_eq_true, decide_eq_true_eq]
  constructor
  · rintro ⟨x, h, e⟩
    rw [beq_iff_eq] at e
    rw [← e]; exact h
  · exact fun h => ⟨z, h, beq_self_eq_true z⟩
theorem flat_ints {l : List Int} : (l.map D.int).all flat = true := by
  rw [List.all_map]
  exact List.all_eq_true.mpr fun _ _ => rfl
theorem notin_ints {l : List Int} {z : Int} (h : S[n]? = some (.lst (l.map D.int))) : pNotInN b (.int z) (.ref n) S = .ok (.bl (!decide (z ∈ l))) S := by
  have : inN S (.int z) (.ref n) = some (decide (z ∈ l)) := by
    have hp : pairsOf S (.ref n) = none := by unfold pairsOf; simp only [h]
    have hi : items S (.ref n) = some (l.map D.int) := by unfold items; simp only [h]
    have hf : (flat (.int z) && (l.map D.int).all flat) = true := by rw [flat_ints]; rfl
    unfold inN
    rw [hp]
    show (match items S (.ref n) with | some l => _ | none => _) = _
    rw [hi]
    show (if (flat (.int z) && (l.map D.int).all flat) = true then _ else _) = _
    rw [if_pos hf, any_ints]
  unfold pNotInN
  rw [this]
theorem sorted_ref {l : List Int} (h : S[n]? = some (.lst (l.map D.int))) : pSorted b (.ref n) S = .ok (.ref S.length) (S ++ [.lst ((sortI l).map D.int)]) := by
  have hi : items S (.ref n) = some (l.map D.int) := by unfold items; simp only [h]
  have : intsL S (.ref n) = some l := by
    show (items S (.ref n)).bind intsD = some l
    rw [hi]
    exact intsD_map
  unfold pSorted
  rw [this]
  rfl
theorem mem_ins {z x : Int} {l : List Int} : z ∈ ins x l ↔ z = x ∨ z ∈ l := by
  induction l with
  | nil => simp [ins]
  | cons y l ih =>
    unfold ins
    split
    · simp
    · simp only [List.mem_cons, ih]
      constructor
      · rintro (h | h | h) <;> simp [h]
      · rintro (h | h | h) <;> simp [h]
theorem mem_sort {z : Int} {l : List Int} : z ∈ sortI l ↔ z ∈ l := by
  induction l with
  | nil => simp [sortI]
  | cons y l ih => rw [sortI, mem_ins, ih, List.mem_cons]
theorem len_ins {x : Int} {l : List Int} : (ins x l).length = l.length + 1 := by
  induction l with
  | nil => rfl
  | cons y l ih =>
    unfold ins
    split
    · rfl
    · simp [ih]
theorem len_sort {l : List Int} : (sortI l).length = l.length := by
  induction l with
  | nil => rfl
  | cons y l ih => rw [sortI, len_ins, ih]; rfl
/-- where a number is first -/
def ixOf (l : List Int) (z : Int) : Int := (l.findIdx fun x => x == z : Nat)
theorem ixOf_ok {l : List Int} {z : Int} (h : z ∈ l) : 0 ≤ ixOf l z ∧ ixOf l z < l.length := by
  have : l.findIdx (fun x => x == z) < l.length := List.findIdx_lt_length_of_exists ⟨z, h, by simp⟩
  unfold ixOf
  omega
theorem index_ints {l : List Int} {z : Int} (h : z ∈ l) : pIndex b (.lst (l.map D.int)) (.int z) S = .ok (.int (ixOf l z)) S := by
  have e : (l.map D.int).findIdx? (fun y => eqD y (.int z)) = some (l.findIdx fun x => x == z) := by
    rw [List.findIdx?_map]
    rw [List.findIdx?_eq_some_iff_findIdx_eq]
    refine ⟨List.findIdx_lt_length_of_exists ⟨z, h, by simp⟩, ?_⟩
    rfl
  have hf : (flat (.int z) && (l.map D.int).all flat) = true := by rw [flat_ints]; rfl
  show (if (flat (.int z) && (l.map D.int).all flat) = true then _ else _) = _
  rw [if_pos hf, e]
  rfl
@[simp] theorem v_tupL {l : List D} : pTuple b (.lst l) S = .ok (.tup l) S := id rfl
@[simp] theorem v_tupT {l : List D} : pTuple b (.tup l) S = .ok (.tup l) S := id rfl
@[simp] theorem v_listL {l : List D} : pList b (.lst l) S = .ok (.ref S.length) (S ++ [.lst l]) := id rfl
@[simp ↓] theorem okWh {t : Te} {s : Stm} : OkS (sWhile t s b ρ S) PS = OkS (whileL t s b fuelW ρ S) PS := id rfl
@[simp ↓] theorem fz_tupI {l : List Int} : fz S n fuelF (.tup (l.map D.int)) = some (.tup (l.map D.int)) := fz_cl (by simp)
@[simp ↓] theorem fz_lstI {l : List Int} : fz S n fuelF (.lst (l.map D.int)) = some (.lst (l.map D.int)) := fz_cl (by simp)
theorem nodup_sub : ∀ {l u : List Int}, l.Nodup → (∀ z ∈ l, z ∈ u) → l.length ≤ u.length
  | [], _, _, _ => Nat.zero_le _
  | x :: l, u, h, hs => by
    rw [List.nodup_cons] at h
    have hx := hs x List.mem_cons_self
    have := nodup_sub (l := l) (u := u.erase x) h.2 fun z hz => by
      refine (List.mem_erase_of_ne fun e => ?_).mpr (hs z (List.mem_cons_of_mem _ hz))
      subst e; exact h.1 hz
    rw [List.length_erase_of_mem hx] at this
    have := List.length_pos_of_mem hx
    simp only [List.length_cons]
    omega
theorem nodup_len {l : List Int} {m : Int} (h : l.Nodup) (hr : ∀ z ∈ l, 0 ≤ z ∧ z < m) : l.length ≤ m.toNat := by
  have := nodup_sub (u := (List.range m.toNat).map fun (k : Nat) => (k : Int)) h fun z hz => by
    obtain ⟨z0, z1⟩ := hr z hz
    exact List.mem_map.mpr ⟨z.toNat, by rw [List.mem_range]; omega, by omega⟩
  simpa using this
theorem fz_d0 {t : Bool} (hS : S[n]? = some (.dic t [])) (hb : b ≤ n) : fz S b (k + 2) (.ref n) = some (.dic [] []) := by
  have : ¬ (bel b (.ref n) = true) := by simp [bel]; omega
  rw [fz, if_neg this]
  simp only [hS]
  rfl
theorem fz_tup3 {d e g d' e' g' : D} (h1 : fz S b (k + 1) d = some d') (h2 : fz S b (k + 1) e = some e') (h3 : fz S b (k + 1) g = some g') : fz S b (k + 2) (.tup [d, e, g]) = some (.tup [d', e', g']) := by
  rw [fz]
  split
  · rename_i h
    simp only [bel, bels, Bool.and_eq_true] at h
    rw [fz_of_bel h.1] at h1
    rw [fz_of_bel h.2.1] at h2
    rw [fz_of_bel h.2.2.1] at h3
    cases h1; cases h2; cases h3; rfl
  · simp [List.mapM_cons, h1, h2, h3]
/-! ### changes of a list -/
section
variable {l m : List D} {i j : Int} {z : D}
theorem v_pop (h : S[n]? = some (.lst l)) (h0 : 0 ≤ i) (h1 : i < l.length) (h2 : l.length ≤ 1000000) : pPopAt b (.ref n) (.int i) S = .ok (l[i.toNat]'(by omega)) (S.set n (.lst (l.eraseIdx i.toNat))) := by
  have e : ixn l.length i = some i.toNat := by unfold ixn; rw [if_pos h0, if_pos h1]
  unfold pPopAt
  simp only [h, e, List.getElem?_eq_getElem (show i.toNat < l.length by omega)]
  rw [if_pos (by omega)]
theorem v_ins (h : S[n]? = some (.lst l)) (h0 : 0 ≤ i) (h1 : i ≤ l.length) (h2 : l.length ≤ 1000000) (hz : bel 0 z = true) : pInsert b (.ref n) (.int i) z S = .ok .non (S.set n (.lst (l.take i.toNat ++ [z] ++ l.drop i.toNat))) := by
  unfold pInsert
  simp only [h]
  rw [if_pos ⟨by simp [line]; omega, h0, by omega, .inr hz⟩]
theorem v_tupR (h : S[n]? = some (.lst l)) : pTuple b (.ref n) S = .ok (.tup l) S := by
  unfold pTuple items
  simp only [h]
theorem v_addR {p : Nat} (h : S[n]? = some (.lst l)) (h2 : S[p]? = some (.lst m)) (hl : l.length + m.length ≤ line) : pAdd b (.ref n) (.ref p) S = .ok (.ref S.length) (S ++ [.lst (l ++ m)]) := by
  have e1 : items S (.ref n) = some l := by unfold items; simp only [h]
  have e2 : items S (.ref p) = some m := by unfold items; simp only [h2]
  show (if (isL (.ref n) && isL (.ref p)) = true then (match items S (.ref n), items S (.ref p) with | some a, some c => if a.length + c.length ≤ line then new (.lst (a ++ c)) S else .no | _, _ => .no) else .no) = _
  rw [e1, e2, if_pos (show (isL (.ref n) && isL (.ref p)) = true from rfl)]
  simp only
  rw [if_pos hl]; rfl
theorem putS_r {p : Nat} (h : S[n]? = some (.lst l)) (h2 : S[p]? = some (.lst m)) (hn : p ≠ n) (h0 : 0 ≤ i) (h1 : i ≤ j) (h3 : j ≤ l.length) (hl : l.length + m.length ≤ line) (hb : bels 0 m = true) : putS b (.ref n) (.int i) (.int j) (.ref p) S = some (S.set n (.lst (l.take i.toNat ++ m ++ l.drop j.toNat))) := by
  have e2 : items S (.ref p) = some m := by unfold items; simp only [h2]
  unfold putS
  simp only [h, e2]
  rw [if_pos ⟨rfl, h0, h1, h3, hl, .inr hb, by simpa [notRef] using hn⟩]
end
end
end NR

set_option linter.all false
set_option maxRecDepth 100000
namespace NR.K36
open NR
def b_is_number : Stm := sRet (eAnd (e1 (pIsI .int) (eV 0)) (eNot (e1 (pIsI .bool) (eV 0))))
def d_is_number : Fn := mkF 1 1 b_is_number
def b_is_numbers : Stm := sSeq (sIf (tNot (tV (e1 (pIsI .tuple) (eV 0)))) (sRet (eC (.bl false))) (sNil)) (sSeq (sFor (wS (eV 0)) (gN 1) (rg [] [1] (sIf (tNot (tV (eCall (gcF (d_is_number)) (aC (eV 1) (aN))))) (sRet (eC (.bl false))) (sNil)))) (sRet (eC (.bl true))))
def d_is_numbers : Fn := mkF 1 2 b_is_numbers
def b_is_text : Stm := sRet (eAnd (e1 (pIsI .str) (eV 1)) (eN (n1 pAll) (aC (gc (eLc [2] (wS (eV 1)) (gN 2) (tT) (e2 pInN (eV 2) (eV 0)))) (aN))))
def d_is_text : Fn := mkF 2 3 b_is_text
def b_longest : Stm := sSeq (sAsg (eV 0) (gT [gN 3, gN 4, gN 5])) (sSeq (sAsg (eC (.int 0)) (gN 6)) (sSeq (sAsg (eC .non) (gN 7)) (sSeq (sFor (wRange2 (aC (eV 2) (aC (eN (n1 pLenN) (aC (eV 1) (aN))) (aN)))) (gN 8) (rg [6, 7] [8] (sSeq (sAsg (e2 pIxN (e2 pIxN (eV 4) (eV 6)) (eM .str (m1 pFind) (eV 3) (aC (e2 pIxN (eV 1) (eV 8)) (aN)))) (gN 6)) (sIf (tV (e2 pGe (e2 pIxN (eV 5) (eV 6)) (eC (.int 0)))) (sAsg (eN pTup (aC (e2 pIxN (eV 5) (eV 6)) (aC (e2 pAdd (eV 8) (eC (.int 1))) (aN)))) (gN 7)) (sNil))))) (sRet (eV 7)))))
def d_longest : Fn := mkF 3 9 b_longest
def b_cut : Stm := sSeq (sIf (tNot (tV (eCall (gcF (d_is_text)) (aC (e2 pIxN (eV 0) (eC (.int 0))) (aC (eV 1) (aN)))))) (sNo) (sNil)) (sSeq (sAsg (eN pLst (aN)) (gN 2)) (sSeq (sAsg (eC (.int 0)) (gN 3)) (sSeq (sWhile (tV (e2 pLt (eV 3) (eN (n1 pLenN) (aC (eV 1) (aN))))) (rg [3] [4] (sSeq (sAsg (eCall (gcF (d_longest)) (aC (eV 0) (aC (eV 1) (aC (eV 3) (aN))))) (gN 4)) (sSeq (sIf (tV (e1 pIsN (eV 4))) (sRet (eN pTup (aC (eV 2) (aC (eV 3) (aN))))) (sNil)) (sSeq (sEx (eM .list (m1 pAppend) (eV 2) (aC (eN pTup (aC (e2 pIxN (eV 4) (eC (.int 0))) (aC (eV 3) (aC (e2 pIxN (eV 4) (eC (.int 1))) (aN))))) (aN)))) (sAsg (e2 pIxN (eV 4) (eC (.int 1))) (gN 3))))))) (sRet (eN pTup (aC (eV 2) (aC (eV 3) (aN))))))))
def d_cut : Fn := mkF 2 5 b_cut
def b_cut_holds : Stm := sSeq (sAsg (eCall (gcF (d_cut)) (aC (eV 0) (aC (eV 1) (aN)))) (gT [gN 4, gN 5])) (sSeq (sIf (NR.tOr (tNot (tV (eCall (gcF (d_is_number)) (aC (eV 3) (aN))))) (tV (e2 pNe (eV 3) (eV 5)))) (sRet (eC (.bl false))) (sNil)) (sSeq (sIf (NR.tOr (tNot (tV (e1 (pIsI .list) (eV 2)))) (tV (e2 pNe (eN (n1 pLenN) (aC (eV 2) (aN))) (eN (n1 pLenN) (aC (eV 4) (aN)))))) (sRet (eC (.bl false))) (sNil)) (sSeq (sFor (wRange1 (aC (eN (n1 pLenN) (aC (eV 4) (aN))) (aN))) (gN 6) (rg [] [6] (sIf (NR.tOr (tNot (tV (eCall (gcF (d_is_numbers)) (aC (e2 pIxN (eV 2) (eV 6)) (aN))))) (tV (e2 pNe (e2 pIxN (eV 2) (eV 6)) (e2 pIxN (eV 4) (eV 6))))) (sRet (eC (.bl false))) (sNil)))) (sRet (eC (.bl true))))))
def d_cut_holds : Fn := mkF 4 7 b_cut_holds
def b_l_said : Stm := sSeq (sIf (tV (eV 1)) (sRet (e1 (pIsB true) (eV 0))) (sNil)) (sRet (e1 (pIsB false) (eV 0)))
def d_l_said : Fn := mkF 2 2 b_l_said
def b_l_source : Stm := sSeq (sAsg (gc (eLc [2] (wS (gc (eSl (eV 0) (oN) (oS (eC (.int 63)))))) (gN 2) (tT) (e2 pAdd (e2 pMulN (eC (.int 2)) (eN (n1 pAbs) (aC (eV 2) (aN)))) (eN (n1 pInt) (aC (e2 pLt (eV 2) (eC (.int 0))) (aN)))))) (gN 1)) (sRet (eN pLst (aC (eV 1) (aC (eC (.int 0)) (aC (eC (.int 0)) (aC (eC (.int 0)) (aC (e2 pMod (eN (n1 pSum) (aC (eV 1) (aN))) (eC (.int 2147483647))) (aN))))))))
def d_l_source : Fn := mkF 1 3 b_l_source
def b_l_draw : Stm := sSeq (sPutAugL pIAdd (eV 0) (eC (.int 3)) (eC (.int 1))) (sSeq (sIf (NR.tAnd (tV (e2 pEq (e2 pIxN (eV 0) (eC (.int 2))) (eC (.int 0)))) (tV (e2 pLt (e2 pIxN (eV 0) (eC (.int 1))) (eN (n1 pLenN) (aC (e2 pIxN (eV 0) (eC (.int 0))) (aN)))))) (sSeq (sAsg (e2 pIxN (e2 pIxN (eV 0) (eC (.int 0))) (e2 pIxN (eV 0) (eC (.int 1)))) (gN 2)) (sSeq (sPutAugL pIAdd (eV 0) (eC (.int 1)) (eC (.int 1))) (sIf (tV (e2 pGe (eV 2) (e2 pPow (eC (.int 10)) (eC (.int 18))))) (sPutL (eV 0) (eC (.int 2)) (eV 2)) (sPutL (eV 0) (eC (.int 4)) (e2 pMod (e2 pAdd (e2 pMulN (e2 pIxN (eV 0) (eC (.int 4))) (eC (.int 31))) (eV 2)) (eC (.int 2147483647))))))) (sNil)) (sSeq (sIf (tV (e2 pGt (e2 pIxN (eV 0) (eC (.int 2))) (eC (.int 0)))) (sSeq (sAsg (e2 pMod (e2 pIxN (eV 0) (eC (.int 2))) (eV 1)) (gN 3)) (sSeq (sPutAugL pDiv (eV 0) (eC (.int 2)) (eV 1)) (sRet (eV 3)))) (sNil)) (sSeq (sAsg (e2 pMod (e2 pPow (e2 pAdd (e2 pAdd (e2 pIxN (eV 0) (eC (.int 4))) (eC (.int 1))) (e2 pMulN (e2 pIxN (eV 0) (eC (.int 3))) (eC (.int 7919)))) (eC (.int 3))) (eC (.int 2147483647))) (gN 3)) (sRet (e2 pMod (e2 pDiv (e2 pMod (e2 pPow (e2 pAdd (e2 pMulN (eV 3) (eC (.int 48271))) (e2 pIxN (eV 0) (eC (.int 3)))) (eC (.int 2))) (eC (.int 2147483629))) (eC (.int 64))) (eV 1))))))
def d_l_draw : Fn := mkF 2 4 b_l_draw
def b_l_signs : Stm := sSeq (sAsg (eC (.str [32, 33, 34, 35, 36, 38, 39, 40, 41, 42, 43, 44, 45, 46, 47, 48, 49, 50, 51, 52, 53, 54, 55, 56, 57, 58, 59, 60, 61, 62, 63, 64, 65, 66, 67, 68, 69, 70, 71, 72, 73, 74, 75, 76, 77, 78, 79, 80, 81, 82, 83, 84, 85, 86, 87, 88, 89, 90, 91, 92, 93, 94, 95, 96])) (gN 0)) (sRet (e2 pAdd (eV 0) (eC (.str [97, 98, 99, 100, 101, 102, 103, 104, 105, 106, 107, 108, 109, 110, 111, 112, 113, 114, 115, 116, 117, 118, 119, 120, 121, 122, 123, 124, 125, 126, 10]))))
def d_l_signs : Fn := mkF 0 1 b_l_signs
def b_l_tongue : Stm := sSeq (sAsg (eCall (gcF (d_l_signs)) aN) (gN 1)) (sSeq (sAsg (eC (.str [])) (gN 2)) (sSeq (sFor (wRange1 (aC (e2 pAdd (eC (.int 1)) (eCall (gcF (d_l_draw)) (aC (eV 0) (aC (eC (.int 6)) (aN))))) (aN))) (gN 3) (rg [1, 2] [3, 4] (sSeq (sAsg (eCall (gcF (d_l_draw)) (aC (eV 0) (aC (eN (n1 pLenN) (aC (eV 1) (aN))) (aN)))) (gN 4)) (sSeq (sAug 2 pIAdd (e2 pIxN (eV 1) (eV 4))) (sAsg (gc (e2 pAdd (eSl (eV 1) (oN) (oS (eV 4))) (eSl (eV 1) (oS (e2 pAdd (eV 4) (eC (.int 1)))) (oN)))) (gN 1)))))) (sRet (eV 2))))
def d_l_tongue : Fn := mkF 1 5 b_l_tongue
def b_l_rooms : Stm := sSeq (sAsg (eN pLst (aC (e1 pNeg (eC (.int 1))) (aN))) (gN 3)) (sSeq (sFor (wRange2 (aC (eC (.int 1)) (aC (eV 2) (aN)))) (gN 4) (rg [] [] (sEx (eM .list (m1 pAppend) (eV 3) (aC (eIf (tV (e2 pLt (eCall (gcF (d_l_draw)) (aC (eV 0) (aC (eC (.int 5)) (aN)))) (eC (.int 2)))) (eCall (gcF (d_l_draw)) (aC (eV 0) (aC (eC (.int 6)) (aN)))) (e1 pNeg (eC (.int 1)))) (aN)))))) (sSeq (sFz 3) (sSeq (sAsg (eCall (gcF (d_l_draw)) (aC (eV 0) (aC (eC (.int 3)) (aN)))) (gN 5)) (sSeq (sAsg (eN pLst (aN)) (gN 6)) (sSeq (sFor (wRange1 (aC (eV 2) (aN))) (gN 4) (rg [] [4, 7] (sSeq (sAsg (gc (eLc [8] (wS (eV 1)) (gN 8) (tT) (eCall (gcF (d_l_draw)) (aC (eV 0) (aC (eV 2) (aN)))))) (gN 7)) (sSeq (sIf (tV (e2 pGt (eV 5) (eC (.int 0)))) (sAsg (gc (eLc [9] (wS (eV 7)) (gN 9) (tT) (eIf (NR.tAnd (tV (e2 pLt (e2 pIxN (eV 3) (eV 9)) (eC (.int 0)))) (tV (e2 pLe (eV 9) (eV 4)))) (e2 pSub (eV 2) (eC (.int 1))) (eV 9)))) (gN 7)) (sNil)) (sSeq (sIf (NR.tAnd (tV (e2 pEq (eV 5) (eC (.int 1)))) (tV (e2 pEq (eV 4) (e2 pSub (eV 2) (eC (.int 1)))))) (sAsg (gc (eLc [9] (wS (eV 7)) (gN 9) (tT) (eV 4))) (gN 7)) (sNil)) (sEx (eM .list (m1 pAppend) (eV 6) (aC (eV 7) (aN))))))))) (sRet (eN pTup (aC (eV 6) (aC (eV 3) (aN))))))))))
def d_l_rooms : Fn := mkF 3 10 b_l_rooms
def b_l_table : Stm := sSeq (sAsg (eCall (gcF (d_l_tongue)) (aC (eV 0) (aN))) (gN 2)) (sSeq (sAsg (e2 pAdd (eC (.int 2)) (eCall (gcF (d_l_draw)) (aC (eV 0) (aC (eC (.int 7)) (aN))))) (gN 3)) (sSeq (sIf (tV (e2 pEq (eCall (gcF (d_l_draw)) (aC (eV 0) (aC (eC (.int 6)) (aN)))) (eC (.int 0)))) (sAsg (e2 pAdd (eC (.int 1)) (eCall (gcF (d_l_draw)) (aC (eV 0) (aC (eV 1) (aN))))) (gN 3)) (sNil)) (sSeq (sAsg (eCall (gcF (d_l_rooms)) (aC (eV 0) (aC (eV 2) (aC (eN (n2 pMin2) (aC (eV 3) (aC (eV 1) (aN)))) (aN))))) (gT [gN 4, gN 5])) (sSeq (sAsg (eN pLst (aC (eC (.int 0)) (aN))) (gN 6)) (sSeq (sAsg (eC (.int 0)) (gN 7)) (sSeq (sWhile (tV (e2 pLt (eV 7) (eN (n1 pLenN) (aC (eV 6) (aN))))) (rg [7, 8] [] (sSeq (sFor (wS (e2 pIxN (eV 4) (e2 pIxN (eV 6) (eV 7)))) (gN 8) (rg [] [] (sIf (tV (e2 pNotInN (eV 8) (eV 6))) (sEx (eM .list (m1 pAppend) (eV 6) (aC (eV 8) (aN)))) (sNil)))) (sAug 7 pIAdd (eC (.int 1)))))) (sSeq (sAsg (eN (n1 pSorted) (aC (eV 6) (aN))) (gN 6)) (sSeq (sFz 6) (sSeq (sAsg (gc (eN (n1 pTuple) (aC (gc (eLc [10] (wS (eV 6)) (gN 10) (tT) (gc (eN (n1 pTuple) (aC (gc (eLc [8] (wS (e2 pIxN (eV 4) (eV 10))) (gN 8) (tT) (eM .list (m1 pIndex) (eV 6) (aC (eV 8) (aN))))) (aN)))))) (aN)))) (gN 9)) (sRet (eN pTup (aC (eV 2) (aC (eV 9) (aC (eN (n1 pTuple) (aC (gc (eLc [10] (wS (eV 6)) (gN 10) (tT) (e2 pIxN (eV 5) (eV 10)))) (aN))) (aN)))))))))))))))
def d_l_table : Fn := mkF 2 11 b_l_table
def b_l_text : Stm := sSeq (sAsg (eCall (gcF (d_l_draw)) (aC (eV 0) (aC (eC (.int 25)) (aN)))) (gN 2)) (sSeq (sIf (tV (e2 pEq (eCall (gcF (d_l_draw)) (aC (eV 0) (aC (eC (.int 6)) (aN)))) (eC (.int 0)))) (sAsg (eCall (gcF (d_l_draw)) (aC (eV 0) (aC (eC (.int 241)) (aN)))) (gN 2)) (sNil)) (sRet (eM .str (m1 pJoin) (eC (.str [])) (aC (gc (eLc [3] (wRange1 (aC (eV 2) (aN))) (gN 3) (tT) (e2 pIxN (eV 1) (eCall (gcF (d_l_draw)) (aC (eV 0) (aC (eN (n1 pLenN) (aC (eV 1) (aN))) (aN))))))) (aN)))))
def d_l_text : Fn := mkF 2 4 b_l_text
def b_l_first : Stm := sSeq (sAsg (eC (.int 0)) (gN 3)) (sSeq (sAsg (eC .non) (gN 4)) (sSeq (sFor (wRange2 (aC (eV 2) (aC (eN (n1 pLenN) (aC (eV 1) (aN))) (aN)))) (gN 5) (rg [3, 4] [5] (sSeq (sAsg (e2 pIxN (e2 pIxN (e2 pIxN (eV 0) (eC (.int 1))) (eV 3)) (eM .str (m1 pFind) (e2 pIxN (eV 0) (eC (.int 0))) (aC (e2 pIxN (eV 1) (eV 5)) (aN)))) (gN 3)) (sIf (tV (e2 pGe (e2 pIxN (e2 pIxN (eV 0) (eC (.int 2))) (eV 3)) (eC (.int 0)))) (sAsg (eN pTup (aC (e2 pIxN (e2 pIxN (eV 0) (eC (.int 2))) (eV 3)) (aC (e2 pAdd (eV 5) (eC (.int 1))) (aN)))) (gN 4)) (sNil))))) (sRet (eV 4))))
def d_l_first : Fn := mkF 3 6 b_l_first
def b_l_cut : Stm := sSeq (sAsg (eN pLst (aN)) (gN 2)) (sSeq (sAsg (eC (.int 0)) (gN 3)) (sSeq (sAsg (eCall (gcF (d_l_first)) (aC (eV 0) (aC (eV 1) (aC (eV 3) (aN))))) (gN 4)) (sSeq (sWhile (tV (e1 pNotN (eV 4))) (rg [3, 4] [] (sSeq (sEx (eM .list (m1 pAppend) (eV 2) (aC (eN pTup (aC (e2 pIxN (eV 4) (eC (.int 0))) (aC (eV 3) (aC (e2 pIxN (eV 4) (eC (.int 1))) (aN))))) (aN)))) (sSeq (sAsg (e2 pIxN (eV 4) (eC (.int 1))) (gN 3)) (sAsg (eCall (gcF (d_l_first)) (aC (eV 0) (aC (eV 1) (aC (eV 3) (aN))))) (gN 4)))))) (sRet (eN pTup (aC (eV 2) (aC (eV 3) (aN))))))))
def d_l_cut : Fn := mkF 2 5 b_l_cut
def b_l_numbers : Stm := sSeq (sIf (NR.tOr (tNot (tV (e1 (pIsI .tuple) (eV 0)))) (tV (e2 pNe (eN (n1 pLenN) (aC (eV 0) (aN))) (eV 1)))) (sRet (eC (.bl false))) (sNil)) (sSeq (sFor (wS (eV 0)) (gN 2) (rg [] [2] (sIf (NR.tOr (tNot (tV (e1 (pIsI .int) (eV 2)))) (tV (e1 (pIsI .bool) (eV 2)))) (sRet (eC (.bl false))) (sNil)))) (sRet (eC (.bl true))))
def d_l_numbers : Fn := mkF 2 3 b_l_numbers
def b_l_piece_spoilt : Stm := sSeq (sAsg (eCall (gcF (d_l_draw)) (aC (eV 0) (aC (eC (.int 3)) (aN)))) (gN 3)) (sSeq (sIf (tV (e2 pEq (eV 2) (eC (.int 0)))) (sRet (e2 pAdd (e2 pAdd (eSl (eV 1) (oN) (oS (eV 3))) (eN pTup (aC (e2 pAdd (e2 pIxN (eV 1) (eV 3)) (eC (.int 1))) (aN)))) (eSl (eV 1) (oS (e2 pAdd (eV 3) (eC (.int 1)))) (oN)))) (sNil)) (sSeq (sIf (tV (e2 pEq (eV 2) (eC (.int 1)))) (sRet (e2 pAdd (e2 pAdd (eSl (eV 1) (oN) (oS (eV 3))) (eN pTup (aC (e2 pSub (e2 pIxN (eV 1) (eV 3)) (eC (.int 1))) (aN)))) (eSl (eV 1) (oS (e2 pAdd (eV 3) (eC (.int 1)))) (oN)))) (sNil)) (sSeq (sIf (tV (e2 pEq (eV 2) (eC (.int 2)))) (sRet (e2 pAdd (e2 pAdd (eSl (eV 1) (oN) (oS (eV 3))) (eN pTup (aC (e2 pEq (e2 pIxN (eV 1) (eV 3)) (eC (.int 1))) (aN)))) (eSl (eV 1) (oS (e2 pAdd (eV 3) (eC (.int 1)))) (oN)))) (sNil)) (sSeq (sIf (tV (e2 pEq (eV 2) (eC (.int 3)))) (sRet (e2 pAdd (e2 pAdd (eSl (eV 1) (oN) (oS (eV 3))) (eN pTup (aC (e2 pIxN (eN pTup (aC (eC .non) (aC (eN pLst (aC (e2 pIxN (eV 1) (eV 3)) (aN))) (aC (eDic0 false) (aN))))) (eCall (gcF (d_l_draw)) (aC (eV 0) (aC (eC (.int 3)) (aN))))) (aN)))) (eSl (eV 1) (oS (e2 pAdd (eV 3) (eC (.int 1)))) (oN)))) (sNil)) (sSeq (sIf (tV (e2 pEq (eV 2) (eC (.int 4)))) (sRet (e2 pAdd (eV 1) (eN pTup (aC (eC (.int 0)) (aN))))) (sNil)) (sSeq (sIf (tV (e2 pEq (eV 2) (eC (.int 5)))) (sRet (eLc [4] (wS (eV 1)) (gN 4) (tT) (eV 4))) (sNil)) (sRet (e2 pIxN (eN pTup (aC (eSl (eV 1) (oN) (oS (eC (.int 2)))) (aC (eC .non) (aC (eC (.int 7)) (aN))))) (eV 3)))))))))
def d_l_piece_spoilt : Fn := mkF 3 5 b_l_piece_spoilt
def b_l_pieces_spoilt : Stm := sSeq (sAsg (eN (n1 pList) (aC (eV 1) (aN))) (gN 3)) (sSeq (sAsg (eCall (gcF (d_l_draw)) (aC (eV 0) (aC (eN (n2 pMax2) (aC (eC (.int 1)) (aC (eN (n1 pLenN) (aC (eV 3) (aN))) (aN)))) (aN)))) (gN 4)) (sSeq (sIf (NR.tOr (tV (e2 pEq (eV 2) (eC (.int 12)))) (tV (gc (e2 pEq (eV 3) (eN pLst (aN)))))) (sRet (e2 pAdd (eV 3) (eN pLst (aC (eN pTup (aC (eC (.int 0)) (aC (eC (.int 0)) (aC (eC (.int 1)) (aN))))) (aN))))) (sNil)) (sSeq (sIf (tV (e2 pLt (eV 2) (eC (.int 7)))) (sPutL (eV 3) (eV 4) (eCall (gcF (d_l_piece_spoilt)) (aC (eV 0) (aC (e2 pIxN (eV 3) (eV 4)) (aC (eV 2) (aN)))))) (sIf (tV (e2 pEq (eV 2) (eC (.int 7)))) (sEx (eM .list (m1 pPopAt) (eV 3) (aC (eV 4) (aN)))) (sIf (tV (e2 pEq (eV 2) (eC (.int 8)))) (sEx (eM .list (m2 pInsert) (eV 3) (aC (eV 4) (aC (e2 pIxN (eV 3) (eV 4)) (aN))))) (sIf (tV (e2 pEq (eV 2) (eC (.int 9)))) (sSeq (sAsg (e2 pIxN (eV 3) (eV 4)) (gT [gN 5, gN 6, gN 7])) (sPutS (eV 3) (eV 4) (e2 pAdd (eV 4) (eC (.int 1))) (eN pLst (aC (eN pTup (aC (eV 5) (aC (eV 6) (aC (e2 pAdd (eV 6) (e2 pDiv (e2 pSub (eV 7) (eV 6)) (eC (.int 2)))) (aN))))) (aC (eN pTup (aC (eV 5) (aC (e2 pAdd (eV 6) (e2 pDiv (e2 pSub (eV 7) (eV 6)) (eC (.int 2)))) (aC (eV 7) (aN))))) (aN)))))) (sIf (NR.tAnd (tV (e2 pEq (eV 2) (eC (.int 10)))) (tV (e2 pLt (e2 pAdd (eV 4) (eC (.int 1))) (eN (n1 pLenN) (aC (eV 3) (aN)))))) (sPutS (eV 3) (eV 4) (e2 pAdd (eV 4) (eC (.int 2))) (eN pLst (aC (eN pTup (aC (e2 pIxN (e2 pIxN (eV 3) (eV 4)) (eC (.int 0))) (aC (e2 pIxN (e2 pIxN (eV 3) (eV 4)) (eC (.int 1))) (aC (e2 pIxN (e2 pIxN (eV 3) (e2 pAdd (eV 4) (eC (.int 1)))) (eC (.int 2))) (aN))))) (aN)))) (sIf (tV (e2 pEq (eV 2) (eC (.int 11)))) (sRet (eN (n1 pTuple) (aC (eV 3) (aN)))) (sNil))))))) (sRet (eV 3)))))
def d_l_pieces_spoilt : Fn := mkF 3 8 b_l_pieces_spoilt
def b_l_holds : Stm := sSeq (sIf (NR.tOr (tNot (tV (eCall (gcF (d_l_numbers)) (aC (eN pTup (aC (eV 1) (aN))) (aC (eC (.int 1)) (aN)))))) (tV (e2 pNe (eV 1) (e2 pIxN (eV 2) (eC (.int 1)))))) (sRet (eC (.bl false))) (sNil)) (sSeq (sIf (NR.tOr (tNot (tV (e1 (pIsI .list) (eV 0)))) (tV (e2 pNe (eN (n1 pLenN) (aC (eV 0) (aN))) (eN (n1 pLenN) (aC (e2 pIxN (eV 2) (eC (.int 0))) (aN)))))) (sRet (eC (.bl false))) (sNil)) (sSeq (sFor (wRange1 (aC (eN (n1 pLenN) (aC (eV 0) (aN))) (aN))) (gN 3) (rg [] [3] (sIf (NR.tOr (tNot (tV (eCall (gcF (d_l_numbers)) (aC (e2 pIxN (eV 0) (eV 3)) (aC (eC (.int 3)) (aN)))))) (tV (e2 pNe (e2 pIxN (eV 0) (eV 3)) (e2 pIxN (e2 pIxN (eV 2) (eC (.int 0))) (eV 3))))) (sRet (eC (.bl false))) (sNil)))) (sRet (eC (.bl true)))))
def d_l_holds : Fn := mkF 3 4 b_l_holds
def b_law : Stm := sSeq (sAsg (eCall (d_l_source) (aC (eV 0) (aN))) (gN 1)) (sSeq (sAsg (eCall (gcF (d_l_draw)) (aC (eV 1) (aC (eC (.int 20)) (aN)))) (gN 2)) (sSeq (sAsg (eCall (gcF (d_l_table)) (aC (eV 1) (aC (eC (.int 32)) (aN)))) (gN 3)) (sSeq (sAsg (eCall (gcF (d_l_text)) (aC (eV 1) (aC (e2 pIxN (eV 3) (eC (.int 0))) (aN)))) (gN 4)) (sSeq (sAsg (eCall (gcF (d_l_cut)) (aC (eV 3) (aC (eV 4) (aN)))) (gN 5)) (sSeq (sIf (tV (e1 (pNotB true) (eCall (gcF (d_cut_holds)) (aC (eV 3) (aC (eV 4) (aC (gc (eN (n1 pList) (aC (e2 pIxN (eV 5) (eC (.int 0))) (aN)))) (aC (e2 pIxN (eV 5) (eC (.int 1))) (aN)))))))) (sRet (eC (.bl false))) (sNil)) (sSeq (sAsg (gc (eN (n1 pList) (aC (e2 pIxN (eV 5) (eC (.int 0))) (aN)))) (gN 6)) (sSeq (sAsg (e2 pIxN (eV 5) (eC (.int 1))) (gN 7)) (sSeq (sIf (tV (e2 pLt (eV 2) (eC (.int 13)))) (sAsg (eCall (gcF (d_l_pieces_spoilt)) (aC (eV 1) (aC (eV 6) (aC (eV 2) (aN))))) (gN 6)) (sIf (tV (e2 pLt (eV 2) (eC (.int 18)))) (sAsg (e2 pIxN (eN pTup (aC (e2 pAdd (eV 7) (eC (.int 1))) (aC (e2 pSub (eV 7) (eC (.int 1))) (aC (eC .non) (aC (e2 pEq (eV 7) (eC (.int 1))) (aC (eC (.str [48])) (aN))))))) (e2 pSub (eV 2) (eC (.int 13)))) (gN 7)) (sIf (tV (e2 pEq (eV 2) (eC (.int 18)))) (sAsg (gc (e2 pIxN (eN pTup (aC (eC .non) (aC (eDic0 false) (aC (eC (.str [])) (aN))))) (eCall (gcF (d_l_draw)) (aC (eV 1) (aC (eC (.int 3)) (aN)))))) (gN 6)) (sNil)))) (sSeq (sAsg (gc (eIf (tV (e1 (pIsI .list) (eV 6))) (eN (n1 pList) (aC (eV 6) (aN))) (eV 6))) (gN 8)) (sSeq (sAsg (eCall (gcF (d_l_holds)) (aC (eV 6) (aC (eV 7) (aC (eV 5) (aN))))) (gN 9)) (sSeq (sIf (NR.tOr (tNot (tV (eCall (gcF (d_l_said)) (aC (eCall (gcF (d_cut_holds)) (aC (eV 3) (aC (eV 4) (aC (eV 6) (aC (eV 7) (aN)))))) (aC (eV 9) (aN)))))) (tV (e2 pNeL (eV 6) (eV 8)))) (sRet (eC (.bl false))) (sNil)) (sRet (e1 (pIsB true) (eCall (gcF (d_cut_holds)) (aC (eV 3) (aC (eV 4) (aC (gc (eN (n1 pList) (aC (e2 pIxN (eV 5) (eC (.int 0))) (aN)))) (aC (e2 pIxN (eV 5) (eC (.int 1))) (aN)))))))))))))))))))
def d_law : Fn := mkF 1 10 b_law
end NR.K36

set_option linter.all false
set_option Elab.async false
set_option maxRecDepth 100000
namespace NR.K36
open PySem PySem.Spec PyProof.Rows L2 NR
def top (i : Nat) : Stmt := PySem.Challenge.pw_nearreach_k36_cuts_looked_at.main.body.getD i (.Pass ⟨0, 0, 0, 0⟩)
/-- what is known of the module -/
structure Kn' (mg : Str → Option Value) : Prop where
  b_abs : mg "abs" = none
  b_all : mg "all" = none
  b_bool : mg "bool" = none
  b_int : mg "int" = none
  b_isinstance : mg "isinstance" = none
  b_len : mg "len" = none
  b_list : mg "list" = none
  b_max : mg "max" = none
  b_min : mg "min" = none
  b_range : mg "range" = none
  b_sorted : mg "sorted" = none
  b_str : mg "str" = none
  b_sum : mg "sum" = none
  b_tuple : mg "tuple" = none
theorem sc_is_number : FnScope ["thing"] ["thing"] (defScope (top 4)) := ⟨rfl, rfl, rfl, by decide +kernel, rfl, by decide +kernel, by decide +kernel⟩
theorem sc_is_numbers : FnScope ["thing", "one"] ["thing"] (defScope (top 5)) := ⟨rfl, rfl, rfl, by decide +kernel, rfl, by decide +kernel, by decide +kernel⟩
theorem sc_is_text : FnScope ["tongue", "thing", "sign"] ["tongue", "thing"] (defScope (top 7)) := ⟨rfl, rfl, rfl, by decide +kernel, rfl, by decide +kernel, by decide +kernel⟩
theorem sc_longest : FnScope ["table", "text", "at", "tongue", "goes", "kinds", "room", "found", "place"] ["table", "text", "at"] (defScope (top 9)) := ⟨rfl, rfl, rfl, by decide +kernel, rfl, by decide +kernel, by decide +kernel⟩
theorem sc_cut : FnScope ["table", "text", "pieces", "place", "found"] ["table", "text"] (defScope (top 10)) := ⟨rfl, rfl, rfl, by decide +kernel, rfl, by decide +kernel, by decide +kernel⟩
theorem sc_cut_holds : FnScope ["table", "text", "pieces", "place", "due", "end", "k"] ["table", "text", "pieces", "place"] (defScope (top 11)) := ⟨rfl, rfl, rfl, by decide +kernel, rfl, by decide +kernel, by decide +kernel⟩
theorem sc_l_said : FnScope ["_law_found", "_law_wanted"] ["_law_found", "_law_wanted"] (defScope (top 13)) := ⟨rfl, rfl, rfl, by decide +kernel, rfl, by decide +kernel, by decide +kernel⟩
theorem sc_l_source : FnScope ["_law_script", "_law_cells", "_law_cell"] ["_law_script"] (defScope (top 14)) := ⟨rfl, rfl, rfl, by decide +kernel, rfl, by decide +kernel, by decide +kernel⟩
theorem sc_l_draw : FnScope ["_law_left", "_law_many", "_law_cell", "_law_told"] ["_law_left", "_law_many"] (defScope (top 15)) := ⟨rfl, rfl, rfl, by decide +kernel, rfl, by decide +kernel, by decide +kernel⟩
theorem sc_l_signs : FnScope ["_law_some"] [] (defScope (top 16)) := ⟨rfl, rfl, rfl, by decide +kernel, rfl, by decide +kernel, by decide +kernel⟩
theorem sc_l_tongue : FnScope ["_law_left", "_law_rest", "_law_told", "_law_k", "_law_at"] ["_law_left"] (defScope (top 17)) := ⟨rfl, rfl, rfl, by decide +kernel, rfl, by decide +kernel, by decide +kernel⟩
theorem sc_l_rooms : FnScope ["_law_left", "_law_tongue_here", "_law_many", "_law_kinds", "_law_room", "_law_manner", "_law_goes", "_law_row", "_law_sign", "_law_to"] ["_law_left", "_law_tongue_here", "_law_many"] (defScope (top 18)) := ⟨rfl, rfl, rfl, by decide +kernel, rfl, by decide +kernel, by decide +kernel⟩
theorem sc_l_table : FnScope ["_law_left", "_law_most", "_law_tongue_here", "_law_many", "_law_goes", "_law_kinds", "_law_met", "_law_at", "_law_to", "_law_rows", "_law_room"] ["_law_left", "_law_most"] (defScope (top 19)) := ⟨rfl, rfl, rfl, by decide +kernel, rfl, by decide +kernel, by decide +kernel⟩
theorem sc_l_text : FnScope ["_law_left", "_law_tongue_here", "_law_many", "_law_k"] ["_law_left", "_law_tongue_here"] (defScope (top 20)) := ⟨rfl, rfl, rfl, by decide +kernel, rfl, by decide +kernel, by decide +kernel⟩
theorem sc_l_first : FnScope ["_law_table_here", "_law_text_here", "_law_at", "_law_room", "_law_due", "_law_place"] ["_law_table_here", "_law_text_here", "_law_at"] (defScope (top 21)) := ⟨rfl, rfl, rfl, by decide +kernel, rfl, by decide +kernel, by decide +kernel⟩
theorem sc_l_cut : FnScope ["_law_table_here", "_law_text_here", "_law_told", "_law_place", "_law_found"] ["_law_table_here", "_law_text_here"] (defScope (top 22)) := ⟨rfl, rfl, rfl, by decide +kernel, rfl, by decide +kernel, by decide +kernel⟩
theorem sc_l_numbers : FnScope ["_law_found", "_law_many", "_law_one"] ["_law_found", "_law_many"] (defScope (top 23)) := ⟨rfl, rfl, rfl, by decide +kernel, rfl, by decide +kernel, by decide +kernel⟩
theorem sc_l_piece_spoilt : FnScope ["_law_left", "_law_piece", "_law_which", "_law_at", "_law_part"] ["_law_left", "_law_piece", "_law_which"] (defScope (top 24)) := ⟨rfl, rfl, rfl, by decide +kernel, rfl, by decide +kernel, by decide +kernel⟩
theorem sc_l_pieces_spoilt : FnScope ["_law_left", "_law_pieces", "_law_which", "_law_told", "_law_at", "_law_kind", "_law_start", "_law_end"] ["_law_left", "_law_pieces", "_law_which"] (defScope (top 25)) := ⟨rfl, rfl, rfl, by decide +kernel, rfl, by decide +kernel, by decide +kernel⟩
theorem sc_l_holds : FnScope ["_law_pieces", "_law_place", "_law_due", "_law_k"] ["_law_pieces", "_law_place", "_law_due"] (defScope (top 26)) := ⟨rfl, rfl, rfl, by decide +kernel, rfl, by decide +kernel, by decide +kernel⟩
theorem sc_law : FnScope ["_law_script", "_law_left", "_law_which", "_law_table_here", "_law_text_here", "_law_due", "_law_pieces", "_law_place", "_law_kept", "_law_wanted"] ["_law_script"] (defScope (top 27)) := ⟨rfl, rfl, rfl, by decide +kernel, rfl, by decide +kernel, by decide +kernel⟩
theorem ok_is_number {P : Program} {w : World} {K : PySem.W.Frag} {mg : Str → Option Value} {base : Heap} {ca : Nat → Addr} {fa : Addr} {fd : FuncData} (F : FunD K "is_number" "is_number" (defArgs (top 4)) (defBody (top 4)) (defScope (top 4)) [] [] fa fd)
    (C : Kn' mg) : FnOk P w K mg base CX0 1 fa fd ["thing"] (SpD ca K d_is_number) :=
  def_ok F sc_is_number rfl rfl (by decide) fun cdv A outer s0 H E hr => by
    have hu := room65 hr
    exact r_last (r_ret (r_and (r_isI (u := .int) (by decide) (by rfl) C.b_isinstance (r_v 0) (pe_bltn (by rfl) C.b_int (by decide +kernel) rfl)) (r_one (r_not (r_isI (u := .bool) (by decide) (by rfl) C.b_isinstance (r_v 0) (pe_bltn (by rfl) C.b_bool (by decide +kernel) rfl))))))
theorem ok_is_numbers {P : Program} {w : World} {K : PySem.W.Frag} {mg : Str → Option Value} {base : Heap} {ca : Nat → Addr} {fa : Addr} {fd : FuncData} (F : FunD K "is_numbers" "is_numbers" (defArgs (top 5)) (defBody (top 5)) (defScope (top 5)) [] [] fa fd)
    (C : Kn' mg) (f_is_number : ∃ fa fd ps, FnOk P w K mg base CX0 1 fa fd ps (SpD ca K (d_is_number)) ∧ mg "is_number" = some (.ref fa) ∧ PySem.W.keepIn K (.ref fa) = true ∧ Binds K fd ps []) : FnOk P w K mg base CX0 2 fa fd ["thing"] (SpD ca K d_is_numbers) :=
  def_ok F sc_is_numbers rfl rfl (by decide) fun cdv A outer s0 H E hr => by
    have hu := room65 hr
    exact r_seq (r_ifS (r_tnot (r_tV (r_isI (u := .tuple) (by decide) (by rfl) C.b_isinstance (r_v 0) (pe_bltn (by rfl) C.b_tuple (by decide +kernel) rfl)))) (r_last (r_ret (r_bl))) (r_nil)) (r_seq (r_for PassesOwn.never rfl (w_S (r_v 0)) (r_gN (i := 1) sc_is_numbers.nd) (r_rg (r_last (r_ifS (r_tnot (r_tV (r_call ((Df.mk f_is_number)).gc (hr.mono (by decide)) (by rfl) (r_aC (r_v 1) (r_aN))))) (r_last (r_ret (r_bl))) (r_nil))))) (r_last (r_ret (r_bl))))
theorem ok_is_text {P : Program} {w : World} {K : PySem.W.Frag} {mg : Str → Option Value} {base : Heap} {ca : Nat → Addr} {fa : Addr} {fd : FuncData} (F : FunD K "is_text" "is_text" (defArgs (top 7)) (defBody (top 7)) (defScope (top 7)) [] [] fa fd)
    (C : Kn' mg) : FnOk P w K mg base CX0 1 fa fd ["tongue", "thing"] (SpD ca K d_is_text) :=
  def_ok F sc_is_text rfl rfl (by decide) fun cdv A outer s0 H E hr => by
    have hu := room65 hr
    exact r_last (r_ret (r_and (r_isI (u := .str) (by decide) (by rfl) C.b_isinstance (r_v 1) (pe_bltn (by rfl) C.b_str (by decide +kernel) rfl)) (r_one (r_B (cr_all rfl) pr_all (by rfl) C.b_all (by decide +kernel) (r_aC (r_gc (r_lc (own := [("sign", 2)]) rfl sc_is_text.nd (w_S (r_v 1)) (blkOk_by (by rfl)) (fun _ _ _ _ _ => r_gN (i := 2) sc_is_text.nd) (fun _ _ _ _ _ => r_t0) (fun _ _ _ _ _ => r_cmp (op_inA hu) pr_in (r_v 2) (r_v 0) rfl))) (r_aN))))))
theorem ok_longest {P : Program} {w : World} {K : PySem.W.Frag} {mg : Str → Option Value} {base : Heap} {ca : Nat → Addr} {fa : Addr} {fd : FuncData} (F : FunD K "longest" "longest" (defArgs (top 9)) (defBody (top 9)) (defScope (top 9)) [] [] fa fd)
    (C : Kn' mg) : FnOk P w K mg base CX0 1 fa fd ["table", "text", "at"] (SpD ca K d_longest) :=
  def_ok F sc_longest rfl rfl (by decide) fun cdv A outer s0 H E hr => by
    have hu := room65 hr
    exact r_seq (r_asg (r_v 0) (r_gT rfl (r_gsC (r_gN (i := 3) sc_longest.nd) (r_gsC (r_gN (i := 4) sc_longest.nd) (r_gsC (r_gN (i := 5) sc_longest.nd) (r_gs0)))))) (r_seq (r_set (i := 6) sc_longest.nd (r_int)) (r_seq (r_set (i := 7) sc_longest.nd (r_non)) (r_seq (r_for PassesOwn.never rfl (w_range2 (by rfl) C.b_range (r_aC (r_v 2) (r_aC (r_B call_len pr_len0 (by rfl) C.b_len (by decide +kernel) (r_aC (r_v 1) (r_aN))) (r_aN)))) (r_gN (i := 8) sc_longest.nd) (r_rg (r_seq (r_set (i := 6) sc_longest.nd (r_ix (r_ix (r_v 4) (r_v 6) (fun _ _ => rfl)) (r_M (T := .str) PySem.F.plainAttrs_str PySem.F.slot_str_find PySem.F.type_str_find mt_find pr_find (r_v 3) (r_aC (r_ix (r_v 1) (r_v 8) (fun _ _ => rfl)) (r_aN))) (fun _ _ => rfl))) (r_last (r_ifS (r_tcmp op_ge pr_ge (r_ix (r_v 5) (r_v 6) (fun _ _ => rfl)) (r_int) (nomark _)) (r_last (r_set (i := 7) sc_longest.nd (r_tup (r_aC (r_ix (r_v 5) (r_v 6) (fun _ _ => rfl)) (r_aC (r_op op_add4 pr_add (r_v 8) (r_int)) (r_aN)))))) (r_nil)))))) (r_last (r_ret (r_v 7))))))
theorem ok_cut {P : Program} {w : World} {K : PySem.W.Frag} {mg : Str → Option Value} {base : Heap} {ca : Nat → Addr} {fa : Addr} {fd : FuncData} (F : FunD K "cut" "cut" (defArgs (top 10)) (defBody (top 10)) (defScope (top 10)) [] [] fa fd)
    (C : Kn' mg) (f_is_text : ∃ fa fd ps, FnOk P w K mg base CX0 1 fa fd ps (SpD ca K (d_is_text)) ∧ mg "is_text" = some (.ref fa) ∧ PySem.W.keepIn K (.ref fa) = true ∧ Binds K fd ps []) (f_longest : ∃ fa fd ps, FnOk P w K mg base CX0 1 fa fd ps (SpD ca K (d_longest)) ∧ mg "longest" = some (.ref fa) ∧ PySem.W.keepIn K (.ref fa) = true ∧ Binds K fd ps []) : FnOk P w K mg base CX0 2 fa fd ["table", "text"] (SpD ca K d_cut) :=
  def_ok F sc_cut rfl rfl (by decide) fun cdv A outer s0 H E hr => by
    have hu := room65 hr
    exact r_seq (r_ifS (r_tnot (r_tV (r_call ((Df.mk f_is_text)).gc (hr.mono (by decide)) (by rfl) (r_aC (r_ix (r_v 0) (r_int) (fun _ _ => rfl)) (r_aC (r_v 1) (r_aN)))))) (r_last (r_no)) (r_nil)) (r_seq (r_set (i := 2) sc_cut.nd (r_lst (r_aN))) (r_seq (r_set (i := 3) sc_cut.nd (r_int)) (r_seq (r_while PassesOwn.never (r_tcmp op_lt pr_lt (r_v 3) (r_B call_len pr_len0 (by rfl) C.b_len (by decide +kernel) (r_aC (r_v 1) (r_aN))) (nomark _)) (r_rg (r_seq (r_set (i := 4) sc_cut.nd (r_call ((Df.mk f_longest)).gc (hr.mono (by decide)) (by rfl) (r_aC (r_v 0) (r_aC (r_v 1) (r_aC (r_v 3) (r_aN)))))) (r_seq (r_ifS (r_tisN (r_v 4)) (r_last (r_ret (r_tup (r_aC (r_v 2) (r_aC (r_v 3) (r_aN)))))) (r_nil)) (r_seq (r_ex (r_M (T := .list) PySem.F.plainAttrs_list PySem.F.slot_list_append PySem.F.type_list_append mt_append pr_append (r_v 2) (r_aC (r_tup (r_aC (r_ix (r_v 4) (r_int) (fun _ _ => rfl)) (r_aC (r_v 3) (r_aC (r_ix (r_v 4) (r_int) (fun _ _ => rfl)) (r_aN))))) (r_aN)))) (r_last (r_set (i := 3) sc_cut.nd (r_ix (r_v 4) (r_int) (fun _ _ => rfl))))))))) (r_last (r_ret (r_tup (r_aC (r_v 2) (r_aC (r_v 3) (r_aN)))))))))
theorem ok_cut_holds {P : Program} {w : World} {K : PySem.W.Frag} {mg : Str → Option Value} {base : Heap} {ca : Nat → Addr} {fa : Addr} {fd : FuncData} (F : FunD K "cut_holds" "cut_holds" (defArgs (top 11)) (defBody (top 11)) (defScope (top 11)) [] [] fa fd)
    (C : Kn' mg) (f_cut : ∃ fa fd ps, FnOk P w K mg base CX0 2 fa fd ps (SpD ca K (d_cut)) ∧ mg "cut" = some (.ref fa) ∧ PySem.W.keepIn K (.ref fa) = true ∧ Binds K fd ps []) (f_is_number : ∃ fa fd ps, FnOk P w K mg base CX0 1 fa fd ps (SpD ca K (d_is_number)) ∧ mg "is_number" = some (.ref fa) ∧ PySem.W.keepIn K (.ref fa) = true ∧ Binds K fd ps []) (f_is_numbers : ∃ fa fd ps, FnOk P w K mg base CX0 2 fa fd ps (SpD ca K (d_is_numbers)) ∧ mg "is_numbers" = some (.ref fa) ∧ PySem.W.keepIn K (.ref fa) = true ∧ Binds K fd ps []) : FnOk P w K mg base CX0 3 fa fd ["table", "text", "pieces", "place"] (SpD ca K d_cut_holds) :=
  def_ok F sc_cut_holds rfl rfl (by decide) fun cdv A outer s0 H E hr => by
    have hu := room65 hr
    exact r_seq (r_asg (r_call ((Df.mk f_cut)).gc (hr.mono (by decide)) (by rfl) (r_aC (r_v 0) (r_aC (r_v 1) (r_aN)))) (r_gT rfl (r_gsC (r_gN (i := 4) sc_cut_holds.nd) (r_gsC (r_gN (i := 5) sc_cut_holds.nd) (r_gs0))))) (r_seq (r_ifS (PW.pt (r_wor (r_tnot (r_tV (r_call ((Df.mk f_is_number)).gc (hr.mono (by decide)) (by rfl) (r_aC (r_v 3) (r_aN))))) (r_wor1 (r_tcmp (op_neA (hu64 hu)) pr_ne (r_v 3) (r_v 5) (nomark _))))) (r_last (r_ret (r_bl))) (r_nil)) (r_seq (r_ifS (PW.pt (r_wor (r_tnot (r_tV (r_isI (u := .list) (by decide) (by rfl) C.b_isinstance (r_v 2) (pe_bltn (by rfl) C.b_list (by decide +kernel) rfl)))) (r_wor1 (r_tcmp (op_neA (hu64 hu)) pr_ne (r_B call_len pr_len0 (by rfl) C.b_len (by decide +kernel) (r_aC (r_v 2) (r_aN))) (r_B call_len pr_len0 (by rfl) C.b_len (by decide +kernel) (r_aC (r_v 4) (r_aN))) (nomark _))))) (r_last (r_ret (r_bl))) (r_nil)) (r_seq (r_for PassesOwn.never rfl (w_range1 (by rfl) C.b_range (r_aC (r_B call_len pr_len0 (by rfl) C.b_len (by decide +kernel) (r_aC (r_v 4) (r_aN))) (r_aN))) (r_gN (i := 6) sc_cut_holds.nd) (r_rg (r_last (r_ifS (PW.pt (r_wor (r_tnot (r_tV (r_call ((Df.mk f_is_numbers)).gc (hr.mono (by decide)) (by rfl) (r_aC (r_ix (r_v 2) (r_v 6) (fun _ _ => rfl)) (r_aN))))) (r_wor1 (r_tcmp (op_neA (hu64 hu)) pr_ne (r_ix (r_v 2) (r_v 6) (fun _ _ => rfl)) (r_ix (r_v 4) (r_v 6) (fun _ _ => rfl)) (nomark _))))) (r_last (r_ret (r_bl))) (r_nil))))) (r_last (r_ret (r_bl))))))
theorem ok_l_said {P : Program} {w : World} {K : PySem.W.Frag} {mg : Str → Option Value} {base : Heap} {ca : Nat → Addr} {fa : Addr} {fd : FuncData} (F : FunD K "_law_said" "_law_said" (defArgs (top 13)) (defBody (top 13)) (defScope (top 13)) [] [] fa fd)
    (C : Kn' mg) : FnOk P w K mg base CX0 1 fa fd ["_law_found", "_law_wanted"] (SpD ca K d_l_said) :=
  def_ok F sc_l_said rfl rfl (by decide) fun cdv A outer s0 H E hr => by
    have hu := room65 hr
    exact r_seq (r_ifS (r_tV (r_v 1)) (r_last (r_ret (r_isB (r_v 0)))) (r_nil)) (r_last (r_ret (r_isB (r_v 0))))
theorem ok_l_source {P : Program} {w : World} {K : PySem.W.Frag} {mg : Str → Option Value} {base : Heap} {ca : Nat → Addr} {fa : Addr} {fd : FuncData} (F : FunD K "_law_source" "_law_source" (defArgs (top 14)) (defBody (top 14)) (defScope (top 14)) [] [] fa fd)
    (C : Kn' mg) : FnOk P w K mg base CX0 1 fa fd ["_law_script"] (SpD ca K d_l_source) :=
  def_ok F sc_l_source rfl rfl (by decide) fun cdv A outer s0 H E hr => by
    have hu := room65 hr
    exact r_seq (r_setLcG (i := 1) (own := [("_law_cell", 2)]) rfl sc_l_source.nd rfl rfl (sw_true rfl rfl rfl (by rfl)) (w_S (r_gc (r_sl (r_v 0) (r_oN) (r_oS (r_int))))) (blkOk_by (by rfl)) (fun _ _ _ _ _ => r_gN (i := 2) sc_l_source.nd) (fun _ _ _ _ _ => r_t0) (fun _ _ _ _ _ => r_op op_add4 pr_add (r_op op_mul4 pr_mul (r_int) (r_B call_abs pr_abs (by rfl) C.b_abs (by decide +kernel) (r_aC (r_v 2) (r_aN)))) (r_Ty call_int1 pr_int (by rfl) C.b_int (by decide +kernel) (r_aC (r_cmp op_lt pr_lt (r_v 2) (r_int) (nomark _)) (r_aN))))) (r_last (r_ret (r_lst (r_aC (r_v 1) (r_aC (r_int) (r_aC (r_int) (r_aC (r_int) (r_aC (r_op op_mod pr_mod (r_B (cr_sum rfl) pr_sum (by rfl) C.b_sum (by decide +kernel) (r_aC (r_v 1) (r_aN))) (r_int)) (r_aN)))))))))
theorem ok_l_draw {P : Program} {w : World} {K : PySem.W.Frag} {mg : Str → Option Value} {base : Heap} {ca : Nat → Addr} {fa : Addr} {fd : FuncData} (F : FunD K "_law_draw" "_law_draw" (defArgs (top 15)) (defBody (top 15)) (defScope (top 15)) [] [] fa fd)
    (C : Kn' mg) : FnOk P w K mg base CX0 1 fa fd ["_law_left", "_law_many"] (SpD ca K d_l_draw) :=
  def_ok F sc_l_draw rfl rfl (by decide) fun cdv A outer s0 H E hr => by
    have hu := room65 hr
    exact r_seq (r_putAugL iop_add3 pr_iadd (r_v 0) (r_int) (r_int)) (r_seq (r_ifS (PW.pt (r_wand (r_tcmp (op_eqA (hu64 hu)) pr_eq (r_ix (r_v 0) (r_int) (fun _ _ => rfl)) (r_int) (nomark _)) (r_wand1 (r_tcmp op_lt pr_lt (r_ix (r_v 0) (r_int) (fun _ _ => rfl)) (r_B call_len pr_len0 (by rfl) C.b_len (by decide +kernel) (r_aC (r_ix (r_v 0) (r_int) (fun _ _ => rfl)) (r_aN))) (nomark _))))) (r_seq (r_set (i := 2) sc_l_draw.nd (r_ix (r_ix (r_v 0) (r_int) (fun _ _ => rfl)) (r_ix (r_v 0) (r_int) (fun _ _ => rfl)) (fun _ _ => rfl))) (r_seq (r_putAugL iop_add3 pr_iadd (r_v 0) (r_int) (r_int)) (r_last (r_ifS (r_tcmp op_ge pr_ge (r_v 2) (r_op op_pow pr_pow (r_int) (r_int)) (nomark _)) (r_last (r_putL (r_v 2) (r_v 0) (r_int))) (r_last (r_putL (r_op op_mod pr_mod (r_op op_add4 pr_add (r_op op_mul4 pr_mul (r_ix (r_v 0) (r_int) (fun _ _ => rfl)) (r_int)) (r_v 2)) (r_int)) (r_v 0) (r_int))))))) (r_nil)) (r_seq (r_ifS (r_tcmp op_gt pr_gt (r_ix (r_v 0) (r_int) (fun _ _ => rfl)) (r_int) (nomark _)) (r_seq (r_set (i := 3) sc_l_draw.nd (r_op op_mod pr_mod (r_ix (r_v 0) (r_int) (fun _ _ => rfl)) (r_v 1))) (r_seq (r_putAugL iop_fdiv pr_div (r_v 0) (r_int) (r_v 1)) (r_last (r_ret (r_v 3))))) (r_nil)) (r_seq (r_set (i := 3) sc_l_draw.nd (r_op op_mod pr_mod (r_op op_pow pr_pow (r_op op_add4 pr_add (r_op op_add4 pr_add (r_ix (r_v 0) (r_int) (fun _ _ => rfl)) (r_int)) (r_op op_mul4 pr_mul (r_ix (r_v 0) (r_int) (fun _ _ => rfl)) (r_int))) (r_int)) (r_int))) (r_last (r_ret (r_op op_mod pr_mod (r_op op_fdiv pr_div (r_op op_mod pr_mod (r_op op_pow pr_pow (r_op op_add4 pr_add (r_op op_mul4 pr_mul (r_v 3) (r_int)) (r_ix (r_v 0) (r_int) (fun _ _ => rfl))) (r_int)) (r_int)) (r_int)) (r_v 1)))))))
theorem ok_l_signs {P : Program} {w : World} {K : PySem.W.Frag} {mg : Str → Option Value} {base : Heap} {ca : Nat → Addr} {fa : Addr} {fd : FuncData} (F : FunD K "_law_signs" "_law_signs" (defArgs (top 16)) (defBody (top 16)) (defScope (top 16)) [] [] fa fd)
    (C : Kn' mg) : FnOk P w K mg base CX0 1 fa fd [] (SpD ca K d_l_signs) :=
  def_ok F sc_l_signs rfl rfl (by decide) fun cdv A outer s0 H E hr => by
    have hu := room65 hr
    exact r_seq (r_set (i := 0) sc_l_signs.nd (r_str (by decide +kernel))) (r_last (r_ret (r_op op_add4 pr_add (r_v 0) (r_str (by decide +kernel)))))
theorem ok_l_tongue {P : Program} {w : World} {K : PySem.W.Frag} {mg : Str → Option Value} {base : Heap} {ca : Nat → Addr} {fa : Addr} {fd : FuncData} (F : FunD K "_law_tongue" "_law_tongue" (defArgs (top 17)) (defBody (top 17)) (defScope (top 17)) [] [] fa fd)
    (C : Kn' mg) (f_l_signs : ∃ fa fd ps, FnOk P w K mg base CX0 1 fa fd ps (SpD ca K (d_l_signs)) ∧ mg "_law_signs" = some (.ref fa) ∧ PySem.W.keepIn K (.ref fa) = true ∧ Binds K fd ps []) (f_l_draw : ∃ fa fd ps, FnOk P w K mg base CX0 1 fa fd ps (SpD ca K (d_l_draw)) ∧ mg "_law_draw" = some (.ref fa) ∧ PySem.W.keepIn K (.ref fa) = true ∧ Binds K fd ps []) : FnOk P w K mg base CX0 2 fa fd ["_law_left"] (SpD ca K d_l_tongue) :=
  def_ok F sc_l_tongue rfl rfl (by decide) fun cdv A outer s0 H E hr => by
    have hu := room65 hr
    exact r_seq (r_set (i := 1) sc_l_tongue.nd (r_call0 ((Df.mk f_l_signs)).gc (hr.mono (by decide)) (by rfl))) (r_seq (r_set (i := 2) sc_l_tongue.nd (r_str (by decide +kernel))) (r_seq (r_for PassesOwn.never rfl (w_range1 (by rfl) C.b_range (r_aC (r_op op_add4 pr_add (r_int) (r_call ((Df.mk f_l_draw)).gc (hr.mono (by decide)) (by rfl) (r_aC (r_v 0) (r_aC (r_int) (r_aN))))) (r_aN))) (r_gN (i := 3) sc_l_tongue.nd) (r_rg (r_seq (r_set (i := 4) sc_l_tongue.nd (r_call ((Df.mk f_l_draw)).gc (hr.mono (by decide)) (by rfl) (r_aC (r_v 0) (r_aC (r_B call_len pr_len0 (by rfl) C.b_len (by decide +kernel) (r_aC (r_v 1) (r_aN))) (r_aN))))) (r_seq (r_aug (i := 2) sc_l_tongue.nd iop_add3 pr_iadd (r_ix (r_v 1) (r_v 4) (fun _ _ => rfl))) (r_last (r_set (i := 1) sc_l_tongue.nd (r_gc (r_op op_add4 pr_add (r_sl (r_v 1) (r_oN) (r_oS (r_v 4))) (r_sl (r_v 1) (r_oS (r_op op_add4 pr_add (r_v 4) (r_int))) (r_oN)))))))))) (r_last (r_ret (r_v 2)))))
theorem ok_l_rooms {P : Program} {w : World} {K : PySem.W.Frag} {mg : Str → Option Value} {base : Heap} {ca : Nat → Addr} {fa : Addr} {fd : FuncData} (F : FunD K "_law_rooms" "_law_rooms" (defArgs (top 18)) (defBody (top 18)) (defScope (top 18)) [] [] fa fd)
    (C : Kn' mg) (f_l_draw : ∃ fa fd ps, FnOk P w K mg base CX0 1 fa fd ps (SpD ca K (d_l_draw)) ∧ mg "_law_draw" = some (.ref fa) ∧ PySem.W.keepIn K (.ref fa) = true ∧ Binds K fd ps []) : FnOk P w K mg base CX0 2 fa fd ["_law_left", "_law_tongue_here", "_law_many"] (SpD ca K d_l_rooms) :=
  def_ok F sc_l_rooms rfl rfl (by decide) fun cdv A outer s0 H E hr => by
    have hu := room65 hr
    exact r_seq (r_set (i := 3) sc_l_rooms.nd (r_lst (r_aC (r_neg (r_int)) (r_aN)))) (r_seq (r_for PassesOwn.never rfl (w_range2 (by rfl) C.b_range (r_aC (r_int) (r_aC (r_v 2) (r_aN)))) (r_gN (i := 4) sc_l_rooms.nd) (r_rg (r_last (r_ex (r_M (T := .list) PySem.F.plainAttrs_list PySem.F.slot_list_append PySem.F.type_list_append mt_append pr_append (r_v 3) (r_aC (r_if (r_tcmp op_lt pr_lt (r_call ((Df.mk f_l_draw)).gc (hr.mono (by decide)) (by rfl) (r_aC (r_v 0) (r_aC (r_int) (r_aN)))) (r_int) (nomark _)) (r_call ((Df.mk f_l_draw)).gc (hr.mono (by decide)) (by rfl) (r_aC (r_v 0) (r_aC (r_int) (r_aN)))) (r_neg (r_int))) (r_aN))))))) (r_fz (r_seq (r_set (i := 5) sc_l_rooms.nd (r_call ((Df.mk f_l_draw)).gc (hr.mono (by decide)) (by rfl) (r_aC (r_v 0) (r_aC (r_int) (r_aN))))) (r_seq (r_set (i := 6) sc_l_rooms.nd (r_lst (r_aN))) (r_seq (r_for PassesOwn.never rfl (w_range1 (by rfl) C.b_range (r_aC (r_v 2) (r_aN))) (r_gN (i := 4) sc_l_rooms.nd) (r_rg (r_seq (r_setLcG (i := 7) (own := [("_law_sign", 8)]) rfl sc_l_rooms.nd rfl rfl (sw_true rfl rfl rfl (by rfl)) (w_S (r_v 1)) (blkOk_by (by rfl)) (fun _ _ _ _ _ => r_gN (i := 8) sc_l_rooms.nd) (fun _ _ _ _ _ => r_t0) (fun _ _ _ _ _ => r_call ((Df.mk f_l_draw)).gc (hr.mono (by decide)) (by rfl) (r_aC (r_v 0) (r_aC (r_v 2) (r_aN))))) (r_seq (r_ifS (r_tcmp op_gt pr_gt (r_v 5) (r_int) (nomark _)) (r_last (r_setLcG (i := 7) (own := [("_law_to", 9)]) rfl sc_l_rooms.nd rfl rfl (sw_true rfl rfl rfl (by rfl)) (w_S (r_v 7)) (blkOk_by (by rfl)) (fun _ _ _ _ _ => r_gN (i := 9) sc_l_rooms.nd) (fun _ _ _ _ _ => r_t0) (fun _ _ _ _ _ => r_if (PW.pt (r_wand (r_tcmp op_lt pr_lt (r_ix (r_v 3) (r_v 9) (fun _ _ => rfl)) (r_int) (nomark _)) (r_wand1 (r_tcmp op_le pr_le (r_v 9) (r_v 4) (nomark _))))) (r_op op_sub pr_sub (r_v 2) (r_int)) (r_v 9)))) (r_nil)) (r_seq (r_ifS (PW.pt (r_wand (r_tcmp (op_eqA (hu64 hu)) pr_eq (r_v 5) (r_int) (nomark _)) (r_wand1 (r_tcmp (op_eqA (hu64 hu)) pr_eq (r_v 4) (r_op op_sub pr_sub (r_v 2) (r_int)) (nomark _))))) (r_last (r_setLcG (i := 7) (own := [("_law_to", 9)]) rfl sc_l_rooms.nd rfl rfl (sw_true rfl rfl rfl (by rfl)) (w_S (r_v 7)) (blkOk_by (by rfl)) (fun _ _ _ _ _ => r_gN (i := 9) sc_l_rooms.nd) (fun _ _ _ _ _ => r_t0) (fun _ _ _ _ _ => r_v 4))) (r_nil)) (r_last (r_ex (r_M (T := .list) PySem.F.plainAttrs_list PySem.F.slot_list_append PySem.F.type_list_append mt_append pr_append (r_v 6) (r_aC (r_v 7) (r_aN)))))))))) (r_last (r_ret (r_tup (r_aC (r_v 6) (r_aC (r_v 3) (r_aN)))))))))))
theorem ok_l_table {P : Program} {w : World} {K : PySem.W.Frag} {mg : Str → Option Value} {base : Heap} {ca : Nat → Addr} {fa : Addr} {fd : FuncData} (F : FunD K "_law_table" "_law_table" (defArgs (top 19)) (defBody (top 19)) (defScope (top 19)) [] [] fa fd)
    (C : Kn' mg) (f_l_tongue : ∃ fa fd ps, FnOk P w K mg base CX0 2 fa fd ps (SpD ca K (d_l_tongue)) ∧ mg "_law_tongue" = some (.ref fa) ∧ PySem.W.keepIn K (.ref fa) = true ∧ Binds K fd ps []) (f_l_rooms : ∃ fa fd ps, FnOk P w K mg base CX0 2 fa fd ps (SpD ca K (d_l_rooms)) ∧ mg "_law_rooms" = some (.ref fa) ∧ PySem.W.keepIn K (.ref fa) = true ∧ Binds K fd ps []) (f_l_draw : ∃ fa fd ps, FnOk P w K mg base CX0 1 fa fd ps (SpD ca K (d_l_draw)) ∧ mg "_law_draw" = some (.ref fa) ∧ PySem.W.keepIn K (.ref fa) = true ∧ Binds K fd ps []) : FnOk P w K mg base CX0 3 fa fd ["_law_left", "_law_most"] (SpD ca K d_l_table) :=
  def_ok F sc_l_table rfl rfl (by decide) fun cdv A outer s0 H E hr => by
    have hu := room65 hr
    exact r_seq (r_set (i := 2) sc_l_table.nd (r_call ((Df.mk f_l_tongue)).gc (hr.mono (by decide)) (by rfl) (r_aC (r_v 0) (r_aN)))) (r_seq (r_set (i := 3) sc_l_table.nd (r_op op_add4 pr_add (r_int) (r_call ((Df.mk f_l_draw)).gc (hr.mono (by decide)) (by rfl) (r_aC (r_v 0) (r_aC (r_int) (r_aN)))))) (r_seq (r_ifS (r_tcmp (op_eqA (hu64 hu)) pr_eq (r_call ((Df.mk f_l_draw)).gc (hr.mono (by decide)) (by rfl) (r_aC (r_v 0) (r_aC (r_int) (r_aN)))) (r_int) (nomark _)) (r_last (r_set (i := 3) sc_l_table.nd (r_op op_add4 pr_add (r_int) (r_call ((Df.mk f_l_draw)).gc (hr.mono (by decide)) (by rfl) (r_aC (r_v 0) (r_aC (r_v 1) (r_aN))))))) (r_nil)) (r_seq (r_asg (r_call ((Df.mk f_l_rooms)).gc (hr.mono (by decide)) (by rfl) (r_aC (r_v 0) (r_aC (r_v 2) (r_aC (r_B (call_min2 rfl) pr_min2 (by rfl) C.b_min (by decide +kernel) (r_aC (r_v 3) (r_aC (r_v 1) (r_aN)))) (r_aN))))) (r_gT rfl (r_gsC (r_gN (i := 4) sc_l_table.nd) (r_gsC (r_gN (i := 5) sc_l_table.nd) (r_gs0))))) (r_seq (r_set (i := 6) sc_l_table.nd (r_lst (r_aC (r_int) (r_aN)))) (r_seq (r_set (i := 7) sc_l_table.nd (r_int)) (r_seq (r_while PassesOwn.never (r_tcmp op_lt pr_lt (r_v 7) (r_B call_len pr_len0 (by rfl) C.b_len (by decide +kernel) (r_aC (r_v 6) (r_aN))) (nomark _)) (r_rg (r_seq (r_for PassesOwn.never rfl (w_S (r_ix (r_v 4) (r_ix (r_v 6) (r_v 7) (fun _ _ => rfl)) (fun _ _ => rfl))) (r_gN (i := 8) sc_l_table.nd) (r_rg (r_last (r_ifS (r_tcmp (op_notInA hu) pr_notIn (r_v 8) (r_v 6) rfl) (r_last (r_ex (r_M (T := .list) PySem.F.plainAttrs_list PySem.F.slot_list_append PySem.F.type_list_append mt_append pr_append (r_v 6) (r_aC (r_v 8) (r_aN))))) (r_nil))))) (r_last (r_aug (i := 7) sc_l_table.nd iop_add3 pr_iadd (r_int)))))) (r_seq (r_set (i := 6) sc_l_table.nd (r_B cr_sortedI pr_sorted (by rfl) C.b_sorted (by decide +kernel) (r_aC (r_v 6) (r_aN)))) (r_fz (r_seq (r_set (i := 9) sc_l_table.nd (r_gc (r_Ty call_tuple_of pr_tuple (by rfl) C.b_tuple (by decide +kernel) (r_aC (r_gc (r_lc (own := [("_law_room", 10)]) rfl sc_l_table.nd (w_S (r_v 6)) (blkOk_by (by rfl)) (fun _ _ _ _ _ => r_gN (i := 10) sc_l_table.nd) (fun _ _ _ _ _ => r_t0) (fun _ _ _ _ _ => r_gc (r_Ty call_tuple_of pr_tuple (by rfl) C.b_tuple (by decide +kernel) (r_aC (r_gc (r_lc (own := [("_law_to", 8)]) rfl sc_l_table.nd (w_S (r_ix (r_v 4) (r_v 10) (fun _ _ => rfl))) (blkOk_by (by rfl)) (fun _ _ _ _ _ => r_gN (i := 8) sc_l_table.nd) (fun _ _ _ _ _ => r_t0) (fun _ _ _ _ _ => r_M (T := .list) PySem.F.plainAttrs_list PySem.F.slot_list_index PySem.F.type_list_index mt_index pr_index (r_v 6) (r_aC (r_v 8) (r_aN))))) (r_aN)))))) (r_aN))))) (r_last (r_ret (r_tup (r_aC (r_v 2) (r_aC (r_v 9) (r_aC (r_Ty call_tuple_of pr_tuple (by rfl) C.b_tuple (by decide +kernel) (r_aC (r_gc (r_lc (own := [("_law_room", 10)]) rfl sc_l_table.nd (w_S (r_v 6)) (blkOk_by (by rfl)) (fun _ _ _ _ _ => r_gN (i := 10) sc_l_table.nd) (fun _ _ _ _ _ => r_t0) (fun _ _ _ _ _ => r_ix (r_v 5) (r_v 10) (fun _ _ => rfl)))) (r_aN))) (r_aN))))))))))))))))
theorem ok_l_text {P : Program} {w : World} {K : PySem.W.Frag} {mg : Str → Option Value} {base : Heap} {ca : Nat → Addr} {fa : Addr} {fd : FuncData} (F : FunD K "_law_text" "_law_text" (defArgs (top 20)) (defBody (top 20)) (defScope (top 20)) [] [] fa fd)
    (C : Kn' mg) (f_l_draw : ∃ fa fd ps, FnOk P w K mg base CX0 1 fa fd ps (SpD ca K (d_l_draw)) ∧ mg "_law_draw" = some (.ref fa) ∧ PySem.W.keepIn K (.ref fa) = true ∧ Binds K fd ps []) : FnOk P w K mg base CX0 2 fa fd ["_law_left", "_law_tongue_here"] (SpD ca K d_l_text) :=
  def_ok F sc_l_text rfl rfl (by decide) fun cdv A outer s0 H E hr => by
    have hu := room65 hr
    exact r_seq (r_set (i := 2) sc_l_text.nd (r_call ((Df.mk f_l_draw)).gc (hr.mono (by decide)) (by rfl) (r_aC (r_v 0) (r_aC (r_int) (r_aN))))) (r_seq (r_ifS (r_tcmp (op_eqA (hu64 hu)) pr_eq (r_call ((Df.mk f_l_draw)).gc (hr.mono (by decide)) (by rfl) (r_aC (r_v 0) (r_aC (r_int) (r_aN)))) (r_int) (nomark _)) (r_last (r_set (i := 2) sc_l_text.nd (r_call ((Df.mk f_l_draw)).gc (hr.mono (by decide)) (by rfl) (r_aC (r_v 0) (r_aC (r_int) (r_aN)))))) (r_nil)) (r_last (r_ret (r_M (T := .str) PySem.F.plainAttrs_str PySem.F.slot_str_join PySem.F.type_str_join mt_join pr_join (r_str (by decide +kernel)) (r_aC (r_gc (r_lc (own := [("_law_k", 3)]) rfl sc_l_text.nd (w_range1 (by rfl) C.b_range (r_aC (r_v 2) (r_aN))) (blkOk_by (by rfl)) (fun _ _ _ _ _ => r_gN (i := 3) sc_l_text.nd) (fun _ _ _ _ _ => r_t0) (fun _ _ _ _ _ => r_ix (r_v 1) (r_call ((Df.mk f_l_draw)).gc (hr.mono (by decide)) (by rfl) (r_aC (r_v 0) (r_aC (r_B call_len pr_len0 (by rfl) C.b_len (by decide +kernel) (r_aC (r_v 1) (r_aN))) (r_aN)))) (fun _ _ => rfl)))) (r_aN))))))
theorem ok_l_first {P : Program} {w : World} {K : PySem.W.Frag} {mg : Str → Option Value} {base : Heap} {ca : Nat → Addr} {fa : Addr} {fd : FuncData} (F : FunD K "_law_first" "_law_first" (defArgs (top 21)) (defBody (top 21)) (defScope (top 21)) [] [] fa fd)
    (C : Kn' mg) : FnOk P w K mg base CX0 1 fa fd ["_law_table_here", "_law_text_here", "_law_at"] (SpD ca K d_l_first) :=
  def_ok F sc_l_first rfl rfl (by decide) fun cdv A outer s0 H E hr => by
    have hu := room65 hr
    exact r_seq (r_set (i := 3) sc_l_first.nd (r_int)) (r_seq (r_set (i := 4) sc_l_first.nd (r_non)) (r_seq (r_for PassesOwn.never rfl (w_range2 (by rfl) C.b_range (r_aC (r_v 2) (r_aC (r_B call_len pr_len0 (by rfl) C.b_len (by decide +kernel) (r_aC (r_v 1) (r_aN))) (r_aN)))) (r_gN (i := 5) sc_l_first.nd) (r_rg (r_seq (r_set (i := 3) sc_l_first.nd (r_ix (r_ix (r_ix (r_v 0) (r_int) (fun _ _ => rfl)) (r_v 3) (fun _ _ => rfl)) (r_M (T := .str) PySem.F.plainAttrs_str PySem.F.slot_str_find PySem.F.type_str_find mt_find pr_find (r_ix (r_v 0) (r_int) (fun _ _ => rfl)) (r_aC (r_ix (r_v 1) (r_v 5) (fun _ _ => rfl)) (r_aN))) (fun _ _ => rfl))) (r_last (r_ifS (r_tcmp op_ge pr_ge (r_ix (r_ix (r_v 0) (r_int) (fun _ _ => rfl)) (r_v 3) (fun _ _ => rfl)) (r_int) (nomark _)) (r_last (r_set (i := 4) sc_l_first.nd (r_tup (r_aC (r_ix (r_ix (r_v 0) (r_int) (fun _ _ => rfl)) (r_v 3) (fun _ _ => rfl)) (r_aC (r_op op_add4 pr_add (r_v 5) (r_int)) (r_aN)))))) (r_nil)))))) (r_last (r_ret (r_v 4)))))
theorem ok_l_cut {P : Program} {w : World} {K : PySem.W.Frag} {mg : Str → Option Value} {base : Heap} {ca : Nat → Addr} {fa : Addr} {fd : FuncData} (F : FunD K "_law_cut" "_law_cut" (defArgs (top 22)) (defBody (top 22)) (defScope (top 22)) [] [] fa fd)
    (C : Kn' mg) (f_l_first : ∃ fa fd ps, FnOk P w K mg base CX0 1 fa fd ps (SpD ca K (d_l_first)) ∧ mg "_law_first" = some (.ref fa) ∧ PySem.W.keepIn K (.ref fa) = true ∧ Binds K fd ps []) : FnOk P w K mg base CX0 2 fa fd ["_law_table_here", "_law_text_here"] (SpD ca K d_l_cut) :=
  def_ok F sc_l_cut rfl rfl (by decide) fun cdv A outer s0 H E hr => by
    have hu := room65 hr
    exact r_seq (r_set (i := 2) sc_l_cut.nd (r_lst (r_aN))) (r_seq (r_set (i := 3) sc_l_cut.nd (r_int)) (r_seq (r_set (i := 4) sc_l_cut.nd (r_call ((Df.mk f_l_first)).gc (hr.mono (by decide)) (by rfl) (r_aC (r_v 0) (r_aC (r_v 1) (r_aC (r_v 3) (r_aN)))))) (r_seq (r_while PassesOwn.never (r_tnotN (r_v 4)) (r_rg (r_seq (r_ex (r_M (T := .list) PySem.F.plainAttrs_list PySem.F.slot_list_append PySem.F.type_list_append mt_append pr_append (r_v 2) (r_aC (r_tup (r_aC (r_ix (r_v 4) (r_int) (fun _ _ => rfl)) (r_aC (r_v 3) (r_aC (r_ix (r_v 4) (r_int) (fun _ _ => rfl)) (r_aN))))) (r_aN)))) (r_seq (r_set (i := 3) sc_l_cut.nd (r_ix (r_v 4) (r_int) (fun _ _ => rfl))) (r_last (r_set (i := 4) sc_l_cut.nd (r_call ((Df.mk f_l_first)).gc (hr.mono (by decide)) (by rfl) (r_aC (r_v 0) (r_aC (r_v 1) (r_aC (r_v 3) (r_aN))))))))))) (r_last (r_ret (r_tup (r_aC (r_v 2) (r_aC (r_v 3) (r_aN)))))))))
theorem ok_l_numbers {P : Program} {w : World} {K : PySem.W.Frag} {mg : Str → Option Value} {base : Heap} {ca : Nat → Addr} {fa : Addr} {fd : FuncData} (F : FunD K "_law_numbers" "_law_numbers" (defArgs (top 23)) (defBody (top 23)) (defScope (top 23)) [] [] fa fd)
    (C : Kn' mg) : FnOk P w K mg base CX0 1 fa fd ["_law_found", "_law_many"] (SpD ca K d_l_numbers) :=
  def_ok F sc_l_numbers rfl rfl (by decide) fun cdv A outer s0 H E hr => by
    have hu := room65 hr
    exact r_seq (r_ifS (PW.pt (r_wor (r_tnot (r_tV (r_isI (u := .tuple) (by decide) (by rfl) C.b_isinstance (r_v 0) (pe_bltn (by rfl) C.b_tuple (by decide +kernel) rfl)))) (r_wor1 (r_tcmp (op_neA (hu64 hu)) pr_ne (r_B call_len pr_len0 (by rfl) C.b_len (by decide +kernel) (r_aC (r_v 0) (r_aN))) (r_v 1) (nomark _))))) (r_last (r_ret (r_bl))) (r_nil)) (r_seq (r_for PassesOwn.never rfl (w_S (r_v 0)) (r_gN (i := 2) sc_l_numbers.nd) (r_rg (r_last (r_ifS (PW.pt (r_wor (r_tnot (r_tV (r_isI (u := .int) (by decide) (by rfl) C.b_isinstance (r_v 2) (pe_bltn (by rfl) C.b_int (by decide +kernel) rfl)))) (r_wor1 (r_tV (r_isI (u := .bool) (by decide) (by rfl) C.b_isinstance (r_v 2) (pe_bltn (by rfl) C.b_bool (by decide +kernel) rfl)))))) (r_last (r_ret (r_bl))) (r_nil))))) (r_last (r_ret (r_bl))))
theorem ok_l_piece_spoilt {P : Program} {w : World} {K : PySem.W.Frag} {mg : Str → Option Value} {base : Heap} {ca : Nat → Addr} {fa : Addr} {fd : FuncData} (F : FunD K "_law_piece_spoilt" "_law_piece_spoilt" (defArgs (top 24)) (defBody (top 24)) (defScope (top 24)) [] [] fa fd)
    (C : Kn' mg) (f_l_draw : ∃ fa fd ps, FnOk P w K mg base CX0 1 fa fd ps (SpD ca K (d_l_draw)) ∧ mg "_law_draw" = some (.ref fa) ∧ PySem.W.keepIn K (.ref fa) = true ∧ Binds K fd ps []) : FnOk P w K mg base CX0 2 fa fd ["_law_left", "_law_piece", "_law_which"] (SpD ca K d_l_piece_spoilt) :=
  def_ok F sc_l_piece_spoilt rfl rfl (by decide) fun cdv A outer s0 H E hr => by
    have hu := room65 hr
    exact r_seq (r_set (i := 3) sc_l_piece_spoilt.nd (r_call ((Df.mk f_l_draw)).gc (hr.mono (by decide)) (by rfl) (r_aC (r_v 0) (r_aC (r_int) (r_aN))))) (r_seq (r_ifS (r_tcmp (op_eqA (hu64 hu)) pr_eq (r_v 2) (r_int) (nomark _)) (r_last (r_ret (r_op op_add4 pr_add (r_op op_add4 pr_add (r_sl (r_v 1) (r_oN) (r_oS (r_v 3))) (r_tup (r_aC (r_op op_add4 pr_add (r_ix (r_v 1) (r_v 3) (fun _ _ => rfl)) (r_int)) (r_aN)))) (r_sl (r_v 1) (r_oS (r_op op_add4 pr_add (r_v 3) (r_int))) (r_oN))))) (r_nil)) (r_seq (r_ifS (r_tcmp (op_eqA (hu64 hu)) pr_eq (r_v 2) (r_int) (nomark _)) (r_last (r_ret (r_op op_add4 pr_add (r_op op_add4 pr_add (r_sl (r_v 1) (r_oN) (r_oS (r_v 3))) (r_tup (r_aC (r_op op_sub pr_sub (r_ix (r_v 1) (r_v 3) (fun _ _ => rfl)) (r_int)) (r_aN)))) (r_sl (r_v 1) (r_oS (r_op op_add4 pr_add (r_v 3) (r_int))) (r_oN))))) (r_nil)) (r_seq (r_ifS (r_tcmp (op_eqA (hu64 hu)) pr_eq (r_v 2) (r_int) (nomark _)) (r_last (r_ret (r_op op_add4 pr_add (r_op op_add4 pr_add (r_sl (r_v 1) (r_oN) (r_oS (r_v 3))) (r_tup (r_aC (r_cmp (op_eqA (hu64 hu)) pr_eq (r_ix (r_v 1) (r_v 3) (fun _ _ => rfl)) (r_int) (nomark _)) (r_aN)))) (r_sl (r_v 1) (r_oS (r_op op_add4 pr_add (r_v 3) (r_int))) (r_oN))))) (r_nil)) (r_seq (r_ifS (r_tcmp (op_eqA (hu64 hu)) pr_eq (r_v 2) (r_int) (nomark _)) (r_last (r_ret (r_op op_add4 pr_add (r_op op_add4 pr_add (r_sl (r_v 1) (r_oN) (r_oS (r_v 3))) (r_tup (r_aC (r_ix (r_tup (r_aC (r_non) (r_aC (r_lst (r_aC (r_ix (r_v 1) (r_v 3) (fun _ _ => rfl)) (r_aN))) (r_aC (r_dicK) (r_aN))))) (r_call ((Df.mk f_l_draw)).gc (hr.mono (by decide)) (by rfl) (r_aC (r_v 0) (r_aC (r_int) (r_aN)))) (fun _ _ => rfl)) (r_aN)))) (r_sl (r_v 1) (r_oS (r_op op_add4 pr_add (r_v 3) (r_int))) (r_oN))))) (r_nil)) (r_seq (r_ifS (r_tcmp (op_eqA (hu64 hu)) pr_eq (r_v 2) (r_int) (nomark _)) (r_last (r_ret (r_op op_add4 pr_add (r_v 1) (r_tup (r_aC (r_int) (r_aN)))))) (r_nil)) (r_seq (r_ifS (r_tcmp (op_eqA (hu64 hu)) pr_eq (r_v 2) (r_int) (nomark _)) (r_last (r_ret (r_lc (own := [("_law_part", 4)]) rfl sc_l_piece_spoilt.nd (w_S (r_v 1)) (blkOk_by (by rfl)) (fun _ _ _ _ _ => r_gN (i := 4) sc_l_piece_spoilt.nd) (fun _ _ _ _ _ => r_t0) (fun _ _ _ _ _ => r_v 4)))) (r_nil)) (r_last (r_ret (r_ix (r_tup (r_aC (r_sl (r_v 1) (r_oN) (r_oS (r_int))) (r_aC (r_non) (r_aC (r_int) (r_aN))))) (r_v 3) (fun _ _ => rfl))))))))))
theorem ok_l_pieces_spoilt {P : Program} {w : World} {K : PySem.W.Frag} {mg : Str → Option Value} {base : Heap} {ca : Nat → Addr} {fa : Addr} {fd : FuncData} (F : FunD K "_law_pieces_spoilt" "_law_pieces_spoilt" (defArgs (top 25)) (defBody (top 25)) (defScope (top 25)) [] [] fa fd)
    (C : Kn' mg) (f_l_draw : ∃ fa fd ps, FnOk P w K mg base CX0 1 fa fd ps (SpD ca K (d_l_draw)) ∧ mg "_law_draw" = some (.ref fa) ∧ PySem.W.keepIn K (.ref fa) = true ∧ Binds K fd ps []) (f_l_piece_spoilt : ∃ fa fd ps, FnOk P w K mg base CX0 2 fa fd ps (SpD ca K (d_l_piece_spoilt)) ∧ mg "_law_piece_spoilt" = some (.ref fa) ∧ PySem.W.keepIn K (.ref fa) = true ∧ Binds K fd ps []) : FnOk P w K mg base CX0 3 fa fd ["_law_left", "_law_pieces", "_law_which"] (SpD ca K d_l_pieces_spoilt) :=
  def_ok F sc_l_pieces_spoilt rfl rfl (by decide) fun cdv A outer s0 H E hr => by
    have hu := room65 hr
    exact r_seq (r_set (i := 3) sc_l_pieces_spoilt.nd (r_Ty call_list_of pr_list (by rfl) C.b_list (by decide +kernel) (r_aC (r_v 1) (r_aN)))) (r_seq (r_set (i := 4) sc_l_pieces_spoilt.nd (r_call ((Df.mk f_l_draw)).gc (hr.mono (by decide)) (by rfl) (r_aC (r_v 0) (r_aC (r_B (call_max2 rfl) pr_max2 (by rfl) C.b_max (by decide +kernel) (r_aC (r_int) (r_aC (r_B call_len pr_len0 (by rfl) C.b_len (by decide +kernel) (r_aC (r_v 3) (r_aN))) (r_aN)))) (r_aN))))) (r_seq (r_ifS (PW.pt (r_wor (r_tcmp (op_eqA (hu64 hu)) pr_eq (r_v 2) (r_int) (nomark _)) (r_wor1 (r_tcmpG (op_eqA (hu64 hu)) pr_eq (r_v 3) (r_lst (r_aN)) (nomark _))))) (r_last (r_ret (r_op op_add4 pr_add (r_v 3) (r_lst (r_aC (r_tup (r_aC (r_int) (r_aC (r_int) (r_aC (r_int) (r_aN))))) (r_aN)))))) (r_nil)) (r_seq (r_ifS (r_tcmp op_lt pr_lt (r_v 2) (r_int) (nomark _)) (r_last (r_putL (r_call ((Df.mk f_l_piece_spoilt)).gc (hr.mono (by decide)) (by rfl) (r_aC (r_v 0) (r_aC (r_ix (r_v 3) (r_v 4) (fun _ _ => rfl)) (r_aC (r_v 2) (r_aN))))) (r_v 3) (r_v 4))) (r_last (r_ifS (r_tcmp (op_eqA (hu64 hu)) pr_eq (r_v 2) (r_int) (nomark _)) (r_last (r_ex (r_M (T := .list) PySem.F.plainAttrs_list PySem.F.slot_list_pop PySem.F.type_list_pop mt_popAt pr_popAt (r_v 3) (r_aC (r_v 4) (r_aN))))) (r_last (r_ifS (r_tcmp (op_eqA (hu64 hu)) pr_eq (r_v 2) (r_int) (nomark _)) (r_last (r_ex (r_M (T := .list) PySem.F.plainAttrs_list PySem.F.slot_list_insert PySem.F.type_list_insert mt_insert pr_insert (r_v 3) (r_aC (r_v 4) (r_aC (r_ix (r_v 3) (r_v 4) (fun _ _ => rfl)) (r_aN)))))) (r_last (r_ifS (r_tcmp (op_eqA (hu64 hu)) pr_eq (r_v 2) (r_int) (nomark _)) (r_seq (r_asg (r_ix (r_v 3) (r_v 4) (fun _ _ => rfl)) (r_gT rfl (r_gsC (r_gN (i := 5) sc_l_pieces_spoilt.nd) (r_gsC (r_gN (i := 6) sc_l_pieces_spoilt.nd) (r_gsC (r_gN (i := 7) sc_l_pieces_spoilt.nd) (r_gs0)))))) (r_last (r_putS (r_v 3) (r_v 4) (r_op op_add4 pr_add (r_v 4) (r_int)) (r_lst (r_aC (r_tup (r_aC (r_v 5) (r_aC (r_v 6) (r_aC (r_op op_add4 pr_add (r_v 6) (r_op op_fdiv pr_div (r_op op_sub pr_sub (r_v 7) (r_v 6)) (r_int))) (r_aN))))) (r_aC (r_tup (r_aC (r_v 5) (r_aC (r_op op_add4 pr_add (r_v 6) (r_op op_fdiv pr_div (r_op op_sub pr_sub (r_v 7) (r_v 6)) (r_int))) (r_aC (r_v 7) (r_aN))))) (r_aN))))))) (r_last (r_ifS (PW.pt (r_wand (r_tcmp (op_eqA (hu64 hu)) pr_eq (r_v 2) (r_int) (nomark _)) (r_wand1 (r_tcmp op_lt pr_lt (r_op op_add4 pr_add (r_v 4) (r_int)) (r_B call_len pr_len0 (by rfl) C.b_len (by decide +kernel) (r_aC (r_v 3) (r_aN))) (nomark _))))) (r_last (r_putS (r_v 3) (r_v 4) (r_op op_add4 pr_add (r_v 4) (r_int)) (r_lst (r_aC (r_tup (r_aC (r_ix (r_ix (r_v 3) (r_v 4) (fun _ _ => rfl)) (r_int) (fun _ _ => rfl)) (r_aC (r_ix (r_ix (r_v 3) (r_v 4) (fun _ _ => rfl)) (r_int) (fun _ _ => rfl)) (r_aC (r_ix (r_ix (r_v 3) (r_op op_add4 pr_add (r_v 4) (r_int)) (fun _ _ => rfl)) (r_int) (fun _ _ => rfl)) (r_aN))))) (r_aN))))) (r_last (r_ifS (r_tcmp (op_eqA (hu64 hu)) pr_eq (r_v 2) (r_int) (nomark _)) (r_last (r_ret (r_Ty call_tuple_of pr_tuple (by rfl) C.b_tuple (by decide +kernel) (r_aC (r_v 3) (r_aN))))) (r_nil)))))))))))) (r_last (r_ret (r_v 3))))))
theorem ok_l_holds {P : Program} {w : World} {K : PySem.W.Frag} {mg : Str → Option Value} {base : Heap} {ca : Nat → Addr} {fa : Addr} {fd : FuncData} (F : FunD K "_law_holds" "_law_holds" (defArgs (top 26)) (defBody (top 26)) (defScope (top 26)) [] [] fa fd)
    (C : Kn' mg) (f_l_numbers : ∃ fa fd ps, FnOk P w K mg base CX0 1 fa fd ps (SpD ca K (d_l_numbers)) ∧ mg "_law_numbers" = some (.ref fa) ∧ PySem.W.keepIn K (.ref fa) = true ∧ Binds K fd ps []) : FnOk P w K mg base CX0 2 fa fd ["_law_pieces", "_law_place", "_law_due"] (SpD ca K d_l_holds) :=
  def_ok F sc_l_holds rfl rfl (by decide) fun cdv A outer s0 H E hr => by
    have hu := room65 hr
    exact r_seq (r_ifS (PW.pt (r_wor (r_tnot (r_tV (r_call ((Df.mk f_l_numbers)).gc (hr.mono (by decide)) (by rfl) (r_aC (r_tup (r_aC (r_v 1) (r_aN))) (r_aC (r_int) (r_aN)))))) (r_wor1 (r_tcmp (op_neA (hu64 hu)) pr_ne (r_v 1) (r_ix (r_v 2) (r_int) (fun _ _ => rfl)) (nomark _))))) (r_last (r_ret (r_bl))) (r_nil)) (r_seq (r_ifS (PW.pt (r_wor (r_tnot (r_tV (r_isI (u := .list) (by decide) (by rfl) C.b_isinstance (r_v 0) (pe_bltn (by rfl) C.b_list (by decide +kernel) rfl)))) (r_wor1 (r_tcmp (op_neA (hu64 hu)) pr_ne (r_B call_len pr_len0 (by rfl) C.b_len (by decide +kernel) (r_aC (r_v 0) (r_aN))) (r_B call_len pr_len0 (by rfl) C.b_len (by decide +kernel) (r_aC (r_ix (r_v 2) (r_int) (fun _ _ => rfl)) (r_aN))) (nomark _))))) (r_last (r_ret (r_bl))) (r_nil)) (r_seq (r_for PassesOwn.never rfl (w_range1 (by rfl) C.b_range (r_aC (r_B call_len pr_len0 (by rfl) C.b_len (by decide +kernel) (r_aC (r_v 0) (r_aN))) (r_aN))) (r_gN (i := 3) sc_l_holds.nd) (r_rg (r_last (r_ifS (PW.pt (r_wor (r_tnot (r_tV (r_call ((Df.mk f_l_numbers)).gc (hr.mono (by decide)) (by rfl) (r_aC (r_ix (r_v 0) (r_v 3) (fun _ _ => rfl)) (r_aC (r_int) (r_aN)))))) (r_wor1 (r_tcmp (op_neA (hu64 hu)) pr_ne (r_ix (r_v 0) (r_v 3) (fun _ _ => rfl)) (r_ix (r_ix (r_v 2) (r_int) (fun _ _ => rfl)) (r_v 3) (fun _ _ => rfl)) (nomark _))))) (r_last (r_ret (r_bl))) (r_nil))))) (r_last (r_ret (r_bl)))))
theorem ok_law {P : Program} {w : World} {K : PySem.W.Frag} {mg : Str → Option Value} {base : Heap} {ca : Nat → Addr} {fa : Addr} {fd : FuncData} (F : FunD K "law" "law" (defArgs (top 27)) (defBody (top 27)) (defScope (top 27)) [] [] fa fd)
    (C : Kn' mg) (f_l_source : ∃ fa fd ps, FnOk P w K mg base CX0 1 fa fd ps (SpD ca K (d_l_source)) ∧ mg "_law_source" = some (.ref fa) ∧ PySem.W.keepIn K (.ref fa) = true ∧ Binds K fd ps []) (f_l_draw : ∃ fa fd ps, FnOk P w K mg base CX0 1 fa fd ps (SpD ca K (d_l_draw)) ∧ mg "_law_draw" = some (.ref fa) ∧ PySem.W.keepIn K (.ref fa) = true ∧ Binds K fd ps []) (f_l_table : ∃ fa fd ps, FnOk P w K mg base CX0 3 fa fd ps (SpD ca K (d_l_table)) ∧ mg "_law_table" = some (.ref fa) ∧ PySem.W.keepIn K (.ref fa) = true ∧ Binds K fd ps []) (f_l_text : ∃ fa fd ps, FnOk P w K mg base CX0 2 fa fd ps (SpD ca K (d_l_text)) ∧ mg "_law_text" = some (.ref fa) ∧ PySem.W.keepIn K (.ref fa) = true ∧ Binds K fd ps []) (f_l_cut : ∃ fa fd ps, FnOk P w K mg base CX0 2 fa fd ps (SpD ca K (d_l_cut)) ∧ mg "_law_cut" = some (.ref fa) ∧ PySem.W.keepIn K (.ref fa) = true ∧ Binds K fd ps []) (f_l_holds : ∃ fa fd ps, FnOk P w K mg base CX0 2 fa fd ps (SpD ca K (d_l_holds)) ∧ mg "_law_holds" = some (.ref fa) ∧ PySem.W.keepIn K (.ref fa) = true ∧ Binds K fd ps []) (f_cut_holds : ∃ fa fd ps, FnOk P w K mg base CX0 3 fa fd ps (SpD ca K (d_cut_holds)) ∧ mg "cut_holds" = some (.ref fa) ∧ PySem.W.keepIn K (.ref fa) = true ∧ Binds K fd ps []) (f_l_pieces_spoilt : ∃ fa fd ps, FnOk P w K mg base CX0 3 fa fd ps (SpD ca K (d_l_pieces_spoilt)) ∧ mg "_law_pieces_spoilt" = some (.ref fa) ∧ PySem.W.keepIn K (.ref fa) = true ∧ Binds K fd ps []) (f_l_said : ∃ fa fd ps, FnOk P w K mg base CX0 1 fa fd ps (SpD ca K (d_l_said)) ∧ mg "_law_said" = some (.ref fa) ∧ PySem.W.keepIn K (.ref fa) = true ∧ Binds K fd ps []) : FnOk P w K mg base CX0 4 fa fd ["_law_script"] (SpD ca K d_law) :=
  def_ok F sc_law rfl rfl (by decide) fun cdv A outer s0 H E hr => by
    have hu := room65 hr
    exact r_seq (r_set (i := 1) sc_law.nd (r_call (Df.mk f_l_source) (hr.mono (by decide)) (by rfl) (r_aC (r_v 0) (r_aN)))) (r_seq (r_set (i := 2) sc_law.nd (r_call ((Df.mk f_l_draw)).gc (hr.mono (by decide)) (by rfl) (r_aC (r_v 1) (r_aC (r_int) (r_aN))))) (r_seq (r_set (i := 3) sc_law.nd (r_call ((Df.mk f_l_table)).gc (hr.mono (by decide)) (by rfl) (r_aC (r_v 1) (r_aC (r_int) (r_aN))))) (r_seq (r_set (i := 4) sc_law.nd (r_call ((Df.mk f_l_text)).gc (hr.mono (by decide)) (by rfl) (r_aC (r_v 1) (r_aC (r_ix (r_v 3) (r_int) (fun _ _ => rfl)) (r_aN))))) (r_seq (r_set (i := 5) sc_law.nd (r_call ((Df.mk f_l_cut)).gc (hr.mono (by decide)) (by rfl) (r_aC (r_v 3) (r_aC (r_v 4) (r_aN))))) (r_seq (r_ifS (r_tnotB (r_call ((Df.mk f_cut_holds)).gc (hr.mono (by decide)) (by rfl) (r_aC (r_v 3) (r_aC (r_v 4) (r_aC (r_gc (r_Ty call_list_of pr_list (by rfl) C.b_list (by decide +kernel) (r_aC (r_ix (r_v 5) (r_int) (fun _ _ => rfl)) (r_aN)))) (r_aC (r_ix (r_v 5) (r_int) (fun _ _ => rfl)) (r_aN))))))) (r_last (r_ret (r_bl))) (r_nil)) (r_seq (r_set (i := 6) sc_law.nd (r_gc (r_Ty call_list_of pr_list (by rfl) C.b_list (by decide +kernel) (r_aC (r_ix (r_v 5) (r_int) (fun _ _ => rfl)) (r_aN))))) (r_seq (r_set (i := 7) sc_law.nd (r_ix (r_v 5) (r_int) (fun _ _ => rfl))) (r_seq (r_ifS (r_tcmp op_lt pr_lt (r_v 2) (r_int) (nomark _)) (r_last (r_set (i := 6) sc_law.nd (r_call ((Df.mk f_l_pieces_spoilt)).gc (hr.mono (by decide)) (by rfl) (r_aC (r_v 1) (r_aC (r_v 6) (r_aC (r_v 2) (r_aN))))))) (r_last (r_ifS (r_tcmp op_lt pr_lt (r_v 2) (r_int) (nomark _)) (r_last (r_set (i := 7) sc_law.nd (r_ix (r_tup (r_aC (r_op op_add4 pr_add (r_v 7) (r_int)) (r_aC (r_op op_sub pr_sub (r_v 7) (r_int)) (r_aC (r_non) (r_aC (r_cmp (op_eqA (hu64 hu)) pr_eq (r_v 7) (r_int) (nomark _)) (r_aC (r_str (by decide +kernel)) (r_aN))))))) (r_op op_sub pr_sub (r_v 2) (r_int)) (fun _ _ => rfl)))) (r_last (r_ifS (r_tcmp (op_eqA (hu64 hu)) pr_eq (r_v 2) (r_int) (nomark _)) (r_last (r_set (i := 6) sc_law.nd (r_gc (r_ix (r_tup (r_aC (r_non) (r_aC (r_dicK) (r_aC (r_str (by decide +kernel)) (r_aN))))) (r_call ((Df.mk f_l_draw)).gc (hr.mono (by decide)) (by rfl) (r_aC (r_v 1) (r_aC (r_int) (r_aN)))) (fun _ _ => rfl))))) (r_nil)))))) (r_seq (r_set (i := 8) sc_law.nd (r_gc (r_if (r_tV (r_isI (u := .list) (by decide) (by rfl) C.b_isinstance (r_v 6) (pe_bltn (by rfl) C.b_list (by decide +kernel) rfl))) (r_Ty call_list_of pr_list (by rfl) C.b_list (by decide +kernel) (r_aC (r_v 6) (r_aN))) (r_v 6)))) (r_seq (r_set (i := 9) sc_law.nd (r_call ((Df.mk f_l_holds)).gc (hr.mono (by decide)) (by rfl) (r_aC (r_v 6) (r_aC (r_v 7) (r_aC (r_v 5) (r_aN)))))) (r_seq (r_ifS (PW.pt (r_wor (r_tnot (r_tV (r_call ((Df.mk f_l_said)).gc (hr.mono (by decide)) (by rfl) (r_aC (r_call ((Df.mk f_cut_holds)).gc (hr.mono (by decide)) (by rfl) (r_aC (r_v 3) (r_aC (r_v 4) (r_aC (r_v 6) (r_aC (r_v 7) (r_aN)))))) (r_aC (r_v 9) (r_aN)))))) (r_wor1 (r_tcmp (op_neL (hu64 hu)) pr_neL (r_v 6) (r_v 8) (nomark _))))) (r_last (r_ret (r_bl))) (r_nil)) (r_last (r_ret (r_isB (r_call ((Df.mk f_cut_holds)).gc (hr.mono (by decide)) (by rfl) (r_aC (r_v 3) (r_aC (r_v 4) (r_aC (r_gc (r_Ty call_list_of pr_list (by rfl) C.b_list (by decide +kernel) (r_aC (r_ix (r_v 5) (r_int) (fun _ _ => rfl)) (r_aN)))) (r_aC (r_ix (r_v 5) (r_int) (fun _ _ => rfl)) (r_aN))))))))))))))))))))
end NR.K36

set_option linter.all false
set_option Elab.async false
set_option maxRecDepth 100000
namespace NR.K36
open NR
variable {α : Type} {b n k : Nat} {ρ : Env} {S T U : Store} {o x y : Ob} {c many : Int} {P : D → Store → Prop} {PS : Fl → Env → Store → Prop}
@[simp] theorem e_draw : d_l_draw = d_draw := id rfl
@[simp] theorem e_source : d_l_source = d_source := id rfl
@[simp] theorem e_tongue : d_l_tongue = d_tongue := id rfl
def rowsD (rows : List (List Int)) : List D := rows.map fun r => .lst (r.map D.int)
theorem rooms_ok {tg : List Nat} (h : SrcO c o) (hc : c < 100000000) (h1 : 1 ≤ many) (h2 : many ≤ 32) (ht : tg.length ≤ 6)
    (k : ∀ (rows : List (List Int)) (kinds : List Int) (o' : Ob), rows.length = many.toNat → kinds.length = many.toNat → (∀ r ∈ rows, r.length = tg.length ∧ ∀ z ∈ r, 0 ≤ z ∧ z < many) → SrcO (c + 1000) o' → P (.tup [.lst (rowsD rows), .lst (kinds.map D.int)]) (o' :: T)) :
    Ok (gcF d_l_rooms b [.ref 0, .str tg, .int many] (o :: T)) P := by
  rw [okGcF]
  simp [d_l_rooms, b_l_rooms, line]
  refine ⟨by omega, ?_⟩
  refine ok_for (Q := fun _ _ => True) (fun ds ρ S => ∃ (o' : Ob) (kinds : List Int) (cc : Int) (e4 : Option D), ρ = [some (.ref 0), some (.str tg), some (.int many), some (.ref (T.length + 1)), e4, none, none, none, none, none] ∧ S = o' :: (T ++ [.lst (kinds.map D.int)]) ∧ SrcO cc o' ∧ cc + 2 * ds.length ≤ c + 62 ∧ kinds.length + ds.length = many.toNat) _ _ _ ?_ ?_ ?_
  · exact ⟨o, [-1], c, none, rfl, rfl, h, by rw [len_rng]; omega, by rw [len_rng]; simp; omega⟩
  · rintro d ds _ _ ⟨o', kinds, cc, e4, rfl, rfl, hs', hcc, hl⟩
    simp only [List.length_cons] at hcc hl
    refine ⟨_, rfl, ?_⟩
    simp
    refine gdraw_ok hs' (by omega) (by omega) (by omega) fun i1 o1 g1 g2 g3 => ?_
    simp
    split
    · refine gdraw_ok g3 (by omega) (by omega) (by omega) fun i2 o2 g4 g5 g6 => ?_
      simp [mergeE, line]
      exact ⟨by omega, o2, kinds ++ [i2], ⟨rfl, by simp⟩, _, g6, by omega, by simp; omega⟩
    · simp [mergeE, line]
      exact ⟨by omega, o1, kinds ++ [-1], ⟨rfl, by simp⟩, _, g3, by omega, by simp; omega⟩
  · rintro _ _ ⟨o', kinds, cc, e4, rfl, rfl, hs', hcc, hl⟩
    simp at hcc hl
    simp
    refine gdraw_ok hs' (by omega) (by omega) (by omega) fun manner o1 g1 g2 g3 => ?_
    simp [line]
    refine ⟨by omega, ?_⟩
    refine ok_for (Q := fun _ _ => True) (fun ds ρ S => ∃ (o' : Ob) (rows : List (List Int)) (cc : Int) (e4 : Option D), ρ = [some (.ref 0), some (.str tg), some (.int many), some (.lst (kinds.map D.int)), e4, some (.int manner), some (.ref (T.length + 1 + 1)), none, none, none] ∧ S = o' :: (T ++ [.gone, .lst (rowsD rows)]) ∧ SrcO cc o' ∧ cc + 6 * ds.length ≤ c + 900 ∧ rows.length + ds.length = many.toNat ∧ (∀ r ∈ rows, r.length = tg.length ∧ ∀ z ∈ r, 0 ≤ z ∧ z < many) ∧ ∀ d ∈ ds, ∃ i : Int, d = .int i ∧ 0 ≤ i ∧ i < many) _ _ _ ?_ ?_ ?_
    · exact ⟨o1, [], _, e4, rfl, rfl, g3, by rw [len_rng]; omega, by rw [len_rng]; simp, by simp, fun d hd => mem_rng hd⟩
    · rintro d ds _ _ ⟨o2, rows, cc2, e4', rfl, rfl, hs2, hcc2, hl2, hr2, hd2⟩
      simp only [List.length_cons] at hcc2 hl2
      obtain ⟨i, rfl, hi0, hi1⟩ := hd2 d List.mem_cons_self
      refine ⟨_, rfl, ?_⟩
      simp
      refine gc_draws (T := T ++ [.gone, .lst (rowsD rows)]) (ds := tg.map fun c => .str [c]) ?_ ?_ hs2 (show cc2 < 1000000000 by omega) (show 0 < many by omega) (by omega) ?_ ?_
      · simp
      · simp; omega
      · intro d o' acc P h
        simpa [dropE] using h
      intro l o3 hl3 hz3 hs3
      simp at hl3 hs3
      have en : ∀ row : List Int, row.length = tg.length → (∀ z ∈ row, 0 ≤ z ∧ z < many) → ∃ (o' : Ob) (rows' : List (List Int)), (o3 = o' ∧ rowsD rows ++ [D.lst (row.map D.int)] = rowsD rows') ∧ ∃ cc' : Int, SrcO cc' o' ∧ cc' + 6 * ds.length ≤ c + 900 ∧ rows'.length + ds.length = many.toNat ∧ (∀ r ∈ rows', r.length = tg.length ∧ ∀ z ∈ r, 0 ≤ z ∧ z < many) ∧ ∀ d ∈ ds, ∃ i : Int, d = .int i ∧ 0 ≤ i ∧ i < many := fun row h1 h2 =>
        ⟨o3, rows ++ [row], ⟨rfl, by simp [rowsD]⟩, _, hs3, by omega, by simp; omega, fun r hr => (List.mem_append.mp hr).elim (hr2 r) fun e => by simp at e; subst e; exact ⟨h1, h2⟩, fun d hd => hd2 d (List.mem_cons_of_mem _ hd)⟩
      have hL : (rowsD rows).length < 16777216 := by simp [rowsD]; omega
      simp [mergeE, line]
      split
      · refine gc_ints (l := l) (fun to => if kinds.getD to.toNat 0 < 0 ∧ to ≤ i then many - 1 else to) ?_ (by omega) ?_ ?_
        · simp
        · intro z hz acc
          obtain ⟨z0, z1⟩ := hz3 z hz
          have hk : kinds.getD z.toNat 0 = kinds[z.toNat]'(by omega) := by rw [List.getD_eq_getElem?_getD, List.getElem?_eq_getElem (by omega)]; rfl
          rw [hk]
          simp [dropE, at_map z0 (show z < kinds.length by omega)]
          repeat' split
          all_goals first | rfl | omega | (intros; omega) | simp_all
        rintro row hrow
        have hr1 : row.length = tg.length := by rw [hrow]; simpa using hl3
        have hr3 : ∀ z ∈ row, 0 ≤ z ∧ z < many := by
          intro z hz
          rw [hrow] at hz
          obtain ⟨y, hy, rfl⟩ := List.mem_map.mp hz
          have := hz3 y hy
          split <;> omega
        simp [mergeE, line]
        split
        · split
          · refine gc_ints (l := row) (fun _ => i) ?_ (by omega) ?_ ?_
            · simp
            · intro z hz acc
              simp [dropE]
            intro row2 hrow2
            simp [mergeE, line]
            exact ⟨hL, en row2 (by rw [hrow2]; simpa using hr1) fun z hz => by rw [hrow2] at hz; obtain ⟨y, hy, rfl⟩ := List.mem_map.mp hz; exact ⟨hi0, hi1⟩⟩
          · exact ⟨hL, en row hr1 hr3⟩
        · exact ⟨hL, en row hr1 hr3⟩
      · rw [if_neg (by omega)]
        exact ⟨hL, en l hl3 hz3⟩
    · rintro _ _ ⟨o2, rows, cc2, e4', rfl, rfl, hs2, hcc2, hl2, hr2, hd2⟩
      simp at hcc2 hl2
      simp [line]
      rw [show fuelF = 38 + 2 from rfl, fz_tup2 (d' := .lst (rowsD rows)) (e' := .lst (kinds.map D.int)) (fz_ref (k := 37) (by simp) (by omega) (bels_map fun _ => by simp)) (fz_of_bel (by simp))]
      simp
      exact k rows kinds o2 hl2 hl hr2 (hs2.le (by omega))
/-- a table as it is handed about -/
def tabD (tg : List Nat) (rows : List (List Int)) (kinds : List Int) : D := .tup [.str tg, .tup (rows.map fun r => .tup (r.map D.int)), .tup (kinds.map D.int)]
structure Tab (tg : List Nat) (rows : List (List Int)) (kinds : List Int) : Prop where
  ne : tg ≠ []
  small : tg.length ≤ 6
  many : rows.length ≤ 32
  pos : 0 < rows.length
  kl : kinds.length = rows.length
  row : ∀ r ∈ rows, r.length = tg.length ∧ ∀ z ∈ r, 0 ≤ z ∧ z < rows.length
def tableTail3 : Stm := (sSeq (sAsg (eN (n1 pSorted) (aC (eV 6) (aN))) (gN 6)) (sSeq (sFz 6) (sSeq (sAsg (gc (eN (n1 pTuple) (aC (gc (eLc [10] (wS (eV 6)) (gN 10) (tT) (gc (eN (n1 pTuple) (aC (gc (eLc [8] (wS (e2 pIxN (eV 4) (eV 10))) (gN 8) (tT) (eM .list (m1 pIndex) (eV 6) (aC (eV 8) (aN))))) (aN)))))) (aN)))) (gN 9)) (sRet (eN pTup (aC (eV 2) (aC (eV 9) (aC (eN (n1 pTuple) (aC (gc (eLc [10] (wS (eV 6)) (gN 10) (tT) (e2 pIxN (eV 5) (eV 10)))) (aN))) (aN)))))))))
def tableTail2 : Stm := (sSeq (sWhile (tV (e2 pLt (eV 7) (eN (n1 pLenN) (aC (eV 6) (aN))))) (rg [7, 8] [] (sSeq (sFor (wS (e2 pIxN (eV 4) (e2 pIxN (eV 6) (eV 7)))) (gN 8) (rg [] [] (sIf (tV (e2 pNotInN (eV 8) (eV 6))) (sEx (eM .list (m1 pAppend) (eV 6) (aC (eV 8) (aN)))) (sNil)))) (sAug 7 pIAdd (eC (.int 1)))))) tableTail3)
def tableTail : Stm := (sSeq (sAsg (eCall (gcF (d_l_rooms)) (aC (eV 0) (aC (eV 2) (aC (eN (n2 pMin2) (aC (eV 3) (aC (eV 1) (aN)))) (aN))))) (gT [gN 4, gN 5])) (sSeq (sAsg (eN pLst (aC (eC (.int 0)) (aN))) (gN 6)) (sSeq (sAsg (eC (.int 0)) (gN 7)) tableTail2)))
theorem b_table_eq : b_l_table = sSeq (sAsg (eCall (gcF (d_l_tongue)) (aC (eV 0) (aN))) (gN 2)) (sSeq (sAsg (e2 pAdd (eC (.int 2)) (eCall (gcF (d_l_draw)) (aC (eV 0) (aC (eC (.int 7)) (aN))))) (gN 3)) (sSeq (sIf (tV (e2 pEq (eCall (gcF (d_l_draw)) (aC (eV 0) (aC (eC (.int 6)) (aN)))) (eC (.int 0)))) (sAsg (e2 pAdd (eC (.int 1)) (eCall (gcF (d_l_draw)) (aC (eV 0) (aC (eV 1) (aN))))) (gN 3)) (sNil)) tableTail)) := rfl
def newRow (rows : List (List Int)) (sm : List Int) : D → List Int
  | .int r => ((rows[r.toNat]?).getD []).map (ixOf sm)
  | _ => []
theorem tail3_ok {tg : List Nat} {rows : List (List Int)} {kinds met : List Int} {m : Int} {at_ : Option D} {e8 : Option D} (ht : tg ≠ []) (ht2 : tg.length ≤ 6) (h1 : 1 ≤ m) (h2 : m ≤ 32) (hr : rows.length = m.toNat) (hk : kinds.length = m.toNat)
    (hrow : ∀ r ∈ rows, r.length = tg.length ∧ ∀ z ∈ r, 0 ≤ z ∧ z < m) (hm : ∀ z ∈ met, 0 ≤ z ∧ z < m) (hml : met.length ≤ 32) (h0 : (0 : Int) ∈ met) (hcl : ∀ z ∈ met, ∀ r, rows[z.toNat]? = some r → ∀ y ∈ r, y ∈ met)
    (k : ∀ (rows : List (List Int)) (kinds : List Int), Tab tg rows kinds → P (tabD tg rows kinds) (o :: T)) :
    OkS (tableTail3 (T.length + 1) [some (.ref 0), some (.int 32), some (.str tg), some (.int m), some (.lst (rowsD rows)), some (.lst (kinds.map D.int)), some (.ref (T.length + 1)), at_, e8, none, none] (o :: (T ++ [.lst (met.map D.int)])))
      (finK fun d S' => So (fz S' (T.length + 1) fuelF d) fun d' => P d' (S'.take (T.length + 1))) := by
  simp [tableTail3, sorted_ref (S := o :: (T ++ [.lst (met.map D.int)])) (n := T.length + 1) (l := met) (by simp)]
  have hs0 : ∀ z ∈ sortI met, 0 ≤ z ∧ z < m := fun z hz => hm z (mem_sort.mp hz)
  have hs1 : ∀ z ∈ sortI met, ∀ r, rows[z.toNat]? = some r → ∀ y ∈ r, y ∈ sortI met := fun z hz r h y hy => mem_sort.mpr (hcl z (mem_sort.mp hz) r h y hy)
  have hsl : (sortI met).length = met.length := len_sort
  have hs2 : (0 : Int) ∈ sortI met := mem_sort.mpr h0
  revert hs0 hs1 hsl hs2
  generalize sortI met = sm
  intro hs0 hs1 hsl hs2
  rw [okGc]
  simp
  refine gc_lc (ds := sm.map D.int) (fun d => .tup ((newRow rows sm d).map D.int)) ?_ (by simp [line]; omega) ?_ ?_ ?_
  · simp
  · intro d hd acc
    obtain ⟨r, hr', rfl⟩ := List.mem_map.mp hd
    obtain ⟨r0, r1⟩ := hs0 r hr'
    have hx : rows[r.toNat]? = some (rows[r.toNat]'(by omega)) := List.getElem?_eq_getElem _
    have hlen := (hrow _ (List.getElem_mem (show r.toNat < rows.length by omega))).1
    simp [dropE]
    rw [okGc]
    simp
    refine gc_ints (l := rows[r.toNat]'(by omega)) (ixOf sm) ?_ (by omega) ?_ ?_
    · simp [rowsD, at_map r0 (show r < rows.length by omega)]
    · intro z hz acc2
      simp [dropE, index_ints (hs1 r hr' _ hx z hz)]
    · intro row hrow'
      have e : newRow rows sm (.int r) = row := by rw [hrow']; simp [newRow, hx]
      rw [e]
      simp
  · intro d hd
    simp
  · have e : (sm.map D.int).map (fun d => D.tup ((newRow rows sm d).map D.int)) = (sm.map fun r => newRow rows sm (.int r)).map fun r => D.tup (r.map D.int) := by
      rw [List.map_map, List.map_map]; rfl
    rw [e]
    have hR : ∀ r ∈ (sm.map fun r => newRow rows sm (.int r)), r.length = tg.length ∧ ∀ z ∈ r, 0 ≤ z ∧ z < (sm.map fun r => newRow rows sm (.int r)).length := by
      intro r hr'
      obtain ⟨i, hi, rfl⟩ := List.mem_map.mp hr'
      obtain ⟨i0, i1⟩ := hs0 i hi
      have hx : rows[i.toNat]? = some (rows[i.toNat]'(by omega)) := List.getElem?_eq_getElem _
      have hh := hrow _ (List.getElem_mem (show i.toNat < rows.length by omega))
      simp only [newRow, hx, Option.getD_some, List.length_map]
      refine ⟨hh.1, fun z hz => ?_⟩
      obtain ⟨y, hy, rfl⟩ := List.mem_map.mp hz
      exact ixOf_ok (hs1 i hi _ hx y hy)
    have hRl : (sm.map fun r => newRow rows sm (.int r)).length = sm.length := by simp
    revert hR hRl
    generalize (sm.map fun r => newRow rows sm (.int r)) = rs
    intro hR hRl
    have hb : bels 0 (rs.map fun r => D.tup (r.map D.int)) = true := bels_map fun _ => by simp
    have hf : ∀ (S : Store) (n : Nat), fz S n fuelF (.tup (rs.map fun r => D.tup (r.map D.int))) = some (.tup (rs.map fun r => D.tup (r.map D.int))) := fun S n => fz_cl (by simpa using hb)
    simp [hf]
    refine gc_ints (l := sm) (fun z => (kinds[z.toNat]?).getD 0) ?_ (by omega) ?_ ?_
    · simp
    · intro z hz acc
      obtain ⟨z0, z1⟩ := hs0 z hz
      simp [dropE, at_map z0 (show z < kinds.length by omega), List.getElem?_eq_getElem (show z.toNat < kinds.length by omega)]
    · intro ks hks
      simp [line]
      rw [fz_cl (by simp [hb])]
      simp
      refine k rs ks ⟨ht, ht2, by omega, ?_, by rw [hks]; simp; omega, hR⟩
      rw [hRl]
      exact List.length_pos_of_mem hs2
theorem at_rows {rows : List (List Int)} {z : Int} (h0 : 0 ≤ z) (h1 : z < rows.length) : at_ (rowsD rows) z = some (.lst ((rows[z.toNat]'(by omega)).map D.int)) := by
  unfold rowsD
  rw [at_map h0 h1]
theorem tail2_ok {tg : List Nat} {rows : List (List Int)} {kinds : List Int} {m : Int} (ht : tg ≠ []) (ht2 : tg.length ≤ 6) (h1 : 1 ≤ m) (h2 : m ≤ 32) (hr : rows.length = m.toNat) (hk : kinds.length = m.toNat)
    (hrow : ∀ r ∈ rows, r.length = tg.length ∧ ∀ z ∈ r, 0 ≤ z ∧ z < m)
    (k : ∀ (rows : List (List Int)) (kinds : List Int), Tab tg rows kinds → P (tabD tg rows kinds) (o :: T)) :
    OkS (tableTail2 (T.length + 1) [some (.ref 0), some (.int 32), some (.str tg), some (.int m), some (.lst (rowsD rows)), some (.lst (kinds.map D.int)), some (.ref (T.length + 1)), some (.int 0), none, none, none] (o :: (T ++ [.lst [D.int 0]])))
      (finK fun d S' => So (fz S' (T.length + 1) fuelF d) fun d' => P d' (S'.take (T.length + 1))) := by
  simp [tableTail2]
  refine ok_while (fun mes ρ S => ∃ (met : List Int) (i : Int) (e8 : Option D), ρ = [some (.ref 0), some (.int 32), some (.str tg), some (.int m), some (.lst (rowsD rows)), some (.lst (kinds.map D.int)), some (.ref (T.length + 1)), some (.int i), e8, none, none] ∧ S = o :: (T ++ [.lst (met.map D.int)]) ∧
    (0 : Int) ∈ met ∧ met.Nodup ∧ (∀ z ∈ met, 0 ≤ z ∧ z < m) ∧ 0 ≤ i ∧ i ≤ met.length ∧ met.length ≤ m.toNat ∧ mes = m.toNat - i.toNat ∧ ∀ j : Nat, j < i.toNat → ∀ z, met[j]? = some z → ∀ r, rows[z.toNat]? = some r → ∀ y ∈ r, y ∈ met) fuelW m.toNat _ _ ?_ (by unfold fuelW; omega) ?_
  · exact ⟨[0], 0, none, rfl, rfl, by simp, by simp, by simp; omega, by omega, by simp, by simp; omega, by simp, by simp⟩
  · rintro mes _ _ ⟨met, i, e8, rfl, rfl, hm0, hnd, hm, hi0, hi1, hml, rfl, hcl⟩
    simp
    split
    · rename_i hlt
      have hz := hm _ (List.getElem_mem (show i.toNat < met.length by omega))
      have hxr : rows[(met[i.toNat]'(by omega)).toNat]? = some (rows[(met[i.toNat]'(by omega)).toNat]'(by omega)) := List.getElem?_eq_getElem _
      have hrw := (hrow _ (List.getElem_mem (show (met[i.toNat]'(by omega)).toNat < rows.length by omega))).2
      rw [at_map hi0 hlt, so_some]
      simp
      rw [at_rows hz.1 (by omega), so_some]
      simp
      revert hrw hxr
      generalize (rows[(met[i.toNat]'(by omega)).toNat]'(by omega)) = row
      intro hxr hrw
      refine ok_for (Q := fun _ _ => True) (fun ds ρ S => ∃ (mt : List Int) (e8 : Option D), ρ = [some (.ref 0), some (.int 32), some (.str tg), some (.int m), some (.lst (rowsD rows)), some (.lst (kinds.map D.int)), some (.ref (T.length + 1)), some (.int i), e8, none, none] ∧ S = o :: (T ++ [.lst (mt.map D.int)]) ∧
        met <+: mt ∧ mt.Nodup ∧ (∀ z ∈ mt, 0 ≤ z ∧ z < m) ∧ (∀ y ∈ row, y ∈ mt ∨ D.int y ∈ ds) ∧ ∀ d ∈ ds, ∃ z : Int, d = .int z ∧ 0 ≤ z ∧ z < m) _ _ _ ?_ ?_ ?_
      · exact ⟨met, e8, rfl, rfl, List.prefix_rfl, hnd, hm, fun y hy => .inr (List.mem_map.mpr ⟨y, hy, rfl⟩), fun d hd => by obtain ⟨z, hz, rfl⟩ := List.mem_map.mp hd; exact ⟨z, rfl, hrw z hz⟩⟩
      · rintro d ds _ _ ⟨mt, e8', rfl, rfl, hp, hn, hr', hy, hd⟩
        obtain ⟨z, rfl, z0, z1⟩ := hd d List.mem_cons_self
        refine ⟨_, rfl, ?_⟩
        simp [notin_ints (S := o :: (T ++ [.lst (mt.map D.int)])) (n := T.length + 1) (l := mt) (z := z) (by simp)]
        split
        · rename_i hmem
          simp [mergeE]
          refine ⟨mt, rfl, hp, hn, hr', fun y hy' => (hy y hy').elim .inl fun e => ?_, fun d hd' => hd d (List.mem_cons_of_mem _ hd')⟩
          rcases List.mem_cons.mp e with e | e
          · cases e; exact .inl hmem
          · exact .inr e
        · rename_i hmem
          simp [mergeE, line]
          have := nodup_len hn hr'
          refine ⟨by omega, mt ++ [z], by simp, hp.trans (List.prefix_append _ _), ?_, ?_, fun y hy' => (hy y hy').elim (fun h => .inl (List.mem_append_left _ h)) fun e => ?_, fun d hd' => hd d (List.mem_cons_of_mem _ hd')⟩
          · rw [List.nodup_append]
            refine ⟨hn, by simp, fun a ha b hb => ?_⟩
            simp at hb
            subst hb
            exact fun e => hmem (e ▸ ha)
          · intro y hy'
            rcases List.mem_append.mp hy' with h | h
            · exact hr' y h
            · simp at h; subst h; exact ⟨z0, z1⟩
          · rcases List.mem_cons.mp e with e | e
            · cases e; exact .inl (by simp)
            · exact .inr e
      · rintro _ _ ⟨mt, e8', rfl, rfl, hp, hn, hr', hy, hd⟩
        simp [mergeE]
        obtain ⟨u, rfl⟩ := hp
        refine ⟨_, ?_, met ++ u, rfl, List.mem_append_left _ hm0, hn, hr', by omega, by simp; omega, nodup_len hn hr', rfl, fun j hj z hz' r hr2 y hy' => ?_⟩
        · omega
        · rw [List.getElem?_append_left (by omega)] at hz'
          by_cases e : j < i.toNat
          · exact List.mem_append_left _ (hcl j e z hz' r hr2 y hy')
          · have e' : j = i.toNat := by omega
            subst e'
            rw [List.getElem?_eq_getElem (by omega)] at hz'
            cases hz'
            rw [hxr] at hr2
            cases hr2
            exact (hy y hy').elim id fun h => nomatch h
    · rename_i hlt
      refine tail3_ok ht ht2 h1 h2 hr hk hrow hm (by omega) hm0 ?_ k
      intro z hz r hr' y hy
      obtain ⟨j, hj, rfl⟩ := List.mem_iff_getElem.mp hz
      exact hcl j (by omega) _ (List.getElem?_eq_getElem hj) r hr' y hy
theorem tail_ok {tg : List Nat} {m : Int} (ht : tg ≠ []) (ht2 : tg.length ≤ 6) (h1 : 1 ≤ m) (h2 : m ≤ 32) (h : SrcO c o) (hc : c < 20000000)
    (k : ∀ (rows : List (List Int)) (kinds : List Int) (o' : Ob), Tab tg rows kinds → SrcO (c + 1000) o' → P (tabD tg rows kinds) (o' :: T)) :
    OkS (tableTail (T.length + 1) [some (.ref 0), some (.int 32), some (.str tg), some (.int m), none, none, none, none, none, none, none] (o :: T))
      (finK fun d S' => So (fz S' (T.length + 1) fuelF d) fun d' => P d' (S'.take (T.length + 1))) := by
  simp [tableTail]
  rw [if_neg (by omega)]
  refine rooms_ok h (by omega) h1 h2 ht2 fun rows kinds o' hr hk hrow ho => ?_
  simp [line]
  exact tail2_ok ht ht2 h1 h2 hr hk hrow fun rows kinds ht => k rows kinds o' ht ho
theorem table_ok (h : SrcO c o) (hc : c < 10000000)
    (k : ∀ (tg : List Nat) (rows : List (List Int)) (kinds : List Int) (o' : Ob), Tab tg rows kinds → SrcO (c + 2000) o' → P (tabD tg rows kinds) (o' :: T)) :
    Ok (gcF d_l_table b [.ref 0, .int 32] (o :: T)) P := by
  rw [okGcF]
  simp [d_l_table, b_table_eq, line]
  rw [okGcF]
  refine tongue_ok h (by omega) fun tg o1 ht1 ht2 h1 => ?_
  simp
  refine gdraw_ok h1 (by omega) (by omega) (by omega) fun m0 o2 g1 g2 g3 => ?_
  simp
  refine gdraw_ok g3 (by omega) (by omega) (by omega) fun d1 o3 g4 g5 g6 => ?_
  simp
  split
  · refine gdraw_ok g6 (by omega) (by omega) (by omega) fun m1 o4 g7 g8 g9 => ?_
    simp
    exact tail_ok ht1 ht2 (by omega) (by omega) g9 (by omega) fun rows kinds o' hT ho => k tg rows kinds o' hT (ho.le (by omega))
  · exact tail_ok ht1 ht2 (by omega) (by omega) g6 (by omega) fun rows kinds o' hT ho => k tg rows kinds o' hT (ho.le (by omega))
theorem strs_signs : ∀ {tx : List Nat}, strsD (tx.map fun c => D.str [c]) = some (tx.map fun c => [c])
  | [] => rfl
  | x :: l => by
    have := strs_signs (tx := l)
    show (strsD (l.map fun c => D.str [c])).map ([x] :: ·) = _
    rw [this]; rfl
theorem inter_nil : ∀ {tx : List Nat}, ([] : List Nat).intercalate (tx.map fun c => [c]) = tx
  | [] => rfl
  | [x] => rfl
  | x :: y :: l => by
    have := inter_nil (tx := y :: l)
    show List.flatten ([x] :: [] :: ((y :: l).map fun c => [c]).intersperse []) = _
    rw [List.flatten_cons, List.flatten_cons]
    exact congrArg (x :: ·) this
theorem join_signs {tx : List Nat} (h : tx.length ≤ 1000000) : pJoin b (.str []) (.lst (tx.map fun c => D.str [c])) S = .ok (.str tx) S := by
  have e : (items S (.lst (tx.map fun c => D.str [c]))).bind strsD = some (tx.map fun c => [c]) := strs_signs
  have hs : ∀ tx : List Nat, ((tx.map fun c => [c]).map List.length).sum = tx.length := by
    intro tx
    induction tx with
    | nil => rfl
    | cons x l ih =>
      show List.sum (1 :: (l.map fun c => [c]).map List.length) = l.length + 1
      rw [List.sum_cons, ih]; omega
  unfold pJoin
  simp only [e, hs, inter_nil]
  rw [if_pos (by simp [line]; omega)]
theorem text_end {tg : List Nat} {m : Int} {PS : D → Store → Prop} (ht : tg ≠ []) (ht2 : tg.length ≤ 6) (hm : 0 ≤ m) (hm2 : m ≤ 240) (h : SrcO c o) (hc : c < 10000000)
    (k : ∀ (tx : List Nat) (o' : Ob), tx.length ≤ 240 → (∀ x ∈ tx, x ∈ tg) → SrcO (c + 240) o' → PS (.lst (tx.map fun c => D.str [c])) (o' :: T)) :
    Ok (gc (eLc [3] (wRange1 (aC (eV 2) aN)) (gN 3) tT (e2 pIxN (eV 1) (eCall (gcF d_draw) (aC (eV 0) (aC (eN (n1 pLenN) (aC (eV 1) aN)) aN))))) (T.length + 1) [some (D.ref 0), some (D.str tg), some (D.int m), none] (o :: T)) PS := by
  have hp : 0 < tg.length := List.length_pos_iff.mpr ht
  refine gc_lcI (ds := rng 0 m) (fun ds acc S => ∃ (tx : List Nat) (o' : Ob) (cc : Int), acc = tx.map (fun c => D.str [c]) ∧ S = o' :: T ∧ tx.length + ds.length = m.toNat ∧ (∀ x ∈ tx, x ∈ tg) ∧ SrcO cc o' ∧ cc + ds.length ≤ c + 240) ?_ ?_ ?_ ?_ ?_
  · simp
    omega
  · rw [len_rng]; simp [line]; omega
  · exact ⟨[], o, c, rfl, rfl, by rw [len_rng]; simp, by simp, h, by rw [len_rng]; omega⟩
  · rintro d ds acc S hS ⟨tx, o', cc, rfl, rfl, hl, hx, ho, hcc⟩
    simp only [List.length_cons] at hl hcc
    simp [dropE]
    refine ⟨by simp [line]; omega, gdraw_ok ho (by omega) (by omega) (by omega) fun j o2 g1 g2 g3 => ?_⟩
    rw [v_ixS, if_pos (by simp [line]; omega), at_in g1 g2, so_some]
    refine ⟨o2 :: T, by simp, by simp, tx ++ [_], o2, cc + 1, by simp; rfl, rfl, by simp; omega, fun x hx' => ?_, g3, by omega⟩
    rcases List.mem_append.mp hx' with e | e
    · exact hx x e
    · simp at e
      subst e
      exact List.getElem_mem _
  · rintro acc S hS ⟨tx, o', cc, rfl, rfl, hl, hx, ho, hcc⟩
    simp at hl hcc
    exact ⟨bels_map fun _ => by simp, k tx o' (by omega) hx (ho.le hcc)⟩
theorem text_ok {tg : List Nat} (ht : tg ≠ []) (ht2 : tg.length ≤ 6) (h : SrcO c o) (hc : c < 1000000)
    (k : ∀ (tx : List Nat) (o' : Ob), tx.length ≤ 240 → (∀ x ∈ tx, x ∈ tg) → SrcO (c + 300) o' → P (.str tx) (o' :: T)) : Ok (gcF d_l_text b [.ref 0, .str tg] (o :: T)) P := by
  rw [okGcF]
  simp [d_l_text, b_l_text]
  refine gdraw_ok h (by omega) (by omega) (by omega) fun m0 o2 g1 g2 g3 => ?_
  simp
  refine gdraw_ok g3 (by omega) (by omega) (by omega) fun d1 o3 g4 g5 g6 => ?_
  simp
  split
  · refine gdraw_ok g6 (by omega) (by omega) (by omega) fun m1 o4 g7 g8 g9 => ?_
    simp
    refine text_end ht ht2 g7 (by omega) g9 (by omega) fun tx o' h1 h2 h3 => ?_
    simp [join_signs (show tx.length ≤ 1000000 by omega)]
    exact k tx o' h1 h2 (h3.le (by omega))
  · refine text_end ht ht2 g1 (by omega) g6 (by omega) fun tx o' h1 h2 h3 => ?_
    simp [join_signs (show tx.length ≤ 1000000 by omega)]
    exact k tx o' h1 h2 (h3.le (by omega))
/-! ### the longest piece from a place -/
def nxt (tg : List Nat) (rows : List (List Int)) (room : Int) (s : Nat) : Int := (((rows[room.toNat]?).getD [])[tg.findIdx fun x => x == s]?).getD 0
def kd (kinds : List Int) (room : Int) : Int := (kinds[room.toNat]?).getD 0
def scan (tg : List Nat) (rows : List (List Int)) (kinds : List Int) : List Nat → Nat → Int → Option (Int × Int) → Option (Int × Int)
  | [], _, _, f => f
  | s :: l, p, room, f => scan tg rows kinds l (p + 1) (nxt tg rows room s) (if 0 ≤ kd kinds (nxt tg rows room s) then some (kd kinds (nxt tg rows room s), (p : Int) + 1) else f)
def encF : Option (Int × Int) → D
  | none => .non
  | some (k, e) => .tup [.int k, .int e]
theorem fz_t2 {i j : Int} : fz S n fuelF (.tup [.int i, .int j]) = some (.tup [.int i, .int j]) := fz_cl (by simp)
theorem fz_enc {f : Option (Int × Int)} : fz S n fuelF (encF f) = some (encF f) := by
  cases f with
  | none => exact fz_cl rfl
  | some p => exact fz_cl (by simp [encF])
theorem find_sign {tg : List Nat} {s : Nat} (h : s ∈ tg) : pFind b (.str tg) (.str [s]) S = .ok (.int (tg.findIdx fun x => x == s : Nat)) S := by
  have e : tg.findIdx? (fun x => x == s) = some (tg.findIdx fun x => x == s) := by
    rw [List.findIdx?_eq_some_iff_findIdx_eq]
    exact ⟨List.findIdx_lt_length_of_exists ⟨s, h, by simp⟩, rfl⟩
  show Res.ok (D.int (match tg.findIdx? (fun x => x == s) with | some k => (k : Int) | none => -1)) S = _
  rw [e]
section
variable {tg : List Nat} {rows : List (List Int)} {kinds : List Int} {tx : List Nat}
theorem row_at (t : Tab tg rows kinds) {room : Int} {s : Nat} (h0 : 0 ≤ room) (h1 : room < rows.length) (hs : s ∈ tg) :
    at_ (rows.map fun r => D.tup (r.map D.int)) room = some (.tup ((rows[room.toNat]'(by omega)).map D.int)) ∧ at_ ((rows[room.toNat]'(by omega)).map D.int) ((tg.findIdx fun x => x == s : Nat) : Int) = some (.int (nxt tg rows room s)) ∧ 0 ≤ nxt tg rows room s ∧ nxt tg rows room s < rows.length := by
  have hr := t.row _ (List.getElem_mem (show room.toNat < rows.length by omega))
  have hf : (tg.findIdx fun x => x == s) < (rows[room.toNat]'(by omega)).length := by rw [hr.1]; exact List.findIdx_lt_length_of_exists ⟨s, hs, by simp⟩
  have e : nxt tg rows room s = (rows[room.toNat]'(by omega))[tg.findIdx fun x => x == s] := by
    unfold nxt
    rw [List.getElem?_eq_getElem (show room.toNat < rows.length by omega), Option.getD_some, List.getElem?_eq_getElem hf, Option.getD_some]
  refine ⟨at_map h0 h1, ?_, ?_⟩
  · rw [at_map (by omega) (by omega), e]
    simp
  · rw [e]
    exact hr.2 _ (List.getElem_mem hf)
theorem kind_at (t : Tab tg rows kinds) {room : Int} (h0 : 0 ≤ room) (h1 : room < rows.length) : at_ (kinds.map D.int) room = some (.int (kd kinds room)) := by
  have := t.kl
  rw [at_map h0 (by omega)]
  unfold kd
  rw [List.getElem?_eq_getElem (by omega), Option.getD_some]
theorem first_ok (t : Tab tg rows kinds) (hx : ∀ x ∈ tx, x ∈ tg) (hl : tx.length ≤ 240) {p : Nat} (hp : p ≤ tx.length) (k : P (encF (scan tg rows kinds (tx.drop p) p 0 none)) S) : Ok (d_l_first b [tabD tg rows kinds, .str tx, .int p] S) P := by
  have hL : tx.length ≤ 16777216 := by omega
  simp [d_l_first, b_l_first, line, hL]
  refine ⟨by omega, ?_⟩
  refine ok_for (Q := fun _ _ => True) (fun ds ρ S' => ∃ (q : Nat) (room : Int) (f : Option (Int × Int)), ds = rng q tx.length ∧ q ≤ tx.length ∧ ρ = [some (tabD tg rows kinds), some (.str tx), some (.int p), some (.int room), some (encF f), none] ∧ S' = S ∧ 0 ≤ room ∧ room < rows.length ∧ scan tg rows kinds (tx.drop q) q room f = scan tg rows kinds (tx.drop p) p 0 none) _ _ _ ?_ ?_ ?_
  · have := t.pos
    exact ⟨p, 0, none, rfl, hp, rfl, rfl, by omega, by omega, rfl⟩
  · rintro d ds _ _ ⟨q, room, f, hd, hq, rfl, rfl, h0, h1, hsc⟩
    have hlt : q < tx.length := by
      rcases Nat.lt_or_ge q tx.length with h | h
      · exact h
      · rw [rng_nil (by omega)] at hd; cases hd
    rw [rng_cons (by omega)] at hd
    cases hd
    refine ⟨_, rfl, ?_⟩
    have hs : tx[q] ∈ tg := hx _ (List.getElem_mem hlt)
    obtain ⟨a1, a2, a3, a4⟩ := row_at t h0 h1 hs
    have a5 := kind_at t a3 a4
    have hT : at_ tx (q : Int) = some tx[q] := by rw [at_in (by omega) (by omega)]; rfl
    simp [tabD, at_lit, a1, line, hL, hT, find_sign hs, a2, a5]
    rw [List.drop_eq_getElem_cons hlt] at hsc
    simp only [scan] at hsc
    split
    · rename_i hk
      rw [if_pos hk] at hsc
      exact ⟨q + 1, by simp, hlt, _, some (_, (q : Int) + 1), by simp [mergeE, fz_t2, encF], a3, a4, hsc⟩
    · rename_i hk
      rw [if_neg hk] at hsc
      exact ⟨q + 1, by simp, hlt, _, f, by simp [mergeE, fz_enc], a3, a4, hsc⟩
  · rintro _ _ ⟨q, room, f, hd, hq, rfl, rfl, h0, h1, hsc⟩
    simp
    have : q = tx.length := by
      rcases Nat.lt_or_ge q tx.length with h | h
      · rw [rng_cons (by omega)] at hd; cases hd
      · omega
    subst this
    rw [List.drop_length] at hsc
    rw [← hsc] at k
    exact k
theorem longest_ok (t : Tab tg rows kinds) (hx : ∀ x ∈ tx, x ∈ tg) (hl : tx.length ≤ 240) {p : Nat} (hp : p ≤ tx.length) (k : P (encF (scan tg rows kinds (tx.drop p) p 0 none)) S) : Ok (d_longest b [tabD tg rows kinds, .str tx, .int p] S) P := by
  have hL : tx.length ≤ 16777216 := by omega
  simp [d_longest, b_longest, line, hL, tabD]
  refine ⟨by omega, ?_⟩
  refine ok_for (Q := fun _ _ => True) (fun ds ρ S' => ∃ (q : Nat) (room : Int) (f : Option (Int × Int)), ds = rng q tx.length ∧ q ≤ tx.length ∧ ρ = [some (.tup [.str tg, .tup (rows.map fun r => .tup (r.map D.int)), .tup (kinds.map D.int)]), some (.str tx), some (.int p), some (.str tg), some (.tup (rows.map fun r => .tup (r.map D.int))), some (.tup (kinds.map D.int)), some (.int room), some (encF f), none] ∧ S' = S ∧ 0 ≤ room ∧ room < rows.length ∧ scan tg rows kinds (tx.drop q) q room f = scan tg rows kinds (tx.drop p) p 0 none) _ _ _ ?_ ?_ ?_
  · have := t.pos
    exact ⟨p, 0, none, rfl, hp, rfl, rfl, by omega, by omega, rfl⟩
  · rintro d ds _ _ ⟨q, room, f, hd, hq, rfl, rfl, h0, h1, hsc⟩
    have hlt : q < tx.length := by
      rcases Nat.lt_or_ge q tx.length with h | h
      · exact h
      · rw [rng_nil (by omega)] at hd; cases hd
    rw [rng_cons (by omega)] at hd
    cases hd
    refine ⟨_, rfl, ?_⟩
    have hs : tx[q] ∈ tg := hx _ (List.getElem_mem hlt)
    obtain ⟨a1, a2, a3, a4⟩ := row_at t h0 h1 hs
    have a5 := kind_at t a3 a4
    have hT : at_ tx (q : Int) = some tx[q] := by rw [at_in (by omega) (by omega)]; rfl
    simp [tabD, at_lit, a1, line, hL, hT, find_sign hs, a2, a5]
    rw [List.drop_eq_getElem_cons hlt] at hsc
    simp only [scan] at hsc
    split
    · rename_i hk
      rw [if_pos hk] at hsc
      exact ⟨q + 1, by simp, hlt, _, some (_, (q : Int) + 1), by simp [mergeE, fz_t2, encF], a3, a4, hsc⟩
    · rename_i hk
      rw [if_neg hk] at hsc
      exact ⟨q + 1, by simp, hlt, _, f, by simp [mergeE, fz_enc], a3, a4, hsc⟩
  · rintro _ _ ⟨q, room, f, hd, hq, rfl, rfl, h0, h1, hsc⟩
    simp
    have : q = tx.length := by
      rcases Nat.lt_or_ge q tx.length with h | h
      · rw [rng_cons (by omega)] at hd; cases hd
      · omega
    subst this
    rw [List.drop_length] at hsc
    rw [← hsc] at k
    exact k
theorem encF_n : encF none = .non := rfl
theorem encF_s {k e : Int} : encF (some (k, e)) = .tup [.int k, .int e] := rfl
theorem gfirst_ok (t : Tab tg rows kinds) (hx : ∀ x ∈ tx, x ∈ tg) (hl : tx.length ≤ 240) {p : Nat} (hp : p ≤ tx.length) (k : P (encF (scan tg rows kinds (tx.drop p) p 0 none)) S) : Ok (gcF d_l_first b [tabD tg rows kinds, .str tx, .int p] S) P := by
  rw [okGcF]
  refine first_ok t hx hl hp ?_
  rw [fz_enc, so_some, List.take_length]
  exact k
theorem glongest_ok (t : Tab tg rows kinds) (hx : ∀ x ∈ tx, x ∈ tg) (hl : tx.length ≤ 240) {p : Nat} (hp : p ≤ tx.length) (k : P (encF (scan tg rows kinds (tx.drop p) p 0 none)) S) : Ok (gcF d_longest b [tabD tg rows kinds, .str tx, .int p] S) P := by
  rw [okGcF]
  refine longest_ok t hx hl hp ?_
  rw [fz_enc, so_some, List.take_length]
  exact k
theorem scan_in : ∀ {l : List Nat} {p : Nat} {room : Int} {f : Option (Int × Int)} {k e : Int}, scan tg rows kinds l p room f = some (k, e) → f = some (k, e) ∨ ((p : Int) < e ∧ e ≤ p + l.length)
  | [], _, _, _, _, _, h => .inl h
  | s :: l, p, room, f, k, e, h => by
    simp only [scan] at h
    simp only [List.length_cons]
    rcases scan_in h with h | h
    · split at h
      · cases h; right; omega
      · exact .inl h
    · right; omega
/-- the pieces from a place on -/
def cutsAt (tg : List Nat) (rows : List (List Int)) (kinds : List Int) (tx : List Nat) (acc : List (Int × Int × Int)) (p : Nat) : List (Int × Int × Int) × Nat :=
  match scan tg rows kinds (tx.drop p) p 0 none with
  | none => (acc, p)
  | some (k, e) => if h : p < e.toNat ∧ e.toNat ≤ tx.length then cutsAt tg rows kinds tx (acc ++ [(k, (p : Int), e)]) e.toNat else (acc, p)
termination_by tx.length - p
def pcD (q : Int × Int × Int) : D := .tup [.int q.1, .int q.2.1, .int q.2.2]
def dueD (r : List (Int × Int × Int) × Nat) : D := .tup [.lst (r.1.map pcD), .int r.2]
theorem bels_pc {l : List (Int × Int × Int)} : bels 0 (l.map pcD) = true := bels_map fun _ => by simp [pcD]
theorem cuts_none {acc : List (Int × Int × Int)} {p : Nat} (h : scan tg rows kinds (tx.drop p) p 0 none = none) : cutsAt tg rows kinds tx acc p = (acc, p) := by
  rw [cutsAt]; simp only [h]
theorem cuts_some {acc : List (Int × Int × Int)} {p : Nat} {k e : Int} (h : scan tg rows kinds (tx.drop p) p 0 none = some (k, e)) (hp : p ≤ tx.length) : (p : Int) < e ∧ e ≤ tx.length ∧ cutsAt tg rows kinds tx acc p = cutsAt tg rows kinds tx (acc ++ [(k, (p : Int), e)]) e.toNat := by
  have := scan_in h
  simp only [List.length_drop] at this
  rcases this with h' | h'
  · cases h'
  · refine ⟨h'.1, by omega, ?_⟩
    rw [cutsAt]
    simp only [h]
    rw [dif_pos (by omega)]
theorem cut_ok (t : Tab tg rows kinds) (hx : ∀ x ∈ tx, x ∈ tg) (hl : tx.length ≤ 240) (k : P (dueD (cutsAt tg rows kinds tx [] 0)) S) : Ok (gcF d_l_cut b [tabD tg rows kinds, .str tx] S) P := by
  rw [okGcF]
  simp [d_l_cut, b_l_cut, line]
  refine gfirst_ok t hx hl (p := 0) (Nat.zero_le _) ?_
  simp
  refine ok_while (fun mes ρ S' => ∃ (p : Nat) (acc : List (Int × Int × Int)), p ≤ tx.length ∧ mes = tx.length - p ∧ acc.length ≤ p ∧ ρ = [some (tabD tg rows kinds), some (.str tx), some (.ref S.length), some (.int p), some (encF (scan tg rows kinds (tx.drop p) p 0 none))] ∧ S' = S ++ [.lst (acc.map pcD)] ∧ cutsAt tg rows kinds tx acc p = cutsAt tg rows kinds tx [] 0) fuelW tx.length _ _ ?_ (by unfold fuelW; omega) ?_
  · exact ⟨0, [], by omega, rfl, by simp, rfl, rfl, rfl⟩
  · rintro mes _ _ ⟨p, acc, hp, rfl, ha, rfl, rfl, hc⟩
    cases hsc : scan tg rows kinds (tx.drop p) p 0 none with
    | none =>
      rw [cuts_none hsc] at hc
      simp [encF_n, pNotN]
      refine ⟨by simp [line], ?_⟩
      rw [show fuelF = 38 + 2 from rfl, fz_tup2 (d' := .lst (acc.map pcD)) (e' := .int p) (fz_ref (k := 37) (by simp) (by omega) bels_pc) (fz_of_bel (by simp))]
      simp
      rw [← hc] at k
      exact k
    | some q =>
      obtain ⟨kk, e⟩ := q
      obtain ⟨h1, h2, h3⟩ := cuts_some (acc := acc) hsc hp
      obtain ⟨e, rfl⟩ := Int.eq_ofNat_of_zero_le (show 0 ≤ e by omega)
      simp [encF_s, pNotN, at_lit, line]
      refine ⟨by omega, gfirst_ok t hx hl (p := e) (by omega) ?_⟩
      simp [mergeE, fz_enc]
      refine ⟨_, ?_, e, by omega, rfl, acc ++ [(kk, (p : Int), (e : Int))], by simp; omega, ?_⟩
      · omega
      · simp [pcD]
        rw [← hc, h3]; simp
theorem all_tt {l : List D} : pAll b (.lst (l.map fun _ => D.bl true)) S = .ok (.bl true) S := by
  have h : ∀ l : List D, boolsD (l.map fun _ => D.bl true) = some (l.map fun _ => true) := by
    intro l
    induction l with
    | nil => rfl
    | cons x l ih =>
      show (boolsD (l.map fun _ => D.bl true)).map (true :: ·) = _
      rw [ih]; rfl
  unfold pAll
  simp only [isL, items, Option.bind_some, h, if_true]
  congr 2
  rw [List.all_eq_true]
  intro x hx
  obtain ⟨_, _, rfl⟩ := List.mem_map.mp hx
  rfl
theorem is_text_ok (hx : ∀ x ∈ tx, x ∈ tg) (hl : tx.length ≤ 240) (k : P (.bl true) S) : Ok (gcF d_is_text b [.str tg, .str tx] S) P := by
  rw [okGcF]
  simp [d_is_text, b_is_text, pIsI, tyOf, isTy]
  refine gc_lc (ds := tx.map fun c => .str [c]) (fun _ => .bl true) ?_ (by simp [line]; omega) ?_ ?_ ?_
  · simp
  · intro d hd acc
    obtain ⟨x, hx', rfl⟩ := List.mem_map.mp hd
    simp [dropE, pInN, inN, pairsOf, inD, hx x hx']
  · intro d hd; rfl
  · rw [okAN, okN1, all_tt]
    simp
    exact k
theorem pcut_ok (t : Tab tg rows kinds) (hx : ∀ x ∈ tx, x ∈ tg) (hl : tx.length ≤ 240) (k : P (dueD (cutsAt tg rows kinds tx [] 0)) S) : Ok (gcF d_cut b [tabD tg rows kinds, .str tx] S) P := by
  rw [okGcF]
  simp [d_cut, b_cut, tabD, at_lit]
  refine is_text_ok hx hl ?_
  have hL : tx.length ≤ 16777216 := by omega
  simp [line]
  refine ok_while (fun mes ρ S' => ∃ (p : Nat) (acc : List (Int × Int × Int)), p ≤ tx.length ∧ mes = tx.length - p ∧ acc.length ≤ p ∧ ρ = [some (tabD tg rows kinds), some (.str tx), some (.ref S.length), some (.int p), none] ∧ S' = S ++ [.lst (acc.map pcD)] ∧ cutsAt tg rows kinds tx acc p = cutsAt tg rows kinds tx [] 0) fuelW tx.length _ _ ?_ (by unfold fuelW; omega) ?_
  · exact ⟨0, [], by omega, rfl, by simp, rfl, rfl, rfl⟩
  · rintro mes _ _ ⟨p, acc, hp, rfl, ha, rfl, rfl, hc⟩
    simp [line, hL]
    split
    · refine glongest_ok t hx hl hp ?_
      cases hsc : scan tg rows kinds (tx.drop p) p 0 none with
      | none =>
        rw [cuts_none hsc] at hc
        simp [encF_n, pIsN]
        refine ⟨by simp [line], ?_⟩
        rw [show fz (S ++ [Ob.lst (acc.map pcD)]) (S.length + 1) fuelF (D.tup [D.ref S.length, D.int p]) = some (D.tup [D.ref S.length, D.int p]) from fz_of_bel (by simp [bel])]
        simp
        rw [show fuelF = 38 + 2 from rfl, fz_tup2 (d' := .lst (acc.map pcD)) (e' := .int p) (fz_ref (k := 37) (by simp) (by omega) bels_pc) (fz_of_bel (by simp))]
        simp
        rw [← hc] at k
        exact k
      | some q =>
        obtain ⟨kk, e⟩ := q
        obtain ⟨h1, h2, h3⟩ := cuts_some (acc := acc) hsc hp
        obtain ⟨e, rfl⟩ := Int.eq_ofNat_of_zero_le (show 0 ≤ e by omega)
        simp [encF_s, pIsN, at_lit, line, mergeE]
        refine ⟨by omega, _, ?_, e, by omega, rfl, acc ++ [(kk, (p : Int), (e : Int))], by simp; omega, ?_⟩
        · omega
        · simp [pcD]
          rw [← hc, h3]; simp
    · have hpe : p = tx.length := by omega
      have hsc : scan tg rows kinds (tx.drop p) p 0 none = none := by rw [hpe, List.drop_length]; rfl
      rw [cuts_none hsc] at hc
      rw [show fuelF = 38 + 2 from rfl, fz_tup2 (d' := .lst (acc.map pcD)) (e' := .int p) (fz_ref (k := 37) (by simp) (by omega) bels_pc) (fz_of_bel (by simp))]
      simp
      rw [← hc] at k
      exact k
end
/-! ### whether a cut holds -/
/-- plain data of bounded depth -/
def pl : Nat → D → Bool
  | _, .non => true
  | _, .bl _ => true
  | _, .int _ => true
  | _, .str _ => true
  | k + 1, .tup l => l.all (pl k)
  | k + 1, .lst l => l.all (pl k)
  | _, .dic [] [] => true
  | _, _ => false
def isI : D → Bool
  | .int _ => true
  | _ => false
def numsB : D → Bool
  | .tup l => l.all isI
  | _ => false
def cmpL : List D → List (Int × Int × Int) → Bool
  | [], [] => true
  | d :: ds, q :: qs => numsB d && eqD d (pcD q) && cmpL ds qs
  | _, _ => false
def holdsB (due : List (Int × Int × Int) × Nat) (x y : D) : Bool := match y with
  | .int p => decide (p = due.2) && (match x with
    | .lst ds => decide (ds.length = due.1.length) && cmpL ds due.1
    | _ => false)
  | _ => false
theorem ty_ib : (Ty.int == Ty.bool) = false := rfl
def lenB (m : Int) : D → Bool
  | .tup l => decide ((l.length : Int) = m)
  | _ => true
theorem is_number_ok {d : D} {k : Nat} (h : pl k d = true) (kk : P (.bl (isI d)) S) : Ok (gcF d_is_number b [d] S) P := by
  rw [okGcF]
  cases d with
  | ref _ => cases k <;> cases h
  | exn _ => cases k <;> cases h
  | scr _ => cases k <;> cases h
  | _ => simpa [d_is_number, b_is_number, pIsI, tyOf, isTy, isI, ty_ib] using kk
theorem is_numbers_ok {d : D} {k : Nat} (h : pl k d = true) (kk : P (.bl (numsB d)) S) : Ok (gcF d_is_numbers b [d] S) P := by
  rw [okGcF]
  cases d with
  | ref _ => cases k <;> cases h
  | exn _ => cases k <;> cases h
  | scr _ => cases k <;> cases h
  | tup l =>
    cases k with
    | zero => cases h
    | succ k =>
      have hl : ∀ d ∈ l, pl k d = true := List.all_eq_true.mp h
      simp [d_is_numbers, b_is_numbers, pIsI, tyOf, isTy]
      refine ok_for (Q := fun _ _ => True) (fun ds ρ S' => (∀ d ∈ ds, pl k d = true) ∧ ρ = [some (.tup l), none] ∧ S' = S ∧ l.all isI = ds.all isI) _ _ _ ⟨hl, rfl, rfl, rfl⟩ ?_ ?_
      · rintro d ds _ _ ⟨h1, rfl, rfl, h2⟩
        refine ⟨_, rfl, ?_⟩
        simp
        refine is_number_ok (h1 d List.mem_cons_self) ?_
        cases hd : isI d with
        | true =>
          rw [List.all_cons, hd, Bool.true_and] at h2
          simp [mergeE]
          exact ⟨fun d hd => h1 d (List.mem_cons_of_mem _ hd), by simpa using h2⟩
        | false =>
          rw [List.all_cons, hd, Bool.false_and] at h2
          have : numsB (.tup l) = false := h2
          rw [this] at kk
          simpa using kk
      · rintro _ _ ⟨h1, rfl, rfl, h2⟩
        have : numsB (.tup l) = true := h2
        rw [this] at kk
        simpa using kk
  | _ => simpa [d_is_numbers, b_is_numbers, pIsI, tyOf, isTy, numsB] using kk
theorem l_numbers_ok {d : D} {k : Nat} {m : Int} (h : pl k d = true) (kk : P (.bl (numsB d && lenB m d)) S) : Ok (gcF d_l_numbers b [d, .int m] S) P := by
  rw [okGcF]
  cases d with
  | ref _ => cases k <;> cases h
  | exn _ => cases k <;> cases h
  | scr _ => cases k <;> cases h
  | tup l =>
    cases k with
    | zero => cases h
    | succ k =>
      have hl : ∀ d ∈ l, pl k d = true := List.all_eq_true.mp h
      simp [d_l_numbers, b_l_numbers, pIsI, tyOf, isTy]
      by_cases hm : (l.length : Int) = m
      · simp only [hm]
        simp
        have e : lenB m (.tup l) = true := decide_eq_true hm
        rw [e, Bool.and_true] at kk
        refine ok_for (Q := fun _ _ => True) (fun ds ρ S' => (∀ d ∈ ds, pl k d = true) ∧ ρ = [some (.tup l), some (.int m), none] ∧ S' = S ∧ l.all isI = ds.all isI) _ _ _ ⟨hl, rfl, rfl, rfl⟩ ?_ ?_
        · rintro d ds _ _ ⟨h1, rfl, rfl, h2⟩
          refine ⟨_, rfl, ?_⟩
          have hd := h1 d List.mem_cons_self
          rw [List.all_cons] at h2
          cases hi : isI d with
          | true =>
            cases d with
            | int i =>
              rw [hi, Bool.true_and] at h2
              simp [mergeE, pIsI, tyOf, isTy, ty_ib]
              exact ⟨fun d hd => h1 d (List.mem_cons_of_mem _ hd), by simpa using h2⟩
            | _ => cases hi
          | false =>
            rw [hi, Bool.false_and] at h2
            have : numsB (.tup l) = false := h2
            rw [this] at kk
            cases d with
            | ref _ => cases k <;> cases hd
            | exn _ => cases k <;> cases hd
            | scr _ => cases k <;> cases hd
            | int _ => cases hi
            | _ => simpa [pIsI, tyOf, isTy] using kk
        · rintro _ _ ⟨h1, rfl, rfl, h2⟩
          have : numsB (.tup l) = true := h2
          rw [this] at kk
          simpa using kk
      · have e : lenB m (.tup l) = false := decide_eq_false hm
        rw [e, Bool.and_false] at kk
        simp [hm]
        simpa using kk
  | _ => simpa [d_l_numbers, b_l_numbers, pIsI, tyOf, isTy, numsB] using kk
theorem deps_int : ∀ {l : List D}, l.all isI = true → deps l = 0
  | [], _ => rfl
  | d :: l, h => by
    rw [List.all_cons, Bool.and_eq_true] at h
    cases d with
    | int i =>
      show max (dep (.int i)) (deps l) = 0
      rw [deps_int h.2]; rfl
    | _ => exact absurd h.1 Bool.false_ne_true
theorem bels_int' : ∀ {l : List D}, l.all isI = true → bels 0 l = true
  | [], _ => rfl
  | d :: l, h => by
    rw [List.all_cons, Bool.and_eq_true] at h
    cases d with
    | int i =>
      show (true && bels 0 l) = true
      rw [bels_int' h.2]; rfl
    | _ => exact absurd h.1 Bool.false_ne_true
theorem ne_pc {d : D} {q : Int × Int × Int} (h : numsB d = true) : pNe b d (pcD q) S = .ok (.bl (!eqD d (pcD q))) S := by
  cases d with
  | tup l =>
    have h' : l.all isI = true := h
    have e1 : rd S (.tup l) = some (.tup l) := fz_cl (bels_int' h')
    have e2 : rd S (pcD q) = some (pcD q) := fz_cl rfl
    have e3 : shp (.tup l) = true := by
      unfold shp
      have : dep (.tup l) = 1 := by show deps l + 1 = 1; rw [deps_int h']
      rw [this]; rfl
    have e4 : cmpEq S (.tup l) (pcD q) = some (eqD (.tup l) (pcD q)) := by
      unfold cmpEq
      rw [if_neg (by unfold pcD; exact Bool.false_ne_true), e1, e2]
      show (if (shp (.tup l) && shp (pcD q)) = true then _ else _) = _
      rw [e3, show shp (pcD q) = true from rfl]; rfl
    unfold pNe
    rw [e4]
  | _ => cases h
theorem eqDs_len : ∀ {l m : List D}, eqDs l m = true → l.length = m.length
  | [], [], _ => rfl
  | [], _ :: _, h => by cases h
  | _ :: _, [], h => by cases h
  | a :: l, b :: m, h => by
    have : (eqD a b && eqDs l m) = true := h
    rw [Bool.and_eq_true] at this
    rw [List.length_cons, List.length_cons, eqDs_len this.2]
theorem pl_bel : ∀ {k : Nat} {d : D}, pl k d = true → bel 0 d = true := by
  intro k
  induction k with
  | zero =>
    intro d h
    cases d with
    | dic ks vs => cases ks <;> cases vs <;> first | rfl | cases h
    | _ => first | rfl | cases h
  | succ k ih =>
    intro d h
    cases d with
    | dic ks vs => cases ks <;> cases vs <;> first | rfl | cases h
    | tup l => exact bels_of fun d hd => ih (List.all_eq_true.mp h d hd)
    | lst l => exact bels_of fun d hd => ih (List.all_eq_true.mp h d hd)
    | _ => first | rfl | cases h
/-- a turn of the comparison, in either of the two -/
theorem cmpL_step {ds : List D} {qs : List (Int × Int × Int)} {i : Nat} (h1 : i < ds.length) (h2 : i < qs.length) : cmpL (ds.drop i) (qs.drop i) = (numsB ds[i] && eqD ds[i] (pcD qs[i]) && cmpL (ds.drop (i + 1)) (qs.drop (i + 1))) := by
  rw [List.drop_eq_getElem_cons h1, List.drop_eq_getElem_cons h2]; rfl
section
variable {tg : List Nat} {rows : List (List Int)} {kinds : List Int} {tx : List Nat}
theorem pholds_ok (t : Tab tg rows kinds) (hx : ∀ x ∈ tx, x ∈ tg) (hl : tx.length ≤ 240) {x y : D} {k : Nat} (px : pl k x = true) (py : pl k y = true)
    (kk : P (.bl (holdsB (cutsAt tg rows kinds tx [] 0) x y)) S) (hz : (cutsAt tg rows kinds tx [] 0).1.length ≤ 1000) : Ok (gcF d_cut_holds b [tabD tg rows kinds, .str tx, x, y] S) P := by
  rw [okGcF]
  simp [d_cut_holds, b_cut_holds]
  refine pcut_ok t hx hl ?_
  revert kk hz
  generalize cutsAt tg rows kinds tx [] 0 = due
  obtain ⟨ps, e⟩ := due
  intro kk hz
  have hz : ps.length ≤ 1000 := hz
  simp [dueD]
  refine is_number_ok py ?_
  cases hy : isI y with
  | false =>
    have : holdsB (ps, e) x y = false := by cases y <;> first | rfl | cases hy
    rw [this] at kk
    simpa using kk
  | true =>
    cases y with
    | int p =>
      simp
      by_cases he : p = (e : Int)
      · subst he
        simp
        cases x with
        | lst ds =>
          cases k with
          | zero => cases px
          | succ k =>
            have hp : ∀ d ∈ ds, pl k d = true := List.all_eq_true.mp px
            simp [pIsI, tyOf, isTy]
            by_cases hlen : ds.length = ps.length
            · simp [hlen]
              refine ⟨by omega, ?_⟩
              have hb : holdsB (ps, e) (.lst ds) (.int e) = cmpL ds ps := by simp [holdsB, hlen]
              rw [hb] at kk
              refine ok_for (Q := fun _ _ => True) (fun dd ρ S' => ∃ i : Nat, i ≤ ps.length ∧ dd = rng i ps.length ∧ ρ = [some (tabD tg rows kinds), some (.str tx), some (.lst ds), some (.int e), some (.lst (ps.map pcD)), some (.int e), none] ∧ S' = S ∧ cmpL (ds.drop i) (ps.drop i) = cmpL ds ps) _ _ _ ⟨0, Nat.zero_le _, rfl, rfl, rfl, rfl⟩ ?_ ?_
              · rintro d dd _ _ ⟨i, hi, hd, rfl, rfl, hc⟩
                have hlt : i < ps.length := by
                  rcases Nat.lt_or_ge i ps.length with h | h
                  · exact h
                  · rw [rng_nil (by omega)] at hd; cases hd
                rw [rng_cons (by omega)] at hd
                cases hd
                refine ⟨_, rfl, ?_⟩
                have a1 : at_ ds (i : Int) = some (ds[i]'(by omega)) := by rw [at_in (by omega) (by omega)]; rfl
                have a2 : at_ (ps.map pcD) (i : Int) = some (pcD ps[i]) := by rw [at_map (by omega) (by omega)]; rfl
                simp [a1]
                refine is_numbers_ok (hp _ (List.getElem_mem (by omega))) ?_
                rw [cmpL_step (by omega) hlt] at hc
                cases hn : numsB (ds[i]'(by omega)) with
                | false =>
                  rw [hn] at hc
                  simp at hc
                  rw [hc] at kk
                  simpa using kk
                | true =>
                  simp [a1, a2, ne_pc hn]
                  rw [hn] at hc
                  cases hq : eqD (ds[i]'(by omega)) (pcD ps[i]) with
                  | false =>
                    rw [hq] at hc
                    simp at hc
                    rw [hc] at kk
                    simpa using kk
                  | true =>
                    rw [hq] at hc
                    simp at hc
                    simp [mergeE]
                    exact ⟨i + 1, by omega, by simp, hc⟩
              · rintro _ _ ⟨i, hi, hd, rfl, rfl, hc⟩
                have : i = ps.length := by
                  rcases Nat.lt_or_ge i ps.length with h | h
                  · rw [rng_cons (by omega)] at hd; cases hd
                  · omega
                subst this
                have h1 : cmpL (ds.drop ps.length) (ps.drop ps.length) = true := by
                  rw [List.drop_length, ← hlen, List.drop_length]; rfl
                rw [← hc, h1] at kk
                simpa using kk
            · have : holdsB (ps, e) (.lst ds) (.int e) = false := by simp [holdsB, hlen]
              rw [this] at kk
              simp [show ¬ ((ds.length : Int) = ps.length) by omega]
              simpa using kk
        | ref _ => cases k <;> cases px
        | exn _ => cases k <;> cases px
        | scr _ => cases k <;> cases px
        | _ =>
          simp [holdsB] at kk
          simpa [pIsI, tyOf, isTy] using kk
      · have : holdsB (ps, e) x (.int p) = false := by simp [holdsB, he]
        rw [this] at kk
        simpa [he] using kk
    | _ => cases hy
theorem lholds_ok {due : List (Int × Int × Int) × Nat} {x y : D} {k : Nat} (px : pl k x = true) (py : pl k y = true)
    (kk : P (.bl (holdsB due x y)) S) (hz : due.1.length ≤ 1000) : Ok (gcF d_l_holds b [x, y, dueD due] S) P := by
  rw [okGcF]
  obtain ⟨ps, e⟩ := due
  have hz : ps.length ≤ 1000 := hz
  simp [d_l_holds, b_l_holds, line]
  refine l_numbers_ok (k := k + 1) (show [y].all (pl k) = true by simp [py]) ?_
  have e1 : (numsB (.tup [y]) && lenB 1 (.tup [y])) = isI y := by
    show (([y].all isI) && true) = isI y
    simp
  rw [e1]
  cases hy : isI y with
  | false =>
    have : holdsB (ps, e) x y = false := by cases y <;> first | rfl | cases hy
    rw [this] at kk
    simpa using kk
  | true =>
    cases y with
    | int p =>
      simp [dueD, at_lit]
      by_cases he : p = (e : Int)
      · subst he
        simp
        cases x with
        | lst ds =>
          cases k with
          | zero => cases px
          | succ k =>
            have hp : ∀ d ∈ ds, pl k d = true := List.all_eq_true.mp px
            simp [pIsI, tyOf, isTy, at_lit]
            by_cases hlen : ds.length = ps.length
            · simp [hlen]
              refine ⟨by omega, ?_⟩
              have hb : holdsB (ps, e) (.lst ds) (.int e) = cmpL ds ps := by simp [holdsB, hlen]
              rw [hb] at kk
              refine ok_for (Q := fun _ _ => True) (fun dd ρ S' => ∃ i : Nat, i ≤ ps.length ∧ dd = rng i ps.length ∧ ρ = [some (.lst ds), some (.int e), some (.tup [.lst (ps.map pcD), .int e]), none] ∧ S' = S ∧ cmpL (ds.drop i) (ps.drop i) = cmpL ds ps) _ _ _ ⟨0, Nat.zero_le _, rfl, rfl, rfl, rfl⟩ ?_ ?_
              · rintro d dd _ _ ⟨i, hi, hd, rfl, rfl, hc⟩
                have hlt : i < ps.length := by
                  rcases Nat.lt_or_ge i ps.length with h | h
                  · exact h
                  · rw [rng_nil (by omega)] at hd; cases hd
                rw [rng_cons (by omega)] at hd
                cases hd
                refine ⟨_, rfl, ?_⟩
                have a1 : at_ ds (i : Int) = some (ds[i]'(by omega)) := by rw [at_in (by omega) (by omega)]; rfl
                have a2 : at_ (ps.map pcD) (i : Int) = some (pcD ps[i]) := by rw [at_map (by omega) (by omega)]; rfl
                simp [a1]
                refine l_numbers_ok (hp _ (List.getElem_mem (by omega))) ?_
                rw [cmpL_step (by omega) hlt] at hc
                cases hn : numsB (ds[i]'(by omega)) with
                | false =>
                  rw [hn] at hc
                  simp at hc
                  rw [hc] at kk
                  simpa using kk
                | true =>
                  rw [hn] at hc
                  cases hm : lenB 3 (ds[i]'(by omega)) with
                  | false =>
                    have hq : eqD (ds[i]'(by omega)) (pcD ps[i]) = false := by
                      cases hd : (ds[i]'(by omega)) with
                      | tup l =>
                        rw [hd] at hm
                        rw [Bool.eq_false_iff]
                        intro h
                        have := eqDs_len (show eqDs l [.int (ps[i]).1, .int (ps[i]).2.1, .int (ps[i]).2.2] = true from h)
                        exact of_decide_eq_false (show decide ((l.length : Int) = 3) = false from hm) (by rw [this]; rfl)
                      | _ => rw [hd] at hn; cases hn
                    rw [hq] at hc
                    simp at hc
                    rw [hc] at kk
                    simpa using kk
                  | true =>
                    simp [a1, a2, ne_pc hn, at_lit]
                    cases hq : eqD (ds[i]'(by omega)) (pcD ps[i]) with
                    | false =>
                      rw [hq] at hc
                      simp at hc
                      rw [hc] at kk
                      simpa using kk
                    | true =>
                      rw [hq] at hc
                      simp at hc
                      simp [mergeE]
                      exact ⟨i + 1, by omega, by simp, hc⟩
              · rintro _ _ ⟨i, hi, hd, rfl, rfl, hc⟩
                have : i = ps.length := by
                  rcases Nat.lt_or_ge i ps.length with h | h
                  · rw [rng_cons (by omega)] at hd; cases hd
                  · omega
                subst this
                have h1 : cmpL (ds.drop ps.length) (ps.drop ps.length) = true := by
                  rw [List.drop_length, ← hlen, List.drop_length]; rfl
                rw [← hc, h1] at kk
                simpa using kk
            · have : holdsB (ps, e) (.lst ds) (.int e) = false := by simp [holdsB, hlen]
              rw [this] at kk
              simp [show ¬ ((ds.length : Int) = ps.length) by omega]
              simpa using kk
        | ref _ => cases k <;> cases px
        | exn _ => cases k <;> cases px
        | scr _ => cases k <;> cases px
        | _ =>
          simp [holdsB] at kk
          simpa [pIsI, tyOf, isTy] using kk
      · have : holdsB (ps, e) x (.int p) = false := by simp [holdsB, he]
        rw [this] at kk
        simpa [he] using kk
    | _ => cases hy
end
/-! ### what is spoilt -/
theorem three {i : Int} (h0 : 0 ≤ i) (h1 : i < 3) : i = 0 ∨ i = 1 ∨ i = 2 := by omega
theorem piece_end {d : D} {o1 : Ob} (k : ∀ d o', pl 3 d = true → SrcO (c + 2) o' → P d (o' :: T)) (g : SrcO c o1 ∨ SrcO (c + 1) o1 ∨ SrcO (c + 2) o1) (h : pl 3 d = true) : P d (o1 :: T) := by
  refine k _ _ h ?_
  rcases g with g | g | g
  · exact g.le (by omega)
  · exact g.le (by omega)
  · exact g
theorem piece_ok {q : Int × Int × Int} {w : Int} (h : SrcO c o) (hc : c < 10000000) (k : ∀ d o', pl 3 d = true → SrcO (c + 2) o' → P d (o' :: T)) : Ok (gcF d_l_piece_spoilt b [.ref 0, pcD q, .int w] (o :: T)) P := by
  rw [okGcF]
  simp [d_l_piece_spoilt, b_l_piece_spoilt]
  refine gdraw_ok h (by omega) (by omega) (by omega) fun j o1 g1 g2 g3 => ?_
  obtain ⟨x, y, z⟩ := q
  have e : pcD (x, y, z) = .tup [.int x, .int y, .int z] := rfl
  rw [e]
  rcases three g1 g2 with rfl | rfl | rfl
  · simp [cut, six, line, at_, ixn]
    split
    · rw [fz_cl (by simp)]
      simp
      exact piece_end k (.inr (.inl g3)) (by simp [pl])
    split
    · rw [fz_cl (by simp)]
      simp
      exact piece_end k (.inr (.inl g3)) (by simp [pl])
    split
    · rw [fz_cl (by simp)]
      simp
      exact piece_end k (.inr (.inl g3)) (by simp [pl])
    split
    · refine gdraw_ok g3 (by omega) (by omega) (by omega) fun r o2 a1 a2 a3 => ?_
      have a3 : SrcO (c + 2) o2 := a3.le (by omega)
      rcases three a1 a2 with rfl | rfl | rfl
      · simp [cut, six, line, at_, ixn]
        rw [fz_cl (by simp)]
        simp
        exact piece_end k (.inr (.inr a3)) (by simp [pl])
      · simp [cut, six, line, at_, ixn]
        rw [show fuelF = 38 + 2 from rfl, fz_tup3 (k := 38) (d' := .lst [.int x]) (e' := D.int y) (g' := D.int z) (fz_ref (l := [.int x]) (by simp) (by omega) (by simp)) (fz_of_bel rfl) (fz_of_bel rfl)]
        simp
        exact piece_end k (.inr (.inr a3)) (by simp [pl])
      · simp [cut, six, line, at_, ixn]
        rw [show fuelF = 38 + 2 from rfl, fz_tup3 (k := 38) (d' := .dic [] []) (e' := D.int y) (g' := D.int z) (fz_d0 (t := false) (by simp) (by omega)) (fz_of_bel rfl) (fz_of_bel rfl)]
        simp
        exact piece_end k (.inr (.inr a3)) (by simp [pl])
    split
    · rw [fz_cl (by simp)]
      simp
      exact piece_end k (.inr (.inl g3)) (by simp [pl])
    split
    · simp [okLc, lcL, tT, eV, line, dropE]
      rw [fz_refF (l := [.int x, .int y, .int z]) (by simp) (by omega) (by simp)]
      simp
      exact piece_end k (.inr (.inl g3)) (by simp [pl])
    · first
        | exact piece_end k (.inr (.inl g3)) (by simp [pl])
        | (rw [fz_cl (by simp)]; simp; exact piece_end k (.inr (.inl g3)) (by simp [pl]))
  · simp [cut, six, line, at_, ixn]
    split
    · rw [fz_cl (by simp)]
      simp
      exact piece_end k (.inr (.inl g3)) (by simp [pl])
    split
    · rw [fz_cl (by simp)]
      simp
      exact piece_end k (.inr (.inl g3)) (by simp [pl])
    split
    · rw [fz_cl (by simp)]
      simp
      exact piece_end k (.inr (.inl g3)) (by simp [pl])
    split
    · refine gdraw_ok g3 (by omega) (by omega) (by omega) fun r o2 a1 a2 a3 => ?_
      have a3 : SrcO (c + 2) o2 := a3.le (by omega)
      rcases three a1 a2 with rfl | rfl | rfl
      · simp [cut, six, line, at_, ixn]
        rw [fz_cl (by simp)]
        simp
        exact piece_end k (.inr (.inr a3)) (by simp [pl])
      · simp [cut, six, line, at_, ixn]
        rw [show fuelF = 38 + 2 from rfl, fz_tup3 (k := 38) (d' := D.int x) (e' := .lst [.int y]) (g' := D.int z) (fz_of_bel rfl) (fz_ref (l := [.int y]) (by simp) (by omega) (by simp)) (fz_of_bel rfl)]
        simp
        exact piece_end k (.inr (.inr a3)) (by simp [pl])
      · simp [cut, six, line, at_, ixn]
        rw [show fuelF = 38 + 2 from rfl, fz_tup3 (k := 38) (d' := D.int x) (e' := .dic [] []) (g' := D.int z) (fz_of_bel rfl) (fz_d0 (t := false) (by simp) (by omega)) (fz_of_bel rfl)]
        simp
        exact piece_end k (.inr (.inr a3)) (by simp [pl])
    split
    · rw [fz_cl (by simp)]
      simp
      exact piece_end k (.inr (.inl g3)) (by simp [pl])
    split
    · simp [okLc, lcL, tT, eV, line, dropE]
      rw [fz_refF (l := [.int x, .int y, .int z]) (by simp) (by omega) (by simp)]
      simp
      exact piece_end k (.inr (.inl g3)) (by simp [pl])
    · first
        | exact piece_end k (.inr (.inl g3)) (by simp [pl])
        | (rw [fz_cl (by simp)]; simp; exact piece_end k (.inr (.inl g3)) (by simp [pl]))
  · simp [cut, six, line, at_, ixn]
    split
    · rw [fz_cl (by simp)]
      simp
      exact piece_end k (.inr (.inl g3)) (by simp [pl])
    split
    · rw [fz_cl (by simp)]
      simp
      exact piece_end k (.inr (.inl g3)) (by simp [pl])
    split
    · rw [fz_cl (by simp)]
      simp
      exact piece_end k (.inr (.inl g3)) (by simp [pl])
    split
    · refine gdraw_ok g3 (by omega) (by omega) (by omega) fun r o2 a1 a2 a3 => ?_
      have a3 : SrcO (c + 2) o2 := a3.le (by omega)
      rcases three a1 a2 with rfl | rfl | rfl
      · simp [cut, six, line, at_, ixn]
        rw [fz_cl (by simp)]
        simp
        exact piece_end k (.inr (.inr a3)) (by simp [pl])
      · simp [cut, six, line, at_, ixn]
        rw [show fuelF = 38 + 2 from rfl, fz_tup3 (k := 38) (d' := D.int x) (e' := D.int y) (g' := .lst [.int z]) (fz_of_bel rfl) (fz_of_bel rfl) (fz_ref (l := [.int z]) (by simp) (by omega) (by simp))]
        simp
        exact piece_end k (.inr (.inr a3)) (by simp [pl])
      · simp [cut, six, line, at_, ixn]
        rw [show fuelF = 38 + 2 from rfl, fz_tup3 (k := 38) (d' := D.int x) (e' := D.int y) (g' := .dic [] []) (fz_of_bel rfl) (fz_of_bel rfl) (fz_d0 (t := false) (by simp) (by omega))]
        simp
        exact piece_end k (.inr (.inr a3)) (by simp [pl])
    split
    · rw [fz_cl (by simp)]
      simp
      exact piece_end k (.inr (.inl g3)) (by simp [pl])
    split
    · simp [okLc, lcL, tT, eV, line, dropE]
      rw [fz_refF (l := [.int x, .int y, .int z]) (by simp) (by omega) (by simp)]
      simp
      exact piece_end k (.inr (.inl g3)) (by simp [pl])
    · first
        | exact piece_end k (.inr (.inl g3)) (by simp [pl])
        | (rw [fz_cl (by simp)]; simp; exact piece_end k (.inr (.inl g3)) (by simp [pl]))
def psTail : Stm := (sSeq (sIf (tV (e2 pLt (eV 2) (eC (.int 7)))) (sPutL (eV 3) (eV 4) (eCall (gcF (d_l_piece_spoilt)) (aC (eV 0) (aC (e2 pIxN (eV 3) (eV 4)) (aC (eV 2) (aN)))))) (sIf (tV (e2 pEq (eV 2) (eC (.int 7)))) (sEx (eM .list (m1 pPopAt) (eV 3) (aC (eV 4) (aN)))) (sIf (tV (e2 pEq (eV 2) (eC (.int 8)))) (sEx (eM .list (m2 pInsert) (eV 3) (aC (eV 4) (aC (e2 pIxN (eV 3) (eV 4)) (aN))))) (sIf (tV (e2 pEq (eV 2) (eC (.int 9)))) (sSeq (sAsg (e2 pIxN (eV 3) (eV 4)) (gT [gN 5, gN 6, gN 7])) (sPutS (eV 3) (eV 4) (e2 pAdd (eV 4) (eC (.int 1))) (eN pLst (aC (eN pTup (aC (eV 5) (aC (eV 6) (aC (e2 pAdd (eV 6) (e2 pDiv (e2 pSub (eV 7) (eV 6)) (eC (.int 2)))) (aN))))) (aC (eN pTup (aC (eV 5) (aC (e2 pAdd (eV 6) (e2 pDiv (e2 pSub (eV 7) (eV 6)) (eC (.int 2)))) (aC (eV 7) (aN))))) (aN)))))) (sIf (NR.tAnd (tV (e2 pEq (eV 2) (eC (.int 10)))) (tV (e2 pLt (e2 pAdd (eV 4) (eC (.int 1))) (eN (n1 pLenN) (aC (eV 3) (aN)))))) (sPutS (eV 3) (eV 4) (e2 pAdd (eV 4) (eC (.int 2))) (eN pLst (aC (eN pTup (aC (e2 pIxN (e2 pIxN (eV 3) (eV 4)) (eC (.int 0))) (aC (e2 pIxN (e2 pIxN (eV 3) (eV 4)) (eC (.int 1))) (aC (e2 pIxN (e2 pIxN (eV 3) (e2 pAdd (eV 4) (eC (.int 1)))) (eC (.int 2))) (aN))))) (aN)))) (sIf (tV (e2 pEq (eV 2) (eC (.int 11)))) (sRet (eN (n1 pTuple) (aC (eV 3) (aN)))) (sNil))))))) (sRet (eV 3)))
theorem b_ps_eq : b_l_pieces_spoilt = sSeq (sAsg (eN (n1 pList) (aC (eV 1) (aN))) (gN 3)) (sSeq (sAsg (eCall (gcF (d_l_draw)) (aC (eV 0) (aC (eN (n2 pMax2) (aC (eC (.int 1)) (aC (eN (n1 pLenN) (aC (eV 3) (aN))) (aN)))) (aN)))) (gN 4)) (sSeq (sIf (NR.tOr (tV (e2 pEq (eV 2) (eC (.int 12)))) (tV (gc (e2 pEq (eV 3) (eN pLst (aN)))))) (sRet (e2 pAdd (eV 3) (eN pLst (aC (eN pTup (aC (eC (.int 0)) (aC (eC (.int 0)) (aC (eC (.int 1)) (aN))))) (aN))))) (sNil)) psTail)) := rfl
theorem pl_pc {k : Nat} {q : Int × Int × Int} : pl (k + 1) (pcD q) = true := by simp [pcD, pl]
theorem ps_ret {l : List D} {S X : Store} (hS : S[T.length + 1]? = some (.lst l)) (hX : X = T) (hl : ∀ d ∈ l, pl 3 d = true) (k : ∀ d o', pl 4 d = true → SrcO (c + 3) o' → P d (o' :: T)) (g : SrcO (c + 3) o) :
    So (fz S (T.length + 1) fuelF (.ref (T.length + 1))) fun d' => P d' (o :: X) := by
  rw [fz_refF (l := l) hS (by omega) (bels_of fun d hd => pl_bel (hl d hd)), so_some, hX]
  exact k _ _ (List.all_eq_true.mpr hl) g
theorem ps_put {L m : List D} {i j : Int} (h0 : 0 ≤ i) (h1 : i ≤ j) (h3 : j ≤ L.length) (hl : L.length + m.length ≤ 1000000) (hb : bels 0 m = true) :
    putS b (.ref (T.length + 1)) (.int i) (.int j) (.ref (T.length + 1 + 1)) (o :: (T ++ [.lst L, .lst m])) = some (o :: (T ++ [.lst (L.take i.toNat ++ m ++ L.drop j.toNat), .lst m])) := by
  rw [putS_r (l := L) (m := m) (by simp) (by simp) (by omega) h0 h1 h3 (by simp [line]; omega) hb]
  simp
theorem pstail_ok {ps : List (Int × Int × Int)} {w i : Int} (h : SrcO (c + 1) o) (hc : c < 1000000) (hz : ps.length ≤ 300) (h0 : 0 ≤ i) (h1 : i < ps.length) (k : ∀ d o', pl 4 d = true → SrcO (c + 3) o' → P d (o' :: T)) :
    OkS (psTail (T.length + 1) [some (.ref 0), some (.lst (ps.map pcD)), some (.int w), some (.ref (T.length + 1)), some (.int i), none, none, none] (o :: (T ++ [.lst (ps.map pcD)])))
      (finK fun d S' => So (fz S' (T.length + 1) fuelF d) fun d' => P d' (S'.take (T.length + 1))) := by
  have hpc : ∀ d ∈ ps.map pcD, pl 3 d = true := fun d hd => by obtain ⟨q, _, rfl⟩ := List.mem_map.mp hd; exact pl_pc
  have a1 : at_ (ps.map pcD) i = some (pcD (ps[i.toNat]'(by omega))) := at_map h0 h1
  have hS : (o :: (T ++ [Ob.lst (ps.map pcD)]))[T.length + 1]? = some (.lst (ps.map pcD)) := by simp
  have hlen : (ps.map pcD).length = ps.length := by simp
  have g3 : SrcO (c + 3) o := h.le (by omega)
  simp [psTail, a1]
  split
  · refine piece_ok h (by omega) fun d o' hd ho => ?_
    have hS' : (o' :: (T ++ [Ob.lst (ps.map pcD)]))[T.length + 1]? = some (.lst (ps.map pcD)) := by simp
    simp [put_r hS' (.inl (pl_bel hd)) h0 (show i < (ps.map pcD).length by omega)]
    refine ps_ret (by simp; rfl) (by simp) (fun e he => ?_) k (ho.le (by omega))
    rcases List.mem_or_eq_of_mem_set he with he | he
    · exact hpc e he
    · rw [he]; exact hd
  split
  · simp [v_pop hS h0 (by omega) (by omega)]
    exact ps_ret (by simp; rfl) (by simp) (fun e he => hpc e (List.mem_of_mem_eraseIdx he)) k g3
  split
  · have hb : bel 0 (pcD (ps[i.toNat]'(by omega))) = true := pl_bel (k := 1) pl_pc
    simp only [v_ins hS h0 (show i ≤ ((ps.map pcD).length : Int) by omega) (by omega) hb, ok_ok]
    simp
    refine ps_ret (by simp; rfl) (by simp) (fun e he => ?_) k g3
    rcases List.mem_append.mp he with he | he
    · exact hpc e (List.mem_of_mem_take he)
    · rcases List.mem_cons.mp he with he | he
      · rw [he]; exact pl_pc
      · exact hpc e (List.mem_of_mem_drop he)
  split
  · simp [pcD, line]
    rw [ps_put h0 (by omega) (by omega) (by simp; omega) (by simp)]
    simp
    refine ps_ret (by simp; rfl) (by simp) (fun e he => ?_) k g3
    rcases List.mem_append.mp he with he | he
    · exact hpc e (List.mem_of_mem_take he)
    · simp only [List.mem_cons] at he
      rcases he with he | he | he
      · rw [he]; simp [pl]
      · rw [he]; simp [pl]
      · exact hpc e (List.mem_of_mem_drop he)
  split
  · split
    · rename_i hi
      have a2 : at_ (ps.map pcD) (i + 1) = some (pcD (ps[(i + 1).toNat]'(by omega))) := at_map (by omega) hi
      simp [pcD, at_lit, line, a1, a2]
      rw [ps_put h0 (by omega) (by omega) (by simp; omega) (by simp)]
      simp
      refine ps_ret (by simp; rfl) (by simp) (fun e he => ?_) k g3
      rcases List.mem_append.mp he with he | he
      · exact hpc e (List.mem_of_mem_take he)
      · simp only [List.mem_cons] at he
        rcases he with he | he
        · rw [he]; simp [pl]
        · exact hpc e (List.mem_of_mem_drop he)
    · split
      · simp [v_tupR hS]
        rw [fz_cl (by simp [bels_pc])]
        simp
        exact k _ _ (List.all_eq_true.mpr hpc) g3
      · exact ps_ret hS (by simp) hpc k g3
  split
  · simp [v_tupR hS]
    rw [fz_cl (by simp [bels_pc])]
    simp
    exact k _ _ (List.all_eq_true.mpr hpc) g3
  · exact ps_ret hS (by simp) hpc k g3
theorem eq_nil {ps : List (Int × Int × Int)} {p : Nat} (h : S[n]? = some (.lst (ps.map pcD))) (h2 : S[p]? = some (.lst [])) : pEq b (.ref n) (.ref p) S = .ok (.bl (decide (ps = []))) S := by
  have e1 : rd S (.ref n) = some (.lst (ps.map pcD)) := fz_refF h (Nat.zero_le _) bels_pc
  have e2 : rd S (.ref p) = some (.lst []) := fz_refF h2 (Nat.zero_le _) rfl
  have hd : deps (ps.map pcD) ≤ 1 := by
    clear h e1
    induction ps with
    | nil => simp [deps]
    | cons q l ih =>
      show max (dep (pcD q)) (deps (l.map pcD)) ≤ 1
      have : dep (pcD q) = 1 := rfl
      omega
  have e3 : shp (.lst (ps.map pcD)) = true := by
    unfold shp
    have : dep (.lst (ps.map pcD)) = deps (ps.map pcD) + 1 := rfl
    rw [decide_eq_true_eq, this]; omega
  have e4 : cmpEq S (.ref n) (.ref p) = some (eqD (.lst (ps.map pcD)) (.lst [])) := by
    unfold cmpEq
    rw [if_neg (show ¬ (scalD (.ref n) (.ref p) = true) from Bool.false_ne_true), e1, e2]
    show (if (shp (.lst (ps.map pcD)) && shp (.lst [])) = true then _ else _) = _
    rw [e3]; rfl
  unfold pEq
  rw [e4]
  cases ps <;> rfl
theorem pieces_ok {ps : List (Int × Int × Int)} {w : Int} (h : SrcO c o) (hc : c < 900000) (hz : ps.length ≤ 300) (k : ∀ d o', pl 4 d = true → SrcO (c + 3) o' → P d (o' :: T)) :
    Ok (gcF d_l_pieces_spoilt b [.ref 0, .lst (ps.map pcD), .int w] (o :: T)) P := by
  have hpc : ∀ d ∈ ps.map pcD, pl 3 d = true := fun d hd => by obtain ⟨q, _, rfl⟩ := List.mem_map.mp hd; exact pl_pc
  rw [okGcF]
  simp [d_l_pieces_spoilt, b_ps_eq]
  refine gdraw_ok h (by omega) (by split <;> omega) (by split <;> omega) fun i o1 g1 g2 g3 => ?_
  have hS : (o1 :: (T ++ [Ob.lst (ps.map pcD)]))[T.length + 1]? = some (.lst (ps.map pcD)) := by simp
  have hS1 : (o1 :: (T ++ [Ob.lst (ps.map pcD), Ob.lst []]))[T.length + 1]? = some (.lst (ps.map pcD)) := by simp
  have hS2 : (o1 :: (T ++ [Ob.lst (ps.map pcD), Ob.lst []]))[T.length + 1 + 1]? = some (.lst []) := by simp
  have hS3 : (o1 :: (T ++ [Ob.lst (ps.map pcD), Ob.lst [pcD (0, 0, 1)]]))[T.length + 1]? = some (.lst (ps.map pcD)) := by simp
  have hS4 : (o1 :: (T ++ [Ob.lst (ps.map pcD), Ob.lst [pcD (0, 0, 1)]]))[T.length + 1 + 1]? = some (.lst [pcD (0, 0, 1)]) := by simp
  have ret : So (fz (o1 :: (T ++ [Ob.lst (ps.map pcD), Ob.lst [pcD (0, 0, 1)], Ob.lst (ps.map pcD ++ [pcD (0, 0, 1)])])) (T.length + 1) fuelF (.ref (T.length + 1 + 1 + 1))) fun d' => P d' (o1 :: (T ++ [Ob.lst (ps.map pcD), Ob.lst [pcD (0, 0, 1)], Ob.lst (ps.map pcD ++ [pcD (0, 0, 1)])]).take T.length) := by
    rw [fz_refF (l := ps.map pcD ++ [pcD (0, 0, 1)]) (by
      rw [List.getElem?_cons_succ, List.getElem?_append_right (by omega)]
      simp) (by omega) (bels_of fun d hd => (List.mem_append.mp hd).elim (fun h => pl_bel (hpc d h)) fun h => by simp at h; rw [h]; rfl), so_some]
    rw [show (T ++ [Ob.lst (ps.map pcD), Ob.lst [pcD (0, 0, 1)], Ob.lst (ps.map pcD ++ [pcD (0, 0, 1)])]).take T.length = T by simp]
    exact k _ _ (List.all_eq_true.mpr fun d hd => (List.mem_append.mp hd).elim (hpc d) fun h => by simp at h; rw [h]; exact pl_pc) (g3.le (by omega))
  have add : pAdd (T.length + 1) (.ref (T.length + 1)) (.ref (T.length + 1 + 1)) (o1 :: (T ++ [Ob.lst (ps.map pcD), Ob.lst [D.tup [D.int 0, D.int 0, D.int 1]]])) = .ok (.ref (T.length + 1 + 1 + 1)) (o1 :: (T ++ [Ob.lst (ps.map pcD), Ob.lst [pcD (0, 0, 1)], Ob.lst (ps.map pcD ++ [pcD (0, 0, 1)])])) := by
    show pAdd (T.length + 1) (.ref (T.length + 1)) (.ref (T.length + 1 + 1)) (o1 :: (T ++ [Ob.lst (ps.map pcD), Ob.lst [pcD (0, 0, 1)]])) = _
    rw [v_addR hS3 hS4 (by simp [line]; omega)]
    simp
  simp [line]
  split
  · simp [add]
    exact ret
  · simp [okGc, line, eq_nil hS1 hS2]
    split
    · simp [add]
      exact ret
    · rename_i hne
      have := List.length_pos_iff.mpr hne
      exact pstail_ok g3 (by omega) hz g1 (by split at g2 <;> omega) k
/-! ### the law -/
theorem cuts_len : ∀ (n : Nat) {tg : List Nat} {rows : List (List Int)} {kinds : List Int} {tx : List Nat} {acc : List (Int × Int × Int)} {p : Nat}, tx.length - p ≤ n → p ≤ tx.length → acc.length ≤ p → (cutsAt tg rows kinds tx acc p).1.length ≤ tx.length
  | n, tg, rows, kinds, tx, acc, p, hn, hp, ha => by
    cases hsc : scan tg rows kinds (tx.drop p) p 0 none with
    | none => rw [cuts_none hsc]; show acc.length ≤ _; omega
    | some q =>
      obtain ⟨kk, e⟩ := q
      obtain ⟨h1, h2, h3⟩ := cuts_some (acc := acc) hsc hp
      rw [h3]
      cases n with
      | zero => omega
      | succ n => exact cuts_len n (by omega) (by omega) (by simp; omega)
theorem like_pl : ∀ {k : Nat} {d : D}, pl k d = true → likeD d d = true ∧ nest d ≤ k := by
  intro k
  induction k with
  | zero =>
    intro d h
    cases d with
    | dic ks vs => cases ks <;> cases vs <;> first | exact ⟨rfl, Nat.zero_le _⟩ | cases h
    | _ => first | exact absurd (show false = true from h) Bool.false_ne_true | exact ⟨by simp [likeD], Nat.zero_le _⟩
  | succ k ih =>
    intro d h
    have hs : ∀ l : List D, (∀ d ∈ l, pl k d = true) → likeDs l l = true ∧ nests l ≤ k := by
      intro l
      induction l with
      | nil => exact fun _ => ⟨rfl, Nat.zero_le _⟩
      | cons d l ih2 =>
        intro h
        obtain ⟨a1, a2⟩ := ih (h d List.mem_cons_self)
        obtain ⟨b1, b2⟩ := ih2 fun e he => h e (List.mem_cons_of_mem _ he)
        exact ⟨by show (likeD d d && likeDs l l) = true; rw [a1, b1]; rfl, by show max (nest d) (nests l) ≤ k; omega⟩
    cases d with
    | dic ks vs => cases ks <;> cases vs <;> first | exact ⟨rfl, Nat.zero_le _⟩ | cases h
    | tup l =>
      obtain ⟨h1, h2⟩ := hs l (List.all_eq_true.mp h)
      exact ⟨h1, by show nests l + 1 ≤ k + 1; omega⟩
    | lst l =>
      obtain ⟨h1, h2⟩ := hs l (List.all_eq_true.mp h)
      exact ⟨h1, by show nests l + 1 ≤ k + 1; omega⟩
    | _ => first | exact absurd (show false = true from h) Bool.false_ne_true | exact ⟨by simp [likeD], Nat.zero_le _⟩
theorem ne_like {d : D} {k : Nat} (h : pl k d = true) (hk : k ≤ 60) : pNeL b d d S = .ok (.bl false) S := by
  obtain ⟨h1, h2⟩ := like_pl h
  unfold pNeL
  cases d with
  | tup l => rw [if_pos (by rw [h1, decide_eq_true (by omega)]; rfl)]
  | lst l => rw [if_pos (by rw [h1, decide_eq_true (by omega)]; rfl)]
  | dic a c => rw [if_pos (by rw [h1, decide_eq_true (by omega)]; rfl)]
  | ref _ => cases k <;> cases h
  | exn _ => cases k <;> cases h
  | scr _ => cases k <;> cases h
  | _ =>
    rw [if_neg (by simp [isBox])]
    simp [pNe, cmpEq, scalD, eqD]
def lawEnd : Stm := (sSeq (sAsg (gc (eIf (tV (e1 (pIsI .list) (eV 6))) (eN (n1 pList) (aC (eV 6) (aN))) (eV 6))) (gN 8)) (sSeq (sAsg (eCall (gcF (d_l_holds)) (aC (eV 6) (aC (eV 7) (aC (eV 5) (aN))))) (gN 9)) (sSeq (sIf (NR.tOr (tNot (tV (eCall (gcF (d_l_said)) (aC (eCall (gcF (d_cut_holds)) (aC (eV 3) (aC (eV 4) (aC (eV 6) (aC (eV 7) (aN)))))) (aC (eV 9) (aN)))))) (tV (e2 pNeL (eV 6) (eV 8)))) (sRet (eC (.bl false))) (sNil)) (sRet (e1 (pIsB true) (eCall (gcF (d_cut_holds)) (aC (eV 3) (aC (eV 4) (aC (gc (eN (n1 pList) (aC (e2 pIxN (eV 5) (eC (.int 0))) (aN)))) (aC (e2 pIxN (eV 5) (eC (.int 1))) (aN)))))))))))
theorem b_law_eq : b_law = sSeq (sAsg (eCall (d_l_source) (aC (eV 0) (aN))) (gN 1)) (sSeq (sAsg (eCall (gcF (d_l_draw)) (aC (eV 1) (aC (eC (.int 20)) (aN)))) (gN 2)) (sSeq (sAsg (eCall (gcF (d_l_table)) (aC (eV 1) (aC (eC (.int 32)) (aN)))) (gN 3)) (sSeq (sAsg (eCall (gcF (d_l_text)) (aC (eV 1) (aC (e2 pIxN (eV 3) (eC (.int 0))) (aN)))) (gN 4)) (sSeq (sAsg (eCall (gcF (d_l_cut)) (aC (eV 3) (aC (eV 4) (aN)))) (gN 5)) (sSeq (sIf (tV (e1 (pNotB true) (eCall (gcF (d_cut_holds)) (aC (eV 3) (aC (eV 4) (aC (gc (eN (n1 pList) (aC (e2 pIxN (eV 5) (eC (.int 0))) (aN)))) (aC (e2 pIxN (eV 5) (eC (.int 1))) (aN)))))))) (sRet (eC (.bl false))) (sNil)) (sSeq (sAsg (gc (eN (n1 pList) (aC (e2 pIxN (eV 5) (eC (.int 0))) (aN)))) (gN 6)) (sSeq (sAsg (e2 pIxN (eV 5) (eC (.int 1))) (gN 7)) (sSeq (sIf (tV (e2 pLt (eV 2) (eC (.int 13)))) (sAsg (eCall (gcF (d_l_pieces_spoilt)) (aC (eV 1) (aC (eV 6) (aC (eV 2) (aN))))) (gN 6)) (sIf (tV (e2 pLt (eV 2) (eC (.int 18)))) (sAsg (e2 pIxN (eN pTup (aC (e2 pAdd (eV 7) (eC (.int 1))) (aC (e2 pSub (eV 7) (eC (.int 1))) (aC (eC .non) (aC (e2 pEq (eV 7) (eC (.int 1))) (aC (eC (.str [48])) (aN))))))) (e2 pSub (eV 2) (eC (.int 13)))) (gN 7)) (sIf (tV (e2 pEq (eV 2) (eC (.int 18)))) (sAsg (gc (e2 pIxN (eN pTup (aC (eC .non) (aC (eDic0 false) (aC (eC (.str [])) (aN))))) (eCall (gcF (d_l_draw)) (aC (eV 1) (aC (eC (.int 3)) (aN)))))) (gN 6)) (sNil)))) lawEnd)))))))) := rfl
theorem cmp_self : ∀ {ps : List (Int × Int × Int)}, cmpL (ps.map pcD) ps = true
  | [] => rfl
  | q :: l => by
    show (numsB (pcD q) && eqD (pcD q) (pcD q) && cmpL (l.map pcD) l) = true
    rw [cmp_self, show numsB (pcD q) = true from rfl]
    simp [pcD, eqD, eqDs]
theorem holds_self {due : List (Int × Int × Int) × Nat} : holdsB due (.lst (due.1.map pcD)) (.int due.2) = true := by
  simp [holdsB, cmp_self]
theorem said_ok {h : Bool} (k : P (.bl true) S) : Ok (gcF d_l_said b [.bl h, .bl h] S) P := by
  rw [okGcF]
  cases h <;> simpa [d_l_said, b_l_said, pIsB] using k
theorem tab_0 {tg : List Nat} {rows : List (List Int)} {kinds : List Int} : pIxN b (tabD tg rows kinds) (.int 0) S = .ok (.str tg) S := rfl
theorem due_0 {due : List (Int × Int × Int) × Nat} : pIxN b (dueD due) (.int 0) S = .ok (.lst (due.1.map pcD)) S := rfl
theorem due_1 {due : List (Int × Int × Int) × Nat} : pIxN b (dueD due) (.int 1) S = .ok (.int due.2) S := rfl
theorem copy_ok {due : List (Int × Int × Int) × Nat} (h : ρ[5]? = some (some (dueD due))) (k : P (.lst (due.1.map pcD)) [o]) : Ok (gc (eN (n1 pList) (aC (e2 pIxN (eV 5) (eC (D.int 0))) aN)) 0 ρ [o]) P := by
  rw [okGc]
  simp [h, due_0]
  rw [fz_refF (l := due.1.map pcD) (by simp) (by omega) bels_pc]
  simpa using k
theorem kept_ok {x : D} {j : Nat} (h : ρ[6]? = some (some x)) (px : pl j x = true) (k : P x [o]) : Ok (gc (eIf (tV (e1 (pIsI .list) (eV 6))) (eN (n1 pList) (aC (eV 6) aN)) (eV 6)) 0 ρ [o]) P := by
  have hb := pl_bel px
  rw [okGc]
  cases x with
  | ref _ => cases j <;> cases px
  | exn _ => cases j <;> cases px
  | scr _ => cases j <;> cases px
  | lst l =>
    simp [h, pIsI, tyOf, isTy]
    rw [fz_refF (l := l) (by simp) (by omega) hb]
    simpa using k
  | _ =>
    simp [h, pIsI, tyOf, isTy, fz_cl hb]
    simpa using k
section
variable {tg : List Nat} {rows : List (List Int)} {kinds : List Int} {tx : List Nat}
theorem end_ok (t : Tab tg rows kinds) (hx : ∀ x ∈ tx, x ∈ tg) (hl : tx.length ≤ 240) {x y : D} {sc : D} {w : Int} (px : pl 5 x = true) (py : pl 5 y = true) :
    OkS (lawEnd 0 [some sc, some (.ref 0), some (.int w), some (tabD tg rows kinds), some (.str tx), some (dueD (cutsAt tg rows kinds tx [] 0)), some x, some y, none, none] [o]) (finK fun d _ => d = .bl true) := by
  have hz : (cutsAt tg rows kinds tx [] 0).1.length ≤ 1000 := by
    have := cuts_len tx.length (tg := tg) (rows := rows) (kinds := kinds) (tx := tx) (acc := []) (p := 0) (by omega) (by omega) (by simp)
    omega
  have ps5 : pl 5 (.lst ((cutsAt tg rows kinds tx [] 0).1.map pcD)) = true := List.all_eq_true.mpr fun d hd => by obtain ⟨q, _, rfl⟩ := List.mem_map.mp hd; exact pl_pc
  have fin : ∀ (P : D → Store → Prop), P (.bl true) [o] → Ok (gcF d_cut_holds 0 [tabD tg rows kinds, .str tx, .lst ((cutsAt tg rows kinds tx [] 0).1.map pcD), .int (cutsAt tg rows kinds tx [] 0).2] [o]) P := fun P hP => pholds_ok t hx hl ps5 rfl (by rw [holds_self]; exact hP) hz
  simp [lawEnd]
  refine kept_ok (by simp) px ?_
  simp
  refine lholds_ok px py ?_ hz
  simp
  refine pholds_ok t hx hl px py ?_ hz
  simp
  refine said_ok ?_
  simp [ne_like px]
  refine copy_ok (due := cutsAt tg rows kinds tx [] 0) rfl ?_
  simp [due_1]
  refine fin _ ?_
  simp [pIsB]
end
theorem pl_up : ∀ {k : Nat} {d : D}, pl k d = true → pl (k + 1) d = true := by
  intro k
  induction k with
  | zero =>
    intro d h
    cases d with
    | dic ks vs => cases ks <;> cases vs <;> first | rfl | exact absurd (show false = true from h) Bool.false_ne_true
    | _ => first | exact absurd (show false = true from h) Bool.false_ne_true | rfl
  | succ k ih =>
    intro d h
    cases d with
    | dic ks vs => cases ks <;> cases vs <;> first | rfl | exact absurd (show false = true from h) Bool.false_ne_true
    | tup l => exact List.all_eq_true.mpr fun d hd => ih (List.all_eq_true.mp h d hd)
    | lst l => exact List.all_eq_true.mpr fun d hd => ih (List.all_eq_true.mp h d hd)
    | _ => first | exact absurd (show false = true from h) Bool.false_ne_true | rfl
theorem law_ok {ns : List Int} (h : ns.length ≤ 63) : Ok (d_law 0 [.scr ns] []) fun d _ => d = .bl true := by
  simp [d_law, b_law_eq]
  refine source_ok h fun o h0 => ?_
  simp
  refine gdraw_ok (T := []) h0 (by omega) (by omega) (by omega) fun w o1 w0 w1 h1 => ?_
  simp
  refine table_ok (T := []) h1 (by omega) fun tg rows kinds o2 ht h2 => ?_
  simp [tab_0]
  refine text_ok (T := []) ht.ne ht.small h2 (by omega) fun tx o3 hl hx h3 => ?_
  simp
  refine cut_ok ht hx hl ?_
  simp
  refine copy_ok (due := cutsAt tg rows kinds tx [] 0) rfl ?_
  simp [due_1]
  have hz : (cutsAt tg rows kinds tx [] 0).1.length ≤ 1000 ∧ (cutsAt tg rows kinds tx [] 0).1.length ≤ 300 := by
    have := cuts_len tx.length (tg := tg) (rows := rows) (kinds := kinds) (tx := tx) (acc := []) (p := 0) (by omega) (by omega) (by simp)
    omega
  have ps5 : pl 5 (.lst ((cutsAt tg rows kinds tx [] 0).1.map pcD)) = true := List.all_eq_true.mpr fun d hd => by obtain ⟨q, _, rfl⟩ := List.mem_map.mp hd; exact pl_pc
  refine pholds_ok ht hx hl ps5 (y := .int (cutsAt tg rows kinds tx [] 0).2) rfl ?_ hz.1
  rw [holds_self]
  simp [pNotB]
  refine copy_ok (due := cutsAt tg rows kinds tx [] 0) rfl ?_
  simp [due_1]
  split
  · refine pieces_ok (T := []) h3 (by omega) hz.2 fun d o4 hd h4 => ?_
    simp
    exact end_ok ht hx hl (pl_up hd) rfl
  split
  · refine ⟨by simp [line], ?_⟩
    rcases (show w = 13 ∨ w = 14 ∨ w = 15 ∨ w = 16 ∨ w = 17 by omega) with rfl | rfl | rfl | rfl | rfl
    · simp [at_, ixn]
      exact end_ok ht hx hl ps5 rfl
    · simp [at_, ixn]
      exact end_ok ht hx hl ps5 rfl
    · simp [at_, ixn]
      exact end_ok ht hx hl ps5 rfl
    · simp [at_, ixn]
      exact end_ok ht hx hl ps5 rfl
    · simp [at_, ixn]
      exact end_ok ht hx hl ps5 rfl
  split
  · simp [okGc, line]
    refine gdraw_ok (T := [.dic false []]) h3 (by omega) (by omega) (by omega) fun r o4 a1 a2 a3 => ?_
    rcases three a1 a2 with rfl | rfl | rfl
    · simp [at_, ixn]
      exact end_ok ht hx hl rfl rfl
    · simp [at_, ixn]
      rw [show fuelF = 38 + 2 from rfl, fz_d0 (t := false) rfl (by omega)]
      simp
      exact end_ok ht hx hl rfl rfl
    · simp [at_, ixn]
      exact end_ok ht hx hl rfl rfl
  · exact end_ok ht hx hl ps5 rfl
theorem law_true (ns : List Int) (h : ns.length ≤ 63) : ∃ S', d_law 0 [.scr ns] [] = .ok (.bl true) S' := by
  obtain ⟨d, S', e, rfl⟩ := (law_ok h).ex
  exact ⟨S', e⟩
end NR.K36

set_option linter.all false
set_option Elab.async false
set_option maxRecDepth 100000
set_option maxHeartbeats 0
namespace NR.K36
open PySem PySem.Spec PyProof.Rows L2 NR
/-! the head -/
def dd (x : Str) (i : Nat) : He.DefD := ⟨(x, none), x, x, defArgs (top i), defBody (top i), defScope (top i), [], []⟩
def fnL : List He.DefD := ([dd "is_number" 4, dd "is_numbers" 5, dd "is_text" 7, dd "longest" 9, dd "cut" 10, dd "cut_holds" 11, dd "_law_said" 13, dd "_law_source" 14, dd "_law_draw" 15, dd "_law_signs" 16, dd "_law_tongue" 17, dd "_law_rooms" 18, dd "_law_table" 19, dd "_law_text" 20, dd "_law_first" 21, dd "_law_cut" 22, dd "_law_numbers" 23, dd "_law_piece_spoilt" 24, dd "_law_pieces_spoilt" 25, dd "_law_holds" 26] : List He.DefD) ++ ([dd "law" 27] : List He.DefD)
def faL : List He.Fa := ([.glo "is_number", .glo "is_numbers", .glo "is_text", .glo "longest", .glo "cut", .glo "cut_holds", .glo "_law_said", .glo "_law_source", .glo "_law_draw", .glo "_law_signs", .glo "_law_tongue", .glo "_law_rooms", .glo "_law_table", .glo "_law_text", .glo "_law_first", .glo "_law_cut", .glo "_law_numbers", .glo "_law_piece_spoilt", .glo "_law_pieces_spoilt", .glo "_law_holds"] : List He.Fa) ++ ([.glo "law", .free "abs", .free "all", .free "bool", .free "int", .free "isinstance", .free "len", .free "list", .free "max", .free "min", .free "range", .free "sorted", .free "str", .free "sum", .free "tuple"] : List He.Fa)
def looseL : List PySem.Str := (["ReachError", "NoText", "is_number", "is_numbers", "is_text", "longest", "cut", "cut_holds", "_law_said", "_law_source", "_law_draw", "_law_signs", "_law_tongue", "_law_rooms", "_law_table", "_law_text", "_law_first", "_law_cut", "_law_numbers", "_law_piece_spoilt"] : List PySem.Str) ++ (["_law_pieces_spoilt", "_law_holds"] : List PySem.Str)
abbrev R : PySem.W.OpenRow := PySem.W.OpenLaw.row PySem.Challenge.rw_nearreach_k36_cuts_looked_at
abbrev hk : PySem.W.Hook := He.hookD 4 faL fnL
def ob (s : PySem.W.SharedT) : He.AlD := He.obsDG 4 faL fnL (HandSHeadRun.getT s)
theorem ob_eq (s : PySem.W.SharedT) : ob s = hk.obs s.abs := He.obsDG_eq (HandSHeadRun.getT_eq s)
theorem run (w : World) : HandSHeadRun.RunEq R (PySem.W.view R.prog [27]) hk ob 4000 looseL w := by
  intro os
  kernel_rfl
theorem facts {P : Program} {w : World} {K : PySem.W.Frag} {h : Heap} {mg : Str → Option Value} {f : Addr} {ca : Nat → Addr} (X : K.In h) (G : h.Ns mainGlobals mg) (hfa : mg ("law" : Str) = some (.ref f)) (c : He.SaysD faL fnL K) :
    ∃ fd : FuncData, (∀ (s : Shared) (v : Value), BindsTo s fd ⟨[v], []⟩ [("_law_script", v)]) ∧ ∀ base : Heap, K.In base → base.Ns mainGlobals mg → FnOk P w K mg base CX0 4 f fd ["_law_script"] (SpD ca K d_law) := by
  obtain ⟨fd_is_number, F_is_number⟩ := c.def_ 0 (d := dd "is_number" 4) rfl
  have g_is_number := He.glo_ok X G (c.fact 0 (f := .glo "is_number") rfl)
  obtain ⟨fd_is_numbers, F_is_numbers⟩ := c.def_ 1 (d := dd "is_numbers" 5) rfl
  have g_is_numbers := He.glo_ok X G (c.fact 1 (f := .glo "is_numbers") rfl)
  obtain ⟨fd_is_text, F_is_text⟩ := c.def_ 2 (d := dd "is_text" 7) rfl
  have g_is_text := He.glo_ok X G (c.fact 2 (f := .glo "is_text") rfl)
  obtain ⟨fd_longest, F_longest⟩ := c.def_ 3 (d := dd "longest" 9) rfl
  have g_longest := He.glo_ok X G (c.fact 3 (f := .glo "longest") rfl)
  obtain ⟨fd_cut, F_cut⟩ := c.def_ 4 (d := dd "cut" 10) rfl
  have g_cut := He.glo_ok X G (c.fact 4 (f := .glo "cut") rfl)
  obtain ⟨fd_cut_holds, F_cut_holds⟩ := c.def_ 5 (d := dd "cut_holds" 11) rfl
  have g_cut_holds := He.glo_ok X G (c.fact 5 (f := .glo "cut_holds") rfl)
  obtain ⟨fd_l_said, F_l_said⟩ := c.def_ 6 (d := dd "_law_said" 13) rfl
  have g_l_said := He.glo_ok X G (c.fact 6 (f := .glo "_law_said") rfl)
  obtain ⟨fd_l_source, F_l_source⟩ := c.def_ 7 (d := dd "_law_source" 14) rfl
  have g_l_source := He.glo_ok X G (c.fact 7 (f := .glo "_law_source") rfl)
  obtain ⟨fd_l_draw, F_l_draw⟩ := c.def_ 8 (d := dd "_law_draw" 15) rfl
  have g_l_draw := He.glo_ok X G (c.fact 8 (f := .glo "_law_draw") rfl)
  obtain ⟨fd_l_signs, F_l_signs⟩ := c.def_ 9 (d := dd "_law_signs" 16) rfl
  have g_l_signs := He.glo_ok X G (c.fact 9 (f := .glo "_law_signs") rfl)
  obtain ⟨fd_l_tongue, F_l_tongue⟩ := c.def_ 10 (d := dd "_law_tongue" 17) rfl
  have g_l_tongue := He.glo_ok X G (c.fact 10 (f := .glo "_law_tongue") rfl)
  obtain ⟨fd_l_rooms, F_l_rooms⟩ := c.def_ 11 (d := dd "_law_rooms" 18) rfl
  have g_l_rooms := He.glo_ok X G (c.fact 11 (f := .glo "_law_rooms") rfl)
  obtain ⟨fd_l_table, F_l_table⟩ := c.def_ 12 (d := dd "_law_table" 19) rfl
  have g_l_table := He.glo_ok X G (c.fact 12 (f := .glo "_law_table") rfl)
  obtain ⟨fd_l_text, F_l_text⟩ := c.def_ 13 (d := dd "_law_text" 20) rfl
  have g_l_text := He.glo_ok X G (c.fact 13 (f := .glo "_law_text") rfl)
  obtain ⟨fd_l_first, F_l_first⟩ := c.def_ 14 (d := dd "_law_first" 21) rfl
  have g_l_first := He.glo_ok X G (c.fact 14 (f := .glo "_law_first") rfl)
  obtain ⟨fd_l_cut, F_l_cut⟩ := c.def_ 15 (d := dd "_law_cut" 22) rfl
  have g_l_cut := He.glo_ok X G (c.fact 15 (f := .glo "_law_cut") rfl)
  obtain ⟨fd_l_numbers, F_l_numbers⟩ := c.def_ 16 (d := dd "_law_numbers" 23) rfl
  have g_l_numbers := He.glo_ok X G (c.fact 16 (f := .glo "_law_numbers") rfl)
  obtain ⟨fd_l_piece_spoilt, F_l_piece_spoilt⟩ := c.def_ 17 (d := dd "_law_piece_spoilt" 24) rfl
  have g_l_piece_spoilt := He.glo_ok X G (c.fact 17 (f := .glo "_law_piece_spoilt") rfl)
  obtain ⟨fd_l_pieces_spoilt, F_l_pieces_spoilt⟩ := c.def_ 18 (d := dd "_law_pieces_spoilt" 25) rfl
  have g_l_pieces_spoilt := He.glo_ok X G (c.fact 18 (f := .glo "_law_pieces_spoilt") rfl)
  obtain ⟨fd_l_holds, F_l_holds⟩ := c.def_ 19 (d := dd "_law_holds" 26) rfl
  have g_l_holds := He.glo_ok X G (c.fact 19 (f := .glo "_law_holds") rfl)
  obtain ⟨fd_law, F_law⟩ := c.def_ 20 (d := dd "law" 27) rfl
  have g_law := He.glo_ok X G (c.fact 20 (f := .glo "law") rfl)
  have e := hfa.symm.trans g_law
  cases e
  have C : Kn' mg := ⟨He.free_ok X G (c.fact 21 (f := .free "abs") rfl), He.free_ok X G (c.fact 22 (f := .free "all") rfl), He.free_ok X G (c.fact 23 (f := .free "bool") rfl), He.free_ok X G (c.fact 24 (f := .free "int") rfl), He.free_ok X G (c.fact 25 (f := .free "isinstance") rfl), He.free_ok X G (c.fact 26 (f := .free "len") rfl), He.free_ok X G (c.fact 27 (f := .free "list") rfl), He.free_ok X G (c.fact 28 (f := .free "max") rfl), He.free_ok X G (c.fact 29 (f := .free "min") rfl), He.free_ok X G (c.fact 30 (f := .free "range") rfl), He.free_ok X G (c.fact 31 (f := .free "sorted") rfl), He.free_ok X G (c.fact 32 (f := .free "str") rfl), He.free_ok X G (c.fact 33 (f := .free "sum") rfl), He.free_ok X G (c.fact 34 (f := .free "tuple") rfl)⟩
  refine ⟨fd_law, fun s v => (FunD.bindsA (ps := ["_law_script"]) F_law fun _ _ _ _ _ _ us hl => match us, hl with | [_], _ => rfl) s [v] rfl, fun base _ _ => ?_⟩
  have f_is_number : ∃ fa fd ps, FnOk P w K mg base CX0 1 fa fd ps (SpD ca K d_is_number) ∧ mg "is_number" = some (.ref fa) ∧ PySem.W.keepIn K (.ref fa) = true ∧ Binds K fd ps [] := ⟨_, _, _, ok_is_number F_is_number C, g_is_number, F_is_number.kp, (show Binds K fd_is_number ["thing"] [] from (FunD.bindsN F_is_number fun _ _ _ _ _ _ us hl => match us, hl with | [_], _ => rfl))⟩
  have f_is_numbers : ∃ fa fd ps, FnOk P w K mg base CX0 2 fa fd ps (SpD ca K d_is_numbers) ∧ mg "is_numbers" = some (.ref fa) ∧ PySem.W.keepIn K (.ref fa) = true ∧ Binds K fd ps [] := ⟨_, _, _, ok_is_numbers F_is_numbers C f_is_number, g_is_numbers, F_is_numbers.kp, (show Binds K fd_is_numbers ["thing"] [] from (FunD.bindsN F_is_numbers fun _ _ _ _ _ _ us hl => match us, hl with | [_], _ => rfl))⟩
  have f_is_text : ∃ fa fd ps, FnOk P w K mg base CX0 1 fa fd ps (SpD ca K d_is_text) ∧ mg "is_text" = some (.ref fa) ∧ PySem.W.keepIn K (.ref fa) = true ∧ Binds K fd ps [] := ⟨_, _, _, ok_is_text F_is_text C, g_is_text, F_is_text.kp, (show Binds K fd_is_text ["tongue", "thing"] [] from (FunD.bindsN F_is_text fun _ _ _ _ _ _ us hl => match us, hl with | [_, _], _ => rfl))⟩
  have f_longest : ∃ fa fd ps, FnOk P w K mg base CX0 1 fa fd ps (SpD ca K d_longest) ∧ mg "longest" = some (.ref fa) ∧ PySem.W.keepIn K (.ref fa) = true ∧ Binds K fd ps [] := ⟨_, _, _, ok_longest F_longest C, g_longest, F_longest.kp, (show Binds K fd_longest ["table", "text", "at"] [] from (FunD.bindsN F_longest fun _ _ _ _ _ _ us hl => match us, hl with | [_, _, _], _ => rfl))⟩
  have f_cut : ∃ fa fd ps, FnOk P w K mg base CX0 2 fa fd ps (SpD ca K d_cut) ∧ mg "cut" = some (.ref fa) ∧ PySem.W.keepIn K (.ref fa) = true ∧ Binds K fd ps [] := ⟨_, _, _, ok_cut F_cut C f_is_text f_longest, g_cut, F_cut.kp, (show Binds K fd_cut ["table", "text"] [] from (FunD.bindsN F_cut fun _ _ _ _ _ _ us hl => match us, hl with | [_, _], _ => rfl))⟩
  have f_cut_holds : ∃ fa fd ps, FnOk P w K mg base CX0 3 fa fd ps (SpD ca K d_cut_holds) ∧ mg "cut_holds" = some (.ref fa) ∧ PySem.W.keepIn K (.ref fa) = true ∧ Binds K fd ps [] := ⟨_, _, _, ok_cut_holds F_cut_holds C f_cut f_is_number f_is_numbers, g_cut_holds, F_cut_holds.kp, (show Binds K fd_cut_holds ["table", "text", "pieces", "place"] [] from (FunD.bindsN F_cut_holds fun _ _ _ _ _ _ us hl => match us, hl with | [_, _, _, _], _ => rfl))⟩
  have f_l_said : ∃ fa fd ps, FnOk P w K mg base CX0 1 fa fd ps (SpD ca K d_l_said) ∧ mg "_law_said" = some (.ref fa) ∧ PySem.W.keepIn K (.ref fa) = true ∧ Binds K fd ps [] := ⟨_, _, _, ok_l_said F_l_said C, g_l_said, F_l_said.kp, (show Binds K fd_l_said ["_law_found", "_law_wanted"] [] from (FunD.bindsN F_l_said fun _ _ _ _ _ _ us hl => match us, hl with | [_, _], _ => rfl))⟩
  have f_l_source : ∃ fa fd ps, FnOk P w K mg base CX0 1 fa fd ps (SpD ca K d_l_source) ∧ mg "_law_source" = some (.ref fa) ∧ PySem.W.keepIn K (.ref fa) = true ∧ Binds K fd ps [] := ⟨_, _, _, ok_l_source F_l_source C, g_l_source, F_l_source.kp, (show Binds K fd_l_source ["_law_script"] [] from (FunD.bindsN F_l_source fun _ _ _ _ _ _ us hl => match us, hl with | [_], _ => rfl))⟩
  have f_l_draw : ∃ fa fd ps, FnOk P w K mg base CX0 1 fa fd ps (SpD ca K d_l_draw) ∧ mg "_law_draw" = some (.ref fa) ∧ PySem.W.keepIn K (.ref fa) = true ∧ Binds K fd ps [] := ⟨_, _, _, ok_l_draw F_l_draw C, g_l_draw, F_l_draw.kp, (show Binds K fd_l_draw ["_law_left", "_law_many"] [] from (FunD.bindsN F_l_draw fun _ _ _ _ _ _ us hl => match us, hl with | [_, _], _ => rfl))⟩
  have f_l_signs : ∃ fa fd ps, FnOk P w K mg base CX0 1 fa fd ps (SpD ca K d_l_signs) ∧ mg "_law_signs" = some (.ref fa) ∧ PySem.W.keepIn K (.ref fa) = true ∧ Binds K fd ps [] := ⟨_, _, _, ok_l_signs F_l_signs C, g_l_signs, F_l_signs.kp, (show Binds K fd_l_signs [] [] from (FunD.bindsN F_l_signs fun _ _ _ _ _ _ us hl => match us, hl with | [], _ => rfl))⟩
  have f_l_tongue : ∃ fa fd ps, FnOk P w K mg base CX0 2 fa fd ps (SpD ca K d_l_tongue) ∧ mg "_law_tongue" = some (.ref fa) ∧ PySem.W.keepIn K (.ref fa) = true ∧ Binds K fd ps [] := ⟨_, _, _, ok_l_tongue F_l_tongue C f_l_signs f_l_draw, g_l_tongue, F_l_tongue.kp, (show Binds K fd_l_tongue ["_law_left"] [] from (FunD.bindsN F_l_tongue fun _ _ _ _ _ _ us hl => match us, hl with | [_], _ => rfl))⟩
  have f_l_rooms : ∃ fa fd ps, FnOk P w K mg base CX0 2 fa fd ps (SpD ca K d_l_rooms) ∧ mg "_law_rooms" = some (.ref fa) ∧ PySem.W.keepIn K (.ref fa) = true ∧ Binds K fd ps [] := ⟨_, _, _, ok_l_rooms F_l_rooms C f_l_draw, g_l_rooms, F_l_rooms.kp, (show Binds K fd_l_rooms ["_law_left", "_law_tongue_here", "_law_many"] [] from (FunD.bindsN F_l_rooms fun _ _ _ _ _ _ us hl => match us, hl with | [_, _, _], _ => rfl))⟩
  have f_l_table : ∃ fa fd ps, FnOk P w K mg base CX0 3 fa fd ps (SpD ca K d_l_table) ∧ mg "_law_table" = some (.ref fa) ∧ PySem.W.keepIn K (.ref fa) = true ∧ Binds K fd ps [] := ⟨_, _, _, ok_l_table F_l_table C f_l_tongue f_l_rooms f_l_draw, g_l_table, F_l_table.kp, (show Binds K fd_l_table ["_law_left", "_law_most"] [] from (FunD.bindsN F_l_table fun _ _ _ _ _ _ us hl => match us, hl with | [_, _], _ => rfl))⟩
  have f_l_text : ∃ fa fd ps, FnOk P w K mg base CX0 2 fa fd ps (SpD ca K d_l_text) ∧ mg "_law_text" = some (.ref fa) ∧ PySem.W.keepIn K (.ref fa) = true ∧ Binds K fd ps [] := ⟨_, _, _, ok_l_text F_l_text C f_l_draw, g_l_text, F_l_text.kp, (show Binds K fd_l_text ["_law_left", "_law_tongue_here"] [] from (FunD.bindsN F_l_text fun _ _ _ _ _ _ us hl => match us, hl with | [_, _], _ => rfl))⟩
  have f_l_first : ∃ fa fd ps, FnOk P w K mg base CX0 1 fa fd ps (SpD ca K d_l_first) ∧ mg "_law_first" = some (.ref fa) ∧ PySem.W.keepIn K (.ref fa) = true ∧ Binds K fd ps [] := ⟨_, _, _, ok_l_first F_l_first C, g_l_first, F_l_first.kp, (show Binds K fd_l_first ["_law_table_here", "_law_text_here", "_law_at"] [] from (FunD.bindsN F_l_first fun _ _ _ _ _ _ us hl => match us, hl with | [_, _, _], _ => rfl))⟩
  have f_l_cut : ∃ fa fd ps, FnOk P w K mg base CX0 2 fa fd ps (SpD ca K d_l_cut) ∧ mg "_law_cut" = some (.ref fa) ∧ PySem.W.keepIn K (.ref fa) = true ∧ Binds K fd ps [] := ⟨_, _, _, ok_l_cut F_l_cut C f_l_first, g_l_cut, F_l_cut.kp, (show Binds K fd_l_cut ["_law_table_here", "_law_text_here"] [] from (FunD.bindsN F_l_cut fun _ _ _ _ _ _ us hl => match us, hl with | [_, _], _ => rfl))⟩
  have f_l_numbers : ∃ fa fd ps, FnOk P w K mg base CX0 1 fa fd ps (SpD ca K d_l_numbers) ∧ mg "_law_numbers" = some (.ref fa) ∧ PySem.W.keepIn K (.ref fa) = true ∧ Binds K fd ps [] := ⟨_, _, _, ok_l_numbers F_l_numbers C, g_l_numbers, F_l_numbers.kp, (show Binds K fd_l_numbers ["_law_found", "_law_many"] [] from (FunD.bindsN F_l_numbers fun _ _ _ _ _ _ us hl => match us, hl with | [_, _], _ => rfl))⟩
  have f_l_piece_spoilt : ∃ fa fd ps, FnOk P w K mg base CX0 2 fa fd ps (SpD ca K d_l_piece_spoilt) ∧ mg "_law_piece_spoilt" = some (.ref fa) ∧ PySem.W.keepIn K (.ref fa) = true ∧ Binds K fd ps [] := ⟨_, _, _, ok_l_piece_spoilt F_l_piece_spoilt C f_l_draw, g_l_piece_spoilt, F_l_piece_spoilt.kp, (show Binds K fd_l_piece_spoilt ["_law_left", "_law_piece", "_law_which"] [] from (FunD.bindsN F_l_piece_spoilt fun _ _ _ _ _ _ us hl => match us, hl with | [_, _, _], _ => rfl))⟩
  have f_l_pieces_spoilt : ∃ fa fd ps, FnOk P w K mg base CX0 3 fa fd ps (SpD ca K d_l_pieces_spoilt) ∧ mg "_law_pieces_spoilt" = some (.ref fa) ∧ PySem.W.keepIn K (.ref fa) = true ∧ Binds K fd ps [] := ⟨_, _, _, ok_l_pieces_spoilt F_l_pieces_spoilt C f_l_draw f_l_piece_spoilt, g_l_pieces_spoilt, F_l_pieces_spoilt.kp, (show Binds K fd_l_pieces_spoilt ["_law_left", "_law_pieces", "_law_which"] [] from (FunD.bindsN F_l_pieces_spoilt fun _ _ _ _ _ _ us hl => match us, hl with | [_, _, _], _ => rfl))⟩
  have f_l_holds : ∃ fa fd ps, FnOk P w K mg base CX0 2 fa fd ps (SpD ca K d_l_holds) ∧ mg "_law_holds" = some (.ref fa) ∧ PySem.W.keepIn K (.ref fa) = true ∧ Binds K fd ps [] := ⟨_, _, _, ok_l_holds F_l_holds C f_l_numbers, g_l_holds, F_l_holds.kp, (show Binds K fd_l_holds ["_law_pieces", "_law_place", "_law_due"] [] from (FunD.bindsN F_l_holds fun _ _ _ _ _ _ us hl => match us, hl with | [_, _, _], _ => rfl))⟩
  exact ok_law F_law C f_l_source f_l_draw f_l_table f_l_text f_l_cut f_l_holds f_cut_holds f_l_pieces_spoilt f_l_said
end NR.K36


open PySem PySem.W PySem.Calls PyProof.Rows
theorem PySem.Challenge.cw_nearreach_k36_cuts_looked_at_holds : PySem.Challenge.rw_nearreach_k36_cuts_looked_at.Holds := by
  w_on; o_law
  refine HandSHeadRun.head_any (r := OpenLaw.row PySem.Challenge.rw_nearreach_k36_cuts_looked_at) (q := view (OpenLaw.row PySem.Challenge.rw_nearreach_k36_cuts_looked_at).prog [27]) (H := NR.K36.hk) (ob := NR.K36.ob) (M := 4000) (loose := NR.K36.looseL) (d := HandSHeadRun.topDef (OpenLaw.row PySem.Challenge.rw_nearreach_k36_cuts_looked_at).prog 27) (kwd := []) NR.K36.ob_eq
    (by kernel_rfl) (fun s => by kernel_rfl) NR.K36.run (by kernel_rfl) (by kernel_rfl) (by kernel_rfl) (by rfl) (by first | assumption | decide +kernel) (by decide +kernel) ⟨rfl, rfl, rfl, rfl, rfl, by decide +kernel⟩ ?hw ?hc
  case hw => w_witness2
  case hc =>
    refine L2.walk_ofE (l := PySem.Challenge.rw_nearreach_k36_cuts_looked_at) (n := 63) (k := 4) (x := "_law_script") (CX := L2.CX0) rfl (by decide) (by kernel_rfl) ⟨rfl, by decide, by decide⟩ ?F (fun _ _ _ _ z => z)
    intro w mg fa h Y G hmg0
    obtain ⟨K, KX, c⟩ := Y
    have hmg : mg ("law" : PySem.Str) = some (.ref fa) := by
      have e : (HandSHeadRun.topDef (OpenLaw.row PySem.Challenge.rw_nearreach_k36_cuts_looked_at).prog 27).name = ("law" : PySem.Str) := by kernel_rfl
      rw [← e]
      exact hmg0
    obtain ⟨fd, hb, hF⟩ := NR.K36.facts (P := (PySem.Challenge.rw_nearreach_k36_cuts_looked_at).prog) (w := w) (ca := fun _ => 0) KX G hmg c
    exact ⟨K, fd, NR.SpD (fun _ => 0) K NR.K36.d_law, KX, hb, fun H a ns hl hO hS => NR.law_sp hS (NR.K36.law_true ns hl), hF⟩
