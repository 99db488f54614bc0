import PyProof.Rows.All
import PySem.Syntax
import Wide.All
import OpenK.AllK
import Wide.FinOn
import HandS.ForMost
import HandS.ForExc
import HandS.TryMany
import HandS.IsInst
import HandS.Flow
import HandS.Zip
import HandS.Style
import HandS.Wide
import HandS.WideBits
import HandS.Deep
import HandS.Gcd
import HandS.Lambda
import HandS.EndTab
import HandS.Defaults
import HandS.TupAny
import HandS.TupMul
import HandS.Replace
import HandS.RevRange
import KE.GoesMore
import KE.GoesEnum
import HandS.ReplaceLit
import HandS.ReplaceList
import HandS.ExcSuper
import KE.KExcSuper
import KE.KSuper
import HandS.ReplaceDef
import HandS.WordsExc
import KE.KNestM
import HandS.ListItems
import KE.KDictZip
import HandS.WideMore
import KE.KIntText
import HandS.Codes
import PyProof.Rows.StrOr
import PySem.Challenge.RW_blownalong_k02_whole_fractions
set_option linter.all false
set_option autoImplicit false
/-! A small evaluator for the part of Python that the given texts use: data, results, operations. -/
namespace Bw
open PySem (Operator CmpOp)

/-- a value as data: what is never changed again, or a reference to a thing of the store, or something that is called -/
inductive D where
  | non
  | bl (b : Bool)
  | int (i : Int)
  | str (s : List Nat)
  | tup (ds : List D)
  | lst (ds : List D)
  | ref (n : Nat)
  | fn (x : String)
  | clo (n : Nat)
  | ty (n : String)
  | scr (ns : List Int)
  deriving Inhabited

/-- a thing that may change -/
inductive MO where
  | lst (ds : List D)
  | ins (c : String) (fs : List (String × D))
abbrev Store := List MO
/-- an error: its class, its fields -/
structure Er where
  cls : String
  fs : List (String × D)
abbrev Env := List (Option D)
inductive Res (α : Type) where
  | ok (a : α) (st : Store)
  | er (e : Er) (st : Store)
  | no
def Res.bind {α β : Type} (r : Res α) (f : α → Store → Res β) : Res β := match r with
  | .ok a st => f a st
  | .er e st => .er e st
  | .no => .no
inductive Out where
  | nx (ρ : Env) (st : Store)
  | rt (d : D) (st : Store)
  | bk (ρ : Env) (st : Store)
  | ct (ρ : Env) (st : Store)
  | er (e : Er) (ρ : Env) (st : Store)
  | no
/-- what is called: from the arguments and the store -/
abbrev Clo := List D → Store → Res D
/-- a def: also from the things that were handed in to be called -/
abbrev Fsp := List Clo → List D → Store → Res D

@[simp] theorem bind_ok {α β : Type} (a : α) (st : Store) (f : α → Store → Res β) : (Res.ok a st).bind f = f a st := rfl
@[simp] theorem bind_er {α β : Type} (e : Er) (st : Store) (f : α → Store → Res β) : (Res.er e st).bind f = .er e st := rfl
theorem bind_assoc {α β γ : Type} (r : Res α) (f : α → Store → Res β) (g : β → Store → Res γ) : (r.bind f).bind g = r.bind fun x st => (f x st).bind g := by
  cases r <;> rfl
@[simp] theorem bind_no {α β : Type} (f : α → Store → Res β) : (Res.no).bind f = .no := rfl

/-! ### equality of data, as == has it -/
mutual
def eqD : D → D → Bool
  | .non, .non => true
  | .bl a, .bl b => a == b
  | .bl a, .int j => (if a then 1 else 0) == j
  | .int i, .bl b => i == (if b then 1 else 0)
  | .int i, .int j => i == j
  | .str x, .str y => x == y
  | .lst xs, .lst ys => eqDs xs ys
  | .tup xs, .tup ys => eqDs xs ys
  | _, _ => false
def eqDs : List D → List D → Bool
  | [], [] => true
  | x :: xs, y :: ys => eqD x y && eqDs xs ys
  | _, _ => false
end
mutual
/-- data through and through, its signs below 0x110000, nested at most so deep -/
def shp : Nat → D → Bool
  | _, .non => true
  | _, .bl _ => true
  | _, .int _ => true
  | _, .str s => s.all (· < 0x110000)
  | n + 1, .tup ds => shps n ds
  | n + 1, .lst ds => shps n ds
  | _, _ => false
def shps : Nat → List D → Bool
  | _, [] => true
  | n, d :: ds => shp n d && shps n ds
end
/-- the pairs that == tells apart at once -/
def flat2 : D → D → Option Bool
  | .non, .non => some true
  | .non, .int _ => some false
  | .int _, .non => some false
  | .non, .bl _ => some false
  | .bl _, .non => some false
  | .non, .str _ => some false
  | .str _, .non => some false
  | .int i, .int j => some (decide (i = j))
  | .bl i, .bl j => some (decide (i = j))
  | .str x, .str y => some (decide (x = y))
  | .int _, .str _ => some false
  | .str _, .int _ => some false
  | .bl _, .str _ => some false
  | .str _, .bl _ => some false
  | _, _ => none
/-- a list of the store read as a value -/
def rd (st : Store) : D → D
  | .ref n => match st[n]? with
    | some (.lst ds) => .lst ds
    | _ => .ref n
  | d => d
def eqv (st : Store) (x y : D) : Option Bool := match flat2 x y with
  | some b => some b
  | none => if shp 60 (rd st x) && shp 60 (rd st y) then some (eqD (rd st x) (rd st y)) else none

/-! ### operators -/
def Sz (n : Nat) : Bool := decide (n ≤ 16777216)
def bits (i : Int) : Nat := i.natAbs.log2
def mulOk (i j : Int) : Bool := decide (i.natAbs < 18446744073709551616) || decide (j.natAbs < 18446744073709551616) || decide (bits i + bits j < 1000000)
def divOk (i j : Int) : Bool := decide (j ≠ 0) && (decide (bits j < 9000) || decide (bits i ≤ bits j + 4000))
def powOk (i j : Int) : Bool := decide (0 ≤ j) && (decide (((bits i : Int) + 1) * j ≤ 100000000))
def shlOk (i j : Int) : Bool := decide (0 ≤ j) && decide ((bits i : Int) + 1 + j ≤ 100000000)
def rep {α : Type} (l : List α) : Nat → List α
  | 0 => []
  | n + 1 => l ++ rep l n
def addD : D → D → Option D
  | .int i, .int j => some (.int (i + j))
  | .str a, .str b => if Sz (a.length + b.length) then some (.str (a ++ b)) else none
  | .tup a, .tup b => if Sz (a.length + b.length) then some (.tup (a ++ b)) else none
  | .lst a, .lst b => if Sz (a.length + b.length) then some (.lst (a ++ b)) else none
  | _, _ => none
def subD : D → D → Option D
  | .int i, .int j => some (.int (i - j))
  | _, _ => none
def mulD : D → D → Option D
  | .int i, .int j => if mulOk i j then some (.int (i * j)) else none
  | .str a, .int j => if decide (0 ≤ j) && Sz j.toNat && Sz (a.length * j.toNat) then some (.str (rep a j.toNat)) else none
  | .tup a, .int j => if decide (2 ≤ j) && decide (j ≤ 1000) && decide (a.length ≤ 1000) && !a.isEmpty then some (.tup (rep a j.toNat)) else none
  | _, _ => none
def divD : D → D → Option D
  | .int i, .int j => if divOk i j then some (.int (i.fdiv j)) else none
  | _, _ => none
def modD : D → D → Option D
  | .int i, .int j => if j ≠ 0 then some (.int (i.fmod j)) else none
  | _, _ => none
def powD : D → D → Option D
  | .int i, .int j => if powOk i j then some (.int (i ^ j.toNat)) else none
  | _, _ => none
def shlD : D → D → Option D
  | .int i, .int j => if shlOk i j then some (.int (i * 2 ^ j.toNat)) else none
  | _, _ => none
def negD : D → Option D
  | .int i => some (.int (-i))
  | _ => none
/-- order of texts, by their signs -/
def strLt : List Nat → List Nat → Bool
  | [], [] => false
  | [], _ :: _ => true
  | _ :: _, [] => false
  | a :: r, b :: s => if a < b then true else if b < a then false else strLt r s
def ltD : D → D → Option Bool
  | .int i, .int j => some (decide (i < j))
  | .str a, .str b => some (strLt a b)
  | _, _ => none
def leD : D → D → Option Bool
  | .int i, .int j => some (decide (i ≤ j))
  | .str a, .str b => some (!strLt b a)
  | _, _ => none
def gtD : D → D → Option Bool
  | .int i, .int j => some (decide (j < i))
  | .str a, .str b => some (strLt b a)
  | _, _ => none
def geD : D → D → Option Bool
  | .int i, .int j => some (decide (j ≤ i))
  | .str a, .str b => some (!strLt a b)
  | _, _ => none
def isNone : D → Option Bool
  | .non => some true
  | .bl _ => some false
  | .int _ => some false
  | .str _ => some false
  | .tup _ => some false
  | .lst _ => some false
  | .ref _ => some false
  | _ => none
/-- x is True, x is False -/
def isBool (b : Bool) : D → Option Bool
  | .bl a => some (decide (a = b))
  | .non => some false
  | .int _ => some false
  | .str _ => some false
  | .tup _ => some false
  | .lst _ => some false
  | .ref _ => some false
  | _ => none
def inD (st : Store) (x y : D) : Option Bool := match x, y with
  | .str [a], .str b => some (decide (a ∈ b))
  | x, .tup ys => if shp 60 x && shps 59 ys then some (ys.any fun y => eqD y x) else none
  | x, .lst ys => if shp 60 x && shps 59 ys then some (ys.any fun y => eqD y x) else none
  | _, _ => none
/-- whether a value counts as true -/
def truD (st : Store) : D → Option Bool
  | .non => some false
  | .bl b => some b
  | .int i => some (i != 0)
  | .str s => if Sz s.length then some (!s.isEmpty) else none
  | .tup ds => some (!ds.isEmpty)
  | .lst ds => some (!ds.isEmpty)
  | .ref n => match st[n]? with
    | some (.lst ds) => some (!ds.isEmpty)
    | _ => none
  | _ => none
/-- items by a number, from behind if below 0 -/
def atN (n : Nat) (i : Int) : Option Nat := if 0 ≤ i then (if i < n then some i.toNat else none) else if -(n : Int) ≤ i then some (i + n).toNat else none
def atD {α : Type} (l : List α) (i : Int) : Option α := (atN l.length i).bind fun j => l[j]?
def idxD (x i : D) (st : Store) : Option D := match x, i with
  | .tup ds, .int k => atD ds k
  | .lst ds, .int k => atD ds k
  | .str s, .int k => if Sz s.length then (atD s k).map fun c => .str [c] else none
  | .ref n, .int k => match st[n]? with
    | some (.lst ds) => atD ds k
    | _ => none
  | _, _ => none
/-- a slice's bound, brought into 0 .. n -/
def clip (n d : Nat) : Option Int → Nat
  | none => d
  | some v => if v < 0 then (v + (n : Int)).toNat else min v.toNat n
def cut {α : Type} (l : List α) (lo hi : Option Int) : List α := (l.drop (clip l.length 0 lo)).take (clip l.length l.length hi - clip l.length 0 lo)
def sliD (x : D) (lo hi : Option Int) (st : Store) : Option D := match x with
  | .tup ds => some (.tup (cut ds lo hi))
  | .lst ds => some (.lst (cut ds lo hi))
  | .str s => if Sz s.length then some (.str (cut s lo hi)) else none
  | .scr ns => some (.lst (cut (ns.map D.int) lo hi))
  | .ref n => match st[n]? with
    | some (.lst ds) => some (.lst (cut ds lo hi))
    | _ => none
  | _ => none
end Bw
set_option linter.all false
set_option autoImplicit false
set_option maxRecDepth 100000
/-! How data are borne by values and the abstract heap. -/
namespace Bw
open PySem PySem.Spec PyProof.Rows L2

/-- what stands for ever (tuples, lists that nobody changes, errors' dicts), and where the store's things stand -/
structure Zw where
  G : Hp
  μ : List Addr
  F : Hp
structure Le (z z' : Zw) : Prop where
  g : ∀ a o, z.G a = some o → z'.G a = some o
  m : ∃ r, z'.μ = z.μ ++ r
  f : z'.F = z.F
/-- .. but for what is left alone -/
structure Lg (z z' : Zw) : Prop where
  g : ∀ a o, z.G a = some o → z'.G a = some o
  m : ∃ r, z'.μ = z.μ ++ r
theorem Le.lg {z z' : Zw} (h : Le z z') : Lg z z' := ⟨h.g, h.m⟩
theorem Lg.trans {z z1 z2 : Zw} (a : Lg z z1) (b : Lg z1 z2) : Lg z z2 := by
  refine ⟨fun c o h => b.g c o (a.g c o h), ?_⟩
  obtain ⟨r, e⟩ := a.m
  obtain ⟨r', e'⟩ := b.m
  exact ⟨r ++ r', by rw [e', e, List.append_assoc]⟩
theorem Lg.refl (z : Zw) : Lg z z := ⟨fun _ _ h => h, ⟨[], (List.append_nil _).symm⟩⟩
theorem Lg.le {z z' : Zw} (h : Lg z z') : Le z ⟨z'.G, z'.μ, z.F⟩ := ⟨h.g, h.m, rfl⟩
theorem Le.refl (z : Zw) : Le z z := ⟨fun _ _ h => h, ⟨[], (List.append_nil _).symm⟩, rfl⟩
theorem Le.trans {z z1 z2 : Zw} (a : Le z z1) (b : Le z1 z2) : Le z z2 := by
  refine ⟨fun c o h => b.g c o (a.g c o h), ?_, b.f.trans a.f⟩
  obtain ⟨r, e⟩ := a.m
  obtain ⟨r', e'⟩ := b.m
  exact ⟨r ++ r', by rw [e', e, List.append_assoc]⟩
theorem Le.at {z z' : Zw} (h : Le z z') {n : Nat} {a : Addr} (e : z.μ[n]? = some a) : z'.μ[n]? = some a := by
  obtain ⟨r, q⟩ := h.m
  rw [q, List.getElem?_append_left (List.getElem?_eq_some_iff.mp e).1]
  exact e

/-- where one stands -/
structure Cc where
  K : PySem.W.Frag
  mg : Str → Option Value

abbrev strOf (s : List Nat) : Str := ⟨s.toArray⟩
mutual
inductive Rp (c : Cc) (z : Zw) : V → D → Prop
  | non : Rp c z .non .non
  | bl (b : Bool) : Rp c z (.bl b) (.bl b)
  | int (i : Int) : Rp c z (.int i) (.int i)
  | str (s : List Nat) : Rp c z (.str (strOf s)) (.str s)
  | tup {a : Addr} {vs : List V} {ds : List D} : SqT c.K z.G a vs → Rps c z vs ds → Rp c z (.ref a) (.tup ds)
  | lst {a : Addr} {vs : List V} {ds : List D} : z.G a = some (.lst vs) → Rps c z vs ds → Rp c z (.ref a) (.lst ds)
  | ref {n : Nat} {a : Addr} : z.μ[n]? = some a → Rp c z (.ref a) (.ref n)
  | fn {x : String} {v : V} {u : Value} : c.mg (Str.ofString x) = some u → RelV v u → Rp c z v (.fn x)
  | ty (n : String) : Rp c z (.ty n) (.ty n)
  | scr {a : Addr} {ns : List Int} : SqL c.K z.G a (ns.map V.int) → Rp c z (.ref a) (.scr ns)
inductive Rps (c : Cc) (z : Zw) : List V → List D → Prop
  | nil : Rps c z [] []
  | cons {v : V} {vs : List V} {d : D} {ds : List D} : Rp c z v d → Rps c z vs ds → Rps c z (v :: vs) (d :: ds)
end
theorem seqT_mono {K : PySem.W.Frag} {G G' : Hp} (h : ∀ a o, G a = some o → G' a = some o) {a : Addr} {vs : List V} (x : SqT K G a vs) : SqT K G' a vs := by
  rcases x with (x | ⟨o, x⟩) | x
  · exact .inl (.inl (h _ _ x))
  · exact .inl (.inr ⟨o, h _ _ x⟩)
  · exact .inr x
theorem seqL_mono {K : PySem.W.Frag} {G G' : Hp} (h : ∀ a o, G a = some o → G' a = some o) {a : Addr} {vs : List V} (x : SqL K G a vs) : SqL K G' a vs := by
  rcases x with (x | ⟨o, x⟩) | x
  · exact .inl (.inl (h _ _ x))
  · exact .inl (.inr ⟨o, h _ _ x⟩)
  · exact .inr x
mutual
theorem Rp.mono {c : Cc} {z z' : Zw} (h : Le z z') {v : V} {d : D} : Rp c z v d → Rp c z' v d
  | .non => .non
  | .bl b => .bl b
  | .int i => .int i
  | .str s => .str s
  | .tup s r => .tup (seqT_mono h.g s) (Rps.mono h r)
  | .lst s r => .lst (h.g _ _ s) (Rps.mono h r)
  | .ref e => .ref (h.at e)
  | .fn a b => .fn a b
  | .ty n => .ty n
  | .scr s => .scr (seqL_mono h.g s)
theorem Rps.mono {c : Cc} {z z' : Zw} (h : Le z z') {vs : List V} {ds : List D} : Rps c z vs ds → Rps c z' vs ds
  | .nil => .nil
  | .cons a b => .cons (Rp.mono h a) (Rps.mono h b)
end
theorem Rps.len {c : Cc} {z : Zw} : ∀ {vs : List V} {ds : List D}, Rps c z vs ds → vs.length = ds.length
  | _, _, .nil => rfl
  | _, _, .cons _ t => by simp [Rps.len t]
theorem Rps.app {c : Cc} {z : Zw} : ∀ {vs ws : List V} {ds es : List D}, Rps c z vs ds → Rps c z ws es → Rps c z (vs ++ ws) (ds ++ es)
  | _, _, _, _, .nil, s => s
  | _, _, _, _, .cons a t, s => .cons a (Rps.app t s)
theorem Rps.get {c : Cc} {z : Zw} : ∀ {vs : List V} {ds : List D} {i : Nat} {d : D}, Rps c z vs ds → ds[i]? = some d → ∃ v, vs[i]? = some v ∧ Rp c z v d
  | _, _, _, _, .nil, e => by simp at e
  | _, _, 0, d, .cons a t, e => by
    have e' := Option.some.inj (show some _ = some d from e)
    subst e'
    exact ⟨_, rfl, a⟩
  | _, _, i + 1, d, .cons a t, e => Rps.get (i := i) t e
theorem Rps.getV {c : Cc} {z : Zw} : ∀ {vs : List V} {ds : List D} {i : Nat} {v : V}, Rps c z vs ds → vs[i]? = some v → ∃ d, ds[i]? = some d ∧ Rp c z v d
  | _, _, _, _, .nil, e => by simp at e
  | _, _, 0, v, .cons a t, e => by
    have e' := Option.some.inj (show some _ = some v from e)
    subst e'
    exact ⟨_, rfl, a⟩
  | _, _, i + 1, v, .cons a t, e => Rps.getV (i := i) t e
theorem Rps.take {c : Cc} {z : Zw} : ∀ {vs : List V} {ds : List D} (n : Nat), Rps c z vs ds → Rps c z (vs.take n) (ds.take n)
  | _, _, 0, _ => .nil
  | _, _, _ + 1, .nil => .nil
  | _, _, n + 1, .cons a t => .cons a (Rps.take n t)
theorem Rps.drop {c : Cc} {z : Zw} : ∀ {vs : List V} {ds : List D} (n : Nat), Rps c z vs ds → Rps c z (vs.drop n) (ds.drop n)
  | _, _, 0, r => r
  | _, _, _ + 1, .nil => .nil
  | _, _, n + 1, .cons _ t => Rps.drop n t
theorem Rps.set {c : Cc} {z : Zw} {v : V} {d : D} (r : Rp c z v d) : ∀ {vs : List V} {ds : List D} (n : Nat), Rps c z vs ds → Rps c z (vs.set n v) (ds.set n d)
  | _, _, _, .nil => .nil
  | _, _, 0, .cons _ t => .cons r t
  | _, _, n + 1, .cons a t => .cons a (Rps.set r n t)
theorem Rps.rev {c : Cc} {z : Zw} : ∀ {vs : List V} {ds : List D}, Rps c z vs ds → Rps c z vs.reverse ds.reverse
  | _, _, .nil => .nil
  | _, _, .cons a t => by
    rw [List.reverse_cons, List.reverse_cons]
    exact (Rps.rev t).app (.cons a .nil)

/-- the fields of an error -/
inductive Rpf (c : Cc) (z : Zw) : List (Str × V) → List (String × D) → Prop
  | nil : Rpf c z [] []
  | cons {x : String} {v : V} {d : D} {fs : List (Str × V)} {es : List (String × D)} : Rp c z v d → Rpf c z fs es → Rpf c z ((Str.ofString x, v) :: fs) ((x, d) :: es)
theorem Rpf.mono {c : Cc} {z z' : Zw} (h : Le z z') : ∀ {fs : List (Str × V)} {es : List (String × D)}, Rpf c z fs es → Rpf c z' fs es
  | _, _, .nil => .nil
  | _, _, .cons a t => .cons (a.mono h) (Rpf.mono h t)

/-- one thing of the store, at a -/
def RpO (c : Cc) (z : Zw) (H : Hp) (a : Addr) : MO → Prop
  | .lst ds => ∃ vs, H a = some (.lst vs) ∧ Rps c z vs ds
  | .ins x fs => ∃ C dx vs, c.mg (Str.ofString x) = some (.ref C) ∧ H a = some (.ins C dx vs) ∧ Rpf c z vs fs
theorem RpO.mono {c : Cc} {z z' : Zw} {H H' : Hp} {a : Addr} (h : Le z z') (e : H' a = H a) : ∀ {o : MO}, RpO c z H a o → RpO c z' H' a o
  | .lst _, ⟨vs, x, r⟩ => ⟨vs, e.trans x, r.mono h⟩
  | .ins _ _, ⟨C, dx, vs, m, x, r⟩ => ⟨C, dx, vs, m, e.trans x, r.mono h⟩
theorem RpO.stands {c : Cc} {z : Zw} {H : Hp} {a : Addr} : ∀ {o : MO}, RpO c z H a o → H a ≠ none
  | .lst _, ⟨_, x, _⟩ => by rw [x]; simp
  | .ins _ _, ⟨_, _, _, _, x, _⟩ => by rw [x]; simp

/-- the abstract heap bears the store -/
structure Wf (c : Cc) (T : List (Addr × Str)) (z : Zw) (st : Store) (H : Hp) : Prop where
  sub : ∀ a o, z.G a = some o → H a = some o
  len : z.μ.length = st.length
  nd : z.μ.Nodup
  obj : ∀ (n : Nat) (a : Addr) (o : MO), z.μ[n]? = some a → st[n]? = some o → z.G a = none ∧ RpO c z H a o
  tab : LamX.Tabs T H
  noT : ∀ p ∈ T, z.G p.1 = none ∧ p.1 ∉ z.μ
  fr : ∀ a o, z.F a = some o → H a = some o ∧ z.G a = none ∧ a ∉ z.μ ∧ (∀ p ∈ T, p.1 ≠ a) ∧ ∃ vs, o = .lst vs

section
variable {c : Cc} {T : List (Addr × Str)} {z : Zw} {st : Store} {H : Hp}
theorem Wf.tup {a : Addr} {vs : List V} (w : Wf c T z st H) (h : SqT c.K z.G a vs) : SqT c.K H a vs := seqT_mono w.sub h
theorem Wf.seq {a : Addr} {vs : List V} (w : Wf c T z st H) (h : SqL c.K z.G a vs) : SqL c.K H a vs := seqL_mono w.sub h
theorem Wf.stands {n : Nat} {a : Addr} (w : Wf c T z st H) (e : z.μ[n]? = some a) : H a ≠ none := by
  have h1 : n < st.length := by rw [← w.len]; exact (List.getElem?_eq_some_iff.mp e).1
  exact (w.obj n a _ e (List.getElem?_eq_getElem h1)).2.stands
theorem Wf.notin {p : Addr} (w : Wf c T z st H) (hp : H p = none) : p ∉ z.μ := fun hm => by
  obtain ⟨n, e⟩ := List.getElem?_of_mem hm
  exact w.stands e hp
theorem Wf.noG {p : Addr} (w : Wf c T z st H) (hp : H p = none) : z.G p = none := by
  cases e : z.G p with
  | none => rfl
  | some o =>
    have := w.sub _ _ e
    rw [hp] at this
    cases this
theorem Wf.neT {p : Addr} (w : Wf c T z st H) (hp : H p = none) : ∀ q ∈ T, q.1 ≠ p := fun q hq e => by
  obtain ⟨ps, h, _⟩ := w.tab q hq
  rw [e, hp] at h
  cases h
/-- a new thing that stands for ever -/
def Zw.lay (z : Zw) (p : Addr) (o : HO) : Zw := ⟨upd z.G p o, z.μ, z.F⟩
theorem Zw.lay_le {z : Zw} {p : Addr} {o : HO} (h : z.G p = none) : Le z (z.lay p o) :=
  ⟨fun a u e => by
    show upd z.G p o a = _
    rw [upd_ne (ne_of_none e h)]
    exact e, ⟨[], (List.append_nil _).symm⟩, rfl⟩
theorem tabs_upd {H : Hp} {p : Addr} {o : HO} (t : LamX.Tabs T H) (hp : H p = none) : LamX.Tabs T (upd H p o) := t.ext fun b u e => by
  rw [upd_ne (ne_of_none e hp)]
  exact e
theorem Wf.lay {p : Addr} {o : HO} (w : Wf c T z st H) (hp : H p = none) : Wf c T (z.lay p o) st (upd H p o) := by
  have np := w.notin hp
  have hg := w.noG hp
  refine ⟨fun a u e => ?_, w.len, w.nd, fun n a u e1 e2 => ?_, tabs_upd w.tab hp, fun q hq => ?_, fun a u e => ?_⟩
  · by_cases h : a = p
    · have e' : upd z.G p o a = some u := e
      rw [h, upd_same] at e' ⊢
      exact e'
    · have e' : upd z.G p o a = some u := e
      rw [upd_ne h] at e' ⊢
      exact w.sub _ _ e'
  · have ne : a ≠ p := fun h => np (h ▸ List.mem_of_getElem? e1)
    obtain ⟨h1, h2⟩ := w.obj n a u e1 e2
    exact ⟨by show upd z.G p o a = none; rw [upd_ne ne]; exact h1, h2.mono (Zw.lay_le hg) (upd_ne ne)⟩
  · obtain ⟨h1, h2⟩ := w.noT q hq
    exact ⟨by show upd z.G p o q.1 = none; rw [upd_ne (w.neT hp q hq)]; exact h1, h2⟩
  · obtain ⟨h1, h0, h2⟩ := w.fr a u e
    have ne := ne_of_none h1 hp
    exact ⟨by rw [upd_ne ne]; exact h1, by show upd z.G p o a = none; rw [upd_ne ne]; exact h0, h2⟩
theorem Wf.newTup {p : Addr} {vs : List V} {ds : List D} (w : Wf c T z st H) (hp : H p = none) (r : Rps c z vs ds) :
    Le z (z.lay p (.tup vs)) ∧ Wf c T (z.lay p (.tup vs)) st (upd H p (.tup vs)) ∧ Rp c (z.lay p (.tup vs)) (.ref p) (.tup ds) :=
  have l := Zw.lay_le (o := .tup vs) (w.noG hp)
  ⟨l, w.lay hp, .tup (.inl (.inl upd_same)) (r.mono l)⟩
theorem Wf.newLst {p : Addr} {vs : List V} {ds : List D} (w : Wf c T z st H) (hp : H p = none) (r : Rps c z vs ds) :
    Le z (z.lay p (.lst vs)) ∧ Wf c T (z.lay p (.lst vs)) st (upd H p (.lst vs)) ∧ Rp c (z.lay p (.lst vs)) (.ref p) (.lst ds) :=
  have l := Zw.lay_le (o := .lst vs) (w.noG hp)
  ⟨l, w.lay hp, .lst upd_same (r.mono l)⟩
/-- a new thing of the store -/
def Zw.push (z : Zw) (p : Addr) : Zw := ⟨z.G, z.μ ++ [p], z.F⟩
theorem Zw.push_le {z : Zw} {p : Addr} : Le z (z.push p) := ⟨fun _ _ h => h, ⟨[p], rfl⟩, rfl⟩
theorem get_snoc {α : Type} {l : List α} {x : α} {n : Nat} {y : α} (h : (l ++ [x])[n]? = some y) : l[n]? = some y ∨ (n = l.length ∧ y = x) := by
  by_cases hn : n < l.length
  · rw [List.getElem?_append_left hn] at h
    exact .inl h
  · have : n = l.length := by
      have := (List.getElem?_eq_some_iff.mp h).1
      rw [List.length_append] at this
      simp at this
      omega
    subst this
    rw [List.getElem?_append_right (Nat.le_refl _)] at h
    simp at h
    exact .inr ⟨rfl, h.symm⟩
theorem Wf.push {p : Addr} {vs : List V} {ds : List D} (w : Wf c T z st H) (hp : H p = none) (r : Rps c z vs ds) :
    Le z (z.push p) ∧ Wf c T (z.push p) (st ++ [.lst ds]) (upd H p (.lst vs)) ∧ Rp c (z.push p) (.ref p) (.ref st.length) := by
  have np := w.notin hp
  have hg := w.noG hp
  refine ⟨Zw.push_le, ⟨fun a u e => ?_, ?_, ?_, fun n a u e1 e2 => ?_, tabs_upd w.tab hp, fun q hq => ?_, fun a u e => ?_⟩, .ref ?_⟩
  · rw [upd_ne (ne_of_none e hg)]
    exact w.sub _ _ e
  · show (z.μ ++ [p]).length = _
    rw [List.length_append, List.length_append, w.len] <;> rfl
  · show (z.μ ++ [p]).Nodup
    rw [List.nodup_append]
    refine ⟨w.nd, by simp, fun a ha b hb => ?_⟩
    rw [List.mem_singleton] at hb
    subst hb
    exact fun e => np (e ▸ ha)
  · have e1' : (z.μ ++ [p])[n]? = some a := e1
    rcases get_snoc e1' with e | ⟨hn, e⟩
    · have hlt : n < st.length := by rw [← w.len]; exact (List.getElem?_eq_some_iff.mp e).1
      rw [List.getElem?_append_left hlt] at e2
      have ne : a ≠ p := fun h => np (h ▸ List.mem_of_getElem? e)
      obtain ⟨h1, h2⟩ := w.obj n a u e e2
      exact ⟨h1, h2.mono Zw.push_le (upd_ne ne)⟩
    · subst e
      rw [hn, w.len, List.getElem?_append_right (Nat.le_refl _)] at e2
      simp at e2
      subst e2
      exact ⟨hg, vs, upd_same, r.mono Zw.push_le⟩
  · obtain ⟨h1, h2⟩ := w.noT q hq
    refine ⟨h1, fun hm => ?_⟩
    rcases List.mem_append.mp hm with hm | hm
    · exact h2 hm
    · rw [List.mem_singleton] at hm
      exact w.neT hp q hq hm
  · obtain ⟨h1, h0, h2, h3⟩ := w.fr a u e
    have ne := ne_of_none h1 hp
    refine ⟨by rw [upd_ne ne]; exact h1, h0, fun hm => ?_, h3⟩
    rcases List.mem_append.mp hm with hm | hm
    · exact h2 hm
    · rw [List.mem_singleton] at hm
      exact ne hm
  · show (z.μ ++ [p])[st.length]? = some p
    rw [← w.len, List.getElem?_append_right (Nat.le_refl _)]
    simp
theorem tabs_put {a : Addr} {us vs : List V} (t : LamX.Tabs T H) (hu : H a = some (.lst us)) : LamX.Tabs T (upd H a (.lst vs)) := by
  intro p hp
  obtain ⟨ps, h1, h2⟩ := t p hp
  have hne : ∀ {b : Addr} {o : HO}, H b = some o → o ≠ .lst us → b ≠ a := fun {b o} e d h => by
    subst h
    rw [hu] at e
    exact d (Option.some.inj e).symm
  refine ⟨ps, by rw [upd_ne (hne h1 (fun e => by cases e))]; exact h1, h2.1, fun pos cv hcv => ?_⟩
  obtain ⟨c0, q1, q2⟩ := h2.2 pos cv hcv
  refine ⟨c0, q1, ?_⟩
  rw [upd_ne (hne q2 (fun e => by unfold LamX.CodeO at e; cases e))]
  exact q2
/-- a list of the store is changed -/
theorem Wf.put {n : Nat} {a : Addr} {vs : List V} {ds es : List D} (w : Wf c T z st H) (ha : z.μ[n]? = some a) (hs : st[n]? = some (.lst es)) (r : Rps c z vs ds) : Wf c T z (st.set n (.lst ds)) (upd H a (.lst vs)) := by
  obtain ⟨hg, us, hu, _⟩ := w.obj n a _ ha hs
  have hlt : n < st.length := (List.getElem?_eq_some_iff.mp hs).1
  refine ⟨fun b u e => ?_, by rw [List.length_set]; exact w.len, w.nd, fun m b u e1 e2 => ?_, ?_, w.noT, fun b u e => ?_⟩
  · rw [upd_ne (ne_of_none e hg)]
    exact w.sub _ _ e
  · by_cases hm : m = n
    · subst hm
      rw [ha] at e1
      cases e1
      rw [List.getElem?_set_self hlt] at e2
      cases e2
      exact ⟨hg, vs, upd_same, r⟩
    · rw [List.getElem?_set_ne (Ne.symm hm)] at e2
      obtain ⟨h1, h2⟩ := w.obj m b u e1 e2
      have ne : b ≠ a := fun h => by
        subst h
        exact hm ((List.getElem_inj w.nd).mp ((List.getElem?_eq_some_iff.mp e1).2.trans (List.getElem?_eq_some_iff.mp ha).2.symm) )
      exact ⟨h1, h2.mono (Le.refl z) (upd_ne ne)⟩
  · exact tabs_put w.tab hu
  · obtain ⟨h1, h2⟩ := w.fr b u e
    have ne : b ≠ a := fun h => h2.2.1 (h ▸ List.mem_of_getElem? ha)
    exact ⟨by rw [upd_ne ne]; exact h1, h2⟩
mutual
/-- another set of things that are left alone -/
theorem RpF {F' : Hp} : ∀ {v : V} {d : D}, Rp c z v d → Rp c ⟨z.G, z.μ, F'⟩ v d
  | _, _, .non => .non
  | _, _, .bl b => .bl b
  | _, _, .int i => .int i
  | _, _, .str s => .str s
  | _, _, .tup s r => .tup s (RpsF r)
  | _, _, .lst s r => .lst s (RpsF r)
  | _, _, .ref e => .ref e
  | _, _, .fn a b => .fn a b
  | _, _, .ty n => .ty n
  | _, _, .scr s => .scr s
theorem RpsF {F' : Hp} : ∀ {vs : List V} {ds : List D}, Rps c z vs ds → Rps c ⟨z.G, z.μ, F'⟩ vs ds
  | _, _, .nil => .nil
  | _, _, .cons a b => .cons (RpF a) (RpsF b)
end
theorem RpOF {F' : Hp} {a : Addr} : ∀ {o : MO}, RpO c z H a o → RpO c ⟨z.G, z.μ, F'⟩ H a o
  | .lst _, ⟨vs, x, r⟩ => ⟨vs, x, RpsF r⟩
  | .ins _ fs, ⟨C, dx, vs, m, x, r⟩ => by
    refine ⟨C, dx, vs, m, x, ?_⟩
    clear x m
    induction r with
    | nil => exact .nil
    | cons a _ ih => exact .cons (RpF a) ih
theorem Rp.monoG {z' : Zw} (h : Lg z z') {v : V} {d : D} (r : Rp c z v d) : Rp c z' v d := RpF (z := ⟨z'.G, z'.μ, z.F⟩) (F' := z'.F) (r.mono h.le)
theorem Rps.monoG {z' : Zw} (h : Lg z z') {v : List V} {d : List D} (r : Rps c z v d) : Rps c z' v d := RpsF (z := ⟨z'.G, z'.μ, z.F⟩) (F' := z'.F) (r.mono h.le)
/-- a thing that nobody knows of -/
theorem Wf.more {p : Addr} {o : HO} (w : Wf c T z st H) (hp : H p = none) : Wf c T z st (upd H p o) := by
  refine ⟨fun a u e => ?_, w.len, w.nd, fun n a u e1 e2 => ?_, tabs_upd w.tab hp, w.noT, fun a u e => ?_⟩
  · rw [upd_ne (ne_of_none e (w.noG hp))]
    exact w.sub _ _ e
  · have ne : a ≠ p := fun h => w.notin hp (h ▸ List.mem_of_getElem? e1)
    obtain ⟨h1, h2⟩ := w.obj n a u e1 e2
    exact ⟨h1, h2.mono (Le.refl z) (upd_ne ne)⟩
  · obtain ⟨h1, h2⟩ := w.fr a u e
    exact ⟨by rw [upd_ne (ne_of_none h1 hp)]; exact h1, h2⟩
/-- .. of the heap as it stands -/
theorem Wf.withF {F' : Hp} (w : Wf c T z st H) (h : ∀ a o, F' a = some o → H a = some o ∧ z.G a = none ∧ a ∉ z.μ ∧ (∀ p ∈ T, p.1 ≠ a) ∧ ∃ vs, o = .lst vs) : Wf c T ⟨z.G, z.μ, F'⟩ st H :=
  ⟨w.sub, w.len, w.nd, fun n a o e1 e2 => let ⟨h1, h2⟩ := w.obj n a o e1 e2; ⟨h1, RpOF h2⟩, w.tab, w.noT, h⟩
end

/-- an error's object, by its class and its own dict -/
def ErOk (c : Cc) (z : Zw) (e : Er) (cls : Value) (dd : Option Addr) : Prop := (∃ C, cls = .ref C ∧ c.mg (Str.ofString e.cls) = some (.ref C)) ∧
  match dd with
  | none => e.fs = []
  | some d => ∃ fs, z.G d = some (.xd fs) ∧ Rpf c z fs e.fs

end Bw
set_option linter.all false
set_option autoImplicit false
set_option maxRecDepth 100000
/-! Operators by data. -/
namespace Bw
open PySem PySem.Spec PyProof.Rows L2
theorem imp_PE {X : Cx} {e : PySem.Expr} {t t' : TE} (h : PE X e t) (k : ∀ σ H Q, t' σ H Q → t σ H Q) : PE X e t' :=
  ⟨fun pins s σ H Q I q => h.run pins s σ H Q I (k σ H Q q)⟩
theorem imp_PT {X : Cx} {e : PySem.Expr} {t t' : TT} (h : PT X e t) (k : ∀ σ H Q, t' σ H Q → t σ H Q) : PT X e t' :=
  ⟨fun pins s σ H Q I q => h.run pins s σ H Q I (k σ H Q q)⟩
theorem imp_PW {X : Cx} {e : PySem.Expr} {t t' : TT} (h : PW X e t) (k : ∀ σ H Q, t' σ H Q → t σ H Q) : PW X e t' :=
  ⟨fun whole pins s σ H Q I q => h.run whole pins s σ H Q I (k σ H Q q)⟩
theorem imp_PA {X : Cx} {es : List PySem.Expr} {t t' : TA} (h : PA X es t) (k : ∀ σ H Q, t' σ H Q → t σ H Q) : PA X es t' :=
  ⟨fun pos pins s σ H Q I q => h.run pos pins s σ H Q I (k σ H Q q)⟩
theorem imp_PS {X : Cx} {e : PySem.Stmt} {t t' : TS} (h : PS X e t) (k : ∀ D σ H, t' D σ H → t D σ H) : PS X e t' :=
  ⟨fun pins s σ H D I q => h.run pins s σ H D I (k D σ H q)⟩
theorem imp_PSs {X : Cx} {e : List PySem.Stmt} {t t' : TS} (h : PSs X e t) (k : ∀ D σ H, t' D σ H → t D σ H) : PSs X e t' :=
  ⟨fun pins s σ H D I q => h.run pins s σ H D I (k D σ H q)⟩

/-- what holds of a context -/
structure Gd (X : Cx) (c : Cc) (T : List (Addr × Str)) (W : WX) : Prop where
  K : X.K = c.K
  mg : X.mg = c.mg
  nd : X.N.Nodup
  tk : Takes X W
  dp : X.A.depth + 5 < recursionLimit
  un : X.A.units + 200 < cLine

/-- what an operation on data asks of values -/
def r2 (c : Cc) (T : List (Addr × Str)) (f : D → D → Store → Option D) : R2 := fun x y H Q => ∃ z st dx dy d, Wf c T z st H ∧ Rp c z x dx ∧ Rp c z y dy ∧ f dx dy st = some d ∧
  ∀ z' H' v, Le z z' → Wf c T z' st H' → Rp c z' v d → Q v H'
def r1 (c : Cc) (T : List (Addr × Str)) (f : D → Store → Option D) : V → Hp → VK → Prop := fun x H Q => ∃ z st dx d, Wf c T z st H ∧ Rp c z x dx ∧ f dx st = some d ∧
  ∀ z' H' v, Le z z' → Wf c T z' st H' → Rp c z' v d → Q v H'
/-- .. of a list of arguments -/
def rN (c : Cc) (T : List (Addr × Str)) (f : List D → Store → Option D) : List V → Hp → VK → Prop := fun xs H Q => ∃ z st ds d, Wf c T z st H ∧ Rps c z xs ds ∧ f ds st = some d ∧
  ∀ z' H' v, Le z z' → Wf c T z' st H' → Rp c z' v d → Q v H'

section
variable {X : Cx} {c : Cc} {T : List (Addr × Str)}
theorem Rp.intV {z : Zw} {v : V} {i : Int} (h : Rp c z v (.int i)) : v = .int i := by cases h; rfl
theorem Rp.blV {z : Zw} {v : V} {b : Bool} (h : Rp c z v (.bl b)) : v = .bl b := by cases h; rfl
theorem Rp.strV {z : Zw} {v : V} {s : List Nat} (h : Rp c z v (.str s)) : v = .str (strOf s) := by cases h; rfl
theorem Rp.nonV {z : Zw} {v : V} (h : Rp c z v .non) : v = .non := by cases h; rfl

theorem sz_of {n : Nat} (h : Sz n = true) : n ≤ sizeLine := by
  rw [sizeLine_eq]
  exact of_decide_eq_true h
theorem strOf_len (s : List Nat) : (strOf s).length = s.length := by
  show s.toArray.size = _
  simp
theorem strOf_app (a b : List Nat) : strOf a ++ strOf b = strOf (a ++ b) := by
  show (⟨(strOf a).cps ++ (strOf b).cps⟩ : Str) = _
  simp
theorem strOf_inj {a b : List Nat} : strOf a = strOf b ↔ a = b := by
  constructor
  · intro h
    have := congrArg (fun s : Str => s.cps.toList) h
    simpa using this
  · intro h; rw [h]

/-! ### arithmetic -/
theorem bits_le {i : Int} : Builtin.Int.intBits i ≤ bits i + 1 := by
  unfold Builtin.Int.intBits bits
  split <;> omega
theorem mulOk_of {i j : Int} (h : mulOk i j = true) : IntMulOk i j := by
  unfold mulOk at h
  rw [Bool.or_eq_true, Bool.or_eq_true] at h
  rcases h with (h | h) | h
  · have := of_decide_eq_true h
    exact .of_left (intBits_le_64 (by omega) (by omega))
  · have := of_decide_eq_true h
    exact .of_right (intBits_le_64 (by omega) (by omega))
  · exact CMulW.ok (show i.natAbs.log2 + j.natAbs.log2 < 1000000 from of_decide_eq_true h)
theorem divOk_of {i j : Int} (h : divOk i j = true) : j ≠ 0 ∧ Builtin.divisionGoesByPylong i j = false := by
  unfold divOk at h
  rw [Bool.and_eq_true, Bool.or_eq_true] at h
  obtain ⟨h1, h2⟩ := h
  have h1 := of_decide_eq_true h1
  refine ⟨h1, ?_⟩
  rcases h2 with h2 | h2
  · exact PyProof.noPylong_of_log2 (of_decide_eq_true h2)
  · have h2 := of_decide_eq_true h2
    unfold bits at h2
    show (decide ((if j == 0 then 0 else j.natAbs.log2 / 30 + 1) > 300) && decide ((if i == 0 then 0 else i.natAbs.log2 / 30 + 1) > (if j == 0 then 0 else j.natAbs.log2 / 30 + 1) + 150)) = false
    have k : ¬ ((if i == 0 then 0 else i.natAbs.log2 / 30 + 1) > (if j == 0 then 0 else j.natAbs.log2 / 30 + 1) + 150) := by
      rw [if_neg (show ¬ (j == 0) = true by simpa using h1)]
      split <;> omega
    rw [decide_eq_false k, Bool.and_false]
theorem foldl_app {α : Type} : ∀ (l : List (Array α)) (a : Array α), (l.foldl (· ++ ·) a).toList = a.toList ++ (l.map Array.toList).flatten
  | [], a => by simp
  | b :: l, a => by
    rw [List.foldl_cons, foldl_app l (a ++ b)]
    simp
theorem rep_eq {α : Type} (l : List α) : ∀ n : Nat, rep l n = (List.replicate n l).flatten
  | 0 => rfl
  | n + 1 => by
    show l ++ rep l n = _
    rw [rep_eq l n, List.replicate_succ, List.flatten_cons]


theorem o_add (hK : X.K = c.K) : OpR X (binaryOp .Add) (r2 c T fun a b _ => addD a b) := by
  obtain ⟨K, mg⟩ := c
  cases hK
  intro pins s σ H x y v u Q I rx ry h
  obtain ⟨z, st, dx, dy, d, w, h1, h2, e, q⟩ := h
  have e : addD dx dy = some d := e
  unfold addD at e
  split at e
  · cases e
    rw [h1.intV] at rx
    rw [h2.intV] at ry
    exact op_add pins s σ H _ _ v u Q I rx ry ⟨_, _, rfl, rfl, q z H _ (Le.refl z) w (.int _)⟩
  · split at e
    · rename_i hs
      cases e
      rw [h1.strV] at rx
      rw [h2.strV] at ry
      exact op_add_str pins s σ H _ _ v u Q I rx ry ⟨_, _, rfl, rfl, by rw [strOf_len, strOf_len]; exact sz_of hs, by rw [strOf_app]; exact q z H _ (Le.refl z) w (.str _)⟩
    · cases e
  · split at e
    · rename_i hs
      cases e
      cases h1 with
      | tup s1 r1 =>
        cases h2 with
        | tup s2 r2 =>
          refine op_catA pins s σ H _ _ v u Q I rx ry ⟨_, _, _, _, rfl, rfl, w.tup s1, w.tup s2, by rw [r1.len, r2.len]; exact sz_of hs, fun h => ?_, fun h h' => ?_, fun h h' p hp => ?_⟩
          · subst h
            cases r1
            exact q z H _ (Le.refl z) w (.tup s2 r2)
          · subst h'
            cases r2
            exact q z H _ (Le.refl z) w (by rw [List.append_nil]; exact .tup s1 r1)
          · obtain ⟨l, w', r⟩ := w.newTup hp (r1.app r2)
            exact q _ _ _ l w' r
    · cases e
  · split at e
    · rename_i hs
      cases e
      cases h1 with
      | lst s1 r1 =>
        cases h2 with
        | lst s2 r2 =>
          refine op_cat pins s σ H _ _ v u Q I rx ry ⟨_, _, _, _, rfl, rfl, w.sub _ _ s1, w.sub _ _ s2, by rw [r1.len, r2.len]; exact sz_of hs, fun p hp => ?_⟩
          obtain ⟨l, w', r⟩ := w.newLst hp (r1.app r2)
          exact q _ _ _ l w' r
    · cases e
  · cases e

theorem o_sub : OpR X (binaryOp .Sub) (r2 c T fun a b _ => subD a b) := by
  intro pins s σ H x y v u Q I rx ry h
  obtain ⟨z, st, dx, dy, d, w, h1, h2, e, q⟩ := h
  have e : subD dx dy = some d := e
  unfold subD at e
  split at e
  · cases e
    rw [h1.intV] at rx
    rw [h2.intV] at ry
    exact op_sub pins s σ H _ _ v u Q I rx ry ⟨_, _, rfl, rfl, q z H _ (Le.refl z) w (.int _)⟩
  · cases e
theorem o_div : OpR X (binaryOp .FloorDiv) (r2 c T fun a b _ => divD a b) := by
  intro pins s σ H x y v u Q I rx ry h
  obtain ⟨z, st, dx, dy, d, w, h1, h2, e, q⟩ := h
  have e : divD dx dy = some d := e
  unfold divD at e
  split at e
  · split at e
    · rename_i hs
      cases e
      rw [h1.intV] at rx
      rw [h2.intV] at ry
      obtain ⟨t, rfl⟩ := rx
      obtain ⟨t', rfl⟩ := ry
      obtain ⟨k1, k2⟩ := divOk_of hs
      exact floordiv_int k1 ⟨V.int _, H, I.tok _, ⟨_, rfl⟩, q z H _ (Le.refl z) w (.int _)⟩ (.inl k2)
    · cases e
  · cases e
theorem o_mod : OpR X (binaryOp .Mod) (r2 c T fun a b _ => modD a b) := by
  intro pins s σ H x y v u Q I rx ry h
  obtain ⟨z, st, dx, dy, d, w, h1, h2, e, q⟩ := h
  have e : modD dx dy = some d := e
  unfold modD at e
  split at e
  · split at e
    · rename_i hs
      cases e
      rw [h1.intV] at rx
      rw [h2.intV] at ry
      exact op_modN pins s σ H _ _ v u Q I rx ry ⟨_, _, rfl, rfl, hs, q z H _ (Le.refl z) w (.int _)⟩
    · cases e
  · cases e
theorem pow_sz {i j : Int} (h : powOk i j = true) : 0 ≤ j ∧ (Builtin.Int.intBits i : Int) * j ≤ 2 ^ 27 := by
  unfold powOk at h
  rw [Bool.and_eq_true] at h
  have h1 := of_decide_eq_true h.1
  have h2 := of_decide_eq_true h.2
  refine ⟨h1, ?_⟩
  have b := bits_le (i := i)
  have : (Builtin.Int.intBits i : Int) * j ≤ ((bits i : Int) + 1) * j := Int.mul_le_mul_of_nonneg_right (by omega) h1
  have e : (2 : Int) ^ 27 = 134217728 := by decide
  omega
theorem o_pow : OpR X (binaryOp .Pow) (r2 c T fun a b _ => powD a b) := by
  intro pins s σ H x y v u Q I rx ry h
  obtain ⟨z, st, dx, dy, d, w, h1, h2, e, q⟩ := h
  have e : powD dx dy = some d := e
  unfold powD at e
  split at e
  · split at e
    · rename_i hs
      cases e
      rw [h1.intV] at rx
      rw [h2.intV] at ry
      obtain ⟨t, rfl⟩ := rx
      obtain ⟨t', rfl⟩ := ry
      obtain ⟨k1, k2⟩ := pow_sz hs
      exact pow_int k1 k2 ⟨V.int _, H, I.tok _, ⟨_, rfl⟩, q z H _ (Le.refl z) w (.int _)⟩
    · cases e
  · cases e
theorem o_shl : OpR X (binaryOp .LShift) (r2 c T fun a b _ => shlD a b) := by
  intro pins s σ H x y v u Q I rx ry h
  obtain ⟨z, st, dx, dy, d, w, h1, h2, e, q⟩ := h
  have e : shlD dx dy = some d := e
  unfold shlD at e
  split at e
  · rename_i i0 j0
    split at e
    · rename_i hs
      cases e
      rw [h1.intV] at rx
      rw [h2.intV] at ry
      obtain ⟨t, rfl⟩ := rx
      obtain ⟨t', rfl⟩ := ry
      unfold shlOk at hs
      rw [Bool.and_eq_true] at hs
      have k1 := of_decide_eq_true hs.1
      have k2 := of_decide_eq_true hs.2
      have e : (2 : Int) ^ 27 = 134217728 := by decide
      refine lshift_int k1 (Int.le_trans (Int.add_le_add_right (Int.ofNat_le.mpr bits_le) _) (by omega)) ⟨V.int _, H, I.tok _, ⟨_, rfl⟩, q z H _ (Le.refl z) w (.int _)⟩
    · cases e
  · cases e
theorem mulStr {s : Shared} {a : List Nat} {j : Int} {t u : Tok} {Q : Value → Shared → Prop} {E : Value → Shared → Prop} (h0 : 0 ≤ j) (h1 : j ≤ 16777216) (h2 : a.length * j.toNat ≤ 16777216)
    (hq : ∀ s' t', (∃ k, s' = { s with toks := k }) → Q (.str (strOf (rep a j.toNat)) t') s') : wpAny (model X.prog X.w) X.A (binaryOp .Mult (.str (strOf a) t) (.int j u)) Q E s := by
  have hl : (strOf a).length = a.length := strOf_len a
  refine P.mul_str ?_ (fun h h' => ?_) (fun h h' => ?_) ?_
  · rw [Bool.or_eq_false_iff]
    exact ⟨decide_eq_false (by omega), decide_eq_false (by omega)⟩
  · rw [hl]
    have hj : 1 ≤ j := by omega
    have : (a.length : Int) * j ≤ 16777216 := by
      have e : ((a.length * j.toNat : Nat) : Int) ≤ 16777216 := by
        generalize a.length * j.toNat = m at h2
        omega
      rw [Int.natCast_mul, Int.toNat_of_nonneg h0] at e
      exact e
    have k : (a.length : Int) ≤ (2 ^ 63 - 1) / j := by
      rw [Int.le_ediv_iff_mul_le (by omega)]
      omega
    omega
  · rw [hl]
    show decide (_ > sizeLine) = false
    rw [sizeLine_eq]
    exact decide_eq_false (by omega)
  · by_cases c0 : j < 1
    · rw [if_pos c0]
      have : j.toNat = 0 := by omega
      refine ⟨by decide, ?_⟩
      have := hq { s with toks := s.toks + 1 } s.toks ⟨_, rfl⟩
      rw [‹j.toNat = 0›] at this
      exact this
    · rw [if_neg c0]
      by_cases c1 : (j == 1 || (strOf a).length == 0) = true
      · rw [if_pos c1]
        have e : rep a j.toNat = a := by
          rw [Bool.or_eq_true] at c1
          rcases c1 with c1 | c1
          · have : j = 1 := by simpa using c1
            subst this
            simp [rep]
          · have : a.length = 0 := by rw [hl] at c1; simpa using c1
            have : a = [] := List.length_eq_zero_iff.mp this
            subst this
            rw [rep_eq]
            simp
        have := hq s t ⟨_, rfl⟩
        rw [e] at this
        exact this
      · rw [if_neg c1]
        have e : (⟨(List.replicate j.toNat (strOf a).cps).foldl (· ++ ·) #[]⟩ : Str) = strOf (rep a j.toNat) := by
          rw [rep_eq]
          show Str.mk _ = Str.mk _
          congr 1
          apply Array.toList_inj.mp
          rw [foldl_app]
          simp
        refine ⟨?_, ?_⟩
        · rw [e, strOf_len, rep_eq, sizeLine_eq]
          simp
          rw [Nat.mul_comm]
          exact h2
        · rw [e]
          exact hq { s with toks := s.toks + 1 } s.toks ⟨_, rfl⟩
theorem o_mul (hK : X.K = c.K) : OpR X (binaryOp .Mult) (r2 c T fun a b _ => mulD a b) := by
  obtain ⟨K, mg⟩ := c
  cases hK
  intro pins s σ H x y v u Q I rx ry h
  obtain ⟨z, st, dx, dy, d, w, h1, h2, e, q⟩ := h
  have e : mulD dx dy = some d := e
  unfold mulD at e
  split at e
  · split at e
    · rename_i hs
      cases e
      rw [h1.intV] at rx
      rw [h2.intV] at ry
      obtain ⟨t, rfl⟩ := rx
      obtain ⟨t', rfl⟩ := ry
      exact mul_int ⟨V.int _, H, I.tok _, ⟨_, rfl⟩, q z H _ (Le.refl z) w (.int _)⟩ (mulOk_of hs)
    · cases e
  · split at e
    · rename_i hs
      cases e
      rw [h1.strV] at rx
      rw [h2.intV] at ry
      obtain ⟨t, rfl⟩ := rx
      obtain ⟨t', rfl⟩ := ry
      rw [Bool.and_eq_true, Bool.and_eq_true] at hs
      have k1 := of_decide_eq_true hs.1.1
      have k2 : _ ≤ 16777216 := of_decide_eq_true hs.1.2
      have k3 : _ ≤ 16777216 := of_decide_eq_true hs.2
      refine mulStr k1 (by omega) k3 fun s' t' hs' => ?_
      obtain ⟨k, rfl⟩ := hs'
      exact ⟨V.str _, H, I.tok _, ⟨_, rfl⟩, q z H _ (Le.refl z) w (.str _)⟩
    · cases e
  · split at e
    · rename_i hs
      cases e
      cases h1 with
      | tup s1 r1 =>
        rw [h2.intV] at ry
        rw [Bool.and_eq_true, Bool.and_eq_true, Bool.and_eq_true] at hs
        have k1 := of_decide_eq_true hs.1.1.1
        have k2 := of_decide_eq_true hs.1.1.2
        have k3 := of_decide_eq_true hs.1.2
        refine op_repT pins s σ H _ _ v u Q I rx ry ⟨_, _, _, rfl, rfl, w.tup s1, fun h => ?_, k1, k2, by rw [r1.len]; exact k3, fun p hp => ?_⟩
        · subst h
          cases r1
          simp at hs
        · have rr : ∀ n : Nat, Rps ⟨X.K, mg⟩ z (List.replicate n _).flatten (rep _ n) := fun n => by
            induction n with
            | zero => exact .nil
            | succ n ih =>
              rw [List.replicate_succ, List.flatten_cons]
              exact r1.app ih
          obtain ⟨l, w', r⟩ := w.newTup hp (rr _)
          exact q _ _ _ l w' r
    · cases e
  · cases e
/-! ### equality -/
mutual
def py : D → PyData
  | .bl b => .bool b
  | .int i => .int i
  | .str s => .str (strOf s)
  | .tup ds => .tuple (pys ds)
  | .lst ds => .list (pys ds)
  | _ => .none
def pys : List D → List PyData
  | [] => []
  | d :: ds => py d :: pys ds
end
mutual
theorem py_dp (hK : X.K = c.K) {z : Zw} {st : Store} {H : Hp} (w : Wf c T z st H) : ∀ (n : Nat) (d : D) (v : V), shp n d = true → Rp c z v d → Dp X.K H v (py d)
  | _, .non, _, _, h => by cases h; unfold py; exact .non
  | _, .bl b, _, _, h => by cases h; unfold py; exact .bl b
  | _, .int i, _, _, h => by cases h; unfold py; exact .int i
  | _, .str s, _, _, h => by cases h; unfold py; exact .str _
  | 0, .tup ds, _, e, h => by unfold shp at e; cases e
  | 0, .lst ds, _, e, h => by unfold shp at e; cases e
  | n + 1, .tup ds, _, e, h => by
    unfold shp at e
    cases h with
    | tup s r =>
      unfold py
      exact .tup (by rw [hK]; exact w.tup s) (pys_dp hK w n ds _ e r)
  | n + 1, .lst ds, _, e, h => by
    unfold shp at e
    cases h with
    | lst s r =>
      unfold py
      exact .lst (.inl (.inl (w.sub _ _ s))) (pys_dp hK w n ds _ e r)
  | 0, .ref _, _, e, _ => by simp [shp] at e
  | n + 1, .ref _, _, e, _ => by simp [shp] at e
  | 0, .fn _, _, e, _ => by simp [shp] at e
  | n + 1, .fn _, _, e, _ => by simp [shp] at e
  | 0, .ty _, _, e, _ => by simp [shp] at e
  | n + 1, .ty _, _, e, _ => by simp [shp] at e
  | 0, .scr _, _, e, _ => by simp [shp] at e
  | n + 1, .scr _, _, e, _ => by simp [shp] at e
theorem pys_dp (hK : X.K = c.K) {z : Zw} {st : Store} {H : Hp} (w : Wf c T z st H) : ∀ (n : Nat) (ds : List D) (vs : List V), shps n ds = true → Rps c z vs ds → DpAll X.K H vs (pys ds)
  | _, [], _, _, h => by cases h; unfold pys; exact .nil
  | n, d :: ds, _, e, h => by
    unfold shps at e
    rw [Bool.and_eq_true] at e
    cases h with
    | cons a b =>
      unfold pys
      exact .cons (py_dp hK w n d _ e.1 a) (pys_dp hK w n ds _ e.2 b)
end
mutual
theorem py_shp : ∀ (n : Nat) (d : D), shp n d = true → (py d).canLay0 = true ∧ (py d).depth ≤ n
  | n, .non, _ => by simp [py, PyData.canLay0, PyData.depth]
  | n, .bl _, _ => by simp [py, PyData.canLay0, PyData.depth]
  | n, .int _, _ => by simp [py, PyData.canLay0, PyData.depth]
  | n, .str s, e => by
    have e : s.all (· < 0x110000) = true := by cases n <;> exact e
    refine ⟨?_, by simp [py, PyData.depth]⟩
    unfold py PyData.canLay0
    show (strOf s).cps.all (· < 0x110000) = true
    simpa using e
  | 0, .tup ds, e => by unfold shp at e; cases e
  | 0, .lst ds, e => by unfold shp at e; cases e
  | n + 1, .tup ds, e => by
    unfold shp at e
    obtain ⟨a, b⟩ := pys_shp n ds e
    unfold py PyData.canLay0 PyData.depth
    exact ⟨a, by omega⟩
  | n + 1, .lst ds, e => by
    unfold shp at e
    obtain ⟨a, b⟩ := pys_shp n ds e
    unfold py PyData.canLay0 PyData.depth
    exact ⟨a, by omega⟩
  | 0, .ref _, e => by simp [shp] at e
  | n + 1, .ref _, e => by simp [shp] at e
  | 0, .fn _, e => by simp [shp] at e
  | n + 1, .fn _, e => by simp [shp] at e
  | 0, .ty _, e => by simp [shp] at e
  | n + 1, .ty _, e => by simp [shp] at e
  | 0, .scr _, e => by simp [shp] at e
  | n + 1, .scr _, e => by simp [shp] at e
theorem pys_shp : ∀ (n : Nat) (ds : List D), shps n ds = true → PyData.canLayAll0 (pys ds) = true ∧ PyData.depthAll (pys ds) ≤ n
  | n, [], _ => by simp [pys, PyData.canLayAll0, PyData.depthAll]
  | n, d :: ds, e => by
    unfold shps at e
    rw [Bool.and_eq_true] at e
    obtain ⟨a, b⟩ := py_shp n d e.1
    obtain ⟨a', b'⟩ := pys_shp n ds e.2
    unfold pys PyData.canLayAll0 PyData.depthAll
    rw [a, a']
    exact ⟨rfl, by omega⟩
end
theorem shaped_of {n : Nat} {d : D} (h : shp n d = true) (hn : n ≤ 64) : SeqAt.shaped (py d) = true := by
  obtain ⟨a, b⟩ := py_shp n d h
  unfold SeqAt.shaped
  rw [a, Bool.true_and]
  exact decide_eq_true (by omega)
theorem beq_strOf (a b : List Nat) : (strOf a == strOf b) = (a == b) := by
  rw [Bool.eq_iff_iff]
  simp
mutual
theorem py_eqv : ∀ (n m : Nat) (x y : D), shp n x = true → shp m y = true → PyData.eqv (py x) (py y) = eqD x y
  | n, m, x, y, hx, hy => by
    cases x <;> cases y <;> first
      | (simp [shp] at hx; done)
      | (simp [shp] at hy; done)
      | (cases n <;> simp [shp] at hx; done)
      | (cases m <;> simp [shp] at hy; done)
      | (simp only [py, PyData.eqv, eqD]; done)
      | (simp only [py, PyData.eqv, eqD, beq_strOf]; done)
      | skip
    · rename_i xs ys
      cases n with
      | zero => unfold shp at hx; cases hx
      | succ n =>
        cases m with
        | zero => unfold shp at hy; cases hy
        | succ m =>
          unfold shp at hx hy
          simp only [py, PyData.eqv, eqD]
          exact pys_eqv n m xs ys hx hy
    · rename_i xs ys
      cases n with
      | zero => unfold shp at hx; cases hx
      | succ n =>
        cases m with
        | zero => unfold shp at hy; cases hy
        | succ m =>
          unfold shp at hx hy
          simp only [py, PyData.eqv, eqD]
          exact pys_eqv n m xs ys hx hy
theorem pys_eqv : ∀ (n m : Nat) (xs ys : List D), shps n xs = true → shps m ys = true → PyData.eqvAll (pys xs) (pys ys) = eqDs xs ys
  | _, _, [], [], _, _ => by simp only [pys, PyData.eqvAll, eqDs]
  | _, _, [], _ :: _, _, _ => by simp only [pys, PyData.eqvAll, eqDs]
  | _, _, _ :: _, [], _, _ => by simp only [pys, PyData.eqvAll, eqDs]
  | n, m, x :: xs, y :: ys, hx, hy => by
    unfold shps at hx hy
    rw [Bool.and_eq_true] at hx hy
    simp only [pys, PyData.eqvAll, eqDs]
    rw [py_eqv n m x y hx.1 hy.1, pys_eqv n m xs ys hx.2 hy.2]
end
end
end Bw
set_option linter.all false
set_option autoImplicit false
set_option maxRecDepth 100000
/-! Comparisons, truth, items and slices by data. -/
namespace Bw
open PySem PySem.Spec PyProof.Rows L2
section
variable {X : Cx} {c : Cc} {T : List (Addr × Str)}
theorem fin_blD {z : Zw} {st : Store} {pins : List (Addr × Obj)} {σ : L2.St} {H : Hp} {s : Shared} {Q : VK} {b : Bool} (I : Inv X pins σ H s) (w : Wf c T z st H)
    (q : ∀ z' H' v, Le z z' → Wf c T z' st H' → Rp c z' v (.bl b) → Q v H') : EP X pins σ Q (.bool b) s := ⟨.bl b, H, I, rfl, q z H _ (Le.refl z) w (.bl b)⟩
/-- a list of the store, read -/
theorem rd_dp (hK : X.K = c.K) {z : Zw} {st : Store} {H : Hp} (w : Wf c T z st H) {n : Nat} {d : D} {v : V} (h : shp n (rd st d) = true) (r : Rp c z v d) : Dp X.K H v (py (rd st d)) := by
  unfold rd at h ⊢
  split at h
  · rename_i k
    split at h
    · rename_i ds hk
      cases r with
      | ref e =>
        obtain ⟨_, vs, h1, h2⟩ := w.obj k _ _ e hk
        cases n with
        | zero => simp [shp] at h
        | succ n =>
          unfold shp at h
          unfold py
          exact .lst (.inl (.inl h1)) (pys_dp hK w n ds _ h h2)
    · cases n <;> simp [shp] at h
  · exact py_dp hK w n d v h r
theorem o_eq (hK : X.K = c.K) (hu : X.A.units + 64 < cLine) : OpR X (compareOp .Eq) (r2 c T fun a b st => (eqv st a b).map D.bl) := by
  intro pins s σ H x y v u Q I rx ry h
  obtain ⟨z, st, dx, dy, d, w, h1, h2, e, q⟩ := h
  have e : (eqv st dx dy).map D.bl = some d := e
  obtain ⟨b, e, rfl⟩ := Option.map_eq_some_iff.mp e
  unfold eqv at e
  split at e
  · rename_i b' hf
    cases e
    unfold flat2 at hf
    split at hf <;> cases hf <;> first
      | (cases h1; cases h2; exact op_eq pins s σ H _ _ v u Q I rx ry ⟨rfl, by simpa using q z H _ (Le.refl z) w (.bl _)⟩)
      | skip
  · split at e
    · rename_i hs
      cases e
      rw [Bool.and_eq_true] at hs
      refine op_eqD hu pins s σ H _ _ v u Q I rx ry ⟨_, _, rd_dp hK w hs.1 h1, rd_dp hK w hs.2 h2, shaped_of hs.1 (by decide), shaped_of hs.2 (by decide), ?_⟩
      rw [py_eqv 60 60 _ _ hs.1 hs.2]
      exact q z H _ (Le.refl z) w (.bl _)
    · cases e
theorem o_ne (hK : X.K = c.K) (hu : X.A.units + 64 < cLine) : OpR X (compareOp .NotEq) (r2 c T fun a b st => (eqv st a b).map fun k => D.bl (!k)) := by
  intro pins s σ H x y v u Q I rx ry h
  obtain ⟨z, st, dx, dy, d, w, h1, h2, e, q⟩ := h
  obtain ⟨b, e1, e2⟩ := Option.map_eq_some_iff.mp (show (eqv st dx dy).map (fun k => D.bl (!k)) = some d from e)
  subst e2
  clear e
  rename (eqv st dx dy = some b) => e
  unfold eqv at e
  split at e
  · rename_i b' hf
    cases e
    unfold flat2 at hf
    split at hf <;> cases hf <;> first
      | (cases h1; cases h2; exact op_ne pins s σ H _ _ v u Q I rx ry ⟨rfl, by simpa using q z H _ (Le.refl z) w (.bl _)⟩)
      | skip
  · split at e
    · rename_i hs
      cases e
      rw [Bool.and_eq_true] at hs
      refine op_neD hu pins s σ H _ _ v u Q I rx ry ⟨_, _, rd_dp hK w hs.1 h1, rd_dp hK w hs.2 h2, shaped_of hs.1 (by decide), shaped_of hs.2 (by decide), ?_⟩
      rw [py_eqv 60 60 _ _ hs.1 hs.2]
      exact q z H _ (Le.refl z) w (.bl _)
    · cases e
/-! ### order -/
theorem strLt_eq : ∀ a b : List Nat, strLt a b = decide (a < b)
  | [], [] => by simp [strLt]
  | [], _ :: _ => by simp [strLt]
  | _ :: _, [] => by simp [strLt]
  | x :: a, y :: b => by
    unfold strLt
    rw [strLt_eq a b]
    by_cases h : x < y
    · rw [if_pos h, eq_comm, decide_eq_true_iff, List.cons_lt_cons_iff]
      exact .inl h
    · rw [if_neg h]
      by_cases h2 : y < x
      · rw [if_pos h2, eq_comm, decide_eq_false_iff_not, List.cons_lt_cons_iff]
        rintro (k | ⟨k, _⟩) <;> omega
      · rw [if_neg h2]
        have : x = y := by omega
        subst this
        rw [Bool.eq_iff_iff, decide_eq_true_iff, decide_eq_true_iff, List.cons_lt_cons_iff]
        constructor
        · intro k; exact .inr ⟨rfl, k⟩
        · rintro (k | ⟨_, k⟩)
          · omega
          · exact k
theorem o_lt : OpR X (compareOp .Lt) (r2 c T fun a b _ => (ltD a b).map D.bl) := by
  intro pins s σ H x y v u Q I rx ry h
  obtain ⟨z, st, dx, dy, d, w, h1, h2, e0, q⟩ := h
  obtain ⟨b, e, e2⟩ := Option.map_eq_some_iff.mp (show (ltD dx dy).map D.bl = some d from e0)
  subst e2
  clear e0
  unfold ltD at e
  split at e
  · cases e; cases h1; cases h2
    exact op_lt pins s σ H _ _ v u Q I rx ry ⟨_, _, rfl, rfl, q z H _ (Le.refl z) w (.bl _)⟩
  · cases e; cases h1; cases h2
    exact op_lt_str pins s σ H _ _ v u Q I rx ry ⟨_, _, rfl, rfl, by have := q z H _ (Le.refl z) w (.bl _); rw [strLt_eq] at this; simpa using this⟩
  · cases e
theorem o_le : OpR X (compareOp .LtE) (r2 c T fun a b _ => (leD a b).map D.bl) := by
  intro pins s σ H x y v u Q I rx ry h
  obtain ⟨z, st, dx, dy, d, w, h1, h2, e0, q⟩ := h
  obtain ⟨b, e, e2⟩ := Option.map_eq_some_iff.mp (show (leD dx dy).map D.bl = some d from e0)
  subst e2
  clear e0
  unfold leD at e
  split at e
  · cases e; cases h1; cases h2
    exact op_le pins s σ H _ _ v u Q I rx ry ⟨_, _, rfl, rfl, q z H _ (Le.refl z) w (.bl _)⟩
  · cases e; cases h1; cases h2
    exact op_le_str pins s σ H _ _ v u Q I rx ry ⟨_, _, rfl, rfl, by have := q z H _ (Le.refl z) w (.bl _); rw [strLt_eq] at this; exact this⟩
  · cases e
theorem o_gt : OpR X (compareOp .Gt) (r2 c T fun a b _ => (gtD a b).map D.bl) := by
  intro pins s σ H x y v u Q I rx ry h
  obtain ⟨z, st, dx, dy, d, w, h1, h2, e0, q⟩ := h
  obtain ⟨b, e, e2⟩ := Option.map_eq_some_iff.mp (show (gtD dx dy).map D.bl = some d from e0)
  subst e2
  clear e0
  unfold gtD at e
  split at e
  · cases e; cases h1; cases h2
    exact op_gt pins s σ H _ _ v u Q I rx ry ⟨_, _, rfl, rfl, q z H _ (Le.refl z) w (.bl _)⟩
  · cases e; cases h1; cases h2
    exact op_gt_str pins s σ H _ _ v u Q I rx ry ⟨_, _, rfl, rfl, by have := q z H _ (Le.refl z) w (.bl _); rw [strLt_eq] at this; exact this⟩
  · cases e
theorem o_ge : OpR X (compareOp .GtE) (r2 c T fun a b _ => (geD a b).map D.bl) := by
  intro pins s σ H x y v u Q I rx ry h
  obtain ⟨z, st, dx, dy, d, w, h1, h2, e0, q⟩ := h
  obtain ⟨b, e, e2⟩ := Option.map_eq_some_iff.mp (show (geD dx dy).map D.bl = some d from e0)
  subst e2
  clear e0
  unfold geD at e
  split at e
  · cases e; cases h1; cases h2
    exact op_ge pins s σ H _ _ v u Q I rx ry ⟨_, _, rfl, rfl, q z H _ (Le.refl z) w (.bl _)⟩
  · cases e; cases h1; cases h2
    exact op_ge_str pins s σ H _ _ v u Q I rx ry ⟨_, _, rfl, rfl, by have := q z H _ (Le.refl z) w (.bl _); rw [strLt_eq] at this; exact this⟩
  · cases e
/-! ### is -/
theorem o_isN : OpR X (compareOp .Is) (r2 c T fun a b _ => match b with | .non => (isNone a).map D.bl | _ => none) := by
  intro pins s σ H x y v u Q I rx ry h
  obtain ⟨z, st, dx, dy, d, w, h1, h2, e, q⟩ := h
  dsimp only at e
  split at e
  · obtain ⟨b, e1, e2⟩ := Option.map_eq_some_iff.mp e
    subst e2
    clear e
    cases h2
    refine op_isN pins s σ H _ _ v u Q I rx ry ⟨rfl, ?_⟩
    have := q z H _ (Le.refl z) w (.bl _)
    unfold isNone at e1
    split at e1 <;> cases e1 <;> cases h1 <;> simpa using this
  · cases e
theorem o_notN : OpR X (compareOp .IsNot) (r2 c T fun a b _ => match b with | .non => (isNone a).map fun k => D.bl (!k) | _ => none) := by
  intro pins s σ H x y v u Q I rx ry h
  obtain ⟨z, st, dx, dy, d, w, h1, h2, e, q⟩ := h
  dsimp only at e
  split at e
  · obtain ⟨b, e1, e2⟩ := Option.map_eq_some_iff.mp e
    subst e2
    clear e
    cases h2
    refine op_notN pins s σ H _ _ v u Q I rx ry ⟨rfl, ?_⟩
    have := q z H _ (Le.refl z) w (.bl _)
    unfold isNone at e1
    split at e1 <;> cases e1 <;> cases h1 <;> simpa using this
  · cases e
theorem isBool_rel {z : Zw} {b k : Bool} {a : D} {x : V} {v : Value} (e : isBool b a = some k) (h : Rp c z x a) (r : L2.RelV x v) : plainIs v (.bool b) = true ∧ (v == Value.bool b) = k := by
  unfold isBool at e
  split at e <;> cases e <;> cases h
  · cases (show v = Value.bool _ from r)
    rename_i k
    refine ⟨rfl, ?_⟩
    cases k <;> cases b <;> rfl
  · cases (show v = Value.none from r); simp [plainIs]
  · obtain ⟨t, rfl⟩ := (show ∃ t, v = Value.int _ t from r); simp [plainIs]
  · obtain ⟨t, rfl⟩ := (show ∃ t, v = Value.str _ t from r); simp [plainIs]
  · cases (show v = Value.ref _ from r); simp [plainIs]
  · cases (show v = Value.ref _ from r); simp [plainIs]
  · cases (show v = Value.ref _ from r); simp [plainIs]
theorem o_isB : OpR X (compareOp .Is) (r2 c T fun a b _ => match b with | .bl b => (isBool b a).map D.bl | _ => none) := by
  intro pins s σ H x y v u Q I rx ry h
  obtain ⟨z, st, dx, dy, d, w, h1, h2, e, q⟩ := h
  dsimp only at e
  split at e
  · obtain ⟨b, e1, e2⟩ := Option.map_eq_some_iff.mp e
    subst e2
    clear e
    cases h2
    cases (show u = Value.bool _ from ry)
    obtain ⟨k1, k2⟩ := isBool_rel e1 h1 rx
    exact wpAny_is_plain k1 (by rw [k2]; exact fin_blD I w q)
  · cases e
theorem o_notB : OpR X (compareOp .IsNot) (r2 c T fun a b _ => match b with | .bl b => (isBool b a).map fun k => D.bl (!k) | _ => none) := by
  intro pins s σ H x y v u Q I rx ry h
  obtain ⟨z, st, dx, dy, d, w, h1, h2, e, q⟩ := h
  dsimp only at e
  split at e
  · obtain ⟨b, e1, e2⟩ := Option.map_eq_some_iff.mp e
    subst e2
    clear e
    cases h2
    cases (show u = Value.bool _ from ry)
    obtain ⟨k1, k2⟩ := isBool_rel e1 h1 rx
    exact wpAny_isNot_plain k1 (by rw [k2]; exact fin_blD I w q)
  · cases e
/-! ### in -/
theorem any_eqv {n m : Nat} {x : D} (hx : shp n x = true) : ∀ ys : List D, shps m ys = true → (pys ys).any (fun y => PyData.eqv y (py x)) = ys.any fun y => eqD y x
  | [], _ => by simp [pys]
  | y :: ys, h => by
    unfold shps at h
    rw [Bool.and_eq_true] at h
    simp only [pys, List.any_cons]
    rw [any_eqv hx ys h.2, py_eqv m n _ _ h.1 hx]
theorem o_in (hK : X.K = c.K) (hu : X.A.units + 65 < cLine) : OpR X (compareOp .In) (r2 c T fun a b st => (inD st a b).map D.bl) := by
  intro pins s σ H x y v u Q I rx ry h
  obtain ⟨z, st, dx, dy, d, w, h1, h2, e0, q⟩ := h
  obtain ⟨b, e, e2⟩ := Option.map_eq_some_iff.mp (show (inD st dx dy).map D.bl = some d from e0)
  subst e2
  clear e0
  unfold inD at e
  split at e
  · cases e; cases h1; cases h2
    exact op_in_sign pins s σ H _ _ v u Q I rx ry ⟨_, _, rfl, rfl, by simpa using q z H _ (Le.refl z) w (.bl _)⟩
  · split at e
    · rename_i hs
      cases e
      rw [Bool.and_eq_true] at hs
      obtain ⟨bs, r1⟩ := Dp.reads I (py dx) x v (py_dp hK w 60 _ _ hs.1 h1) rx
      cases h2 with
      | tup s1 rs =>
        have d2 : Dp X.K H _ (PyData.tuple (pys _)) := .tup (by rw [hK]; exact w.tup s1) (pys_dp hK w 59 _ _ hs.2 rs)
        obtain ⟨as, r2⟩ := Dp.reads I _ _ u d2 ry
        obtain ⟨k1, k2⟩ := pys_shp 59 _ hs.2
        refine SeqAt.in_tuple_reads r2 r1 k1 (SeqAt.canLay_of_shaped (shaped_of hs.1 (by decide))) (room_in_shaped (shaped_of hs.1 (by decide)) hu) ?_
        rw [any_eqv hs.1 _ hs.2]
        exact fin_blD I w q
    · cases e
  · split at e
    · rename_i hs
      cases e
      rw [Bool.and_eq_true] at hs
      obtain ⟨bs, r1⟩ := Dp.reads I (py dx) x v (py_dp hK w 60 _ _ hs.1 h1) rx
      cases h2 with
      | lst s1 rs =>
        have d2 : Dp X.K H _ (PyData.list (pys _)) := .lst (.inl (.inl (w.sub _ _ s1))) (pys_dp hK w 59 _ _ hs.2 rs)
        obtain ⟨as, r2⟩ := Dp.reads I _ _ u d2 ry
        obtain ⟨k1, k2⟩ := pys_shp 59 _ hs.2
        refine SeqAt.in_list_reads r2 r1 k1 (SeqAt.canLay_of_shaped (shaped_of hs.1 (by decide))) (room_in_shaped (shaped_of hs.1 (by decide)) hu) ?_
        rw [any_eqv hs.1 _ hs.2]
        exact fin_blD I w q
    · cases e
  · cases e
theorem o_notin (hK : X.K = c.K) (hu : X.A.units + 65 < cLine) : OpR X (compareOp .NotIn) (r2 c T fun a b st => (inD st a b).map fun k => D.bl (!k)) := by
  intro pins s σ H x y v u Q I rx ry h
  obtain ⟨z, st, dx, dy, d, w, h1, h2, e0, q⟩ := h
  obtain ⟨b, e, e2⟩ := Option.map_eq_some_iff.mp (show (inD st dx dy).map (fun k => D.bl (!k)) = some d from e0)
  subst e2
  clear e0
  unfold inD at e
  split at e
  · cases e; cases h1; cases h2
    exact op_notIn_sign pins s σ H _ _ v u Q I rx ry ⟨_, _, rfl, rfl, by simpa using q z H _ (Le.refl z) w (.bl _)⟩
  · split at e
    · rename_i hs
      cases e
      rw [Bool.and_eq_true] at hs
      obtain ⟨bs, r1⟩ := Dp.reads I (py dx) x v (py_dp hK w 60 _ _ hs.1 h1) rx
      cases h2 with
      | tup s1 rs =>
        have d2 : Dp X.K H _ (PyData.tuple (pys _)) := .tup (by rw [hK]; exact w.tup s1) (pys_dp hK w 59 _ _ hs.2 rs)
        obtain ⟨as, r2⟩ := Dp.reads I _ _ u d2 ry
        obtain ⟨k1, k2⟩ := pys_shp 59 _ hs.2
        refine SeqAt.notIn_tuple_reads r2 r1 k1 (SeqAt.canLay_of_shaped (shaped_of hs.1 (by decide))) (room_in_shaped (shaped_of hs.1 (by decide)) hu) ?_
        rw [any_eqv hs.1 _ hs.2]
        exact fin_blD I w q
    · cases e
  · split at e
    · rename_i hs
      cases e
      rw [Bool.and_eq_true] at hs
      obtain ⟨bs, r1⟩ := Dp.reads I (py dx) x v (py_dp hK w 60 _ _ hs.1 h1) rx
      cases h2 with
      | lst s1 rs =>
        have d2 : Dp X.K H _ (PyData.list (pys _)) := .lst (.inl (.inl (w.sub _ _ s1))) (pys_dp hK w 59 _ _ hs.2 rs)
        obtain ⟨as, r2⟩ := Dp.reads I _ _ u d2 ry
        obtain ⟨k1, k2⟩ := pys_shp 59 _ hs.2
        refine SeqAt.notIn_list_reads r2 r1 k1 (SeqAt.canLay_of_shaped (shaped_of hs.1 (by decide))) (room_in_shaped (shaped_of hs.1 (by decide)) hu) ?_
        rw [any_eqv hs.1 _ hs.2]
        exact fin_blD I w q
    · cases e
  · cases e
/-! ### items, slices -/
theorem atD_atI {z : Zw} {vs : List V} {ds : List D} {k : Int} {d : D} (r : Rps c z vs ds) (e : atD ds k = some d) : ∃ v, atI vs k = some v ∧ Rp c z v d := by
  unfold atD at e
  obtain ⟨j, e1, e2⟩ := Option.bind_eq_some_iff.mp e
  obtain ⟨v, h1, h2⟩ := r.get e2
  refine ⟨v, ?_, h2⟩
  unfold atI
  rw [r.len]
  exact Option.bind_eq_some_iff.mpr ⟨j, e1, h1⟩
theorem ix_D (hK : X.K = c.K) : IxR X (r2 c T idxD) := by
  obtain ⟨K, mg⟩ := c
  cases hK
  intro a b pins s σ H x y v u Q I rx ry h hab
  obtain ⟨z, st, dx, dy, d, w, h1, h2, e, q⟩ := h
  unfold idxD at e
  split at e
  · cases h2
    cases h1 with
    | tup s1 rs =>
      obtain ⟨v', k1, k2⟩ := atD_atI rs e
      exact ix_seq a b pins s σ H _ _ v u Q I rx ry (.inr (.inl ⟨_, _, _, _, rfl, rfl, w.tup s1, k1, q z H _ (Le.refl z) w k2⟩)) hab
  · cases h2
    cases h1 with
    | lst s1 rs =>
      obtain ⟨v', k1, k2⟩ := atD_atI rs e
      exact ix_seq a b pins s σ H _ _ v u Q I rx ry (.inl ⟨_, _, _, _, rfl, rfl, .inl (.inl (w.sub _ _ s1)), k1, q z H _ (Le.refl z) w k2⟩) hab
  · split at e
    · rename_i hs
      obtain ⟨n, k1, rfl⟩ := Option.map_eq_some_iff.mp e
      cases h2; cases h1
      refine ix_seq a b pins s σ H _ _ v u Q I rx ry (.inr (.inr ⟨_, _, n, rfl, rfl, by rw [strOf_len]; exact sz_of hs, ?_, q z H _ (Le.refl z) w (.str [n])⟩)) hab
      show atI (List.toArray _).toList _ = some n
      rw [List.toList_toArray]
      exact k1
    · cases e
  · split at e
    · rename_i ds hk
      cases h2
      cases h1 with
      | ref e1 =>
        obtain ⟨_, vs, k1, k2⟩ := w.obj _ _ _ e1 hk
        obtain ⟨v', k3, k4⟩ := atD_atI k2 e
        exact ix_seq a b pins s σ H _ _ v u Q I rx ry (.inl ⟨_, _, _, _, rfl, rfl, .inl (.inl k1), k3, q z H _ (Le.refl z) w k4⟩) hab
    · cases e
  · cases e
end
end Bw
set_option linter.all false
set_option autoImplicit false
set_option maxRecDepth 100000
/-! Expressions by data. -/
namespace Bw
open PySem PySem.Spec PyProof.Rows L2
/-- a frame: what is called by its closure slot, the ghost at its entry -/
structure Fc extends Cc where
  ca : Option Addr
  xa : Option Addr
  z0 : Zw
/-- a name's value: data, or the frame's closure -/
inductive Rv (c : Fc) (z : Zw) : V → D → Prop
  | d {v : V} {d : D} : Rp c.toCc z v d → Rv c z v d
  | clo {a : Addr} : c.ca = some a → Rv c z (.ref a) (.clo 0)
  | exc {a : Addr} : c.xa = some a → Rv c z (.ref a) (.clo 1)
theorem Rv.mono {c : Fc} {z z' : Zw} (h : Le z z') {v : V} {d : D} : Rv c z v d → Rv c z' v d
  | .d r => .d (r.mono h)
  | .clo e => .clo e
  | .exc e => .exc e
/-- the names' values -/
structure Rσ (c : Fc) (z : Zw) (σ : L2.St) (ρ : Env) : Prop where
  len : σ.length = ρ.length
  at_ : ∀ (i : Nat) (d : D), ρ[i]? = some (some d) → ∃ v, σ[i]? = some (some v) ∧ Rv c z v d
  le : Lg c.z0 z
theorem Rσ.mono {c : Fc} {z z' : Zw} {σ : L2.St} {ρ : Env} (r : Rσ c z σ ρ) (h : Le z z') : Rσ c z' σ ρ :=
  ⟨r.len, fun i d e => let ⟨v, a, b⟩ := r.at_ i d e; ⟨v, a, b.mono h⟩, r.le.trans h.lg⟩
theorem Rσ.set {c : Fc} {z : Zw} {σ : L2.St} {ρ : Env} (r : Rσ c z σ ρ) {v : V} {d : D} (h : Rv c z v d) (i : Nat) : Rσ c z (σ.set i (some v)) (ρ.set i (some d)) := by
  refine ⟨by rw [List.length_set, List.length_set]; exact r.len, fun j e he => ?_, r.le⟩
  by_cases hj : i = j
  · subst hj
    by_cases hl : i < ρ.length
    · rw [List.getElem?_set_self hl] at he
      cases he
      exact ⟨v, by rw [List.getElem?_set_self (by rw [r.len]; exact hl)], h⟩
    · rw [List.getElem?_eq_none (by rw [List.length_set]; omega)] at he
      cases he
  · rw [List.getElem?_set_ne hj] at he
    obtain ⟨w, a, b⟩ := r.at_ j e he
    exact ⟨w, by rw [List.getElem?_set_ne hj]; exact a, b⟩
abbrev ME := Env → Store → Res D
abbrev MA := Env → Store → Res (List D)
abbrev MT := Env → Store → Res Bool
abbrev MS := Env → Store → Out
/-- what follows a result -/
def Pst {α β : Type} (R : Zw → β → α → Prop) (c : Fc) (T : List (Addr × Str)) (W : WX) (z : Zw) (σ : L2.St) (r : Res α) (Q : β → Hp → Prop) : Prop := match r with
  | .ok d st' => ∀ z' H' v, Le z z' → Wf c.toCc T z' st' H' → R z' v d → Q v H'
  | .er e st' => ∀ z' H' cls dd, Le z z' → Wf c.toCc T z' st' H' → ErOk c.toCc z' e cls dd → W cls dd σ H'
  | .no => False
section
variable {α β γ δ : Type} {R : Zw → β → α → Prop} {R' : Zw → δ → γ → Prop} {c : Fc} {T : List (Addr × Str)} {W : WX} {z z1 : Zw} {σ : L2.St} {Q Q' : β → Hp → Prop}
theorem Pst.le {r : Res α} (h : Pst R c T W z σ r Q) (l : Le z z1) : Pst R c T W z1 σ r Q := by
  cases r with
  | ok d st' => exact fun z' H' v l' => h z' H' v (l.trans l')
  | er e st' => exact fun z' H' cls dd l' => h z' H' cls dd (l.trans l')
  | no => exact h
theorem Pst.imp {r : Res α} (h : Pst R c T W z σ r Q) (k : ∀ v H, Q v H → Q' v H) : Pst R c T W z σ r Q' := by
  cases r with
  | ok d st' => exact fun z' H' v l' w r => k _ _ (h z' H' v l' w r)
  | er e st' => exact h
  | no => exact h
theorem Pst.bnd {r : Res γ} {f : γ → Store → Res α} (h : Pst R c T W z σ (r.bind f) Q) :
    Pst R' c T W z σ r fun x H1 => ∃ z1 st1 d, Le z z1 ∧ Wf c.toCc T z1 st1 H1 ∧ R' z1 x d ∧ Pst R c T W z1 σ (f d st1) Q := by
  cases r with
  | ok d st' => exact fun z' H' v l w r => ⟨z', st', d, l, w, r, Pst.le h l⟩
  | er e st' => exact h
  | no => exact h
end
def LE (c : Fc) (T : List (Addr × Str)) (W : WX) (m : ME) : TE := fun σ H Q => ∃ z ρ st, Wf c.toCc T z st H ∧ Rσ c z σ ρ ∧ Pst (Rp c.toCc) c T W z σ (m ρ st) Q
def LA (c : Fc) (T : List (Addr × Str)) (W : WX) (m : MA) : TA := fun σ H Q => ∃ z ρ st, Wf c.toCc T z st H ∧ Rσ c z σ ρ ∧ Pst (Rps c.toCc) c T W z σ (m ρ st) Q
abbrev RB : Zw → Bool → Bool → Prop := fun _ b b' => b = b'
def LT (c : Fc) (T : List (Addr × Str)) (W : WX) (m : MT) : TT := fun σ H Q => ∃ z ρ st, Wf c.toCc T z st H ∧ Rσ c z σ ρ ∧ Pst RB c T W z σ (m ρ st) Q

/-! ### what expressions give -/
def ofO {α : Type} (o : Option α) (st : Store) : Res α := match o with
  | some d => .ok d st
  | none => .no
def mVar (i : Nat) : ME := fun ρ st => match ρ[i]? with
  | some (some d) => match d with
    | .clo _ => .no
    | d => .ok d st
  | _ => .no
def mLit (d : D) : ME := fun _ st => .ok d st
def mOp (f : D → D → Store → Option D) (a b : ME) : ME := fun ρ st => (a ρ st).bind fun x st => (b ρ st).bind fun y st => ofO (f x y st) st
def mUn (f : D → Store → Option D) (a : ME) : ME := fun ρ st => (a ρ st).bind fun x st => ofO (f x st) st
def mChain (f g : D → D → Store → Option D) (a b d : ME) : ME := fun ρ st => (a ρ st).bind fun x st => (b ρ st).bind fun y st => match f x y st with
  | some (.bl true) => (d ρ st).bind fun w st => ofO (g y w st) st
  | some (.bl false) => .ok (.bl false) st
  | _ => .no
def mAnd (a b : ME) : ME := fun ρ st => (a ρ st).bind fun x st => match truD st x with
  | some true => b ρ st
  | some false => .ok x st
  | none => .no
def mOr (a b : ME) : ME := fun ρ st => (a ρ st).bind fun x st => match truD st x with
  | some true => .ok x st
  | some false => b ρ st
  | none => .no
def mNot (a : ME) : ME := fun ρ st => (a ρ st).bind fun x st => match truD st x with
  | some k => .ok (.bl (!k)) st
  | none => .no
def mIf (t : MT) (a b : ME) : ME := fun ρ st => (t ρ st).bind fun k st => if k then a ρ st else b ρ st
def tVal (a : ME) : MT := fun ρ st => (a ρ st).bind fun x st => ofO (truD st x) st
def tAnd (a b : MT) : MT := fun ρ st => (a ρ st).bind fun k st => if k then b ρ st else .ok false st
def tOr (a b : MT) : MT := fun ρ st => (a ρ st).bind fun k st => if k then .ok true st else b ρ st
def tNot (a : MT) : MT := fun ρ st => (a ρ st).bind fun k st => .ok (!k) st
/-- a comparison as a test -/
def tCmp (a : ME) : MT := fun ρ st => (a ρ st).bind fun x st => match x with
  | .bl k => .ok k st
  | _ => .no
def aNil : MA := fun _ st => .ok [] st
def aCons (a : ME) (r : MA) : MA := fun ρ st => (a ρ st).bind fun x st => (r ρ st).bind fun xs st => .ok (x :: xs) st
def mTup (a : MA) : ME := fun ρ st => (a ρ st).bind fun xs st => if Sz xs.length then .ok (.tup xs) st else .no
def mLst (a : MA) : ME := fun ρ st => (a ρ st).bind fun xs st => if Sz xs.length then .ok (.lst xs) st else .no
def mNew (a : MA) : ME := fun ρ st => (a ρ st).bind fun xs st => if Sz xs.length then .ok (.ref st.length) (st ++ [.lst xs]) else .no
def mSli (a : ME) (lo hi : Env → Store → Res (Option Int)) : ME := fun ρ st => (a ρ st).bind fun x st => (lo ρ st).bind fun l st => (hi ρ st).bind fun h st => ofO (sliD x l h st) st
def oNone : Env → Store → Res (Option Int) := fun _ st => .ok none st
def oSome (a : ME) : Env → Store → Res (Option Int) := fun ρ st => (a ρ st).bind fun x st => match x with
  | .int i => .ok (some i) st
  | _ => .no
/-- a built-in function of values -/
def mBlt (f : List D → Store → Option D) (a : MA) : ME := fun ρ st => (a ρ st).bind fun xs st => ofO (f xs st) st
/-- a built-in method -/
def mMth (f : D → List D → Store → Res D) (a : ME) (r : MA) : ME := fun ρ st => (a ρ st).bind fun x st => (r ρ st).bind fun xs st => f x xs st

section
variable {X : Cx} {c : Fc} {T : List (Addr × Str)} {W : WX} {a b d : PySem.Expr} {ma mb md : ME} {pos : Pos}
theorem Pst.ofO {α β : Type} {R : Zw → β → α → Prop} {z : Zw} {σ : L2.St} {o : Option α} {st : Store} {Q : β → Hp → Prop} (h : Pst R c T W z σ (ofO o st) Q) : ∃ d, o = some d ∧ ∀ z' H' v, Le z z' → Wf c.toCc T z' st H' → R z' v d → Q v H' := by
  cases o with
  | none => exact h.elim
  | some d => exact ⟨d, rfl, h⟩
theorem e_var (i : Nat) {x : Str} (hN : X.N[i]? = some x := by rfl) (hv : Vis X.env.scope x := by first | exact Or.inl rfl | exact Or.inr (Or.inl rfl) | exact Or.inr (Or.inr rfl)) (hd : (x == ("__debug__" : Str)) = false := by decide)
    (hcd : (x == ("__classdict__" : Str)) = false := by decide) : PE X (.Name x pos) (LE c T W (mVar i)) := by
  refine imp_PE (pe_var hN hv hd hcd) fun σ H Q ⟨z, ρ, st, w, r, q⟩ => ?_
  unfold mVar at q
  split at q
  · rename_i d he
    obtain ⟨v, h1, h2⟩ := r.at_ i d he
    cases h2 with
    | clo _ => exact q.elim
    | exc _ => exact q.elim
    | d h2 =>
      split at q
      · exact q.elim
      · exact ⟨v, h1, q z H v (Le.refl z) w h2⟩
  · exact q.elim
theorem e_int {i : Int} {j : Nat} : PE X (.Constant (.int i) j pos) (LE c T W (mLit (.int i))) := imp_PE pe_int fun σ H Q ⟨z, ρ, st, w, r, q⟩ => q z H _ (Le.refl z) w (.int i)
theorem e_bl {i : Bool} {j : Nat} : PE X (.Constant (.bool i) j pos) (LE c T W (mLit (.bl i))) := imp_PE pe_bl fun σ H Q ⟨z, ρ, st, w, r, q⟩ => q z H _ (Le.refl z) w (.bl i)
theorem e_non {j : Nat} : PE X (.Constant .none j pos) (LE c T W (mLit .non)) := imp_PE pe_non fun σ H Q ⟨z, ρ, st, w, r, q⟩ => q z H _ (Le.refl z) w .non
theorem e_str (s : List Nat) {x : Str} {j : Nat} (hx : x = strOf s := by first | rfl | decide) : PE X (.Constant (.str x) j pos) (LE c T W (mLit (.str s))) := imp_PE pe_str fun σ H Q ⟨z, ρ, st, w, r, q⟩ => by
  rw [hx]
  exact q z H _ (Le.refl z) w (.str s)
/-- a constant of the module, a def, a class -/
theorem e_glob {x : Str} {v : V} {u : Value} (dd : D) (hr : ∀ z, Rp c.toCc z v dd) (hm : X.mg x = some u) (r : RelV v u) (hg : Gl X x := by rfl) (hd : (x == ("__debug__" : Str)) = false := by decide) : PE X (.Name x pos) (LE c T W (mLit dd)) :=
  imp_PE (pe_glob hg hm r hd) fun σ H Q ⟨z, ρ, st, w, _, q⟩ => q z H _ (Le.refl z) w (hr z)
theorem e_op {op : Operator} {f : D → D → Store → Option D} (ho : OpR X (binaryOp op) (r2 c.toCc T f)) (ha : PE X a (LE c T W ma)) (hb : PE X b (LE c T W mb)) : PE X (.BinOp a op b pos) (LE c T W (mOp f ma mb)) :=
  imp_PE (pe_op ho ha hb) fun σ H Q ⟨z, ρ, st, w, r, q⟩ => ⟨z, ρ, st, w, r, (Pst.bnd q).imp fun x H1 ⟨z1, st1, dx, l1, w1, rx, q1⟩ => ⟨z1, ρ, st1, w1, r.mono l1, (Pst.bnd q1).imp fun y H2 ⟨z2, st2, dy, l2, w2, ry, q2⟩ =>
    let ⟨dd, e, q3⟩ := Pst.ofO q2
    ⟨z2, st2, dx, dy, dd, w2, rx.mono l2, ry, e, q3⟩⟩⟩
theorem e_cmp {op : CmpOp} {f : D → D → Store → Option D} (ho : OpR X (compareOp op) (r2 c.toCc T f)) (ha : PE X a (LE c T W ma)) (hb : PE X b (LE c T W mb)) (hm : behindInMarks op b = false := by first | exact nomark _ | rfl) : PE X (.Compare a [op] [b] pos) (LE c T W (mOp f ma mb)) :=
  imp_PE (pe_cmpR ho ha hb hm) fun σ H Q ⟨z, ρ, st, w, r, q⟩ => ⟨z, ρ, st, w, r, (Pst.bnd q).imp fun x H1 ⟨z1, st1, dx, l1, w1, rx, q1⟩ => ⟨z1, ρ, st1, w1, r.mono l1, (Pst.bnd q1).imp fun y H2 ⟨z2, st2, dy, l2, w2, ry, q2⟩ =>
    let ⟨dd, e, q3⟩ := Pst.ofO q2
    ⟨z2, st2, dx, dy, dd, w2, rx.mono l2, ry, e, q3⟩⟩⟩
theorem t_cmp {op : CmpOp} {f : D → D → Store → Option D} (ho : OpR X (compareOp op) (r2 c.toCc T f)) (ha : PE X a (LE c T W ma)) (hb : PE X b (LE c T W mb)) (hm : behindInMarks op b = false := by first | exact nomark _ | rfl) : PT X (.Compare a [op] [b] pos) (LT c T W (tCmp (mOp f ma mb))) :=
  imp_PT (pt_cmpR ho ha hb hm) fun σ H Q ⟨z, ρ, st, w, r, q⟩ => by
    have q' := q
    simp only [tCmp, mOp, bind_assoc] at q'
    refine ⟨z, ρ, st, w, r, (Pst.bnd q').imp fun x H1 ⟨z1, st1, dx, l1, w1, rx, q1⟩ => ⟨z1, ρ, st1, w1, r.mono l1, (Pst.bnd q1).imp fun y H2 ⟨z2, st2, dy, l2, w2, ry, q2⟩ => ?_⟩⟩
    cases hf : f dx dy st2 with
    | none => rw [hf] at q2; exact q2.elim
    | some dd =>
      rw [hf] at q2
      refine ⟨z2, st2, dx, dy, dd, w2, rx.mono l2, ry, hf, fun z3 H3 v l3 w3 rv => ?_⟩
      simp only [Bw.ofO, bind_ok] at q2
      split at q2
      · rename_i k
        cases rv
        exact ⟨k, rfl, q2 z3 H3 k l3 w3 rfl⟩
      · exact q2.elim
end
end Bw
set_option linter.all false
set_option autoImplicit false
set_option maxRecDepth 100000
/-! More expressions by data: chains, tests, displays, slices, built-ins. -/
namespace Bw
open PySem PySem.Spec PyProof.Rows L2
section
variable {X : Cx} {c : Fc} {T : List (Addr × Str)} {W : WX} {a b d : PySem.Expr} {ma mb md : ME} {pos : Pos} {rest : List PySem.Expr}
abbrev PD (X : Cx) (c : Fc) (T : List (Addr × Str)) (W : WX) (e : PySem.Expr) (m : ME) : Prop := PE X e (LE c T W m)
theorem chain_ok {f g : D → D → Store → Option D} {σ : L2.St} {H : Hp} {Q : VK} (q : LE c T W (mChain f g ma mb md) σ H Q) : tChain (r2 c.toCc T f) (r2 c.toCc T g) (LE c T W ma) (LE c T W mb) (LE c T W md) σ H Q := by
  obtain ⟨z, ρ, st, w, r, q⟩ := q
  refine ⟨z, ρ, st, w, r, (Pst.bnd q).imp fun x H1 ⟨z1, st1, dx, l1, w1, rx, q1⟩ => ⟨z1, ρ, st1, w1, r.mono l1, (Pst.bnd q1).imp fun y H2 ⟨z2, st2, dy, l2, w2, ry, q2⟩ => ?_⟩⟩
  try dsimp only at q2
  split at q2
  · rename_i hf
    refine ⟨z2, st2, dx, dy, _, w2, rx.mono l2, ry, hf, fun z3 H3 v l3 w3 rv => ?_⟩
    cases rv
    refine ⟨true, rfl, iteT ?_⟩
    exact ⟨z3, ρ, st2, w3, ((r.mono l1).mono l2).mono l3, (Pst.bnd (q2.le l3)).imp fun u H4 ⟨z4, st4, du, l4, w4, ru, q4⟩ =>
      let ⟨dd, e, q5⟩ := Pst.ofO q4
      ⟨z4, st4, dy, du, dd, w4, (ry.mono l3).mono l4, ru, e, q5⟩⟩
  · rename_i hf
    refine ⟨z2, st2, dx, dy, _, w2, rx.mono l2, ry, hf, fun z3 H3 v l3 w3 rv => ?_⟩
    cases rv
    exact ⟨false, rfl, iteF (q2 z3 H3 _ l3 w3 (.bl false))⟩
  · exact q2.elim
theorem e_chain {op op' : CmpOp} {f g : D → D → Store → Option D} (ho : OpR X (compareOp op) (r2 c.toCc T f)) (ho' : OpR X (compareOp op') (r2 c.toCc T g)) (ha : PD X c T W a ma) (hb : PD X c T W b mb) (hd : PD X c T W d md)
    (hm : lastMarks [op, op'] [b, d] = false := by with_unfolding_all rfl) : PD X c T W (.Compare a [op, op'] [b, d] pos) (mChain f g ma mb md) :=
  imp_PE (pe_chain ho ho' ha hb hd hm) fun σ H Q q => chain_ok q
theorem t_chain {op op' : CmpOp} {f g : D → D → Store → Option D} (ho : OpR X (compareOp op) (r2 c.toCc T f)) (ho' : OpR X (compareOp op') (r2 c.toCc T g)) (ha : PD X c T W a ma) (hb : PD X c T W b mb) (hd : PD X c T W d md)
    (hm : lastMarks [op, op'] [b, d] = false := by with_unfolding_all rfl) : PT X (.Compare a [op, op'] [b, d] pos) (LT c T W (tCmp (mChain f g ma mb md))) :=
  imp_PT (pt_chain ho ho' ha hb hd hm) fun σ H Q ⟨z, ρ, st, w, r, q⟩ => chain_ok ⟨z, ρ, st, w, r, (Pst.bnd q).imp fun x H1 ⟨z1, st1, dx, l1, w1, rx, q1⟩ => by
    try dsimp only at q1
    split at q1
    · rename_i k
      cases rx
      exact ⟨k, rfl, q1 z1 H1 k (Le.refl z1) w1 rfl⟩
    · exact q1.elim⟩
/-! ### truth -/
theorem tru_D (hK : X.K = c.K) {z : Zw} {st : Store} {H : Hp} (w : Wf c.toCc T z st H) {v : V} {x : D} {k : Bool} (r : Rp c.toCc z v x) (e : truD st x = some k) : TruV X.K v H k := by
  unfold truD at e
  split at e
  · cases e; cases r; rfl
  · cases e; cases r; rfl
  · cases e; cases r; rfl
  · split at e
    · rename_i hs
      cases e; cases r
      refine ⟨by rw [strOf_len]; exact sz_of hs, ?_⟩
      rw [strOf_len]
      rename_i s
      cases s with
      | nil => rfl
      | cons _ _ => simp <;> omega
    · cases e
  · cases e
    cases r with
    | tup s1 rs =>
      refine .inr (.inl ⟨_, by rw [hK]; exact w.tup s1, ?_⟩)
      cases rs <;> rfl
  · cases e
    cases r with
    | lst s1 rs =>
      refine .inl ⟨_, .inl (.inl (w.sub _ _ s1)), ?_⟩
      cases rs <;> rfl
  · split at e
    · rename_i ds hk
      cases e
      cases r with
      | ref e1 =>
        obtain ⟨_, vs, h1, h2⟩ := w.obj _ _ _ e1 hk
        refine .inl ⟨vs, .inl (.inl h1), ?_⟩
        cases h2 <;> rfl
    · cases e
  · cases e
theorem e_and (hK : X.K = c.K) (ha : PD X c T W a ma) (hb : PD X c T W (.BoolOp .And (b :: rest) pos) mb) : PD X c T W (.BoolOp .And (a :: b :: rest) pos) (mAnd ma mb) :=
  imp_PE (pe_andT ha hb) fun σ H Q ⟨z, ρ, st, w, r, q⟩ => ⟨z, ρ, st, w, r, (Pst.bnd q).imp fun x H1 ⟨z1, st1, dx, l1, w1, rx, q1⟩ => by
    try dsimp only at q1
    split at q1
    · rename_i hk
      exact ⟨true, tru_D hK w1 rx hk, iteT ⟨z1, ρ, st1, w1, r.mono l1, q1⟩⟩
    · rename_i hk
      exact ⟨false, tru_D hK w1 rx hk, iteF (q1 z1 H1 x (Le.refl z1) w1 rx)⟩
    · exact q1.elim⟩
theorem e_or (hK : X.K = c.K) (ha : PD X c T W a ma) (hb : PD X c T W (.BoolOp .Or (b :: rest) pos) mb) : PD X c T W (.BoolOp .Or (a :: b :: rest) pos) (mOr ma mb) :=
  imp_PE (pe_orT ha hb) fun σ H Q ⟨z, ρ, st, w, r, q⟩ => ⟨z, ρ, st, w, r, (Pst.bnd q).imp fun x H1 ⟨z1, st1, dx, l1, w1, rx, q1⟩ => by
    try dsimp only at q1
    split at q1
    · rename_i hk
      exact ⟨true, tru_D hK w1 rx hk, iteT (q1 z1 H1 x (Le.refl z1) w1 rx)⟩
    · rename_i hk
      exact ⟨false, tru_D hK w1 rx hk, iteF ⟨z1, ρ, st1, w1, r.mono l1, q1⟩⟩
    · exact q1.elim⟩
theorem e_one {op : BoolOp} (ha : PD X c T W a ma) : PD X c T W (.BoolOp op [a] pos) ma := pe_one ha
theorem e_not (hK : X.K = c.K) (ha : PD X c T W a ma) : PD X c T W (.UnaryOp .Not a pos) (mNot ma) :=
  imp_PE (pe_notT ha) fun σ H Q ⟨z, ρ, st, w, r, q⟩ => ⟨z, ρ, st, w, r, (Pst.bnd q).imp fun x H1 ⟨z1, st1, dx, l1, w1, rx, q1⟩ => by
    try dsimp only at q1
    split at q1
    · rename_i k hk
      exact ⟨k, tru_D hK w1 rx hk, q1 z1 H1 _ (Le.refl z1) w1 (.bl _)⟩
    · exact q1.elim⟩
theorem t_val (hK : X.K = c.K) (ha : PD X c T W a ma) (he : ∀ whole, isTrue a X.env whole = (do let v ← whole; standAt a.pos; holding [v] (truthy v)) := by intro _; rfl) : PT X a (LT c T W (tVal ma)) :=
  imp_PT (pt_truth ha he) fun σ H Q ⟨z, ρ, st, w, r, q⟩ => ⟨z, ρ, st, w, r, (Pst.bnd q).imp fun x H1 ⟨z1, st1, dx, l1, w1, rx, q1⟩ =>
    let ⟨k, e, q2⟩ := Pst.ofO q1
    ⟨k, tru_D hK w1 rx e, q2 z1 H1 k (Le.refl z1) w1 rfl⟩⟩
theorem t_and {ta tb : MT} (ha : PT X a (LT c T W ta)) (hb : PW X (.BoolOp .And (b :: rest) pos) (LT c T W tb)) : PW X (.BoolOp .And (a :: b :: rest) pos) (LT c T W (tAnd ta tb)) :=
  imp_PW (pw_and ha hb) fun σ H Q ⟨z, ρ, st, w, r, q⟩ => ⟨z, ρ, st, w, r, (Pst.bnd q).imp fun x H1 ⟨z1, st1, k, l1, w1, rx, q1⟩ => by
    cases (show x = k from rx)
    cases x with
    | true => exact iteT ⟨z1, ρ, st1, w1, r.mono l1, q1⟩
    | false => exact iteF (q1 z1 H1 false (Le.refl z1) w1 rfl)⟩
theorem t_or {ta tb : MT} (ha : PT X a (LT c T W ta)) (hb : PW X (.BoolOp .Or (b :: rest) pos) (LT c T W tb)) : PW X (.BoolOp .Or (a :: b :: rest) pos) (LT c T W (tOr ta tb)) :=
  imp_PW (pw_or ha hb) fun σ H Q ⟨z, ρ, st, w, r, q⟩ => ⟨z, ρ, st, w, r, (Pst.bnd q).imp fun x H1 ⟨z1, st1, k, l1, w1, rx, q1⟩ => by
    cases (show x = k from rx)
    cases x with
    | true => exact iteT (q1 z1 H1 true (Le.refl z1) w1 rfl)
    | false => exact iteF ⟨z1, ρ, st1, w1, r.mono l1, q1⟩⟩
theorem t_and1 {ta : MT} (ha : PT X a (LT c T W ta)) : PW X (.BoolOp .And [a] pos) (LT c T W ta) := pw_and1 ha
theorem t_or1 {ta : MT} (ha : PT X a (LT c T W ta)) : PW X (.BoolOp .Or [a] pos) (LT c T W ta) := pw_or1 ha
theorem t_not {ta : MT} (ha : PT X a (LT c T W ta)) : PT X (.UnaryOp .Not a pos) (LT c T W (tNot ta)) :=
  imp_PT (pt_not ha) fun σ H Q ⟨z, ρ, st, w, r, q⟩ => ⟨z, ρ, st, w, r, (Pst.bnd q).imp fun x H1 ⟨z1, st1, k, l1, w1, rx, q1⟩ => by
    cases (show x = k from rx)
    exact q1 z1 H1 _ (Le.refl z1) w1 rfl⟩
theorem e_if {t : PySem.Expr} {mt : MT} (ht : PT X t (LT c T W mt)) (ha : PD X c T W a ma) (hb : PD X c T W b mb) : PD X c T W (.IfExp t a b pos) (mIf mt ma mb) :=
  imp_PE (pe_ifExp ht ha hb) fun σ H Q ⟨z, ρ, st, w, r, q⟩ => ⟨z, ρ, st, w, r, (Pst.bnd q).imp fun x H1 ⟨z1, st1, k, l1, w1, rx, q1⟩ => by
    cases (show x = k from rx)
    cases x with
    | true => exact iteT ⟨z1, ρ, st1, w1, r.mono l1, q1⟩
    | false => exact iteF ⟨z1, ρ, st1, w1, r.mono l1, q1⟩⟩
theorem e_neg (ha : PD X c T W a ma) : PD X c T W (.UnaryOp .USub a pos) (mUn (fun x _ => negD x) ma) :=
  imp_PE (pe_un un_neg ha) fun σ H Q ⟨z, ρ, st, w, r, q⟩ => ⟨z, ρ, st, w, r, (Pst.bnd q).imp fun x H1 ⟨z1, st1, dx, l1, w1, rx, q1⟩ => by
    obtain ⟨dd, e, q2⟩ := Pst.ofO q1
    have e : negD dx = some dd := e
    unfold negD at e
    split at e
    · cases e; cases rx
      exact ⟨_, rfl, q2 z1 H1 _ (Le.refl z1) w1 (.int _)⟩
    · cases e⟩
/-! ### arguments, displays -/
theorem a_nil : PA X [] (LA c T W aNil) := imp_PA pa_nil fun σ H Q ⟨z, ρ, st, w, r, q⟩ => q z H [] (Le.refl z) w .nil
theorem a_cons {e : PySem.Expr} {es : List PySem.Expr} {mr : MA} (he : PD X c T W e ma) (hr : PA X es (LA c T W mr)) (hs : starEach (e :: es) X.env = (false, eval e X.env) :: starEach es X.env := by rfl) : PA X (e :: es) (LA c T W (aCons ma mr)) :=
  imp_PA (pa_cons he hr hs) fun σ H Q ⟨z, ρ, st, w, r, q⟩ => ⟨z, ρ, st, w, r, (Pst.bnd q).imp fun x H1 ⟨z1, st1, dx, l1, w1, rx, q1⟩ => ⟨z1, ρ, st1, w1, r.mono l1, (Pst.bnd q1).imp fun xs H2 ⟨z2, st2, ds, l2, w2, rs, q2⟩ =>
    q2 z2 H2 _ (Le.refl z2) w2 (.cons (rx.mono l2) rs)⟩⟩
theorem e_tup {es : List PySem.Expr} {k : Nat} {mr : MA} (h : PA X es (LA c T W mr)) : PD X c T W (.Tuple es k pos) (mTup mr) :=
  imp_PE (pe_tup h) fun σ H Q ⟨z, ρ, st, w, r, q⟩ => ⟨z, ρ, st, w, r, (Pst.bnd q).imp fun xs H1 ⟨z1, st1, ds, l1, w1, rs, q1⟩ => by
    try dsimp only at q1
    split at q1
    · rename_i hs
      refine ⟨by rw [rs.len]; exact sz_of hs, fun p hp => ?_⟩
      obtain ⟨l, w', r'⟩ := w1.newTup hp rs
      exact q1 _ _ _ l w' r'
    · exact q1.elim⟩
theorem e_lst {es : List PySem.Expr} {mr : MA} (h : PA X es (LA c T W mr)) : PD X c T W (.List es pos) (mLst mr) :=
  imp_PE (pe_lst h) fun σ H Q ⟨z, ρ, st, w, r, q⟩ => ⟨z, ρ, st, w, r, (Pst.bnd q).imp fun xs H1 ⟨z1, st1, ds, l1, w1, rs, q1⟩ => by
    try dsimp only at q1
    split at q1
    · rename_i hs
      refine ⟨by rw [rs.len]; exact sz_of hs, fun p hp => ?_⟩
      obtain ⟨l, w', r'⟩ := w1.newLst hp rs
      exact q1 _ _ _ l w' r'
    · exact q1.elim⟩
theorem e_new {es : List PySem.Expr} {mr : MA} (h : PA X es (LA c T W mr)) : PD X c T W (.List es pos) (mNew mr) :=
  imp_PE (pe_lst h) fun σ H Q ⟨z, ρ, st, w, r, q⟩ => ⟨z, ρ, st, w, r, (Pst.bnd q).imp fun xs H1 ⟨z1, st1, ds, l1, w1, rs, q1⟩ => by
    try dsimp only at q1
    split at q1
    · rename_i hs
      refine ⟨by rw [rs.len]; exact sz_of hs, fun p hp => ?_⟩
      obtain ⟨l, w', r'⟩ := w1.push hp rs
      exact q1 _ _ _ l w' r'
    · exact q1.elim⟩
/-! ### items, slices -/
theorem e_idx (hK : X.K = c.K) (ha : PD X c T W a ma) (hb : PD X c T W b mb) (hs : PlainIx b := by exact fun _ _ => rfl) : PD X c T W (.Subscript a b pos) (mOp idxD ma mb) :=
  imp_PE (pe_ix (ix_D hK) ha hb hs) fun σ H Q ⟨z, ρ, st, w, r, q⟩ => ⟨z, ρ, st, w, r, (Pst.bnd q).imp fun x H1 ⟨z1, st1, dx, l1, w1, rx, q1⟩ => ⟨z1, ρ, st1, w1, r.mono l1, (Pst.bnd q1).imp fun y H2 ⟨z2, st2, dy, l2, w2, ry, q2⟩ =>
    let ⟨dd, e, q3⟩ := Pst.ofO q2
    ⟨z2, st2, dx, dy, dd, w2, rx.mono l2, ry, e, q3⟩⟩⟩
theorem clip_sIx (n d : Nat) (o : Option Int) : clip n d o = HT.sIx n d o := by
  cases o <;> rfl
theorem Rps.cut {c : Cc} {z : Zw} {vs : List V} {ds : List D} (r : Rps c z vs ds) (lo hi : Option Int) : Rps c z (cutV vs lo hi) (cut ds lo hi) := by
  unfold cutV Bw.cut
  rw [r.len, clip_sIx, clip_sIx]
  exact (r.drop _).take _
theorem Rps.ints {c : Cc} {z : Zw} : ∀ ns : List Int, Rps c z (ns.map V.int) (ns.map D.int)
  | [] => .nil
  | n :: ns => .cons (.int n) (Rps.ints ns)
theorem cut_whole {α : Type} {l : List α} {lo hi : Option Int} (h : HT.sIx l.length 0 lo = 0 ∧ HT.sIx l.length l.length hi = l.length) : cut l lo hi = l := by
  unfold cut
  rw [clip_sIx, clip_sIx, h.1, h.2]
  simp
def rSl (c : Cc) (T : List (Addr × Str)) : V → Option Int → Option Int → Hp → VK → Prop := fun x lo hi H Q => ∃ z st dx d, Wf c T z st H ∧ Rp c z x dx ∧ sliD dx lo hi st = some d ∧ ∀ z' H' v, Le z z' → Wf c T z' st H' → Rp c z' v d → Q v H'
theorem sl_D {c : Cc} (hK : X.K = c.K) : SlR X (rSl c T) := by
  obtain ⟨K, mg⟩ := c
  cases hK
  intro pins s σ H x v vl vu lo hi sl Q I rx hs pl pu h
  obtain ⟨z, st, dx, d, w, h1, e, q⟩ := h
  unfold sliD at e
  split at e
  · cases e
    cases h1 with
    | tup s1 rs =>
      refine sl_tupA pins s σ H _ v vl vu lo hi sl Q I rx hs pl pu ⟨_, _, rfl, w.tup s1, fun hw => ?_, fun hw p hp => ?_⟩
      · refine q z H _ (Le.refl z) w ?_
        rw [rs.len] at hw
        rw [cut_whole hw]
        exact .tup s1 rs
      · obtain ⟨l, w', r'⟩ := w.newTup hp (rs.cut lo hi)
        exact q _ _ _ l w' r'
  · cases e
    cases h1 with
    | lst s1 rs =>
      refine sl_list pins s σ H _ v vl vu lo hi sl Q I rx hs pl pu ⟨_, _, rfl, .inl (.inl (w.sub _ _ s1)), fun p hp => ?_⟩
      obtain ⟨l, w', r'⟩ := w.newLst hp (rs.cut lo hi)
      exact q _ _ _ l w' r'
  · split at e
    · rename_i hz
      cases e; cases h1
      rename_i s1
      refine sl_str pins s σ H _ v vl vu lo hi sl Q I rx hs pl pu ⟨_, rfl, by rw [strOf_len]; exact sz_of hz, ?_⟩
      have : cutS (strOf s1) lo hi = strOf (cut s1 lo hi) := by
        unfold cutS cut
        rw [strOf_len, clip_sIx, clip_sIx]
      rw [this]
      exact q z H _ (Le.refl z) w (.str _)
    · cases e
  · cases e
    cases h1 with
    | scr s1 =>
      refine sl_list pins s σ H _ v vl vu lo hi sl Q I rx hs pl pu ⟨_, _, rfl, w.seq s1, fun p hp => ?_⟩
      obtain ⟨l, w', r'⟩ := w.newLst hp ((Rps.ints _).cut lo hi)
      exact q _ _ _ l w' r'
  · split at e
    · rename_i ds hk
      cases e
      cases h1 with
      | ref e1 =>
        obtain ⟨_, vs, k1, k2⟩ := w.obj _ _ _ e1 hk
        refine sl_list pins s σ H _ v vl vu lo hi sl Q I rx hs pl pu ⟨_, _, rfl, .inl (.inl k1), fun p hp => ?_⟩
        obtain ⟨l, w', r'⟩ := w.newLst hp (k2.cut lo hi)
        exact q _ _ _ l w' r'
    · cases e
  · cases e
def LO (c : Fc) (T : List (Addr × Str)) (W : WX) (m : Env → Store → Res (Option Int)) : L2.St → Hp → (Option Int → Hp → Prop) → Prop := fun σ H Q => ∃ z ρ st, Wf c.toCc T z st H ∧ Rσ c z σ ρ ∧ Pst (fun _ (x y : Option Int) => x = y) c T W z σ (m ρ st) Q
theorem imp_PO {X : Cx} {e : Option PySem.Expr} {t t' : L2.St → Hp → (Option Int → Hp → Prop) → Prop} (h : PO X e t) (k : ∀ σ H Q, t' σ H Q → t σ H Q) : PO X e t' :=
  ⟨fun pins s σ H Q I q => h.run pins s σ H Q I (k σ H Q q)⟩
theorem p_none : PO X none (LO c T W oNone) := imp_PO po_none fun σ H Q ⟨z, ρ, st, w, r, q⟩ => q z H none (Le.refl z) w rfl
theorem p_some (ha : PD X c T W a ma) : PO X (some a) (LO c T W (oSome ma)) :=
  imp_PO (po_some ha) fun σ H Q ⟨z, ρ, st, w, r, q⟩ => ⟨z, ρ, st, w, r, (Pst.bnd q).imp fun x H1 ⟨z1, st1, dx, l1, w1, rx, q1⟩ => by
    try dsimp only at q1
    split at q1
    · cases rx
      exact ⟨_, rfl, q1 z1 H1 _ (Le.refl z1) w1 rfl⟩
    · exact q1.elim⟩
theorem e_sli (hK : X.K = c.K) {lo hi : Option PySem.Expr} {p2 : Pos} {ml mh : Env → Store → Res (Option Int)} (ha : PD X c T W a ma) (hl : PO X lo (LO c T W ml)) (hh : PO X hi (LO c T W mh)) : PD X c T W (.Subscript a (.Slice lo hi none p2) pos) (mSli ma ml mh) :=
  imp_PE (pe_slice (sl_D hK) ha hl hh) fun σ H Q ⟨z, ρ, st, w, r, q⟩ => ⟨z, ρ, st, w, r, (Pst.bnd q).imp fun x H1 ⟨z1, st1, dx, l1, w1, rx, q1⟩ => ⟨z1, ρ, st1, w1, r.mono l1, (Pst.bnd q1).imp fun y H2 ⟨z2, st2, dy, l2, w2, ry, q2⟩ =>
    ⟨z2, ρ, st2, w2, (r.mono l1).mono l2, (Pst.bnd q2).imp fun u H3 ⟨z3, st3, du, l3, w3, ru, q3⟩ => by
      obtain ⟨dd, e, q4⟩ := Pst.ofO q3
      cases (show y = dy from ry)
      cases (show u = du from ru)
      exact ⟨z3, st3, dx, dd, w3, (rx.mono l2).mono l3, e, q4⟩⟩⟩⟩
/-! ### built-in functions and methods -/
theorem e_blt {x : Str} {p : Pos} {e : PySem.Expr} {es : List PySem.Expr} {mr : MA} {id : String} {f : List D → Store → Option D} (hc : CallR X (.builtin id) (rN c.toCc T f)) (hm : X.mg x = none) (hv : bootBuiltins x = some (.builtin id)) (ha : PA X (e :: es) (LA c T W mr)) (hg : Gl X x := by rfl)
    (hn : x ≠ "__name__" := by decide) (hdb : (x == ("__debug__" : Str)) = false := by decide) (he : starEach (e :: es) X.env = (false, eval e X.env) :: starEach es X.env := by rfl) (hpl : (backTo pos (starEach es X.env)).any (·.1) = false := by rfl) :
    PD X c T W (.Call (.Name x p) (e :: es) [] pos) (mBlt f mr) :=
  imp_PE (pe_callB hc hg hm hv ha hn hdb he hpl) fun σ H Q ⟨z, ρ, st, w, r, q⟩ => ⟨z, ρ, st, w, r, (Pst.bnd q).imp fun xs H1 ⟨z1, st1, ds, l1, w1, rs, q1⟩ =>
    let ⟨dd, e, q2⟩ := Pst.ofO q1
    ⟨z1, st1, ds, dd, w1, rs, e, q2⟩⟩
theorem e_bty {x : Str} {p : Pos} {e : PySem.Expr} {es : List PySem.Expr} {mr : MA} {id : String} {f : List D → Store → Option D} (hc : CallR X (.type id) (rN c.toCc T f)) (hm : X.mg x = none) (hv : bootBuiltins x = some (.type id)) (ha : PA X (e :: es) (LA c T W mr)) (hg : Gl X x := by rfl)
    (hn : x ≠ "__name__" := by decide) (hdb : (x == ("__debug__" : Str)) = false := by decide) (he : starEach (e :: es) X.env = (false, eval e X.env) :: starEach es X.env := by rfl) (hpl : (backTo pos (starEach es X.env)).any (·.1) = false := by rfl) :
    PD X c T W (.Call (.Name x p) (e :: es) [] pos) (mBlt f mr) :=
  imp_PE (pe_callTy hc hg hm hv ha hn hdb he hpl) fun σ H Q ⟨z, ρ, st, w, r, q⟩ => ⟨z, ρ, st, w, r, (Pst.bnd q).imp fun xs H1 ⟨z1, st1, ds, l1, w1, rs, q1⟩ =>
    let ⟨dd, e, q2⟩ := Pst.ofO q1
    ⟨z1, st1, ds, dd, w1, rs, e, q2⟩⟩
end
end Bw
set_option linter.all false
set_option autoImplicit false
set_option maxRecDepth 100000
/-! Statements by data. -/
namespace Bw
open PySem PySem.Spec PyProof.Rows L2
/-- what follows a statement's outcome -/
def PstS (c : Fc) (T : List (Addr × Str)) (W : WX) (z : Zw) (o : Out) (D : Ends) : Prop := match o with
  | .nx ρ st => ∀ z' H' σ', Le z z' → Wf c.toCc T z' st H' → Rσ c z' σ' ρ → D.nx σ' H'
  | .rt d st => ∀ z' H' v, Le z z' → Wf c.toCc T z' st H' → Rp c.toCc z' v d → D.rt v H'
  | .bk ρ st => ∀ z' H' σ', Le z z' → Wf c.toCc T z' st H' → Rσ c z' σ' ρ → D.bk σ' H'
  | .ct ρ st => ∀ z' H' σ', Le z z' → Wf c.toCc T z' st H' → Rσ c z' σ' ρ → D.ct σ' H'
  | .er e ρ st => ∀ z' H' σ' cls dd, Le z z' → Wf c.toCc T z' st H' → Rσ c z' σ' ρ → ErOk c.toCc z' e cls dd → W cls dd σ' H'
  | .no => False
def LS (c : Fc) (T : List (Addr × Str)) (W : WX) (m : MS) : TS := fun D σ H => ∃ z ρ st, Wf c.toCc T z st H ∧ Rσ c z σ ρ ∧ PstS c T W z (m ρ st) D
section
variable {c : Fc} {T : List (Addr × Str)} {W : WX} {z z1 : Zw} {D D' : Ends}
theorem PstS.le {o : Out} (h : PstS c T W z o D) (l : Le z z1) : PstS c T W z1 o D := by
  cases o with
  | nx ρ st => exact fun z' H' σ' l' => h z' H' σ' (l.trans l')
  | rt d st => exact fun z' H' v l' => h z' H' v (l.trans l')
  | bk ρ st => exact fun z' H' σ' l' => h z' H' σ' (l.trans l')
  | ct ρ st => exact fun z' H' σ' l' => h z' H' σ' (l.trans l')
  | er e ρ st => exact fun z' H' σ' cls dd l' => h z' H' σ' cls dd (l.trans l')
  | no => exact h
theorem PstS.not_no {o : Out} (h : PstS c T W z o D) : o ≠ .no := fun e => by
  subst e
  exact h
end
/-- a value's way into a statement -/
def sBind {α : Type} (r : Res α) (ρ : Env) (f : α → Store → Out) : Out := match r with
  | .ok d st => f d st
  | .er e st => .er e ρ st
  | .no => .no
@[simp] theorem sBind_ok {α : Type} (a : α) (st : Store) (ρ : Env) (f : α → Store → Out) : sBind (.ok a st) ρ f = f a st := rfl
@[simp] theorem sBind_er {α : Type} (e : Er) (st : Store) (ρ : Env) (f : α → Store → Out) : sBind (.er e st) ρ f = .er e ρ st := rfl
@[simp] theorem sBind_no {α : Type} (ρ : Env) (f : α → Store → Out) : sBind .no ρ f = .no := rfl
section
variable {c : Fc} {T : List (Addr × Str)} {W : WX} {z : Zw} {D : Ends} {α β : Type} {R : Zw → β → α → Prop}
theorem PstS.bnd {r : Res α} {ρ : Env} {f : α → Store → Out} {σ : L2.St} (h : PstS c T W z (sBind r ρ f) D) (rs : Rσ c z σ ρ) :
    Pst R c T W z σ r fun x H1 => ∃ z1 st1 d, Le z z1 ∧ Wf c.toCc T z1 st1 H1 ∧ R z1 x d ∧ PstS c T W z1 (f d st1) D := by
  cases r with
  | ok d st' => exact fun z' H' v l w r => ⟨z', st', d, l, w, r, h.le l⟩
  | er e st' => exact fun z' H' cls dd l w eo => h z' H' σ cls dd l w (rs.mono l) eo
  | no => exact h
end
/-! ### outcomes -/
def sNext : MS := fun ρ st => .nx ρ st
def sSeq (m n : MS) : MS := fun ρ st => match m ρ st with
  | .nx ρ' st' => n ρ' st'
  | o => o
def sDrop (a : ME) : MS := fun ρ st => sBind (a ρ st) ρ fun _ st => .nx ρ st
def sRet (a : ME) : MS := fun ρ st => sBind (a ρ st) ρ fun d st => .rt d st
def sRetN : MS := fun _ st => .rt .non st
def sIf (t : MT) (m n : MS) : MS := fun ρ st => sBind (t ρ st) ρ fun k st => if k then m ρ st else n ρ st
def sBreak : MS := fun ρ st => .bk ρ st
def sCont : MS := fun ρ st => .ct ρ st
/-- where a value goes -/
abbrev MG := D → Env → Option Env
def gN (i : Nat) : MG := fun d ρ => some (ρ.set i (some d))
def gL : List MG → List D → Env → Option Env
  | [], [], ρ => some ρ
  | g :: gs, d :: ds, ρ => match g d ρ with
    | some ρ' => gL gs ds ρ'
    | none => none
  | _, _, _ => none
def gT (gs : List MG) : MG := fun d ρ => match d with
  | .tup ds => gL gs ds ρ
  | _ => none
def sAsg (a : ME) (g : MG) : MS := fun ρ st => sBind (a ρ st) ρ fun d st => match g d ρ with
  | some ρ' => .nx ρ' st
  | none => .no
def sPar (i j : Nat) (a : MA) : MS := fun ρ st => sBind (a ρ st) ρ fun ds st => match ds with
  | [x, y] => .nx ((ρ.set i (some x)).set j (some y)) st
  | _ => .no
def sPar3 (i j k : Nat) (a : MA) : MS := fun ρ st => sBind (a ρ st) ρ fun ds st => match ds with
  | [x, y, w] => .nx (((ρ.set i (some x)).set j (some y)).set k (some w)) st
  | _ => .no
def sAug (i : Nat) (f : D → D → Store → Option D) (a : ME) : MS := fun ρ st => match ρ[i]? with
  | some (some x) => sBind (a ρ st) ρ fun y st => match f x y st with
    | some d => .nx (ρ.set i (some d)) st
    | none => .no
  | _ => .no
/-- o[i] = v, o a list of the store -/
def putD (o i v : D) (st : Store) : Option Store := match o, i with
  | .ref n, .int k => match st[n]? with
    | some (.lst ds) => (atN ds.length k).map fun j => st.set n (.lst (ds.set j v))
    | _ => none
  | _, _ => none
def sPut (o i a : ME) : MS := fun ρ st => sBind (a ρ st) ρ fun v st => sBind (o ρ st) ρ fun x st => sBind (i ρ st) ρ fun k st => match putD x k v st with
  | some st' => .nx ρ st'
  | none => .no
section
variable {X : Cx} {c : Fc} {T : List (Addr × Str)} {W : WX} {a b d : PySem.Expr} {ma mb md : ME} {pos : Pos} {s1 : Stmt} {r1 : List Stmt} {m n : MS} {mr : MA} {mt : MT}
abbrev SD (X : Cx) (c : Fc) (T : List (Addr × Str)) (W : WX) (s : Stmt) (m : MS) : Prop := PS X s (LS c T W m)
abbrev SsD (X : Cx) (c : Fc) (T : List (Addr × Str)) (W : WX) (s : List Stmt) (m : MS) : Prop := PSs X s (LS c T W m)
theorem ss_nil : SsD X c T W [] sNext := imp_PSs pss_nil fun D σ H ⟨z, ρ, st, w, r, q⟩ => q z H σ (Le.refl z) w r
theorem seq_ok {D : Ends} {z : Zw} {ρ : Env} {st : Store} (q : PstS c T W z (sSeq m n ρ st) D) : PstS c T W z (m ρ st) { D with nx := LS c T W n D } := by
  unfold sSeq at q
  cases e : m ρ st with
  | nx ρ' st' =>
    rw [e] at q
    exact fun z' H' σ' l w r => ⟨z', ρ', st', w, r, q.le l⟩
  | rt d st' => rw [e] at q; exact q
  | bk ρ' st' => rw [e] at q; exact q
  | ct ρ' st' => rw [e] at q; exact q
  | er x ρ' st' => rw [e] at q; exact q
  | no => rw [e] at q; exact q
theorem ss_cons (h1 : SD X c T W s1 m) (h2 : SsD X c T W r1 n) : SsD X c T W (s1 :: r1) (sSeq m n) :=
  imp_PSs (pss_cons h1 h2) fun D σ H ⟨z, ρ, st, w, r, q⟩ => ⟨z, ρ, st, w, r, seq_ok q⟩
theorem ss_one (h1 : SD X c T W s1 m) : SsD X c T W [s1] m := pss_one h1
theorem s_pass : SD X c T W (.Pass pos) sNext := imp_PS ps_pass fun D σ H ⟨z, ρ, st, w, r, q⟩ => q z H σ (Le.refl z) w r
theorem s_break : SD X c T W (.Break pos) sBreak := imp_PS ps_break fun D σ H ⟨z, ρ, st, w, r, q⟩ => q z H σ (Le.refl z) w r
theorem s_cont : SD X c T W (.Continue pos) sCont := imp_PS ps_continue fun D σ H ⟨z, ρ, st, w, r, q⟩ => q z H σ (Le.refl z) w r
theorem s_drop (ha : PD X c T W a ma) (hs : swapsWith a none pos.line X.env = pure false := by rfl) : SD X c T W (.Expr a pos) (sDrop ma) :=
  imp_PS (ps_expr ha hs) fun D σ H ⟨z, ρ, st, w, r, q⟩ => ⟨z, ρ, st, w, r, (PstS.bnd q r).imp fun x H1 ⟨z1, st1, dx, l1, w1, rx, q1⟩ => q1 z1 H1 σ (Le.refl z1) w1 (r.mono l1)⟩
theorem s_ret (ha : PD X c T W a ma) : SD X c T W (.Return (some a) pos) (sRet ma) :=
  imp_PS (ps_ret ha) fun D σ H ⟨z, ρ, st, w, r, q⟩ => ⟨z, ρ, st, w, r, (PstS.bnd q r).imp fun x H1 ⟨z1, st1, dx, l1, w1, rx, q1⟩ => q1 z1 H1 x (Le.refl z1) w1 rx⟩
theorem s_retN : SD X c T W (.Return none pos) sRetN := imp_PS ps_retN fun D σ H ⟨z, ρ, st, w, r, q⟩ => q z H _ (Le.refl z) w .non
theorem s_if {t : PySem.Expr} {x y : List Stmt} (ht : PT X t (LT c T W mt)) (h1 : SsD X c T W x m) (h2 : SsD X c T W y n) : SD X c T W (.If t x y pos) (sIf mt m n) :=
  imp_PS (ps_if ht h1 h2) fun D σ H ⟨z, ρ, st, w, r, q⟩ => ⟨z, ρ, st, w, r, (PstS.bnd q r).imp fun k H1 ⟨z1, st1, k', l1, w1, rk, q1⟩ => by
    cases (show k = k' from rk)
    cases k with
    | true => exact iteT ⟨z1, ρ, st1, w1, r.mono l1, q1⟩
    | false => exact iteF ⟨z1, ρ, st1, w1, r.mono l1, q1⟩⟩
/-! ### targets -/
/-- nothing but these slots -/
def Only (is : List Nat) (σ σ' : L2.St) : Prop := σ'.length = σ.length ∧ ∀ j, j ∉ is → σ'[j]? = σ[j]?
theorem Only.refl (σ : L2.St) : Only [] σ σ := ⟨rfl, fun _ _ => rfl⟩
theorem Only.trans {is js : List Nat} {σ σ1 σ2 : L2.St} (a : Only is σ σ1) (b : Only js σ1 σ2) : Only (is ++ js) σ σ2 :=
  ⟨b.1.trans a.1, fun j h => (b.2 j (fun q => h (List.mem_append_right _ q))).trans (a.2 j fun q => h (List.mem_append_left _ q))⟩
def LG (c : Fc) (T : List (Addr × Str)) (is : List Nat) (g : MG) : TG := fun v σ H Q => ∃ z ρ st d ρ', Wf c.toCc T z st H ∧ Rσ c z σ ρ ∧ Rp c.toCc z v d ∧ g d ρ = some ρ' ∧ ∀ σ', Rσ c z σ' ρ' → Only is σ σ' → Q σ' H
def LGs (c : Fc) (T : List (Addr × Str)) (is : List Nat) (gs : List MG) : TGs := fun vs σ H Q => ∃ z ρ st ds ρ', Wf c.toCc T z st H ∧ Rσ c z σ ρ ∧ Rps c.toCc z vs ds ∧ gL gs ds ρ = some ρ' ∧ ∀ σ', Rσ c z σ' ρ' → Only is σ σ' → Q σ' H
theorem imp_PG {e : PySem.Expr} {t t' : TG} (h : PG X e t) (k : ∀ v σ H Q, t' v σ H Q → t v σ H Q) : PG X e t' := ⟨fun pins s σ H v u Q I r q => h.run pins s σ H v u Q I r (k _ _ _ _ q)⟩
theorem imp_PGs {e : List PySem.Expr} {t t' : TGs} (h : PGs X e t) (k : ∀ v σ H Q, t' v σ H Q → t v σ H Q) : PGs X e t' := ⟨fun pins s σ H v u Q I r q => h.run pins s σ H v u Q I r (k _ _ _ _ q)⟩
theorem g_name (i : Nat) {x : Str} (hN : X.N.Nodup) (hi : X.N[i]? = some x := by rfl) (hx : Loc X.env.scope x := by first | exact Or.inl rfl | exact Or.inr rfl) (hf : X.fn x = true ∨ X.env.scope.names.lookup x = some .local := by first | exact .inl rfl | exact .inr rfl) : PG X (.Name x pos) (LG c T [i] (gN i)) :=
  imp_PG (pg_name hN hi hx hf) fun v σ H Q ⟨z, ρ, st, d, ρ', w, r, rv, e, q⟩ => q _ (by cases e; exact r.set (.d rv) i) ⟨by rw [List.length_set], fun j hj => List.getElem?_set_ne (fun e => hj (by simp [e]))⟩
theorem gs_nil : PGs X [] (LGs c T [] []) := imp_PGs pgs_nil fun vs σ H Q ⟨z, ρ, st, ds, ρ', w, r, rv, e, q⟩ => by
  cases rv with
  | nil => cases e; exact ⟨rfl, q _ r (Only.refl _)⟩
  | cons _ _ => cases e
theorem gs_cons {e : PySem.Expr} {es : List PySem.Expr} {g : MG} {gs : List MG} {is js : List Nat} (h1 : PG X e (LG c T is g)) (h2 : PGs X es (LGs c T js gs)) (hs : (assignEach (e :: es) X.env).map (·.2) = assign e X.env :: (assignEach es X.env).map (·.2) := by rfl) : PGs X (e :: es) (LGs c T (is ++ js) (g :: gs)) :=
  imp_PGs (pgs_cons h1 h2 hs) fun vs σ H Q ⟨z, ρ, st, ds, ρ', w, r, rv, e, q⟩ => by
    cases rv with
    | nil => cases e
    | cons rd rr =>
      unfold gL at e
      split at e
      · rename_i ρ1 h
        exact ⟨_, _, rfl, z, ρ, st, _, ρ1, w, r, rd, h, fun σ' r' o' => ⟨z, ρ1, st, _, ρ', w, r', rr, e, fun σ2 r2 o2 => q σ2 r2 (o'.trans o2)⟩⟩
      · cases e
theorem g_tup (hK : X.K = c.K) (hc : X.calm = true) {es : List PySem.Expr} {k : Nat} {gs : List MG} {is : List Nat} (h : PGs X es (LGs c T is gs)) (hn : (assignEach es X.env).length = gs.length := by rfl) (hst : (assignEach es X.env).findIdx? (·.1) = none := by rfl) : PG X (.Tuple es k pos) (LG c T is (gT gs)) :=
  imp_PG (pg_tup hc h hn hst) fun v σ H Q ⟨z, ρ, st, d, ρ', w, r, rv, e, q⟩ => by
    unfold gT at e
    split at e
    · cases rv with
      | tup s1 rs =>
        have hl : ∀ (gs : List MG) (ds : List D) (ρ ρ' : Env), gL gs ds ρ = some ρ' → ds.length = gs.length := by
          intro gs
          induction gs with
          | nil => intro ds ρ ρ' h; cases ds with
            | nil => rfl
            | cons _ _ => cases h
          | cons g gs ih => intro ds ρ ρ' h; cases ds with
            | nil => cases h
            | cons d ds =>
              unfold gL at h
              split at h
              · have := ih ds _ _ h
                simp [this]
              · cases h
        exact ⟨_, _, rfl, by rw [hK]; exact w.tup s1, by rw [rs.len]; exact hl _ _ _ _ e, z, ρ, st, _, ρ', w, r, rs, e, q⟩
    · cases e
theorem s_asg {tg : PySem.Expr} {g : MG} {is : List Nat} (ha : PD X c T W a ma) (hg : PG X tg (LG c T is g)) (hs : swapsWithSole [tg] a pos.line X.env = pure false := by rfl) (hw : swappedStores [tg] a X.env = pure none := by rfl) (h1 : (assignEach [tg] X.env).map (·.2) = [assign tg X.env] := by rfl) :
    SD X c T W (.Assign [tg] a pos) (sAsg ma g) :=
  imp_PS (ps_asg ha hg hs hw h1) fun D σ H ⟨z, ρ, st, w, r, q⟩ => ⟨z, ρ, st, w, r, (PstS.bnd q r).imp fun x H1 ⟨z1, st1, dx, l1, w1, rx, q1⟩ => by
    split at q1
    · rename_i ρ' e
      exact ⟨z1, ρ, st1, dx, ρ', w1, r.mono l1, rx, e, fun σ' r' _ => q1 z1 H1 σ' (Le.refl z1) w1 r'⟩
    · exact q1.elim⟩
theorem s_set (i : Nat) {x : Str} {pos' : Pos} (ha : PD X c T W a ma) (hN : X.N.Nodup) (hi : X.N[i]? = some x := by rfl) (hx : Loc X.env.scope x := by first | exact Or.inl rfl | exact Or.inr rfl) (hs : swapsWith a (some (.Name x pos')) pos.line X.env = pure false := by rfl)
    (hf : X.fn x = true ∨ X.env.scope.names.lookup x = some .local := by first | exact .inl rfl | exact .inr rfl) : SD X c T W (.Assign [.Name x pos'] a pos) (sAsg ma (gN i)) :=
  imp_PS (ps_set hN hi hx ha hs hf) fun D σ H ⟨z, ρ, st, w, r, q⟩ => ⟨z, ρ, st, w, r, (PstS.bnd q r).imp fun x H1 ⟨z1, st1, dx, l1, w1, rx, q1⟩ => q1 z1 H1 _ (Le.refl z1) w1 ((r.mono l1).set (.d rx) i)⟩
theorem s_par (i j : Nat) {x y : Str} {px py pt : Pos} {kt k2 pt2} (hc : X.calm = true) (ha : PA X [a, b] (LA c T W mr)) (hN : X.N.Nodup) (hi : X.N[i]? = some x := by rfl) (hj : X.N[j]? = some y := by rfl) (hij : i ≠ j := by decide)
    (hx : X.env.scope.names.lookup x = some .local := by rfl) (hy : X.env.scope.names.lookup y = some .local := by rfl)
    (hw : swappedStores [.Tuple [.Name x px, .Name y py] kt pt] (.Tuple [a, b] k2 pt2) X.env = pure (some [x, y]) := by rfl)
    (hs : swapsWithSole [.Tuple [.Name x px, .Name y py] kt pt] (.Tuple [a, b] k2 pt2) pos.line X.env = pure false := by rfl) :
    SD X c T W (.Assign [.Tuple [.Name x px, .Name y py] kt pt] (.Tuple [a, b] k2 pt2) pos) (sPar i j mr) :=
  imp_PS (ps_par hc hN hi hj hij hx hy ha hw hs) fun D σ H ⟨z, ρ, st, w, r, q⟩ => ⟨z, ρ, st, w, r, (PstS.bnd q r).imp fun xs H1 ⟨z1, st1, ds, l1, w1, rs, q1⟩ => by
    split at q1
    · cases rs with
      | cons ra rr => cases rr with
        | cons rb rr => cases rr with
          | nil => exact ⟨_, _, rfl, q1 z1 H1 _ (Le.refl z1) w1 (((r.mono l1).set (.d ra) i).set (.d rb) j)⟩
    · exact q1.elim⟩
/-! ### name op= e -/
def rIp (c : Cc) (T : List (Addr × Str)) (f : D → D → Store → Option D) : TIp := fun x y H Q => ∃ z st dx dy d, Wf c T z st H ∧ Rp c z x dx ∧ Rp c z y dy ∧ f dx dy st = some d ∧ ∀ z' H' v, Le z z' → Wf c T z' st H' → Rp c z' v d → Q v H'
theorem s_aug (i : Nat) {x : Str} {op : Operator} {f : D → D → Store → Option D} {pos' : Pos} (ho : PIp X op (rIp c.toCc T f)) (ha : PD X c T W a ma) (hN : X.N.Nodup) (hi : X.N[i]? = some x := by rfl) (hx : Loc X.env.scope x := by first | exact Or.inl rfl | exact Or.inr rfl)
    (hf : X.fn x = true ∨ X.env.scope.names.lookup x = some .local := by first | exact .inl rfl | exact .inr rfl) (hn : ∀ n y st, f (.clo n) y st = none := by intro n y st; cases y <;> rfl) : SD X c T W (.AugAssign (.Name x pos') op a pos) (sAug i f ma) :=
  imp_PS (ps_aug hN hi hx ha ho hf) fun D σ H ⟨z, ρ, st, w, r, q⟩ => by
    unfold sAug at q
    split at q
    · rename_i dx e
      obtain ⟨v, h1, h2⟩ := r.at_ i dx e
      refine ⟨v, h1, z, ρ, st, w, r, (PstS.bnd q r).imp fun y H1 ⟨z1, st1, dy, l1, w1, ry, q1⟩ => ?_⟩
      split at q1
      · rename_i dd e2
        cases h2 with
        | clo _ => rw [hn] at e2; cases e2
        | exc _ => rw [hn] at e2; cases e2
        | d h2 => exact ⟨z1, st1, dx, dy, dd, w1, h2.mono l1, ry, e2, fun z2 H2 v2 l2 w2 r2 => q1 z2 H2 _ l2 w2 ((r.mono (l1.trans l2)).set (.d r2) i)⟩
      · exact q1.elim
    · exact q.elim
theorem atN_lt {n : Nat} {k : Int} {j : Nat} (h : atN n k = some j) : j < n := by
  unfold atN at h
  split at h
  · split at h
    · cases h; omega
    · cases h
  · split at h
    · cases h; omega
    · cases h
end
end Bw
set_option linter.all false
set_option autoImplicit false
set_option maxRecDepth 100000
/-! Loops and comprehensions by data. -/
namespace Bw
open PySem PySem.Spec PyProof.Rows L2
/-- what is walked: its items, what must stay -/
structure Itm where
  ds : List D
  chk : Store → Prop
abbrev MI := Env → Store → Res Itm
/-- the iterator gives the items -/
def Tells (c : Cc) (T : List (Addr × Str)) (z : Zw) (J : It) (it : Itm) : Prop := ∀ (i : Nat) (z1 : Zw) (st1 : Store) (H1 : Hp), Lg z z1 → Wf c T z1 st1 H1 → it.chk st1 →
  (∀ d, it.ds[i]? = some d → J.go i H1 ∧ ∀ x H2, J.yld i H1 x H2 → ∃ z2, Le z1 z2 ∧ Wf c T z2 st1 H2 ∧ Rp c z2 x d) ∧ (it.ds.length = i → J.stop i H1)
def LI (c : Fc) (T : List (Addr × Str)) (W : WX) (m : MI) : TI := fun σ H R => ∃ z ρ st, Wf c.toCc T z st H ∧ Rσ c z σ ρ ∧ Pst (Tells c.toCc T) c T W z σ (m ρ st) R
open Classical in
noncomputable def loopF (chk : Store → Prop) (g : MG) (body : MS) : List D → Env → Store → Out
  | [], ρ, st => if chk st then .nx ρ st else .no
  | d :: ds, ρ, st => if chk st then match g d ρ with
      | none => .no
      | some ρ' => match body ρ' st with
        | .nx ρ'' st'' => loopF chk g body ds ρ'' st''
        | .ct ρ'' st'' => loopF chk g body ds ρ'' st''
        | .bk ρ'' st'' => .nx ρ'' st''
        | o => o
    else .no
noncomputable def sFor (it : MI) (g : MG) (body : MS) : MS := fun ρ st => sBind (it ρ st) ρ fun I st => loopF I.chk g body I.ds ρ st
section
variable {X : Cx} {c : Fc} {T : List (Addr × Str)} {W : WX} {a b d : PySem.Expr} {ma mb md : ME} {pos : Pos} {m n : MS} {mt : MT} {is : List Nat}
theorem s_for (hp : PassesOwn (model X.prog X.w) X.A X.env X.xe) (hc : X.calm = true) {tg iter : PySem.Expr} {body : List Stmt} {mi : MI} {g : MG} (hi : PI X tg iter (LI c T W mi)) (hg : PG X tg (LG c T is g)) (hb : SsD X c T W body m)
    (hs : ∀ x, foldedSetIterable iter X.env x = pure x := by intro _; rfl) : SD X c T W (.For tg iter body [] pos) (sFor mi g m) :=
  imp_PS (ps_for hp hc hi hg hb hs) fun D σ H ⟨z, ρ, st, w, r, q⟩ => ⟨z, ρ, st, w, r, (PstS.bnd q r).imp fun J H1 ⟨z1, st1, it, l1, w1, tl, q1⟩ => by
    refine ⟨fun i k σ H => k = it.ds.length - i ∧ i ≤ it.ds.length ∧ ∃ z' ρ' st', Le z1 z' ∧ Wf c.toCc T z' st' H ∧ Rσ c z' σ ρ' ∧ PstS c T W z' (loopF it.chk g m (it.ds.drop i) ρ' st') D,
      ⟨_, rfl, Nat.zero_le _, z1, ρ, st1, Le.refl z1, w1, r.mono l1, q1⟩, ?_⟩
    rintro i k σ2 H2 ⟨rfl, hle, z2, ρ2, st2, l2, w2, r2, q2⟩
    cases e : it.ds.drop i with
    | nil =>
      rw [e] at q2
      unfold loopF at q2
      split at q2
      · rename_i hk
        have hl : it.ds.length ≤ i := List.drop_eq_nil_iff.mp e
        exact .inl ⟨(tl i z2 st2 H2 l2.lg w2 hk).2 (Nat.le_antisymm hl hle), q2 z2 H2 σ2 (Le.refl z2) w2 r2⟩
      · exact q2.elim
    | cons dd ds =>
      rw [e] at q2
      unfold loopF at q2
      split at q2
      · rename_i hk
        have hlt : i < it.ds.length := by
          rcases Nat.lt_or_ge i it.ds.length with h | h
          · exact h
          · rw [List.drop_eq_nil_iff.mpr h] at e; cases e
        have hget : it.ds[i]? = some dd := by
          have := congrArg List.head? e
          rw [List.head?_drop] at this
          exact this
        have hdrop : it.ds.drop (i + 1) = ds := by
          have := congrArg List.tail e
          rw [List.tail_drop] at this
          exact this
        obtain ⟨go, yl⟩ := (tl i z2 st2 H2 l2.lg w2 hk).1 dd hget
        refine .inr ⟨go, fun σ' H' => ∃ z' ρ' st', Le z1 z' ∧ Wf c.toCc T z' st' H' ∧ Rσ c z' σ' ρ' ∧ PstS c T W z' (loopF it.chk g m ds ρ' st') D, fun σ' H' ⟨z', ρ', st', h⟩ => ⟨it.ds.length - (i + 1), by omega, rfl, hlt, z', ρ', st', by rw [hdrop]; exact h⟩, fun x H3 y => ?_⟩
        obtain ⟨z3, l3, w3, rx⟩ := yl x H3 y
        split at q2
        · exact q2.elim
        · rename_i ρ3 eg
          refine ⟨z3, ρ2, st2, dd, ρ3, w3, r2.mono l3, rx, eg, fun σ3 r3 _ => ⟨z3, ρ3, st2, w3, r3, ?_⟩⟩
          have q3 := q2.le l3
          cases em : m ρ3 st2 with
          | nx ρ4 st4 => rw [em] at q3; exact fun z4 H4 σ4 l4 w4 r4 => ⟨z4, ρ4, st4, (l2.trans l3).trans l4, w4, r4, q3.le l4⟩
          | ct ρ4 st4 => rw [em] at q3; exact fun z4 H4 σ4 l4 w4 r4 => ⟨z4, ρ4, st4, (l2.trans l3).trans l4, w4, r4, q3.le l4⟩
          | bk ρ4 st4 => rw [em] at q3; exact q3
          | rt d4 st4 => rw [em] at q3; exact q3
          | er e4 ρ4 st4 => rw [em] at q3; exact q3
          | no => rw [em] at q3; exact q3
      · exact q2.elim⟩
/-! ### while -/
def whileF (t : MT) (b : MS) : Nat → Env → Store → Out
  | 0, _, _ => .no
  | n + 1, ρ, st => sBind (t ρ st) ρ fun k st => if k then match b ρ st with
      | .nx ρ' st' => whileF t b n ρ' st'
      | .ct ρ' st' => whileF t b n ρ' st'
      | .bk ρ' st' => .nx ρ' st'
      | o => o
    else .nx ρ st
open Classical in
noncomputable def sWhile (t : MT) (b : MS) : MS := fun ρ st => if h : ∃ n, whileF t b n ρ st ≠ .no then whileF t b (Classical.choose h) ρ st else .no
theorem while_more {t : MT} {b : MS} : ∀ (n : Nat) (ρ : Env) (st : Store), whileF t b n ρ st ≠ .no → whileF t b (n + 1) ρ st = whileF t b n ρ st
  | 0, _, _, h => absurd rfl h
  | n + 1, ρ, st, h => by
    have h' := h
    unfold whileF at h' ⊢
    cases e : t ρ st with
    | ok k st1 =>
      rw [e] at h'
      simp only [sBind_ok] at h' ⊢
      cases k with
      | false => rfl
      | true =>
        simp only [if_true] at h' ⊢
        cases eb : b ρ st1 with
        | nx ρ2 st2 => rw [eb] at h'; exact while_more n ρ2 st2 h'
        | ct ρ2 st2 => rw [eb] at h'; exact while_more n ρ2 st2 h'
        | _ => rfl
    | er _ _ => rfl
    | no => rfl
theorem while_add {t : MT} {b : MS} {n : Nat} {ρ : Env} {st : Store} (h : whileF t b n ρ st ≠ .no) : ∀ k, whileF t b (n + k) ρ st = whileF t b n ρ st
  | 0 => rfl
  | k + 1 => by
    have ih := while_add h k
    rw [← ih]
    exact while_more (n + k) ρ st (by rw [ih]; exact h)
theorem sWhile_of {t : MT} {b : MS} {ρ : Env} {st : Store} {o : Out} (n : Nat) (h : whileF t b n ρ st = o) (ho : o ≠ .no) : sWhile t b ρ st = o := by
  have hx : ∃ n, whileF t b n ρ st ≠ .no := ⟨n, by rw [h]; exact ho⟩
  unfold sWhile
  rw [dif_pos hx]
  have h1 := Classical.choose_spec hx
  have e1 := while_add h1 n
  have e2 := while_add (n := n) (ρ := ρ) (st := st) (by rw [h]; exact ho) (Classical.choose hx)
  rw [Nat.add_comm] at e2
  rw [← e1, e2, h]
theorem s_while (hp : PassesOwn (model X.prog X.w) X.A X.env X.xe) {t : PySem.Expr} {body : List Stmt} (ht : PT X t (LT c T W mt)) (hb : SsD X c T W body m) : SD X c T W (.While t body [] pos) (sWhile mt m) :=
  imp_PS (ps_while hp ht hb) fun D σ H ⟨z, ρ, st, w, r, q⟩ => by
    unfold sWhile at q
    split at q
    · refine ⟨fun k σ H => ∃ z' ρ' st', Le z z' ∧ Wf c.toCc T z' st' H ∧ Rσ c z' σ ρ' ∧ PstS c T W z' (whileF mt m k ρ' st') D, ⟨_, z, ρ, st, Le.refl z, w, r, q⟩, ?_⟩
      rintro k σ2 H2 ⟨z2, ρ2, st2, l2, w2, r2, q2⟩
      cases k with
      | zero => exact q2.elim
      | succ k =>
        unfold whileF at q2
        refine ⟨z2, ρ2, st2, w2, r2, (PstS.bnd q2 r2).imp fun x H3 ⟨z3, st3, kk, l3, w3, rk, q3⟩ => ?_⟩
        cases (show x = kk from rk)
        cases x with
        | false => exact iteF (q3 z3 H3 σ2 (Le.refl z3) w3 (r2.mono l3))
        | true =>
          refine iteT ⟨fun σ' H' => ∃ z' ρ' st', Le z z' ∧ Wf c.toCc T z' st' H' ∧ Rσ c z' σ' ρ' ∧ PstS c T W z' (whileF mt m k ρ' st') D, fun σ' H' h => ⟨k, Nat.lt_succ_self k, h⟩, z3, ρ2, st3, w3, r2.mono l3, ?_⟩
          simp only [if_true] at q3
          cases em : m ρ2 st3 with
          | nx ρ4 st4 => rw [em] at q3; exact fun z4 H4 σ4 l4 w4 r4 => ⟨z4, ρ4, st4, (l2.trans l3).trans l4, w4, r4, q3.le l4⟩
          | ct ρ4 st4 => rw [em] at q3; exact fun z4 H4 σ4 l4 w4 r4 => ⟨z4, ρ4, st4, (l2.trans l3).trans l4, w4, r4, q3.le l4⟩
          | bk ρ4 st4 => rw [em] at q3; exact q3
          | rt d4 st4 => rw [em] at q3; exact q3
          | er e4 ρ4 st4 => rw [em] at q3; exact q3
          | no => rw [em] at q3; exact q3
    · exact q.elim
end
/-! ### [e for x in xs if t] -/
def wipeE (ρ : Env) : List Nat → Env
  | [] => ρ
  | v :: vs => (wipeE ρ vs).set v none
theorem wipe_get {α : Type} {σ : List (Option α)} {w : List Nat → List (Option α)} (h0 : w [] = σ) (h1 : ∀ v vs, w (v :: vs) = (w vs).set v none) : ∀ (vs : List Nat), (w vs).length = σ.length ∧ ∀ j, (w vs)[j]? = if j ∈ vs ∧ j < σ.length then some none else σ[j]?
  | [] => ⟨by rw [h0], fun j => by rw [h0, if_neg (by simp)]⟩
  | v :: vs => by
    obtain ⟨ih1, ih2⟩ := wipe_get h0 h1 vs
    refine ⟨by rw [h1, List.length_set, ih1], fun j => ?_⟩
    rw [h1]
    by_cases hj : v = j
    · subst hj
      by_cases hl : v < σ.length
      · rw [List.getElem?_set_self (by rw [ih1]; exact hl), if_pos ⟨List.mem_cons_self, hl⟩]
      · rw [List.getElem?_eq_none (by rw [List.length_set, ih1]; omega), if_neg (fun h => hl h.2), List.getElem?_eq_none (by omega)]
    · rw [List.getElem?_set_ne hj, ih2]
      by_cases h : j ∈ vs ∧ j < σ.length
      · rw [if_pos h, if_pos ⟨List.mem_cons_of_mem _ h.1, h.2⟩]
      · rw [if_neg h, if_neg (fun q => h ⟨(List.mem_cons.mp q.1).resolve_left (fun e => hj e.symm), q.2⟩)]
theorem wipe_at (σ : L2.St) (vs : List Nat) : (wipe σ vs).length = σ.length ∧ ∀ j, (wipe σ vs)[j]? = if j ∈ vs ∧ j < σ.length then some none else σ[j]? := wipe_get (w := wipe σ) rfl (fun _ _ => rfl) vs
theorem wipeE_at (ρ : Env) (vs : List Nat) : (wipeE ρ vs).length = ρ.length ∧ ∀ j, (wipeE ρ vs)[j]? = if j ∈ vs ∧ j < ρ.length then some none else ρ[j]? := wipe_get (w := wipeE ρ) rfl (fun _ _ => rfl) vs
theorem Rσ.wipe {c : Fc} {z : Zw} {σ : L2.St} {ρ : Env} (r : Rσ c z σ ρ) (vs : List Nat) : Rσ c z (wipe σ vs) (wipeE ρ vs) := by
  refine ⟨by rw [(wipe_at σ vs).1, (wipeE_at ρ vs).1]; exact r.len, fun i d e => ?_, r.le⟩
  rw [(wipeE_at ρ vs).2] at e
  by_cases h : i ∈ vs ∧ i < ρ.length
  · rw [if_pos h] at e; cases e
  · rw [if_neg h] at e
    obtain ⟨v, h1, h2⟩ := r.at_ i d e
    refine ⟨v, ?_, h2⟩
    rw [(wipe_at σ vs).2, if_neg (fun q => h ⟨q.1, by rw [← r.len]; exact q.2⟩)]
    exact h1
theorem Only.wipe {is vs : List Nat} {σ σ2 : L2.St} (o : Only is (wipe σ vs) σ2) (h : ∀ i ∈ is, i ∈ vs) : L2.wipe σ2 vs = L2.wipe σ vs := by
  refine List.ext_getElem? fun j => ?_
  have hl : σ2.length = σ.length := o.1.trans (wipe_at σ vs).1
  rw [(wipe_at σ2 vs).2, (wipe_at σ vs).2, hl]
  by_cases hj : j ∈ vs ∧ j < σ.length
  · rw [if_pos hj, if_pos hj]
  · rw [if_neg hj, if_neg hj]
    by_cases hv : j ∈ vs
    · have : ¬ j < σ.length := fun q => hj ⟨hv, q⟩
      rw [List.getElem?_eq_none (by omega), List.getElem?_eq_none (by omega)]
    · have := o.2 j (fun q => hv (h j q))
      rw [this, (wipe_at σ vs).2, if_neg hj]
open Classical in
noncomputable def lcF (chk : Store → Prop) (g : MG) (t : MT) (e : ME) : List D → List D → Env → Store → Res (List D)
  | [], acc, _, st => if chk st then .ok acc st else .no
  | d :: ds, acc, ρ, st => if chk st then match g d ρ with
      | none => .no
      | some ρ' => match t ρ' st with
        | .ok true st' => match e ρ' st' with
          | .ok y st'' => if Sz (acc.length + 1) then lcF chk g t e ds (acc ++ [y]) ρ st'' else .no
          | _ => .no
        | .ok false st' => lcF chk g t e ds acc ρ st'
        | _ => .no
    else .no
noncomputable def mLc (own : List Nat) (it : MI) (g : MG) (t : MT) (e : ME) : ME := fun ρ st => (it ρ st).bind fun I st => match lcF I.chk g t e I.ds [] (wipeE ρ own) st with
  | .ok acc st' => .ok (.lst acc) st'
  | _ => .no
/-- no test -/
def tYesM : MT := fun _ st => .ok true st
abbrev W0 : WX := fun _ _ _ _ => False
section
variable {X : Cx} {c : Fc} {T : List (Addr × Str)} {W : WX} {a b d : PySem.Expr} {ma mb md : ME} {pos : Pos} {m n : MS} {mt : MT} {is : List Nat}
theorem p_yes : PTs X [] (LT c T W tYesM) := ⟨fun pins s σ H Q I ⟨z, ρ, st, w, r, q⟩ => pts_nil.run pins s σ H Q I (q z H true (Le.refl z) w rfl)⟩
theorem p_if {t : PySem.Expr} (h : PT X t (LT c T W mt)) : PTs X [t] (LT c T W mt) := pts_one h
theorem lc_ok {own : List Nat} {mi : MI} {g : MG} {me : ME} {σ : L2.St} {H : Hp} {Q : VK} (hio : ∀ i ∈ is, i ∈ own) (q : LE c T W (mLc own mi g mt me) σ H Q) :
    tLc (LI c T W mi) (LG c T is g) (LT c T W0 mt) (LE c T W0 me) own σ H Q := by
  obtain ⟨z, ρ, st, w, r, q⟩ := q
  refine ⟨z, ρ, st, w, r, (Pst.bnd q).imp fun J H1 ⟨z1, st1, it, l1, w1, tl, q1⟩ => fun dp hdp => ?_⟩
  have r1 := (r.mono l1).wipe own
  have fD : z1.F dp = none := by
    cases e : z1.F dp with
    | none => rfl
    | some o =>
      have := (w1.fr _ _ e).1
      rw [hdp] at this
      cases this
  have nT : ∀ p ∈ T, p.1 ≠ dp := w1.neT hdp
  -- what the ghost has of the list that grows
  let zF : Zw → List V → Zw := fun z' vs => ⟨z'.G, z'.μ, upd z1.F dp (.lst vs)⟩
  let Wn : List D → Hp → Prop := fun ds H => ∃ z' st' acc vs, Lg z1 z' ∧ Wf c.toCc T (zF z' vs) st' H ∧ Rps c.toCc z' vs acc ∧ z'.F = upd z1.F dp (.lst vs) ∧
    ∃ fin st2, lcF it.chk g mt me ds acc (wipeE ρ own) st' = .ok fin st2 ∧ ∀ z3 H3 v, Le z1 z3 → Wf c.toCc T z3 st2 H3 → Rp c.toCc z3 v (.lst fin) → Q v H3
  have hend : ∃ fin st2, lcF it.chk g mt me it.ds [] (wipeE ρ own) st1 = .ok fin st2 ∧ ∀ z3 H3 v, Le z1 z3 → Wf c.toCc T z3 st2 H3 → Rp c.toCc z3 v (.lst fin) → Q v H3 := by
    split at q1
    · rename_i fin st2 e
      exact ⟨fin, st2, e, q1⟩
    · exact q1.elim
  refine ⟨fun i k H => k = it.ds.length - i ∧ i ≤ it.ds.length ∧ Wn (it.ds.drop i) H, ⟨_, rfl, Nat.zero_le _, ⟨z1.G, z1.μ, upd z1.F dp (.lst [])⟩, st1, [], [], ⟨fun _ _ h => h, [], (List.append_nil _).symm⟩, ?_, .nil, rfl, hend⟩, ?_⟩
  · refine (w1.more hdp).withF fun a o e => ?_
    by_cases ha : a = dp
    · subst ha
      rw [upd_same] at e ⊢
      cases e
      exact ⟨rfl, w1.noG hdp, w1.notin hdp, nT, _, rfl⟩
    · rw [upd_ne ha] at e ⊢
      exact w1.fr a o e
  rintro i k H2 ⟨rfl, hle, z2, st2, acc, vs, l2, w2, rv, eF, fin, st3, ef, q3⟩
  have ez : zF z2 vs = z2 := by
    show (⟨z2.G, z2.μ, upd z1.F dp (.lst vs)⟩ : Zw) = z2
    rw [← eF]
  rw [ez] at w2
  cases e : it.ds.drop i with
  | nil =>
    rw [e] at ef
    unfold lcF at ef
    split at ef
    · rename_i hk
      cases ef
      refine .inl ⟨(tl i z2 st2 H2 l2 w2 hk).2 (Nat.le_antisymm (List.drop_eq_nil_iff.mp e) hle), ?_⟩
      obtain ⟨hH, hG0, hμ, hT, _⟩ := w2.fr dp (.lst vs) (by rw [eF, upd_same])
      have hG : z1.G dp = none := w1.noG hdp
      have hG2 : z2.G dp = none ∨ z2.G dp = some (.lst vs) := by
        cases h : z2.G dp with
        | none => exact .inl rfl
        | some o =>
          have := w2.sub _ _ h
          rw [hH] at this
          exact .inr this.symm
      have lz : Le z1 ⟨upd z2.G dp (.lst vs), z2.μ, z1.F⟩ := ⟨fun a o h => by
        show upd z2.G dp (.lst vs) a = _
        rw [upd_ne (ne_of_none h hG)]
        exact l2.g _ _ h, l2.m, rfl⟩
      have lz2 : Le z2 ⟨upd z2.G dp (.lst vs), z2.μ, z2.F⟩ := ⟨fun a o h => by
        show upd z2.G dp (.lst vs) a = _
        by_cases ha : a = dp
        · subst ha
          rw [upd_same]
          rcases hG2 with x | x
          · rw [x] at h; cases h
          · rw [x] at h; exact h
        · rw [upd_ne ha]; exact h, ⟨[], (List.append_nil _).symm⟩, rfl⟩
      refine q3 ⟨upd z2.G dp (.lst vs), z2.μ, z1.F⟩ H2 (.ref dp) lz ⟨fun a o h => ?_, w2.len, w2.nd, fun n a o h1 h2 => ?_, w2.tab, fun p hp => ⟨?_, (w2.noT p hp).2⟩, fun a o h => ?_⟩ (.lst (vs := vs) upd_same (RpsF (F' := z1.F) (rv.mono lz2)))
      · have h' : upd z2.G dp (.lst vs) a = some o := h
        by_cases ha : a = dp
        · subst ha
          rw [upd_same] at h'
          rw [← h']; exact hH
        · rw [upd_ne ha] at h'
          exact w2.sub _ _ h'
      · obtain ⟨k1, k2⟩ := w2.obj n a o h1 h2
        have ne : a ≠ dp := fun h => hμ (h ▸ List.mem_of_getElem? h1)
        exact ⟨by show upd z2.G dp (.lst vs) a = none; rw [upd_ne ne]; exact k1, RpOF (F' := z1.F) (k2.mono lz2 rfl)⟩
      · show upd z2.G dp (.lst vs) p.1 = none
        rw [upd_ne (hT p hp)]
        exact (w2.noT p hp).1
      · have h' : z1.F a = some o := h
        have nea := ne_of_none h' fD
        obtain ⟨k1, k2, k3⟩ := w2.fr a o (by rw [eF, upd_ne nea]; exact h')
        exact ⟨k1, by show upd z2.G dp (.lst vs) a = none; rw [upd_ne nea]; exact k2, k3⟩
    · cases ef
  | cons dd ds =>
    rw [e] at ef
    unfold lcF at ef
    split at ef
    · rename_i hk
      have hlt : i < it.ds.length := by
        rcases Nat.lt_or_ge i it.ds.length with h | h
        · exact h
        · rw [List.drop_eq_nil_iff.mpr h] at e; cases e
      have hget : it.ds[i]? = some dd := by
        have := congrArg List.head? e
        rw [List.head?_drop] at this
        exact this
      have hdrop : it.ds.drop (i + 1) = ds := by
        have := congrArg List.tail e
        rw [List.tail_drop] at this
        exact this
      obtain ⟨go, yl⟩ := (tl i z2 st2 H2 l2 w2 hk).1 dd hget
      refine .inr ⟨go, fun H' => Wn ds H', fun H' h => ⟨it.ds.length - (i + 1), by omega, rfl, hlt, by rw [hdrop]; exact h⟩, fun x H3 y => ?_⟩
      obtain ⟨z3, l3, w3, rx⟩ := yl x H3 y
      split at ef
      · cases ef
      · rename_i ρ3 eg
        have rw2 : Rσ c z2 (wipe σ own) (wipeE ρ own) := ⟨r1.len, fun j d e => let ⟨v, h1, h2⟩ := r1.at_ j d e; ⟨v, h1, by
          cases h2 with
          | d h => exact .d (h.monoG l2)
          | clo h => exact .clo h
          | exc h => exact .exc h⟩, r1.le.trans l2⟩
        refine ⟨z3, wipeE ρ own, st2, dd, ρ3, w3, rw2.mono l3, rx, eg, fun σ3 r3 o3 => ⟨o3.wipe hio, z3, ρ3, st2, w3, r3, ?_⟩⟩
        have keepF : ∀ {z' : Zw} {v : List V}, Le z3 z' → z'.F = upd z1.F dp (.lst vs) := fun l => (l.f.trans l3.f).trans eF
        split at ef
        · rename_i st4 et
          rw [et]
          intro z4 H4 k4 l4 w4 rk
          cases rk
          refine iteT ⟨z4, ρ3, st4, w4, r3.mono l4, ?_⟩
          split at ef
          · rename_i y5 st5 ee
            rw [ee]
            split at ef
            · rename_i hz
              intro z5 H5 v5 l5 w5 r5
              have eF5 : z5.F = upd z1.F dp (.lst vs) := ((l5.f.trans l4.f).trans l3.f).trans eF
              obtain ⟨hH, hG0, hμ, hT, _⟩ := w5.fr dp (.lst vs) (by rw [eF5, upd_same])
              have hl : vs.length + 1 ≤ sizeLine := by rw [rv.len]; exact sz_of hz
              refine ⟨vs, hH, by omega, ⟨z5.G, z5.μ, upd z1.F dp (.lst (vs ++ [v5]))⟩, st5, acc ++ [y5], vs ++ [v5], (show Lg z1 _ from l2.trans ⟨(l3.trans (l4.trans l5)).g, (l3.trans (l4.trans l5)).m⟩), ?_, ?_, rfl, fin, st3, ef, q3⟩
              · refine ⟨fun a o h => ?_, w5.len, w5.nd, fun n a o h1 h2 => ?_, ?_, w5.noT, fun a o h => ?_⟩
                · have h' : z5.G a = some o := h
                  by_cases ha : a = dp
                  · subst ha
                    rw [hG0] at h'
                    cases h'
                  · rw [upd_ne ha]
                    exact w5.sub _ _ h'
                · obtain ⟨k1, k2⟩ := w5.obj n a o h1 h2
                  have ne : a ≠ dp := fun h => hμ (h ▸ List.mem_of_getElem? h1)
                  exact ⟨k1, RpOF (z := z5) (F' := upd z1.F dp (.lst (vs ++ [v5]))) (k2.mono (Le.refl z5) (upd_ne ne))⟩
                · exact tabs_put w5.tab hH
                · by_cases ha : a = dp
                  · subst ha
                    have h' : upd z1.F a (.lst (vs ++ [v5])) a = some o := h
                    rw [upd_same] at h' ⊢
                    cases h'
                    exact ⟨rfl, hG0, hμ, hT, _, rfl⟩
                  · have h' : upd z1.F dp (.lst (vs ++ [v5])) a = some o := h
                    rw [upd_ne ha] at h' ⊢
                    refine w5.fr a o ?_
                    rw [eF5, upd_ne ha]
                    exact h'
              · exact RpsF (F' := upd z1.F dp (.lst (vs ++ [v5]))) (((rv.mono l3).mono l4).mono l5 |>.app (.cons r5 .nil))
            · cases ef
          · cases ef
        · rename_i st4 et
          rw [et]
          intro z4 H4 k4 l4 w4 rk
          cases rk
          refine iteF ⟨z4, st4, acc, vs, l2.trans (l3.trans l4).lg, ?_, ((rv.mono l3).mono l4), (l4.f.trans l3.f).trans eF, fin, st3, ef, q3⟩
          have : zF z4 vs = z4 := by
            show (⟨z4.G, z4.μ, upd z1.F dp (.lst vs)⟩ : Zw) = z4
            rw [← (l4.f.trans l3.f).trans eF]
          rw [this]
          exact w4
        · cases ef
    · cases ef
end
end Bw
set_option linter.all false
set_option autoImplicit false
set_option maxRecDepth 100000
/-! What is walked. -/
namespace Bw
open PySem PySem.Spec PyProof.Rows L2
section
variable {c : Cc} {T : List (Addr × Str)} {z : Zw} {K : PySem.W.Frag}
abbrev still (ds : List D) : Itm := ⟨ds, fun _ => True⟩
theorem tells_tup (hK : K = c.K) {a : Addr} {vs : List V} {ds : List D} (s1 : SqT c.K z.G a vs) (rs : Rps c z vs ds) : Tells c T z (Itt K a) (still ds) := by
  subst hK
  intro i z1 st1 H1 l w1 _
  have sq : SqT c.K H1 a vs := w1.tup (seqT_mono l.g s1)
  refine ⟨fun d hd => ?_, fun hl => ⟨vs, sq, by rw [rs.len]; exact Nat.le_of_eq hl⟩⟩
  obtain ⟨v, hv, rv⟩ := rs.get hd
  refine ⟨⟨vs, v, sq, hv⟩, fun x H2 ⟨e, y⟩ => ?_⟩
  subst e
  have := y vs sq
  rw [hv] at this
  cases this
  exact ⟨z1, Le.refl z1, w1, rv.monoG l⟩
theorem tells_lst (hK : K = c.K) {a : Addr} {ds : List D} {chk : Store → Prop} (hs : ∀ z1 st1 H1, Lg z z1 → Wf c T z1 st1 H1 → chk st1 → ∃ vs, SqL c.K H1 a vs ∧ Rps c z1 vs ds) : Tells c T z (Itl K a) ⟨ds, chk⟩ := by
  subst hK
  intro i z1 st1 H1 l w1 hk
  obtain ⟨vs, sq, rs⟩ := hs z1 st1 H1 l w1 hk
  refine ⟨fun d hd => ?_, fun hl => ⟨vs, sq, by rw [rs.len]; exact Nat.le_of_eq hl⟩⟩
  obtain ⟨v, hv, rv⟩ := rs.get hd
  refine ⟨⟨vs, v, sq, hv⟩, fun x H2 ⟨e, y⟩ => ?_⟩
  subst e
  have := y vs sq
  rw [hv] at this
  cases this
  exact ⟨z1, Le.refl z1, w1, rv⟩
theorem Lg.at {z z' : Zw} (h : Lg z z') {n : Nat} {a : Addr} (e : z.μ[n]? = some a) : z'.μ[n]? = some a := h.le.at e
/-- the list of a walk: given as it stands -/
theorem lstAt {d : D} {v : V} {ds : List D} (r : Rp c z v (.lst ds)) : ∃ a vs, v = .ref a ∧ ∀ z1 st1 H1, Lg z z1 → Wf c T z1 st1 H1 → SqL c.K H1 a vs ∧ Rps c z1 vs ds := by
  cases r with
  | lst s1 rs => exact ⟨_, _, rfl, fun z1 st1 H1 l w1 => ⟨.inl (.inl (w1.sub _ _ (l.g _ _ s1))), rs.monoG l⟩⟩
theorem ints_get {ns : List Int} {i : Nat} : (ns.map V.int)[i]? = (ns[i]?).map V.int := by rw [List.getElem?_map]
theorem tells_str (s : List Nat) : Tells c T z (Its (strOf s)) (still (s.map fun a => .str [a])) := by
  intro i z1 st1 H1 l w1 _
  refine ⟨fun d hd => ?_, fun hl => ?_⟩
  · have hd' : (s.map fun a => D.str [a])[i]? = some d := hd
    rw [List.getElem?_map] at hd'
    cases e : s[i]? with
    | none => rw [e] at hd'; cases hd'
    | some a =>
      rw [e] at hd'
      cases hd'
      refine ⟨?_, fun x H2 ⟨e2, cc, h1, h2⟩ => ?_⟩
      · show i < (strOf s).cps.size
        have := (List.getElem?_eq_some_iff.mp e).1
        simpa using this
      · subst e2
        subst h2
        have h1' : s[i]? = some cc := by simpa using h1
        rw [e] at h1'
        cases h1'
        exact ⟨z1, Le.refl z1, w1, .str [a]⟩
  · show (strOf s).cps.size ≤ i
    have hl' : (s.map fun a => D.str [a]).length ≤ i := Nat.le_of_eq hl
    simpa using hl'
def rng (lo k : Int) (n : Nat) : List D := (List.range n).map fun i => .int (lo + (i : Nat) * k)
theorem rng_get {lo k : Int} {n i : Nat} {d : D} (h : (rng lo k n)[i]? = some d) : i < n ∧ d = .int (lo + (i : Nat) * k) := by
  unfold rng at h
  rw [List.getElem?_map] at h
  by_cases hi : i < n
  · rw [List.getElem?_range hi] at h
    cases h
    exact ⟨hi, rfl⟩
  · rw [List.getElem?_eq_none (by simpa using hi)] at h
    cases h
theorem tells_rng {lo : Int} {n : Nat} : Tells c T z (Itr lo n) (still (rng lo 1 n)) := by
  intro i z1 st1 H1 l w1 _
  refine ⟨fun d hd => ?_, fun hl => ?_⟩
  · obtain ⟨h1, rfl⟩ := rng_get hd
    refine ⟨h1, fun x H2 ⟨e, y⟩ => ?_⟩
    subst e y
    rw [Int.mul_one]
    exact ⟨z1, Le.refl z1, w1, .int _⟩
  · have hl' : (rng lo 1 n).length ≤ i := Nat.le_of_eq hl
    unfold rng at hl'
    show n ≤ i
    simpa using hl'
theorem tells_rngC {lo k : Int} {n : Nat} : Tells c T z (Itc lo k n) (still (rng lo k n)) := by
  intro i z1 st1 H1 l w1 _
  refine ⟨fun d hd => ?_, fun hl => ?_⟩
  · obtain ⟨h1, rfl⟩ := rng_get hd
    refine ⟨h1, fun x H2 ⟨e, y⟩ => ?_⟩
    subst e y
    exact ⟨z1, Le.refl z1, w1, .int _⟩
  · have hl' : (rng lo k n).length ≤ i := Nat.le_of_eq hl
    unfold rng at hl'
    show n ≤ i
    simpa using hl'
end
/-! ### values -/
def itemsD (st : Store) : D → Option Itm
  | .tup ds => some (still ds)
  | .lst ds => some (still ds)
  | .scr ns => some (still (ns.map .int))
  | .str s => some (still (s.map fun a => .str [a]))
  | .ref n => match st[n]? with
    | some (.lst ds) => some ⟨ds, fun st => st[n]? = some (.lst ds)⟩
    | _ => none
  | _ => none
def iVal (a : ME) : MI := fun ρ st => (a ρ st).bind fun d st => ofO (itemsD st d) st
theorem imp_PI {X : Cx} {tg e : PySem.Expr} {t t' : TI} (h : PI X tg e t) (k : ∀ σ H R, t' σ H R → t σ H R) : PI X tg e t' := ⟨fun pins s σ H R I q => h.run pins s σ H R I (k _ _ _ q)⟩
/-- a reading whose first value decides -/
theorem lst_walk {c : Cc} {T : List (Addr × Str)} {z : Zw} {st : Store} {H : Hp} {v : V} {d : D} {it : Itm} {n : Unit} (w : Wf c T z st H) (r : Rp c z v d) (e : itemsD st d = some it) (h1 : ∀ ds, d ≠ .tup ds) (h2 : ∀ s, d ≠ .str s) :
    ∃ a vs, v = .ref a ∧ SqL c.K H a vs ∧ ∀ z1 st1 H1, Lg z z1 → Wf c T z1 st1 H1 → it.chk st1 → ∃ vs, SqL c.K H1 a vs ∧ Rps c z1 vs it.ds := by
  cases d with
  | tup ds => exact absurd rfl (h1 ds)
  | str s => exact absurd rfl (h2 s)
  | lst ds =>
    cases e
    cases r with
    | lst s1 rs => exact ⟨_, _, rfl, .inl (.inl (w.sub _ _ s1)), fun z1 st1 H1 l w1 _ => ⟨_, .inl (.inl (w1.sub _ _ (l.g _ _ s1))), rs.monoG l⟩⟩
  | scr ns =>
    cases e
    cases r with
    | scr s1 => exact ⟨_, _, rfl, w.seq s1, fun z1 st1 H1 l w1 _ => ⟨_, w1.seq (seqL_mono l.g s1), Rps.ints ns⟩⟩
  | ref n =>
    have e' : (match st[n]? with
      | some (.lst ds) => some (⟨ds, fun st => st[n]? = some (.lst ds)⟩ : Itm)
      | _ => none) = some it := e
    split at e'
    · rename_i ds hk
      cases e'
      cases r with
      | ref e1 =>
        obtain ⟨_, vs, k1, k2⟩ := w.obj _ _ _ e1 hk
        refine ⟨_, vs, rfl, .inl (.inl k1), fun z1 st1 H1 l w1 hc => ?_⟩
        obtain ⟨_, vs', k1', k2'⟩ := w1.obj _ _ _ (l.at e1) hc
        exact ⟨vs', .inl (.inl k1'), k2'⟩
    · cases e'
  | _ => cases e
section
variable {X : Cx} {c : Fc} {T : List (Addr × Str)} {W : WX} {a b d : PySem.Expr} {ma mb md : ME} {mr : MA} {pos : Pos} {m n : MS} {mt : MT} {is : List Nat} {tg : PySem.Expr}
theorem i_val (hK : X.K = c.K) (ha : PD X c T W a ma) : PI X tg a (LI c T W (iVal ma)) := by
  refine ⟨fun pins s σ H R I ⟨z, ρ, st, w, r, q⟩ => ?_⟩
  unfold iVal at q
  cases e : ma ρ st with
  | no => rw [e] at q; exact q.elim
  | er x st' => rw [e] at q; exact (pi_list ha).run pins s σ H R I ⟨z, ρ, st, w, r, by rw [e]; exact q⟩
  | ok dd st' =>
    rw [e] at q
    simp only [bind_ok] at q
    obtain ⟨it, ei, q⟩ := Pst.ofO q
    by_cases ht : ∃ ds, dd = .tup ds
    · obtain ⟨ds, rfl⟩ := ht
      cases ei
      refine (pi_tup ha).run pins s σ H R I ⟨z, ρ, st, w, r, ?_⟩
      rw [e]
      intro z' H' v l w' rv
      cases rv with
      | tup s1 rs => exact ⟨_, rfl, ⟨_, by rw [hK]; exact w'.tup s1⟩, q z' H' _ l w' (tells_tup hK s1 rs)⟩
    · by_cases hs : ∃ x, dd = .str x
      · obtain ⟨x, rfl⟩ := hs
        cases ei
        refine (pi_str ha).run pins s σ H R I ⟨z, ρ, st, w, r, ?_⟩
        rw [e]
        intro z' H' v l w' rv
        cases rv with
        | str => exact ⟨_, rfl, q z' H' _ l w' (tells_str x)⟩
      · refine (pi_list ha).run pins s σ H R I ⟨z, ρ, st, w, r, ?_⟩
        rw [e]
        intro z' H' v l w' rv
        obtain ⟨p, vs, rfl, sq, tl⟩ := lst_walk (n := ()) w' rv ei (fun ds h => ht ⟨ds, h⟩) (fun x h => hs ⟨x, h⟩)
        exact ⟨p, rfl, ⟨vs, by rw [hK]; exact sq⟩, q z' H' _ l w' (tells_lst hK tl)⟩
/-! ### ranges -/
def Rg (i : Int) : Bool := decide (-4611686018427387904 ≤ i) && decide (i < 4611686018427387904)
theorem rg_of {i : Int} (h : Rg i = true) : -(2 ^ 62) ≤ i ∧ i < 2 ^ 62 := by
  unfold Rg at h
  simp only [Bool.and_eq_true, decide_eq_true_eq] at h
  omega
def iRng1 (a : MA) : MI := fun ρ st => (a ρ st).bind fun ds st => match ds with
  | [.int j] => if Rg j then .ok (still (rng 0 1 j.toNat)) st else .no
  | _ => .no
def iRng2 (a : MA) : MI := fun ρ st => (a ρ st).bind fun ds st => match ds with
  | [.int i, .int j] => if Rg i && Rg j then .ok (still (rng i 1 (j - i).toNat)) st else .no
  | _ => .no
def iRng3 (a : MA) : MI := fun ρ st => (a ρ st).bind fun ds st => match ds with
  | [.int i, .int j, .int k] => if Rg i && Rg j && decide (k = -1) then .ok (still (rng i (-1) (i - j).toNat)) st else .no
  | _ => .no
theorem i_rng1 (hm : X.mg "range" = none) {p : Pos} (ha : PA X [a] (LA c T W mr)) (hg : Gl X "range" := by rfl) (hs : starEach [a] X.env = [(false, eval a X.env)] := by rfl) : PI X tg (.Call (.Name "range" p) [a] [] pos) (LI c T W (Bw.iRng1 mr)) :=
  imp_PI (pi_range1 hg hm ha hs) fun σ H R ⟨z, ρ, st, w, r, q⟩ => ⟨z, ρ, st, w, r, (Pst.bnd q).imp fun xs H1 ⟨z1, st1, ds, l1, w1, rs, q1⟩ => by
    split at q1
    · split at q1
      · rename_i hr
        obtain ⟨h1, h2⟩ := rg_of hr
        cases rs with
        | cons ra rr =>
          cases rr
          cases ra
          exact ⟨_, rfl, h1, h2, q1 z1 H1 _ (Le.refl z1) w1 tells_rng⟩
      · exact q1.elim
    · exact q1.elim⟩
theorem i_rng2 (hm : X.mg "range" = none) {p : Pos} (ha : PA X [a, b] (LA c T W mr)) (hg : Gl X "range" := by rfl) (hs : starEach [a, b] X.env = [(false, eval a X.env), (false, eval b X.env)] := by rfl) (hs2 : starEach [b] X.env = [(false, eval b X.env)] := by rfl) : PI X tg (.Call (.Name "range" p) [a, b] [] pos) (LI c T W (Bw.iRng2 mr)) :=
  imp_PI (pi_range2 hg hm ha hs hs2) fun σ H R ⟨z, ρ, st, w, r, q⟩ => ⟨z, ρ, st, w, r, (Pst.bnd q).imp fun xs H1 ⟨z1, st1, ds, l1, w1, rs, q1⟩ => by
    split at q1
    · split at q1
      · rename_i hr
        rw [Bool.and_eq_true] at hr
        obtain ⟨h1, h2⟩ := rg_of hr.1
        obtain ⟨h3, h4⟩ := rg_of hr.2
        cases rs with
        | cons ra rr =>
          cases rr with
          | cons rb rr =>
            cases rr
            cases ra
            cases rb
            exact ⟨_, _, rfl, ⟨h1, h2, h3, h4⟩, q1 z1 H1 _ (Le.refl z1) w1 tells_rng⟩
      · exact q1.elim
    · exact q1.elim⟩
theorem i_rng3 (hm : X.mg "range" = none) {p : Pos} (ha : PA X [a, b, d] (LA c T W mr)) (hg : Gl X "range" := by rfl) (hs : starEach [a, b, d] X.env = (false, eval a X.env) :: starEach [b, d] X.env := by rfl) (hpl : (backTo pos (starEach [b, d] X.env)).any (·.1) = false := by rfl) :
    PI X tg (.Call (.Name "range" p) [a, b, d] [] pos) (LI c T W (Bw.iRng3 mr)) :=
  imp_PI (pi_range3 hg hm ha hs hpl) fun σ H R ⟨z, ρ, st, w, r, q⟩ => ⟨z, ρ, st, w, r, (Pst.bnd q).imp fun xs H1 ⟨z1, st1, ds, l1, w1, rs, q1⟩ => by
    split at q1
    · split at q1
      · rename_i hr
        rw [Bool.and_eq_true, Bool.and_eq_true, decide_eq_true_eq] at hr
        obtain ⟨⟨h1, h2⟩, h3⟩ := hr
        subst h3
        obtain ⟨h1, h2'⟩ := rg_of h1
        obtain ⟨h3, h4⟩ := rg_of h2
        cases rs with
        | cons ra rr =>
          cases rr with
          | cons rb rr =>
            cases rr with
            | cons rc rr =>
              cases rr
              cases ra
              cases rb
              cases rc
              exact ⟨_, _, _, _, rfl, RgC.neg h1 h2' h3 h4, q1 z1 H1 _ (Le.refl z1) w1 tells_rngC⟩
      · exact q1.elim
    · exact q1.elim⟩
/-! ### comprehensions -/
theorem e_lc {elt iter : PySem.Expr} {ifs : List PySem.Expr} {scope : Scope} {own : List (Str × Nat)} {mi : MI} {g : MG} {me : ME} (hc : X.calm = true) (hN : X.N.Nodup) (hi : PI X tg iter (LI c T W mi)) (ok : BlkOk X.N X.env.scope scope own)
    (hg : ∀ (s : Shared) (H : Hp) (C : Addr) (cl : List (Str × Addr)) (fp : List Addr), PG (X.blk s H scope (compEnvC scope cl C X.env) fp) tg (LG c T is g)) (ht : ∀ (s : Shared) (H : Hp) (C : Addr) (cl : List (Str × Addr)) (fp : List Addr), PTs (X.blk s H scope (compEnvC scope cl C X.env) fp) ifs (LT c T W0 mt))
    (he : ∀ (s : Shared) (H : Hp) (C : Addr) (cl : List (Str × Addr)) (fp : List Addr), PD (X.blk s H scope (compEnvC scope cl C X.env) fp) c T W0 elt me) (hio : ∀ i ∈ is, i ∈ own.map (·.2) := by decide) (hs : ∀ x, foldedSetIterable iter X.env x = pure x := by intro _; rfl) :
    PD X c T W (.ListComp elt [⟨tg, iter, ifs, 0⟩] scope pos) (mLc (own.map (·.2)) mi g mt me) :=
  imp_PE (pe_lc hc hN hi ok hg ht he hs) fun σ H Q q => lc_ok hio q
theorem s_setLc (i : Nat) {y : Str} {py spos : Pos} {elt iter : PySem.Expr} {ifs : List PySem.Expr} {scope : Scope} {own : List (Str × Nat)} {mi : MI} {g : MG} {me : ME} (hc : X.calm = true) (hN : X.N.Nodup) (hsw : swapsWith (.ListComp elt [⟨tg, iter, ifs, 0⟩] scope pos) (some (.Name y py)) spos.line X.env = pure true)
    (hi : PI X tg iter (LI c T W mi)) (ok : BlkOk X.N X.env.scope scope own)
    (hg : ∀ (s : Shared) (H : Hp) (C : Addr) (cl : List (Str × Addr)) (fp : List Addr), PG (X.blk s H scope (compEnvC scope cl C X.env) fp) tg (LG c T is g)) (ht : ∀ (s : Shared) (H : Hp) (C : Addr) (cl : List (Str × Addr)) (fp : List Addr), PTs (X.blk s H scope (compEnvC scope cl C X.env) fp) ifs (LT c T W0 mt))
    (he : ∀ (s : Shared) (H : Hp) (C : Addr) (cl : List (Str × Addr)) (fp : List Addr), PD (X.blk s H scope (compEnvC scope cl C X.env) fp) c T W0 elt me) (hy : X.N[i]? = some y := by rfl) (hyl : X.env.scope.names.lookup y = some .local := by rfl)
    (hio : ∀ i ∈ is, i ∈ own.map (·.2) := by decide) (hs : ∀ x, foldedSetIterable iter X.env x = pure x := by intro _; rfl) :
    SD X c T W (.Assign [.Name y py] (.ListComp elt [⟨tg, iter, ifs, 0⟩] scope pos) spos) (sAsg (mLc (own.map (·.2)) mi g mt me) (gN i)) :=
  imp_PS (ps_setLc hc hN hy hyl hsw hi ok hg ht he hs) fun D σ H ⟨z, ρ, st, w, r, q⟩ => lc_ok hio ⟨z, ρ, st, w, r, (PstS.bnd q r).imp fun x H1 ⟨z1, st1, dx, l1, w1, rx, q1⟩ => q1 z1 H1 _ (Le.refl z1) w1 ((r.mono l1).set (.d rx) i)⟩
end
end Bw
set_option linter.all false
set_option autoImplicit false
set_option maxRecDepth 100000
/-! enumerate, zip, reversed. -/
namespace PySem
open Sem (wp)
set_option maxHeartbeats 1000000 in
/-- enumerate(v) makes its two cells, v told by what begins -/
theorem bw_enum_new {v : Value} {o : Obj} {H : Heap → Prop} (B : Begins v o H) :
    Meets (Builtin.«enumerate.__new__» ⟨[.type "enumerate", v], []⟩) (fun _ R s => H s.heap ∧
      R (.ok (.ret (.ref (s.heap.push o).objs.size))) { s with heap := (s.heap.push o).push { cls := .type "enumerate", data := .fields #[.none, .bool false, .ref s.heap.objs.size, rawInt 0, .none, .none] } }) :=
  .of_wp fun prog w A R s ⟨hH, hR⟩ => by
    obtain ⟨hp, gg, dd, tk, os⟩ := s
    have subs := sub_enumerate
    have begun : ∀ {A' : Around} {E' : Value → Shared → Prop} {Q' : Value → Shared → Prop}, Q' (.ref hp.objs.size) ⟨hp.push o, gg, dd, tk, os⟩ → wpAny (model prog w) A' (pyIter v) Q' E' ⟨hp, gg, dd, tk, os⟩ :=
      fun q => B.iter prog w _ _ ⟨hp, gg, dd, tk, os⟩ _ hH q
    wp_walk using begun
    refine wpAny_stack_any fun st => wpAny_pure ?_
    split
    · rename_i c _ _ _ _ _
      cases (c == Value.type "enumerate")
      · wp_walk using begun
        exact ⟨_, rfl, hR⟩
      · wp_walk using begun
        exact ⟨_, rfl, hR⟩
    · wp_walk using begun
      exact ⟨_, rfl, hR⟩
section
variable {prog : Program} {w : World} {A : Around} {E : Value → Shared → Prop} {s : Shared}
theorem bw_call_enum {v : Value} {o : Obj} {H : Heap → Prop} {Q : Value → Shared → Prop} (B : Begins v o H) (h1 : H s.heap)
    (hQ : ∀ h', IsEnum h' (s.heap.objs.size + 1) s.heap.objs.size 0 .none → h'.get? s.heap.objs.size = some o → (∀ b u, s.heap.get? b = some u → h'.get? b = some u) → Q (.ref (s.heap.objs.size + 1)) { s with heap := h' }) :
    wpAny (model prog w) A (call (.type "enumerate") [v]) Q E s := by
  refine callType_new F.called_enumerate (by decide) (F.typeCall_enumerate_1 _) (F.newCall_enumerate_1 _) (fun obj => F.args_object_init_2 obj _) F.entry_enumerate_new (bw_enum_new B) ⟨h1, ?_⟩
  have sz : (s.heap.push o).objs.size = s.heap.objs.size + 1 := Heap.size_push ..
  show _ ∧ _
  rw [sz]
  have en : IsEnum ((s.heap.push o).push { cls := .type "enumerate", data := .fields #[.none, .bool false, .ref s.heap.objs.size, rawInt 0, .none, .none] }) (s.heap.objs.size + 1) s.heap.objs.size 0 .none := by
    have x := Heap.get?_push_size (s.heap.push o) (o := { cls := .type "enumerate", data := .fields #[.none, .bool false, .ref s.heap.objs.size, rawInt 0, .none, .none] }) rfl
    rw [sz] at x
    exact x
  exact ⟨⟨_, en, rfl⟩, hQ _ en (Heap.get?_push_of_some _ (Heap.get?_push_size _ B.free)) fun b u e => Heap.get?_push_of_some _ (Heap.get?_push_of_some _ e)⟩
end
end PySem
namespace Bw
open PySem PySem.Spec PyProof.Rows L2
/-- numbered items, each in a new pair; f i: the i-th item -/
def Itn (n : Hp → Nat → Prop) (f : Hp → Nat → V → Prop) : It :=
  ⟨fun i H => ∃ x, f H i x, fun i H v H' => ∃ p x, v = .ref p ∧ H p = none ∧ H' = upd H p (.tup [.int (i : Nat), x]) ∧ f H i x, fun i H => n H i⟩
/-- enumerate's iterator over something drawn -/
theorem turn_numbered {P : Program} {w : World} {K : PySem.W.Frag} {elts : List PySem.Expr} {kk : Nat} {tpos : Pos} {e it : Addr} {nn : Hp → Nat → Prop} {f : Hp → Nat → V → Prop} {St : Nat → Heap → Prop}
    (hst : ∀ i h, St i h → ∃ o, h.get? it = some o ∧ ∀ v, o.data ≠ .cell v) (hk : ∀ i h h', St i h → (∀ o, h.get? it = some o → h'.get? it = some o) → St i h') (hne : e ≠ it)
    (itm : ∀ (X : Cx), X.prog = P → X.w = w → X.K = K → ∀ (i : Nat) (pins : List (Addr × Obj)) (s : Shared) (σ : L2.St) (H : Hp) (x : V), L2.Inv X pins σ H s → f H i x → ∀ (A : Around), A.handled = none → St i s.heap →
      ∃ (fp : List Addr) (n : Nat) (Pd : Nat → Value → Prop) (Sd : Nat → Heap → Prop), e ∉ fp ∧ i < n ∧ Draws P w A.in1 it fp n Pd Sd ∧ Sd i s.heap ∧ (∀ u, Pd i u → RelV x u) ∧ ∀ h', Sd (i + 1) h' → St (i + 1) h')
    (fin : ∀ (X : Cx), X.prog = P → X.w = w → X.K = K → ∀ (i : Nat) (pins : List (Addr × Obj)) (s : Shared) (σ : L2.St) (H : Hp), L2.Inv X pins σ H s → nn H i → ∀ (A : Around), A.handled = none → St i s.heap →
      ∃ (fp : List Addr) (Pd : Nat → Value → Prop) (Sd : Nat → Heap → Prop) (n : Nat), Draws P w A.in1 it fp n Pd Sd ∧ Sd n s.heap) :
    Turn P w K (.Tuple elts kk tpos) (Itn nn f) [e, it] e (fun i h => (∃ old, IsEnum h e it ((i : Nat) : Int) old) ∧ St i h) where
  mem := by simp
  obj := fun i h q b hb => by
    obtain ⟨⟨old, he⟩, hs⟩ := q
    have hb' : b = e ∨ b = it := by simpa using hb
    rcases hb' with rfl | rfl
    · exact ⟨_, he, fun v q => nomatch q⟩
    · exact hst i h hs
  keep := fun i h h' q k => ⟨let ⟨old, he⟩ := q.1; ⟨old, k e (by simp) _ he⟩, hk i h h' q.2 fun o x => k it (by simp) o x⟩
  item := by
    intro X hP hw hK hc i pins s σ H E I hf q hg
    subst hP hw hK
    obtain ⟨⟨old, he⟩, hs⟩ := q
    obtain ⟨x, hx⟩ := hg
    obtain ⟨fp, n, Pd, Sd, hef, hlt, Dr, sd, rel, nxt⟩ := itm X rfl rfl rfl i pins s σ H x I hx X.A (I.ok.hd hc) hs
    have hel : e < s.heap.objs.size := Heap.lt_size he
    have hil : it < s.heap.objs.size := by obtain ⟨o, z, _⟩ := hst i _ hs; exact Heap.lt_size z
    refine wpAny_pyNext_enum_itemD Dr he sd hlt hne hef fun u h' tk hPu ho sd' hT hsz hkp => ?_
    refine ⟨_, rfl, wpAny_letOwnedTupleGo_enum (s := { s with heap := h', toks := tk + 1 }) ho fun h'' he' sb => ?_⟩
    have hT2 : h''.get? s.heap.objs.size = some { cls := .type "tuple", data := .seq #[.int i tk, u] } := (sb.2 _ (Nat.ne_of_gt hel)).trans hT
    have new : ObjOk X.prog X.w (upd H s.heap.objs.size (.tup [.int (i : Nat), x])) h'' s.heap.objs.size (.tup [.int (i : Nat), x]) :=
      ⟨by show 2 ≤ sizeLine; decide, [.int i tk, u], .cons ⟨_, rfl⟩ (.cons (rel u hPu) .nil), ⟨_, hT2, rfl, _, rfl⟩⟩
    have I1 : L2.Inv X pins σ (upd H s.heap.objs.size (.tup [.int (i : Nat), x])) { s with heap := h'', toks := tk + 1 } :=
      I.turnedNew (ch := [e, it]) (fun b ob hb q => (sb.2 b (fun z => hb (by simp [z]))).trans (hkp b ob (fun z => hb (by simp [z])) (fun z => hb (by simp [z])) q)) hf (Nat.le_refl _) new
    refine ⟨.ref s.heap.objs.size, _, I1, rfl, ⟨_, x, rfl, I.hok.fresh (Nat.le_refl _), rfl, hx⟩, ⟨⟨u, ?_⟩, ?_⟩, fun b hb => ?_⟩
    · have e1 : ((i + 1 : Nat) : Int) = (i : Int) + 1 := by omega
      rw [e1]
      exact he'
    · exact hk _ _ _ (nxt h' sd') fun o z => (sb.2 it (Ne.symm hne)).trans z
    · have hb' : b < s.heap.objs.size := by
        have e' : b = e ∨ b = it := by simpa using hb
        rcases e' with z | z
        · rw [z]; exact hel
        · rw [z]; exact hil
      rw [upd_ne (Nat.ne_of_lt hb')]
      exact (hf b hb).1
  done := by
    intro X hP hw hK hc i pins s σ H E I hf q hg
    subst hP hw hK
    obtain ⟨⟨old, he⟩, hs⟩ := q
    obtain ⟨f0, f1, f2, f3, f4, f5⟩ := hf it (by simp)
    obtain ⟨fp, Pd, Sd, n, Dr, sd⟩ := fin X rfl rfl rfl i pins s σ H I hg X.A (I.ok.hd hc) hs
    exact wpAny_pyNext_enum_endD Dr he sd fun h' eb => ⟨rfl, I.turned (t' := s.toks) (fun b o hb q => eb b o hb q) f0 f1 f3 f4 f5⟩
  self := fun A i s Q E q h => let ⟨⟨_, he⟩, _⟩ := q; wpAny_pyIter_enum he h

def numb : Nat → List D → List D
  | _, [] => []
  | k, d :: ds => .tup [.int k, d] :: numb (k + 1) ds
theorem numb_len : ∀ (ds : List D) (k : Nat), (numb k ds).length = ds.length
  | [], _ => rfl
  | _ :: ds, k => by
    show (numb (k + 1) ds).length + 1 = _
    rw [numb_len ds] <;> rfl
theorem numb_get : ∀ (ds : List D) (k i : Nat), (numb k ds)[i]? = (ds[i]?).map fun d => .tup [.int ((k + i : Nat)), d]
  | [], _, _ => by simp [numb]
  | d :: ds, k, 0 => by simp [numb]
  | d :: ds, k, i + 1 => by
    show (numb (k + 1) ds)[i]? = (ds[i]?).map _
    rw [numb_get ds]
    have e : k + 1 + i = k + (i + 1) := by omega
    rw [e]
def numbI (it : Itm) : Itm := ⟨numb 0 it.ds, it.chk⟩
section
variable {c : Cc} {T : List (Addr × Str)} {z : Zw} {K : PySem.W.Frag}
theorem tells_num {it : Itm} {J : It} (h : ∀ (i : Nat) (z1 : Zw) (st1 : Store) (H1 : Hp), Lg z z1 → Wf c T z1 st1 H1 → it.chk st1 →
    (∀ d, it.ds[i]? = some d → J.go i H1 ∧ ∀ v H2, J.yld i H1 v H2 → ∃ p x, v = .ref p ∧ H1 p = none ∧ H2 = upd H1 p (.tup [.int (i : Nat), x]) ∧ Rp c z1 x d) ∧ (it.ds.length = i → J.stop i H1)) : Tells c T z J (numbI it) := by
  intro i z1 st1 H1 l w1 hk
  obtain ⟨h1, h2⟩ := h i z1 st1 H1 l w1 hk
  refine ⟨fun d hd => ?_, fun hl => h2 (by have hl' : (numb 0 it.ds).length = i := hl; rw [numb_len] at hl'; exact hl')⟩
  have hd' : (numb 0 it.ds)[i]? = some d := hd
  rw [numb_get] at hd'
  cases e : it.ds[i]? with
  | none => rw [e] at hd'; cases hd'
  | some d0 =>
    rw [e, Nat.zero_add] at hd'
    cases hd'
    obtain ⟨go, yl⟩ := h1 d0 e
    refine ⟨go, fun v H2 y => ?_⟩
    obtain ⟨p, x, rfl, hp, rfl, rx⟩ := yl v H2 y
    obtain ⟨l2, w2, r2⟩ := w1.newTup hp (.cons (.int (i : Nat)) (.cons rx .nil))
    exact ⟨_, l2, w2, r2⟩
theorem tells_enumL (hK : K = c.K) {a : Addr} {it : Itm} (hs : ∀ z1 st1 H1, Lg z z1 → Wf c T z1 st1 H1 → it.chk st1 → ∃ vs, SqL c.K H1 a vs ∧ Rps c z1 vs it.ds) : Tells c T z (Ite K a) (numbI it) := by
  subst hK
  refine tells_num fun i z1 st1 H1 l w1 hk => ?_
  obtain ⟨vs, sq, rs⟩ := hs z1 st1 H1 l w1 hk
  refine ⟨fun d hd => ?_, fun hl => ⟨vs, sq, by rw [rs.len]; exact Nat.le_of_eq hl⟩⟩
  obtain ⟨v, hv, rv⟩ := rs.get hd
  refine ⟨⟨vs, v, sq, hv⟩, fun x H2 ⟨p, y, e1, e2, e3, e4⟩ => ?_⟩
  have := e4 vs sq
  rw [hv] at this
  cases this
  exact ⟨p, _, e1, e2, e3, rv⟩
theorem tells_enumT (hK : K = c.K) {a : Addr} {vs : List V} {ds : List D} (s1 : SqT c.K z.G a vs) (rs : Rps c z vs ds) :
    Tells c T z (Itn (fun H i => ∃ xs, SqT K H a xs ∧ xs.length = i) fun H i x => ∃ xs, (SqT K H a xs ∧ xs[i]? = some x) ∧ xs = vs) (numbI (still ds)) := by
  subst hK
  refine tells_num fun i z1 st1 H1 l w1 hk => ?_
  have sq : SqT c.K H1 a vs := w1.tup (seqT_mono l.g s1)
  refine ⟨fun d hd => ?_, fun hl => ⟨vs, sq, rs.len.trans hl⟩⟩
  obtain ⟨v, hv, rv⟩ := rs.get hd
  refine ⟨⟨v, vs, ⟨sq, hv⟩, rfl⟩, fun x H2 ⟨p, y, e1, e2, e3, xs, ⟨_, e4⟩, e5⟩ => ?_⟩
  subst e5
  rw [hv] at e4
  cases e4
  exact ⟨p, _, e1, e2, e3, rv.monoG l⟩
theorem tells_enumS (s : List Nat) : Tells c T z (Itn (fun _ i => (strOf s).cps.size = i) fun _ i x => ∃ k, (strOf s).cps[i]? = some k ∧ x = .str ⟨#[k]⟩) (numbI (still (s.map fun a => .str [a]))) := by
  refine tells_num fun i z1 st1 H1 l w1 hk => ⟨fun d hd => ?_, fun hl => ?_⟩
  · have hd' : (s.map fun a => D.str [a])[i]? = some d := hd
    rw [List.getElem?_map] at hd'
    cases e : s[i]? with
    | none => rw [e] at hd'; cases hd'
    | some a =>
      rw [e] at hd'
      cases hd'
      have e0 : (strOf s).cps[i]? = some a := by simpa using e
      refine ⟨⟨_, a, e0, rfl⟩, fun x H2 ⟨p, y, e1, e2, e3, k, e4, e5⟩ => ?_⟩
      rw [e0] at e4
      cases e4
      exact ⟨p, y, e1, e2, e3, by rw [e5]; exact .str [a]⟩
  · show (strOf s).cps.size = i
    have hl' : (s.map fun a => D.str [a]).length = i := hl
    simpa using hl'
end
def iEnum (a : MA) : MI := fun ρ st => (a ρ st).bind fun ds st => match ds with
  | [d] => ofO ((itemsD st d).map numbI) st
  | _ => .no
section
variable {X : Cx} {c : Fc} {T : List (Addr × Str)} {W : WX} {a b d : PySem.Expr} {ma mb md : ME} {mr : MA} {pos : Pos} {m n : MS} {mt : MT} {is : List Nat}
theorem i_enum (hK : X.K = c.K) (hm : X.mg "enumerate" = none) {p tpos : Pos} {elts : List PySem.Expr} {kk : Nat} (ha : PA X [a] (LA c T W mr)) (hg : Gl X "enumerate" := by rfl) (hs : starEach [a] X.env = [(false, eval a X.env)] := by rfl) :
    PI X (.Tuple elts kk tpos) (.Call (.Name "enumerate" p) [a] [] pos) (LI c T W (Bw.iEnum mr)) := by
  refine ⟨fun pins s σ H R I ⟨z, ρ, st, w, r, q⟩ => ?_⟩
  unfold Bw.iEnum at q
  cases e : mr ρ st with
  | no => rw [e] at q; exact q.elim
  | er x st' => rw [e] at q; exact (pi_enum hg hm ha hs).run pins s σ H R I ⟨z, ρ, st, w, r, by rw [e]; exact q⟩
  | ok ds st' =>
    rw [e] at q
    simp only [bind_ok] at q
    split at q
    · rename_i dd
      obtain ⟨it, ei, q⟩ := Pst.ofO q
      cases ei0 : itemsD st' dd with
      | none => rw [ei0] at ei; cases ei
      | some it0 =>
        rw [ei0] at ei
        cases ei
        by_cases ht : ∃ ds, dd = .tup ds
        · obtain ⟨ds, rfl⟩ := ht
          cases ei0
          refine Call_ (ld_blt I hg hm boot_enumerate (PyProof.Rows.callWith_type1 (thn (ha.run pos pins s σ H (fun vs H1 => ∃ z1 dvs, Le z z1 ∧ Wf c.toCc T z1 st' H1 ∧ Rps c.toCc z1 vs dvs ∧ dvs = [.tup ds]) I ⟨z, ρ, st, w, r, by rw [e]; exact fun z' H' v l w' rv => ⟨z', _, l, w', rv, rfl⟩⟩) fun us s1 hx => ?_) hs rfl))
          obtain ⟨vs, H1, I1, r1, z1, dvs, l1, w1, rs, rfl⟩ := hx
          cases rs with
          | cons ra rr =>
            cases rr
            cases r1 with
            | cons r0 rr0 =>
              cases rr0
              cases ra with
              | @tup p0 vs0 _ s1' rs' =>
                cases r0
                have sq : SqT X.K H1 p0 vs0 := by rw [hK]; exact w1.tup s1'
                obtain ⟨its, rv, pt, hz⟩ := I1.tuple sq
                have hlt : p0 < s1.heap.objs.size := by obtain ⟨o, ho, _⟩ := id pt; exact Heap.lt_size ho
                refine bw_call_enum (begins_tuple p0 its.toArray) pt fun h' he hit hk => wpAny_pyIter_enum he ?_
                have I2 : L2.Inv X pins σ H1 { s1 with heap := h' } := I1.kept (t' := s1.toks) hk
                refine ⟨s1.heap.objs.size + 1, [s1.heap.objs.size + 1, s1.heap.objs.size], _, _, H1, rfl, I2, turn_numbered (it := s1.heap.objs.size) (nn := fun H i => ∃ xs, SqT X.K H p0 xs ∧ xs.length = i) (f := fun H i x => ∃ xs, (SqT X.K H p0 xs ∧ xs[i]? = some x) ∧ xs = vs0) (St := fun i h => h.IsTupleIter s1.heap.objs.size p0 i) ?_ ?_ (Nat.succ_ne_self _) ?_ ?_, ⟨⟨.none, he⟩, ⟨_, hit, rfl, rfl⟩⟩, fun b hb => ?_, q z1 H1 _ l1 w1 (tells_enumT hK s1' rs')⟩
                · intro i h ⟨o, h1, h2, h3⟩
                  exact ⟨o, h1, fun v q => by rw [h3] at q; cases q⟩
                · intro i h h' ⟨o, h1, h2⟩ k
                  exact ⟨o, k o h1, h2⟩
                · intro X' hP hw hK' i pins' s' σ' H' x I' hx A hA hst
                  obtain ⟨xs, ⟨hq, hx⟩, _⟩ := hx
                  obtain ⟨its', rv', p', _⟩ := I'.tuple (by rw [hK']; exact hq)
                  obtain ⟨u, hu, ru⟩ := rv'.get hx
                  refine ⟨[s1.heap.objs.size, p0], its'.toArray.size, _, _, ?_, ?_, Draws.tuple (A := A.in1) hA s1.heap.objs.size p0 (Nat.ne_of_lt hlt) its'.toArray, ⟨hst, p'⟩, fun u' hu' => ?_, fun h' sd => sd.1⟩
                  · simp only [List.mem_cons, List.not_mem_nil, or_false, not_or]
                    exact ⟨Nat.succ_ne_self _, Nat.ne_of_gt (Nat.lt_succ_of_lt hlt)⟩
                  · rw [List.size_toArray]
                    exact (List.getElem?_eq_some_iff.mp hu).1
                  · have hu2 : its'.toArray[i]? = some u' := hu'
                    rw [List.getElem?_toArray, hu] at hu2
                    cases hu2
                    exact ru
                · intro X' hP hw hK' i pins' s' σ' H' I' hx A hA hst
                  obtain ⟨xs, hq, hl⟩ := hx
                  obtain ⟨its', rv', p', _⟩ := I'.tuple (by rw [hK']; exact hq)
                  refine ⟨[s1.heap.objs.size, p0], _, _, _, Draws.tuple (A := A.in1) hA s1.heap.objs.size p0 (Nat.ne_of_lt hlt) its'.toArray, ⟨?_, p'⟩⟩
                  have e9 : its'.toArray.size = i := by rw [List.size_toArray, ← rv'.length, hl]
                  rw [e9]
                  exact hst
                · have e' : b = s1.heap.objs.size + 1 ∨ b = s1.heap.objs.size := by simpa using hb
                  have hle : s1.heap.objs.size ≤ b := by
                    rcases e' with z | z
                    · rw [z]; exact Nat.le_add_right _ _
                    · rw [z]; exact Nat.le_refl _
                  exact I1.fpOk hle (I1.hok.fresh hle)
        · by_cases hs' : ∃ x, dd = .str x
          · obtain ⟨y, rfl⟩ := hs'
            cases ei0
            refine Call_ (ld_blt I hg hm boot_enumerate (PyProof.Rows.callWith_type1 (thn (ha.run pos pins s σ H (fun vs H1 => ∃ z1 dvs, Le z z1 ∧ Wf c.toCc T z1 st' H1 ∧ Rps c.toCc z1 vs dvs ∧ dvs = [.str y]) I ⟨z, ρ, st, w, r, by rw [e]; exact fun z' H' v l w' rv => ⟨z', _, l, w', rv, rfl⟩⟩) fun us s1 hx => ?_) hs rfl))
            obtain ⟨vs, H1, I1, r1, z1, dvs, l1, w1, rs, rfl⟩ := hx
            cases rs with
            | cons ra rr =>
              cases rr
              cases r1 with
              | cons r0 rr0 =>
                cases rr0
                cases ra
                obtain ⟨t, rfl⟩ := r0
                refine bw_call_enum (begins_text (strOf y) t) trivial fun h' he hit hk => wpAny_pyIter_enum he ?_
                have I2 : L2.Inv X pins σ H1 { s1 with heap := h' } := I1.kept (t' := s1.toks) hk
                refine ⟨s1.heap.objs.size + 1, [s1.heap.objs.size + 1, s1.heap.objs.size], _, _, H1, rfl, I2, turn_numbered (it := s1.heap.objs.size) (nn := fun _ i => (strOf y).cps.size = i) (f := fun _ i x => ∃ k, (strOf y).cps[i]? = some k ∧ x = .str ⟨#[k]⟩) (St := fun i h => h.IsStrIter s1.heap.objs.size (strIterType (strOf y)) (strOf y) t i) ?_ ?_ (Nat.succ_ne_self _) ?_ ?_, ⟨⟨.none, he⟩, ⟨_, hit, rfl, rfl⟩⟩, fun b hb => ?_, q z1 H1 _ l1 w1 (tells_enumS y)⟩
                · intro i h ⟨o, h1, h2, h3⟩
                  exact ⟨o, h1, fun v q => by rw [h3] at q; cases q⟩
                · intro i h h' ⟨o, h1, h2⟩ k
                  exact ⟨o, k o h1, h2⟩
                · intro X' hP hw hK' i pins' s' σ' H' x I' hx A hA hst
                  obtain ⟨k, hk, hx⟩ := hx
                  refine ⟨[s1.heap.objs.size], (strOf y).cps.size, _, _, by simp, (Array.getElem?_eq_some_iff.mp hk).1, Draws.text (A := A.in1) hA s1.heap.objs.size (strOf y) t, hst, fun u' hu' => ?_, fun h' sd => sd⟩
                  obtain ⟨k', t', hk', e'⟩ := hu'
                  rw [hk] at hk'
                  cases hk'
                  rw [hx, e']
                  exact ⟨t', rfl⟩
                · intro X' hP hw hK' i pins' s' σ' H' I' hx A hA hst
                  exact ⟨[s1.heap.objs.size], _, _, _, Draws.text (A := A.in1) hA s1.heap.objs.size (strOf y) t, by rw [hx]; exact hst⟩
                · have e' : b = s1.heap.objs.size + 1 ∨ b = s1.heap.objs.size := by simpa using hb
                  have hle : s1.heap.objs.size ≤ b := by
                    rcases e' with z | z
                    · rw [z]; exact Nat.le_add_right _ _
                    · rw [z]; exact Nat.le_refl _
                  exact I1.fpOk hle (I1.hok.fresh hle)
          · refine (pi_enum hg hm ha hs).run pins s σ H R I ⟨z, ρ, st, w, r, ?_⟩
            rw [e]
            intro z' H' v l w' rv
            cases rv with
            | cons ra rr =>
              cases rr
              obtain ⟨p0, vs, rfl, sq, tl⟩ := lst_walk (n := ()) w' ra ei0 (fun ds h => ht ⟨ds, h⟩) (fun x h => hs' ⟨x, h⟩)
              exact ⟨p0, vs, rfl, by rw [hK]; exact sq, q z' H' _ l w' (tells_enumL hK tl)⟩
    · exact q.elim
end
end Bw
set_option linter.all false
set_option autoImplicit false
set_option maxRecDepth 100000
/-! zip. -/
namespace Bw
open PySem PySem.Spec PyProof.Rows L2
def zipD (xs ys : List D) : List D := (xs.zip ys).map fun p => .tup [p.1, p.2]
theorem zipD_get {xs ys : List D} {i : Nat} {d : D} (h : (zipD xs ys)[i]? = some d) : ∃ x y, xs[i]? = some x ∧ ys[i]? = some y ∧ d = .tup [x, y] := by
  unfold zipD at h
  rw [List.getElem?_map] at h
  cases e : (xs.zip ys)[i]? with
  | none => rw [e] at h; cases h
  | some p =>
    rw [e] at h
    cases h
    rw [List.getElem?_zip_eq_some] at e
    exact ⟨p.1, p.2, e.1, e.2, rfl⟩
theorem zipD_len (xs ys : List D) : (zipD xs ys).length = min xs.length ys.length := by
  unfold zipD
  rw [List.length_map, List.length_zip]
def isTupD : D → Bool
  | .tup _ => true
  | _ => false
def isStrD : D → Bool
  | .str _ => true
  | _ => false
def zipI (st : Store) (x y : D) : Option Itm :=
  if isTupD x == isTupD y && !isStrD x && !isStrD y then match itemsD st x, itemsD st y with
    | some a, some b => some ⟨zipD a.ds b.ds, fun st => a.chk st ∧ b.chk st⟩
    | _, _ => none
  else none
def iZip (a : MA) : MI := fun ρ st => (a ρ st).bind fun ds st => match ds with
  | [x, y] => ofO (zipI st x y) st
  | _ => .no
section
variable {c : Cc} {T : List (Addr × Str)} {z : Zw} {K : PySem.W.Frag}
theorem tells_zipL (hK : K = c.K) {a b : Addr} {xs ys : Itm} (hx : ∀ z1 st1 H1, Lg z z1 → Wf c T z1 st1 H1 → xs.chk st1 → ∃ vs, SqL c.K H1 a vs ∧ Rps c z1 vs xs.ds) (hy : ∀ z1 st1 H1, Lg z z1 → Wf c T z1 st1 H1 → ys.chk st1 → ∃ vs, SqL c.K H1 b vs ∧ Rps c z1 vs ys.ds) :
    Tells c T z (Itz K a b) ⟨zipD xs.ds ys.ds, fun st => xs.chk st ∧ ys.chk st⟩ := by
  subst hK
  intro i z1 st1 H1 l w1 hk
  obtain ⟨vs, sq, rs⟩ := hx z1 st1 H1 l w1 hk.1
  obtain ⟨ws, sq2, rs2⟩ := hy z1 st1 H1 l w1 hk.2
  refine ⟨fun d hd => ?_, fun hl => ⟨vs, ws, sq, sq2, ?_⟩⟩
  · obtain ⟨x, y, hx, hy, rfl⟩ := zipD_get hd
    obtain ⟨v, hv, rv⟩ := rs.get hx
    obtain ⟨u, hu, ru⟩ := rs2.get hy
    refine ⟨⟨vs, ws, v, u, sq, sq2, hv, hu⟩, fun k H2 ⟨p, x', y', e1, e2, e3, e4, e5⟩ => ?_⟩
    have q1 := e4 vs sq
    have q2 := e5 ws sq2
    rw [hv] at q1
    rw [hu] at q2
    cases q1
    cases q2
    subst e1 e3
    obtain ⟨l2, w2, r2⟩ := w1.newTup e2 (.cons rv (.cons ru .nil))
    exact ⟨_, l2, w2, r2⟩
  · have hl' : (zipD xs.ds ys.ds).length = i := hl
    rw [zipD_len] at hl'
    have := rs.len
    have := rs2.len
    omega
theorem tells_zipT (hK : K = c.K) {a b : Addr} {vs ws : List V} {xs ys : List D} (s1 : SqT c.K z.G a vs) (r1 : Rps c z vs xs) (s2 : SqT c.K z.G b ws) (r2 : Rps c z ws ys) : Tells c T z (RZ.ItzT K a b) ⟨zipD xs ys, fun st => True ∧ True⟩ := by
  subst hK
  intro i z1 st1 H1 l w1 hk
  have sq : SqT c.K H1 a vs := w1.tup (seqT_mono l.g s1)
  have sq2 : SqT c.K H1 b ws := w1.tup (seqT_mono l.g s2)
  refine ⟨fun d hd => ?_, fun hl => ⟨vs, ws, sq, sq2, ?_⟩⟩
  · obtain ⟨x, y, hx, hy, rfl⟩ := zipD_get hd
    obtain ⟨v, hv, rv⟩ := r1.get hx
    obtain ⟨u, hu, ru⟩ := r2.get hy
    refine ⟨⟨vs, ws, v, u, sq, sq2, hv, hu⟩, fun k H2 ⟨p, x', y', e1, e2, e3, e4, e5⟩ => ?_⟩
    have q1 := e4 vs sq
    have q2 := e5 ws sq2
    rw [hv] at q1
    rw [hu] at q2
    cases q1
    cases q2
    subst e1 e3
    obtain ⟨l2, w2, r3⟩ := w1.newTup e2 (.cons (rv.monoG l) (.cons (ru.monoG l) .nil))
    exact ⟨_, l2, w2, r3⟩
  · have hl' : (zipD xs ys).length = i := hl
    rw [zipD_len] at hl'
    have := r1.len
    have := r2.len
    omega
end
section
variable {X : Cx} {c : Fc} {T : List (Addr × Str)} {W : WX} {a b d : PySem.Expr} {ma mb md : ME} {mr : MA} {pos : Pos} {m n : MS} {mt : MT} {is : List Nat}
theorem i_zip (hK : X.K = c.K) (hm : X.mg "zip" = none) {p tpos : Pos} {elts : List PySem.Expr} {kk : Nat} (ha : PA X [a, b] (LA c T W mr)) (hg : Gl X "zip" := by rfl)
    (hs : starEach [a, b] X.env = (false, eval a X.env) :: starEach [b] X.env := by rfl) (hpl : (backTo pos (starEach [b] X.env)).any (·.1) = false := by rfl) :
    PI X (.Tuple elts kk tpos) (.Call (.Name "zip" p) [a, b] [] pos) (LI c T W (Bw.iZip mr)) :=
  imp_PI (RZ.pi_zipA hg hm ha hs hpl) fun σ H R ⟨z, ρ, st, w, r, q⟩ => ⟨z, ρ, st, w, r, (Pst.bnd q).imp fun xs H1 ⟨z1, st1, ds, l1, w1, rs, q1⟩ => by
    split at q1
    · rename_i x y
      obtain ⟨it, ei, q2⟩ := Pst.ofO q1
      cases rs with
      | cons ra rr => cases rr with
        | cons rb rr =>
          cases rr
          unfold zipI at ei
          split at ei
          · rename_i hc
            simp only [Bool.and_eq_true, Bool.not_eq_true', beq_iff_eq] at hc
            obtain ⟨⟨h1, h2⟩, h3⟩ := hc
            split at ei
            · rename_i i1 i2 e1 e2
              cases ei
              by_cases ht : isTupD x = true
              · have ht2 : isTupD y = true := by rw [← h1]; exact ht
                cases x <;> try cases ht
                cases y <;> try cases ht2
                cases e1
                cases e2
                cases ra with
                | tup s1 r1 => cases rb with
                  | tup s2 r2 => exact ⟨_, _, _, _, rfl, .inr ⟨by rw [hK]; exact w1.tup s1, by rw [hK]; exact w1.tup s2, q2 z1 H1 _ (Le.refl z1) w1 (tells_zipT hK s1 r1 s2 r2)⟩⟩
              · have ht2 : ¬ isTupD y = true := by rw [← h1]; exact ht
                obtain ⟨p1, vs1, e3, sq1, t1⟩ := lst_walk (n := ()) w1 ra e1 (fun ds h => ht (by rw [h]; rfl)) (fun s h => by rw [h] at h2; cases h2)
                obtain ⟨p2, vs2, e4, sq2, t2⟩ := lst_walk (n := ()) w1 rb e2 (fun ds h => ht2 (by rw [h]; rfl)) (fun s h => by rw [h] at h3; cases h3)
                subst e3 e4
                exact ⟨_, _, vs1, vs2, rfl, .inl ⟨by rw [hK]; exact sq1, by rw [hK]; exact sq2, q2 z1 H1 _ (Le.refl z1) w1 (tells_zipL hK t1 t2)⟩⟩
            · cases ei
          · cases ei
    · exact q1.elim⟩
end
end Bw
set_option linter.all false
set_option autoImplicit false
set_option maxRecDepth 100000
/-! Built-in functions and methods by data. -/
namespace Bw
open PySem PySem.Spec PyProof.Rows L2
/-! ### len, abs, int, str, tuple, list -/
def lenD (st : Store) : D → Option Nat
  | .str s => if Sz s.length then some s.length else none
  | .tup ds => some ds.length
  | .lst ds => some ds.length
  | .scr ns => some ns.length
  | .ref n => match st[n]? with
    | some (.lst ds) => some ds.length
    | _ => none
  | _ => none
def fLen : List D → Store → Option D := fun ds st => match ds with
  | [d] => (lenD st d).map fun n => .int n
  | _ => none
def fAbs : List D → Store → Option D := fun ds _ => match ds with
  | [.int i] => some (.int (if i < 0 then -i else i))
  | _ => none
def fInt : List D → Store → Option D := fun ds _ => match ds with
  | [.int i] => some (.int i)
  | [.bl b] => some (.int (if b then 1 else 0))
  | _ => none
/-- an int's figures -/
def decD (i : Int) : List Nat := (Str.ofString (toString i)).cps.toList
theorem strOf_dec (i : Int) : Str.ofString (toString i) = strOf (decD i) := rfl
def fStr : List D → Store → Option D := fun ds _ => match ds with
  | [.int i] => if i.natAbs.log2 < 1920 then some (.str (decD i)) else none
  | _ => none
/-- the items of a tuple or list -/
def seqD (st : Store) : D → Option (List D)
  | .tup ds => some ds
  | .lst ds => some ds
  | .ref n => match st[n]? with
    | some (.lst ds) => some ds
    | _ => none
  | _ => none
def fTup : List D → Store → Option D := fun ds st => match ds with
  | [d] => (seqD st d).map .tup
  | _ => none
def fLst : List D → Store → Option D := fun ds st => match ds with
  | [d] => (seqD st d).map .lst
  | _ => none
/-! ### isinstance -/
def tyD (st : Store) : D → Option String
  | .non => some "NoneType"
  | .bl _ => some "bool"
  | .int _ => some "int"
  | .str _ => some "str"
  | .tup _ => some "tuple"
  | .lst _ => some "list"
  | .ref n => match st[n]? with
    | some (.lst _) => some "list"
    | _ => none
  | _ => none
def fIsi : List D → Store → Option D := fun ds st => match ds with
  | [d, .ty t] => (tyD st d).bind fun n => (kitB n t).map .bl
  | _ => none
section
variable {X : Cx} {c : Cc} {T : List (Addr × Str)}
theorem seqD_of {z : Zw} {st : Store} {H : Hp} {d : D} {v : V} {ds : List D} (w : Wf c T z st H) (r : Rp c z v d) (e : seqD st d = some ds) :
    ∃ a vs, v = .ref a ∧ Rps c z vs ds ∧ ((SqT c.K H a vs ∧ SqT c.K z.G a vs ∧ d = .tup ds) ∨ SqL c.K H a vs) := by
  unfold seqD at e
  split at e
  · cases e
    cases r with
    | tup s1 rs => exact ⟨_, _, rfl, rs, .inl ⟨w.tup s1, s1, rfl⟩⟩
  · cases e
    cases r with
    | lst s1 rs => exact ⟨_, _, rfl, rs, .inr (.inl (.inl (w.sub _ _ s1)))⟩
  · split at e
    · rename_i hk
      cases e
      cases r with
      | ref e1 =>
        obtain ⟨_, vs, k1, k2⟩ := w.obj _ _ _ e1 hk
        exact ⟨_, vs, rfl, k2, .inr (.inl (.inl k1))⟩
    · cases e
  · cases e
theorem c_len (hK : X.K = c.K) : CallR X (.builtin "len") (rN c T fLen) := by
  obtain ⟨K, mg⟩ := c
  cases hK
  intro pins s σ H xs us Q I r h
  obtain ⟨z, st, ds, d, w, rs, e, q⟩ := h
  unfold fLen at e
  split at e
  · rename_i dd
    cases rs with
    | cons ra rr =>
      cases rr
      cases el : lenD st dd with
      | none => rw [el] at e; cases e
      | some n =>
        rw [el] at e
        cases e
        refine call_len pins s σ H _ us Q I r ⟨_, n, rfl, ?_, q z H _ (Le.refl z) w (.int _)⟩
        unfold lenD at el
        split at el
        · split at el
          · rename_i hz
            cases el
            cases ra
            exact ⟨by rw [strOf_len]; exact sz_of hz, by rw [strOf_len]⟩
          · cases el
        · cases el
          cases ra with
          | tup s1 rs => exact .inr ⟨_, w.tup s1, by rw [rs.len]⟩
        · cases el
          cases ra with
          | lst s1 rs => exact .inl ⟨_, .inl (.inl (w.sub _ _ s1)), by rw [rs.len]⟩
        · cases el
          cases ra with
          | scr s1 => exact .inl ⟨_, w.seq s1, by rw [List.length_map]⟩
        · split at el
          · rename_i hk
            cases el
            cases ra with
            | ref e1 =>
              obtain ⟨_, vs, k1, k2⟩ := w.obj _ _ _ e1 hk
              exact .inl ⟨vs, .inl (.inl k1), by rw [k2.len]⟩
          · cases el
        · cases el
  · cases e
theorem c_abs : CallR X (.builtin "abs") (rN c T fAbs) := by
  intro pins s σ H xs us Q I r h
  obtain ⟨z, st, ds, d, w, rs, e, q⟩ := h
  unfold fAbs at e
  split at e
  · cases e
    cases rs with
    | cons ra rr =>
      cases rr
      cases ra
      exact call_abs pins s σ H _ us Q I r ⟨_, rfl, q z H _ (Le.refl z) w (.int _)⟩
  · cases e
theorem c_int : CallR X (.type "int") (rN c T fInt) := by
  intro pins s σ H xs us Q I r h
  obtain ⟨z, st, ds, d, w, rs, e, q⟩ := h
  unfold fInt at e
  split at e
  · cases e
    cases rs with
    | cons ra rr =>
      cases rr
      cases ra
      exact call_int1 pins s σ H _ us Q I r (.inl ⟨_, rfl, q z H _ (Le.refl z) w (.int _)⟩)
  · cases e
    cases rs with
    | cons ra rr =>
      cases rr
      cases ra
      exact call_int1 pins s σ H _ us Q I r (.inr ⟨_, rfl, q z H _ (Le.refl z) w (.int _)⟩)
  · cases e
theorem c_str : CallR X (.type "str") (rN c T fStr) := by
  intro pins s σ H xs us Q I r h
  obtain ⟨z, st, ds, d, w, rs, e, q⟩ := h
  unfold fStr at e
  split at e
  · split at e
    · rename_i hl
      cases e
      cases rs with
      | cons ra rr =>
        cases rr
        cases ra
        exact call_str_int pins s σ H _ us Q I r ⟨_, rfl, hl, q z H _ (Le.refl z) w (.str (decD _))⟩
    · cases e
  · cases e
theorem c_tup (hK : X.K = c.K) : CallR X (.type "tuple") (rN c T fTup) := by
  obtain ⟨K, mg⟩ := c
  cases hK
  intro pins s σ H xs us Q I r h
  obtain ⟨z, st, ds, d, w, rs, e, q⟩ := h
  unfold fTup at e
  split at e
  · rename_i dd
    cases rs with
    | cons ra rr =>
      cases rr
      cases el : seqD st dd with
      | none => rw [el] at e; cases e
      | some es =>
        rw [el] at e
        cases e
        obtain ⟨a, vs, rfl, rs, h⟩ := seqD_of w ra el
        refine call_tuple_of pins s σ H _ us Q I r ⟨a, vs, rfl, ?_⟩
        rcases h with ⟨h1, h2, _⟩ | h
        · exact .inr ⟨h1, q z H _ (Le.refl z) w (.tup h2 rs)⟩
        · refine .inl ⟨h, fun l hl => ?_⟩
          obtain ⟨l2, w2, r2⟩ := w.newTup hl rs
          exact q _ _ _ l2 w2 r2
  · cases e
theorem c_lst (hK : X.K = c.K) : CallR X (.type "list") (rN c T fLst) := by
  obtain ⟨K, mg⟩ := c
  cases hK
  intro pins s σ H xs us Q I r h
  obtain ⟨z, st, ds, d, w, rs, e, q⟩ := h
  unfold fLst at e
  split at e
  · rename_i dd
    cases rs with
    | cons ra rr =>
      cases rr
      cases el : seqD st dd with
      | none => rw [el] at e; cases e
      | some es =>
        rw [el] at e
        cases e
        obtain ⟨a, vs, rfl, rs, h⟩ := seqD_of w ra el
        refine call_list_of pins s σ H _ us Q I r ⟨a, vs, rfl, ?_, fun l hl => ?_⟩
        · rcases h with ⟨h1, _⟩ | h
          · exact .inr h1
          · exact .inl h
        · obtain ⟨l2, w2, r2⟩ := w.newLst hl rs
          exact q _ _ _ l2 w2 r2
  · cases e
theorem tyD_of {z : Zw} {st : Store} {H : Hp} {d : D} {v : V} {n : String} (w : Wf c T z st H) (r : Rp c z v d) (e : tyD st d = some n) : TyX c.K H v (.type n) := by
  unfold tyD at e
  split at e
  · cases e; cases r; exact .base .non
  · cases e; cases r; exact .base (.bl _)
  · cases e; cases r; exact .base (.int _)
  · cases e; cases r; exact .base (.str _)
  · cases e
    cases r with
    | tup s1 rs =>
      rcases w.tup s1 with (h | ⟨o, h⟩) | ⟨o, its, n, h1, h2, _⟩
      · exact .base (.tup h)
      · exact .fTuple h
      · exact .kTuple h1 h2
  · cases e
    cases r with
    | lst s1 rs => exact .base (.lst (w.sub _ _ s1))
  · split at e
    · rename_i hk
      cases e
      cases r with
      | ref e1 =>
        obtain ⟨_, vs, k1, k2⟩ := w.obj _ _ _ e1 hk
        exact .base (.lst k1)
    · cases e
  · cases e
theorem c_isi (hK : X.K = c.K) : CallR X (.builtin "isinstance") (rN c T fIsi) := by
  obtain ⟨K, mg⟩ := c
  cases hK
  intro pins s σ H xs us Q I r h
  obtain ⟨z, st, ds, d, w, rs, e, q⟩ := h
  unfold fIsi at e
  split at e
  · rename_i dd t
    cases rs with
    | cons ra rr => cases rr with
      | cons rb rr =>
        cases rr
        cases rb
        cases el : tyD st dd with
        | none => rw [el] at e; cases e
        | some n =>
          rw [el] at e
          cases ek : kitB n t with
          | none => simp [ek] at e
          | some b =>
            simp [ek] at e
            subst e
            exact call_isi pins s σ H _ us Q I r ⟨_, _, _, _, b, rfl, .ty t, tyD_of w ra el, kit_ty ek, q z H _ (Le.refl z) w (.bl b)⟩
  · cases e
end
end Bw
set_option linter.all false
set_option autoImplicit false
set_option maxRecDepth 100000
/-! Methods of texts and lists by data. -/
namespace Bw
open PySem PySem.Spec PyProof.Rows L2
def mStr1 (f : List Nat → List D → Store → Option D) (a : ME) (r : MA) : ME := fun ρ st => (a ρ st).bind fun x st => match x with
  | .str s => (r ρ st).bind fun ds st => ofO (f s ds st) st
  | _ => .no
def rS (c : Cc) (T : List (Addr × Str)) (f : List Nat → List D → Store → Option D) : V → List V → Hp → VK → Prop := fun x xs H Q => ∃ z st s ds d, x = .str (strOf s) ∧ Wf c T z st H ∧ Rps c z xs ds ∧ f s ds st = some d ∧
  ∀ z' H' v, Le z z' → Wf c T z' st H' → Rp c z' v d → Q v H'
def joinD (sep : List Nat) : List (List Nat) → List Nat
  | [] => []
  | [x] => x
  | x :: y :: r => x ++ sep ++ joinD sep (y :: r)
def strsD : List D → Option (List (List Nat))
  | [] => some []
  | .str s :: r => (strsD r).map fun l => s :: l
  | _ => none
def fJoin : List Nat → List D → Store → Option D := fun s ds st => match ds with
  | [d] => match (seqD st d).bind strsD with
    | some l => if decide ((l.map (·.length)).sum + l.length * s.length ≤ 16777216) then some (.str (joinD s l)) else none
    | none => none
  | _ => none
/-- cut at each a -/
def splD (a : Nat) : List Nat → List (List Nat)
  | [] => [[]]
  | c :: r => if c = a then [] :: splD a r else match splD a r with
    | w :: ws => (c :: w) :: ws
    | [] => [[c]]
def fSplit : List Nat → List D → Store → Option D := fun s ds _ => match ds with
  | [.str [a]] => if decide (a < 256) && Sz (s.length + 2) then some (.lst ((splD a s).map .str)) else none
  | _ => none
theorem splD_ne (a : Nat) : ∀ l, splD a l ≠ []
  | [] => by simp [splD]
  | c :: r => by
    unfold splD
    split
    · simp
    · split <;> simp
theorem spl_splD (a : Nat) : ∀ (l acc : List Nat), TL.spl [a] 0 acc l = match splD a l with
    | w :: ws => (acc ++ w) :: ws
    | [] => [acc]
  | [], acc => by simp [TL.spl_nil, splD]
  | c :: r, acc => by
    have hp : TL.pre [a] (c :: r) = true ↔ c = a := by
      unfold TL.pre
      show ([c] == [a]) = true ↔ _
      rw [beq_iff_eq]
      exact ⟨fun e => (List.cons.inj e).1, fun e => by rw [e]⟩
    by_cases h : c = a
    · rw [TL.spl_hit (hp.mpr h), splD, if_pos h]
      show acc :: TL.spl [a] 0 [] r = _
      rw [spl_splD a r []]
      have := splD_ne a r
      cases e : splD a r with
      | nil => exact absurd e this
      | cons w ws => simp
    · have hn : TL.pre [a] (c :: r) = false := by
        cases e : TL.pre [a] (c :: r) with
        | false => rfl
        | true => exact absurd (hp.mp e) h
      rw [TL.spl, if_neg (by rw [hn]; decide), spl_splD a r (acc ++ [c]), splD, if_neg h]
      have := splD_ne a r
      cases e : splD a r with
      | nil => exact absurd e this
      | cons w ws => simp
theorem split_ok {s : List Nat} {a : Nat} (ha : a < 256) : Txt.split (strOf s) (strOf [a]) = (splD a s).map strOf := by
  have h := SX.split_S (a := s) (b := [a]) (by simp) (by simpa using ha)
  rw [show Txt.split (strOf s) (strOf [a]) = Txt.split (SX.S s) (SX.S [a]) from rfl, h, spl_splD]
  have := splD_ne a s
  cases e : splD a s with
  | nil => exact absurd e this
  | cons w ws => simp
theorem join_ok (sep : List Nat) : ∀ l : List (List Nat), Txt.join (strOf sep) (l.map strOf) = strOf (joinD sep l) := by
  intro l
  show Builtin.Str.glued (strOf sep) (l.map strOf) = _
  rw [StrLaws.glued_eq_join]
  induction l with
  | nil => rfl
  | cons x r ih =>
    cases r with
    | nil => rfl
    | cons y r =>
      show strOf x ++ strOf sep ++ Str.join (strOf sep) ((y :: r).map strOf) = _
      rw [ih, strOf_app, strOf_app]
      rfl
section
variable {c : Cc} {T : List (Addr × Str)} {z : Zw}
theorem Rps.strs : ∀ {ds : List D} {vs : List V} {l : List (List Nat)}, Rps c z vs ds → strsD ds = some l → vs = (l.map strOf).map V.str
  | [], _, _, .nil, e => by cases e; rfl
  | .str s :: r, _, _, .cons a t, e => by
    cases a
    cases h : strsD r with
    | none => simp [strsD, h] at e
    | some l' =>
      simp [strsD, h] at e
      subst e
      rw [Rps.strs t h]
      rfl
  | .non :: r, _, _, .cons a t, e => by simp [strsD] at e
  | .bl _ :: r, _, _, .cons a t, e => by simp [strsD] at e
  | .int _ :: r, _, _, .cons a t, e => by simp [strsD] at e
  | .tup _ :: r, _, _, .cons a t, e => by simp [strsD] at e
  | .lst _ :: r, _, _, .cons a t, e => by simp [strsD] at e
  | .ref _ :: r, _, _, .cons a t, e => by simp [strsD] at e
  | .fn _ :: r, _, _, .cons a t, e => by simp [strsD] at e
  | .clo _ :: r, _, _, .cons a t, e => by simp [strsD] at e
  | .ty _ :: r, _, _, .cons a t, e => by simp [strsD] at e
  | .scr _ :: r, _, _, .cons a t, e => by simp [strsD] at e
theorem Rps.ofStrs : ∀ l : List (List Nat), Rps c z ((l.map strOf).map V.str) (l.map D.str)
  | [] => .nil
  | s :: l => .cons (.str s) (Rps.ofStrs l)
end
section
variable {X : Cx} {c : Fc} {T : List (Addr × Str)} {W : WX} {o e : PySem.Expr} {es : List PySem.Expr} {mo me : ME} {mr : MA} {pos apos cpos : Pos}
theorem e_mstr {name : Str} {id : String} {f : List Nat → List D → Store → Option D} (slot : Slot "str" name id) (hty : typeOf (.builtin id) = pure (.type "method_descriptor")) (hm : MtR X id (rS c.toCc T f)) (ho : PD X c T W o mo) (ha : PA X (e :: es) (LA c T W mr))
    (hbase : attributeBase o name X.env (eval o X.env) = eval o X.env := by rfl)
    (hfew : ((backTo cpos (starEach (e :: es) X.env)).all (fun x => !x.1) && (backToKw cpos (keywordEach [] X.env)).all (fun x => x.1.isSome)
      && decide ((e :: es).length + ([] : List Keyword).length + (if ([] : List Keyword).isEmpty then 0 else 1) < 30)) = true := by rfl)
    (hline : (apos.endLine == cpos.line) = true := by rfl) (hs : starEach (e :: es) X.env = (false, eval e X.env) :: starEach es X.env := by rfl) (hplain : (backTo cpos (starEach es X.env)).any (·.1) = false := by rfl) :
    PD X c T W (.Call (.Attribute o name apos) (e :: es) [] cpos) (mStr1 f mo mr) :=
  imp_PE (pe_bm F.plainAttrs_str slot hty hm ho ha hbase hfew hline hs hplain) fun σ H Q ⟨z, ρ, st, w, r, q⟩ => ⟨z, ρ, st, w, r, (Pst.bnd q).imp fun x H1 ⟨z1, st1, dx, l1, w1, rx, q1⟩ => by
    split at q1
    · rename_i s
      cases rx
      exact ⟨rfl, z1, ρ, st1, w1, r.mono l1, (Pst.bnd q1).imp fun xs H2 ⟨z2, st2, ds, l2, w2, rs, q2⟩ =>
        let ⟨dd, e, q3⟩ := Pst.ofO q2
        ⟨z2, st2, s, ds, dd, rfl, w2, rs, e, q3⟩⟩
    · exact q1.elim⟩
theorem m_join (hK : X.K = c.K) : MtR X "str.join" (rS c.toCc T fJoin) := by
  intro pins s σ H x xs v us Q I rx rs h
  obtain ⟨z, st, s0, ds, d, rfl, w, rd, e, q⟩ := h
  unfold fJoin at e
  split at e
  · rename_i dd
    split at e
    · rename_i l hl
      split at e
      · rename_i hz
        cases e
        rw [decide_eq_true_eq] at hz
        cases es0 : seqD st dd with
        | none => rw [es0] at hl; cases hl
        | some es1 =>
          rw [es0] at hl
          cases rd with
          | cons ra rr =>
            cases rr
            obtain ⟨a, vs, rfl, rvs, hh⟩ := seqD_of w ra es0
            have ev := rvs.strs hl
            subst ev
            refine mt_join pins s σ H _ _ v us Q I rx rs ⟨_, a, l.map strOf, rfl, rfl, ?_, ?_, ?_⟩
            · rw [hK]
              rcases hh with ⟨h1, _⟩ | h
              · exact .inr h1
              · exact .inl h
            · rw [List.map_map, List.length_map, strOf_len]
              have : (List.map (Str.length ∘ strOf) l) = l.map (·.length) := List.map_congr_left fun y _ => strOf_len y
              show (List.map (Str.length ∘ strOf) l).sum + _ ≤ _
              rw [this]
              exact hz
            · rw [join_ok]
              exact q z H _ (Le.refl z) w (.str _)
      · cases e
    · cases e
  · cases e
theorem m_split : MtR X "str.split" (rS c.toCc T fSplit) := by
  intro pins s σ H x xs v us Q I rx rs h
  obtain ⟨z, st, s0, ds, d, rfl, w, rd, e, q⟩ := h
  unfold fSplit at e
  split at e
  · rename_i a
    split at e
    · rename_i hz
      cases e
      rw [Bool.and_eq_true, decide_eq_true_eq] at hz
      cases rd with
      | cons ra rr =>
        cases rr
        cases ra
        refine mt_split pins s σ H _ _ v us Q I rx rs ⟨_, _, rfl, rfl, rfl, by rw [strOf_len]; exact sz_of hz.2, fun p hp => ?_⟩
        rw [split_ok hz.1]
        obtain ⟨l2, w2, r2⟩ := w.newLst hp (Rps.ofStrs (splD a s0))
        exact q _ _ _ l2 w2 r2
    · cases e
  · cases e
theorem e_join (hK : X.K = c.K) (ho : PD X c T W o mo) (ha : PA X [e] (LA c T W mr)) (hbase : attributeBase o "join" X.env (eval o X.env) = eval o X.env := by rfl)
    (hfew : ((backTo cpos (starEach [e] X.env)).all (fun x => !x.1) && (backToKw cpos (keywordEach [] X.env)).all (fun x => x.1.isSome) && decide ([e].length + ([] : List Keyword).length + (if ([] : List Keyword).isEmpty then 0 else 1) < 30)) = true := by rfl)
    (hline : (apos.endLine == cpos.line) = true := by rfl) (hs : starEach [e] X.env = (false, eval e X.env) :: starEach [] X.env := by rfl) (hplain : (backTo cpos (starEach [] X.env)).any (·.1) = false := by rfl) :
    PD X c T W (.Call (.Attribute o "join" apos) [e] [] cpos) (mStr1 fJoin mo mr) := e_mstr F.slot_str_join F.type_str_join (m_join hK) ho ha hbase hfew hline hs hplain
theorem e_split (ho : PD X c T W o mo) (ha : PA X [e] (LA c T W mr)) (hbase : attributeBase o "split" X.env (eval o X.env) = eval o X.env := by rfl)
    (hfew : ((backTo cpos (starEach [e] X.env)).all (fun x => !x.1) && (backToKw cpos (keywordEach [] X.env)).all (fun x => x.1.isSome) && decide ([e].length + ([] : List Keyword).length + (if ([] : List Keyword).isEmpty then 0 else 1) < 30)) = true := by rfl)
    (hline : (apos.endLine == cpos.line) = true := by rfl) (hs : starEach [e] X.env = (false, eval e X.env) :: starEach [] X.env := by rfl) (hplain : (backTo cpos (starEach [] X.env)).any (·.1) = false := by rfl) :
    PD X c T W (.Call (.Attribute o "split" apos) [e] [] cpos) (mStr1 fSplit mo mr) := e_mstr F.slot_str_split F.type_str_split m_split ho ha hbase hfew hline hs hplain
/-! ### l.append(e) -/
def mApp (a r : ME) : ME := fun ρ st => (a ρ st).bind fun x st => match x with
  | .ref n => match st[n]? with
    | some (.lst _) => (r ρ st).bind fun d st => match st[n]? with
      | some (.lst ds) => if Sz (ds.length + 1) then .ok .non (st.set n (.lst (ds ++ [d]))) else .no
      | _ => .no
    | _ => .no
  | _ => .no
theorem e_app (hK : X.K = c.K) (ho : PD X c T W o mo) (ha : PD X c T W e me) (hbase : attributeBase o "append" X.env (eval o X.env) = eval o X.env := by rfl)
    (hfew : ((backTo cpos (starEach [e] X.env)).all (fun x => !x.1) && (backToKw cpos (keywordEach [] X.env)).all (fun x => x.1.isSome) && decide ([e].length + ([] : List Keyword).length + (if ([] : List Keyword).isEmpty then 0 else 1) < 30)) = true := by rfl)
    (hline : (apos.endLine == cpos.line) = true := by rfl) (hs : starEach [e] X.env = (false, eval e X.env) :: starEach [] X.env := by rfl) (hplain : (backTo cpos (starEach [] X.env)).any (·.1) = false := by rfl) :
    PD X c T W (.Call (.Attribute o "append" apos) [e] [] cpos) (mApp mo me) :=
  imp_PE (pe_bm F.plainAttrs_list F.slot_list_append F.type_list_append mt_append ho (pa_cons ha pa_nil hs) hbase hfew hline hs hplain) fun σ H Q ⟨z, ρ, st, w, r, q⟩ => ⟨z, ρ, st, w, r, (Pst.bnd q).imp fun x H1 ⟨z1, st1, dx, l1, w1, rx, q1⟩ => by
    split at q1
    · rename_i n
      split at q1
      · rename_i ds0 hk0
        cases rx with
        | ref e1 =>
          obtain ⟨_, vs, k1, k2⟩ := w1.obj _ _ _ e1 hk0
          refine ⟨.inl ⟨rfl, vs, .inl (.inl k1)⟩, z1, ρ, st1, w1, r.mono l1, (Pst.bnd q1).imp fun y H2 ⟨z2, st2, dy, l2, w2, ry, q2⟩ => ?_⟩
          split at q2
          · rename_i ds hk
            split at q2
            · rename_i hz
              have e2 := l2.at e1
              obtain ⟨_, ws, k3, k4⟩ := w2.obj _ _ _ e2 hk
              refine ⟨_, ws, y, rfl, rfl, k3, ?_, q2 z2 _ _ (Le.refl z2) (w2.put e2 hk (k4.app (.cons ry .nil))) .non⟩
              have := sz_of hz
              have hl := k4.len
              omega
            · exact q2.elim
          · exact q2.elim
      · exact q1.elim
    · exact q1.elim⟩
/-! ### replace -/
def repD (a : Nat) (y : List Nat) (s : List Nat) : List Nat := s.flatMap fun x => if x = a then y else [x]
def mRep (a : Nat) (y : List Nat) (mo : ME) : ME := fun ρ st => (mo ρ st).bind fun x st => match x with
  | .str s => if decide (s.length + (s.length + 1) * y.length ≤ 16777216) then .ok (.str (repD a y s)) st else .no
  | _ => .no
theorem rep_ok (a : Nat) (y s : List Nat) : Txt.replace (strOf s) (strOf [a]) (strOf y) = strOf (repD a y s) := by
  have h := StrLaws.replace_list (x := strOf s) (y := strOf [a]) (z := strOf y) (by rw [strOf_len]; exact Nat.le_refl _)
  have h2 : ∀ s : List Nat, StrLaws.replL [a] y s = repD a y s := by
    intro s
    induction s with
    | nil => exact StrLaws.replL_nil
    | cons x r ih =>
      by_cases hx : x = a
      · subst hx
        rw [StrLaws.replL_hit (y := [x]) (by simp) (by simp)]
        show y ++ StrLaws.replL [x] y r = _
        rw [ih]
        simp [repD]
      · rw [StrLaws.replL_miss (by simp [hx]), ih]
        simp [repD, hx]
  have e : (Txt.replace (strOf s) (strOf [a]) (strOf y)).cps = (repD a y s).toArray := by
    rw [← h2 s]
    have h3 := congrArg List.toArray h
    simpa using h3
  show _ = (⟨(repD a y s).toArray⟩ : Str)
  rw [← e]
end

section
variable {X : Cx} {c : Fc} {T : List (Addr × Str)} {W : WX} {o e : PySem.Expr} {es : List PySem.Expr} {mo me : ME} {mr : MA} {pos apos cpos : Pos}
theorem rep_read {a : Nat} {y : List Nat} {σ : L2.St} {H : Hp} {Q : VK} (q : LE c T W (mRep a y mo) σ H Q) : CwR.tReplC (LE c T W mo) (strOf [a]) (strOf y) σ H Q := by
  obtain ⟨z, ρ, st, w, r, q⟩ := q
  refine ⟨z, ρ, st, w, r, (Pst.bnd q).imp fun x H1 ⟨z1, st1, dx, l1, w1, rx, q1⟩ => ?_⟩
  split at q1
  · rename_i s
    split at q1
    · rename_i hz
      cases rx
      refine ⟨_, rfl, by rw [strOf_len, strOf_len]; exact of_decide_eq_true hz, ?_⟩
      rw [rep_ok]
      exact q1 z1 H1 _ (Le.refl z1) w1 (.str _)
    · exact q1.elim
  · exact q1.elim
/-- .. where a token is out -/
abbrev PDT (X : Cx) (c : Fc) (T : List (Addr × Str)) (W : WX) (e : PySem.Expr) (m : ME) : Prop := PET X e (LE c T W m)
theorem e_rep (a : Nat) (y : List Nat) {x1 x2 : Str} {j k : Nat} {c0 c1 : Pos} (ho : PDT X c T W o mo) (h1 : x1 = strOf [a] := by first | rfl | decide) (h2 : x2 = strOf y := by first | rfl | decide) (hyz : (x1 == x2) = false := by decide)
    (hst : starEach [.Constant (.str x1) j c0, .Constant (.str x2) k c1] X.env = [(false, eval (.Constant (.str x1) j c0) X.env), (false, eval (.Constant (.str x2) k c1) X.env)] := by rfl)
    (hbase : attributeBase o "replace" X.env (eval o X.env) = eval o X.env := by rfl) (hline : (apos.endLine == pos.line) = true := by rfl) :
    PDT X c T W (.Call (.Attribute o "replace" apos) [.Constant (.str x1) j c0, .Constant (.str x2) k c1] [] pos) (mRep a y mo) := fun pins s σ H Q h0 I q => by
  subst h1 h2
  exact CwR.pet_replT ho hyz hst hbase hline pins s σ H Q h0 I (rep_read q)
theorem pdt (h : PD X c T W e me) : PDT X c T W e me := CwR.PET.of h
abbrev SDT (X : Cx) (c : Fc) (T : List (Addr × Str)) (W : WX) (s : Stmt) (m : MS) : Prop := PST X s (LS c T W m)
abbrev SsDT (X : Cx) (c : Fc) (T : List (Addr × Str)) (W : WX) (s : List Stmt) (m : MS) : Prop := PSsT X s (LS c T W m)
theorem sst_cons {s1 : Stmt} {r1 : List Stmt} {m n : MS} (h1 : SDT X c T W s1 m) (h2 : SsDT X c T W r1 n) : SsDT X c T W (s1 :: r1) (sSeq m n) := fun pins s σ H D h0 I ⟨z, ρ, st, w, r, q⟩ =>
  psst_cons h1 h2 pins s σ H D h0 I ⟨z, ρ, st, w, r, seq_ok q⟩
theorem sst {r1 : List Stmt} {m : MS} (h : SsD X c T W r1 m) : SsDT X c T W r1 m := PSsT.of h
theorem sdt {s1 : Stmt} {m : MS} (h : SD X c T W s1 m) : SDT X c T W s1 m := PST.of h
/-- name = value, one token out -/
theorem s_setT (i : Nat) {x : Str} {pos' : Pos} (ha : PDT X c T W e me) (hN : X.N.Nodup) (hi : X.N[i]? = some x := by rfl) (hx : Loc X.env.scope x := by first | exact Or.inl rfl | exact Or.inr rfl) (hs : swapsWith e (some (.Name x pos')) pos.line X.env = pure false := by rfl)
    (hf : X.fn x = true ∨ X.env.scope.names.lookup x = some .local := by first | exact .inl rfl | exact .inr rfl) : SDT X c T W (.Assign [.Name x pos'] e pos) (sAsg me (gN i)) := fun pins s σ H D h0 I ⟨z, ρ, st, w, r, q⟩ => by
  have q' := PstS.bnd (R := Rp c.toCc) q r
  refine wpAny_Assign_Name (thn (ha pins s σ H _ h0 I ⟨z, ρ, st, w, r, q'⟩) fun v s1 ⟨x, H1, I1, r1, z1, st1, dx, l1, w1, rx, q1⟩ => ?_) hs
  exact store_ok I1 hN hi hx r1 (fun s2 I2 => ⟨_, H1, I2, q1 z1 H1 _ (Le.refl z1) w1 ((r.mono l1).set (.d rx) i)⟩) hf
end
end Bw
set_option linter.all false
set_option autoImplicit false
set_option maxRecDepth 100000
set_option maxHeartbeats 2000000
/-! Own exceptions whose __init__ calls super().__init__ and lays its arguments as fields. -/
namespace PySem
namespace BwX
open PySem.W PySem.Calls PyProof.Rows PySem.HandSPX Builtin Builtin.ObjectAttr
section
variable {prog : Program} {w : World} {A : Around} {E : Value → Shared → Prop} {R : Result → Shared → Prop} {hp : Heap} {gg : Array GenState} {dd : Drawn} {tt : Nat} {oo : OsState}
/-- what the class C is: own ones above it, then Exception's -/
structure Over (K : Frag) (C : Addr) (cd : ClassData) : Prop where
  at_ : clsIn K C = some cd
  tail : excTail ESX.exTail cd.mro = true
  ob : mroIn K C (.type "object") = some true
  hd : cd.hasDict = true
theorem osa_on {K : Frag} {name : Str} {tk : Tok} {v : Value} {x C : Addr} {ox : Obj} {od : Option Obj} {cd : ClassData} (X : K.In hp) (I : InstAt hp x ox C od) (ov : Over K C cd) (ha : findIn K (.ref C) name = some none)
    (hq : wpAny (model prog w) A.in1 (storeInOwnDict (.ref x) (.ref C) (.str name tk) name v false) (fun fin s' => match fin with | .done f => R (.ok f) s' | .again c' => c'.quiet = true ∧ codeAny (model prog w) A c' R s') (fun e s' => R (.error e) s') ⟨hp, gg, dd, tt, oo⟩) :
    codeAny (model prog w) A (.call (.builtin "object.__setattr__") ⟨[.ref x, .str name tk, v], []⟩) R ⟨hp, gg, dd, tt, oo⟩ := by
  have sf := F.store_object
  have is_ : Looks (model prog w) hp (isInstance (.ref x) (.type "object")) true := I.type.andThen (looks_mroIn X ov.ob)
  refine codeAny_call_builtin sf.slot.plain sf.entry (@check_slot (model prog w) _ _ ⟨hp, gg, dd, tt, oo⟩ "object.__setattr__" "object" "__setattr__" (.ref x) [.str name tk, v] [] _ sf.kind sf.split is_ (sf.args (.ref x) (.str name tk) v) ?_)
  have lm : Looks (model prog w) hp (mroOf (.ref C)) cd.mro := (looks_clsIn X ov.at_).andThen .now
  have lt : Looks (model prog w) hp (storeTaker? none) none := .now
  rw [osa_eq, refuse_eq]
  refine wpAny_bind (wpAny_bind (I.type.at (wpAny_bind (lm.at ?_))))
  rw [excTail_pass (.ref x) (F.store_Exception.passes _) cd.mro ov.tail]
  exact wpAny_pure (wpAny_bind (I.type.at (wpAny_bind ((looks_findIn X ha).at (wpAny_bind (lt.at hq))))))
theorem osa_first {K : Frag} {name : Str} {tk : Tok} {v : Value} {x C : Addr} {fv : Array Value} {cd : ClassData} (X : K.In hp) (hx : hp.get? x = some { cls := .ref C, data := .fields fv }) (ov : Over K C cd) (ha : findIn K (.ref C) name = some none)
    (hq : ∀ h' tk' dx, (∀ b o, b ≠ x → hp.get? b = some o → h'.get? b = some o) → hp.objs.size ≤ dx → dx ≠ x → h'.get? x = some { cls := .ref C, dict := some dx, data := .fields fv } → h'.Ns1 dx (fun y => if y = name then some v else none) → R (.ok (.ret .none)) ⟨h', gg, dd, tk', oo⟩) :
    codeAny (model prog w) A (.call (.builtin "object.__setattr__") ⟨[.ref x, .str name tk, v], []⟩) R ⟨hp, gg, dd, tt, oo⟩ := by
  have I : InstAt hp x { cls := .ref C, data := .fields fv } C none := ⟨hx, rfl, rfl, trivial⟩
  have ne : x ≠ hp.objs.size := Nat.ne_of_lt (Heap.lt_size hx)
  refine osa_on X I ov ha ?_
  have lc : Looks (model prog w) hp (classData C) cd := looks_clsIn X ov.at_
  have hh := ov.hd
  obtain ⟨nm, bs, mro, ns, qn, hd, sn, sb, ab, col, del⟩ := cd
  replace hh : hd = true := hh
  subst hh
  unfold storeInOwnDict
  unfold ownDictForStores
  repeat (first | with_reducible refine HandSPX.store_in_new ?_ ?_ | with_reducible refine wpAny_loadPart_at hx ?_ | with_reducible refine lc.at ?_ | wp_step)
  · exact ⟨_, #[], _, (Heap.get?_update_ne _ _ _ _ ne.symm).trans (Heap.get?_push_at rfl rfl), rfl, fun e he => absurd he (by simp), fun _ => rfl⟩
  · intro h' tk' hn' hs
    have hx1 : (hp.push { cls := .type "dict", data := .dict #[] }).get? x = some { cls := .ref C, data := .fields fv } := Heap.get?_push_of_some _ hx
    exact hq h' tk' hp.objs.size (fun b o hb ho => (hs.2 b (Nat.ne_of_lt (Heap.lt_size ho))).trans ((Heap.get?_update_ne _ _ _ _ hb).trans (Heap.get?_push_of_some _ ho))) (Nat.le_refl _) ne.symm ((hs.2 x ne).trans (Heap.get?_update_self _ hx1 rfl)) hn'
theorem osa_next {K : Frag} {name : Str} {tk : Tok} {v : Value} {x C dx : Addr} {fv : Array Value} {cd : ClassData} {m0 : Str → Option Value} {nl : List Str}
    (X : K.In hp) (hx : hp.get? x = some { cls := .ref C, dict := some dx, data := .fields fv }) (hns : hp.Ns1 dx m0) (hw : PySem.Within m0 nl) (hz : nl.length ≤ 1000) (ov : Over K C cd) (ha : findIn K (.ref C) name = some none)
    (hq : ∀ h' tk', (∀ b o, b ≠ dx → hp.get? b = some o → h'.get? b = some o) → h'.Ns1 dx (fun y => if y = name then some v else m0 y) → R (.ok (.ret .none)) ⟨h', gg, dd, tk', oo⟩) :
    codeAny (model prog w) A (.call (.builtin "object.__setattr__") ⟨[.ref x, .str name tk, v], []⟩) R ⟨hp, gg, dd, tt, oo⟩ := by
  obtain ⟨oD, _, _, hoD, _⟩ := hns.count hw
  have I : InstAt hp x { cls := .ref C, dict := some dx, data := .fields fv } C (some oD) := ⟨hx, rfl, rfl, hoD⟩
  refine osa_on X I ov ha ?_
  have lc : Looks (model prog w) hp (classData C) cd := looks_clsIn X ov.at_
  have hh := ov.hd
  obtain ⟨nm, bs, mro, ns, qn, hd, sn, sb, ab, col, del⟩ := cd
  replace hh : hd = true := hh
  subst hh
  unfold storeInOwnDict
  unfold ownDictForStores
  repeat (first | with_reducible refine ESX.store_in_old hns hw hz ?_ | with_reducible refine wpAny_loadPart_at hx ?_ | with_reducible refine lc.at ?_ | wp_step)
  exact fun h' tk' hn' hs => hq h' tk' (fun b o hb ho => (hs.2 b hb).trans ho) hn'
end

/-- what the written part says of an own exception: its class at C, its __init__ at f, the cell of its __class__ at cc, the code at ca -/
structure Txt (prog : Program) (K : Frag) (mg : Str → Option Value) (C f cc ca : Addr) (cd : ClassData) : Prop where
  cls : ∃ nm q N bs bm sn sub ab col dd k0 k1 k2 k3 k5, K.lookup C = some (excClassObj nm q C N bs bm true sn sub ab col dd k0 k1 k2 k3 k5 "Exception.__new__") ∧ excTail ESX.exTail bm = true
  ov : Over K C cd
  sa : findIn K (.ref C) "__setattr__" = some (some (.builtin "object.__setattr__"))
  ga : findIn K (.ref C) "__getattribute__" = some (some (.builtin "BaseException.__getattribute__"))
  gq : findIn K (.ref C) "__getattr__" = some none
  ini : findIn K (.ref C) "__init__" = some (some (.ref f))
  tI : typeIn K (.ref f) = some (.type "function")
  kp : keepIn K (.ref C) = true
  bs : subIn K (.ref C) (.type "BaseException") = some true
  xs : subIn K (.ref C) (.type "Exception") = some true
  ty : typeIn K (.ref C) = some (.type "type")
  hd : hasDictIn K C = true
  up : ks_superIn K C C "__init__" = some (some (.builtin "Exception.__init__"))
  me : mroIn K C (.ref C) = some true
  cell : ∃ cl cld csl, K.lookup cc = some ⟨cl, cld, .cell (some (.ref C)), csl⟩
  code : ∃ ccl cdd ccs vs file tf, K.lookup ca = some ⟨ccl, cdd, .fields vs, ccs⟩ ∧ vs[2]? = some (.str file tf) ∧ ((prog.main.file : Str) == file) = true
  tp : nsIn K cStatics "thirdparty.any" = some none
  noS : mg "super" = none
  top : (prog.main.scope.names.lookup ("super" : Str)).isSome = false
section
variable {prog : Program} {w : World} {A : Around} {E : Value → Shared → Prop} {R : Result → Shared → Prop} {s : Shared} {K : Frag} {mg mb : Str → Option Value} {C f cc ca : Addr} {cd : ClassData}
theorem ldS {M : Model} {env : Env} {m : Str → Option Value} {x : Str} {pos : Pos} {v : Value} {Q : Value → Shared → Prop} (hn : s.heap.Ns env.locals m) (hv : m x = some v) (h : Q v s) (hk : env.scope.kind = .function) (hl : env.kindOf x = some .local) (hd : (x == ("__debug__" : Str)) = false) :
    wpAny M A (eval (.Name x pos) env) Q E s := wpAny_Name (wpAny_loadName_local hk hl hn hv h) hd
/-- super().__init__(..), its arguments told -/
theorem up_init (T : Txt prog K mg C f cc ca cd) {scope : Scope} {q : Str} {L x t0 : Addr} {fd : FuncData} {oc : Value} {od : Option Addr} {osl : Array (Option Value)} {ar : Arg} {body : List Stmt} {p0 p1 p2 p4 p5 : Pos} {e : PySem.Expr} {es : List PySem.Expr} {vs : List Value} {m : Str → Option Value} {Q : Flow → Shared → Prop}
    (X : K.In s.heap) (G : s.heap.Ns mainGlobals mg) (Bn : s.heap.Ns builtinsNs mb) (hb : mb "super" = some (.type "super")) (lkf : K.lookup f = some ⟨oc, od, .func fd, osl⟩) (hp : (fd.params.posonlyargs ++ fd.params.args).head? = some ar) (hn : s.heap.Ns L m) (hv : m ar.arg = some (.ref x)) (hx : s.heap.get? x = some (excO C t0))
    (hks : scope.names.lookup ("super" : Str) = some .globalImplicit) (hkc : scope.names.lookup ("__class__" : Str) = some .free) (hka : scope.names.lookup ar.arg = some .local) (hk : scope.kind = .function) (hz : vs.length ≤ sizeLine)
    (ha : ∀ s', (∀ b o, s.heap.get? b = some o → s'.heap.get? b = some o) → ∀ Q : List Value → Shared → Prop, (∀ tk, Q vs { s' with toks := tk }) → wpAny (model prog w) A (spliced (backTo p4 (starEach (e :: es) (ksEnv q scope L f (.ref ca) cc)))) Q E s')
    (h : ∀ h' tk t1, (∀ b o, b ≠ x → s.heap.get? b = some o → h'.get? b = some o) → h'.get? x = some (excO C t1) → Q .next { s with heap := h', toks := tk })
    (he : starEach (e :: es) (ksEnv q scope L f (.ref ca) cc) = (false, eval e (ksEnv q scope L f (.ref ca) cc)) :: starEach es (ksEnv q scope L f (.ref ca) cc)) (hpl : (backTo p4 (starEach es (ksEnv q scope L f (.ref ca) cc))).any (·.1) = false)
    (hev : ∃ pl, eval (.Call (.Attribute (.Call (.Name "super" p0) [] [] p1) "__init__" p2) (e :: es) [] p4) (ksEnv q scope L f (.ref ca) cc) = (do
      let ov ← attributeBase (.Call (.Name "super" p0) [] [] p1) "__init__" (ksEnv q scope L f (.ref ca) cc) (eval (.Call (.Name "super" p0) [] [] p1) (ksEnv q scope L f (.ref ca) cc))
      standAt p2.atName
      let (f', first) ← holding [ov] (getMethod ov "__init__" pl)
      callWith p4 f' first (backTo p4 (starEach (e :: es) (ksEnv q scope L f (.ref ca) cc))) []))
    (hi : interactive (ksEnv q scope L f (.ref ca) cc) = false) (hsw : swapsWith (.Call (.Attribute (.Call (.Name "super" p0) [] [] p1) "__init__" p2) (e :: es) [] p4) none p5.line (ksEnv q scope L f (.ref ca) cc) = pure false) :
    wpAt (model prog w) A (.func body (ksEnv q scope L f (.ref ca) cc)) (exec (.Expr (.Call (.Attribute (.Call (.Name "super" p0) [] [] p1) "__init__" p2) (e :: es) [] p4) p5) (ksEnv q scope L f (.ref ca) cc)) Q E s := by
  obtain ⟨nm, qn, N, bs, bm, sn, sub, ab, col, dd, k0, k1, k2, k3, k5, lkC, hbm⟩ := T.cls
  obtain ⟨cl, cld, csl, lkc⟩ := T.cell
  obtain ⟨ccl, cdd, ccs, fs, file, tf, lka, hfs, hfile⟩ := T.code
  obtain ⟨pl, hev⟩ := hev
  obtain ⟨hh, g, d, t, os⟩ := s
  have XC := X _ _ lkC
  have I : InstAt hh x (excO C t0) C none := ⟨hx, rfl, rfl, trivial⟩
  have xC : x ≠ C := ks_ne X I T.ov.at_
  refine ks_wpAt_Expr_any (ks_wpAt_MethodCall (pl := pl) ?_ hev) hi hsw
  refine ks_wpAt_super_base (env := ksEnv q scope L f (.ref ca) cc) hks hkc (by decide) rfl (X _ _ lkf) rfl hp rfl (X _ _ lka) rfl hfs hfile T.top ?_
  refine ks_loadName_global hk hks (loadGlobal_builtin (env := ksEnv q scope L f (.ref ca) cc) G T.noS Bn hb ⟨rfl, ?_⟩)
  refine wpAny_loadName_free hk hkc rfl ⟨_, X _ _ lkc, rfl⟩ ?_
  refine wpAny_loadName_local hk hka hn hv ?_
  refine ks_wpAny_isType_cls XC rfl ⟨rfl, ?_⟩
  refine ks_wpAny_call_super XC rfl hx rfl (fun c e => nomatch e) (looks_mroIn X T.me) (fun h' e1 k => ?_)
  have X1 : K.In h' := X.keeps k
  have I1 : InstAt h' x (excO C t0) C none := ⟨k _ _ hx, rfl, rfl, trivial⟩
  have hI : Looks (model prog w) h' (isInstance (.ref x) (.type "Exception")) true := I1.type.andThen (looks_subIn X1 T.xs)
  have hm := T.up
  unfold ks_superIn at hm
  rw [T.ov.at_] at hm
  refine kxs_getMethod kxs_Exception e1 (looks_opaque X1 T.tp) (l₀ := cd.mro) (fun A Q E s k q => wpAny_bind ((looks_clsIn X1 T.ov.at_) A _ E s k (wpAny_pure q))) rfl X1 hm hI xC (by decide) ?_
  have k2 : ∀ b o, hh.get? b = some o → (h'.push (kxs_mw "Exception.__init__" x)).get? b = some o := fun b o q => Heap.get?_push_of_some _ (k b o q)
  rw [he]
  refine kxs_callWith (i := "Exception.__init__") (x := x) (by show (false || (backTo p4 (starEach es (ksEnv q scope L f (.ref ca) cc))).any (·.1)) = false; rw [hpl]; rfl) ?_
  refine evalArgs_plain ?_
  have ha' := ha ⟨h'.push (kxs_mw "Exception.__init__" x), g, d, t + 1, os⟩ k2
  rw [he] at ha'
  refine ha' _ fun tk => ⟨Heap.get?_push_at rfl rfl, ?_⟩
  refine ESX.call_bw (k2 _ _ XC) (k2 _ _ hx) (Heap.get?_push_at rfl rfl) hz fun h2 t1 k3 hx2 => h h2 _ t1 (fun b o hb q => k3 b o hb (k2 b o q)) hx2
/-- what __init__ leaves of a fresh exception at x -/
structure Left (h h' : Heap) (x C : Addr) (m : Str → Option Value) : Prop where
  keep : ∀ b o, b ≠ x → h.get? b = some o → h'.get? b = some o
  obj : ∃ dx t1, h.objs.size ≤ dx ∧ dx ≠ x ∧ h'.get? x = some { cls := .ref C, dict := some dx, data := .fields #[.ref t1, .none, .none, .none, .bool false, .none] } ∧ h'.Ns1 dx m
theorem in_but {K : Frag} {h h' : Heap} {x : Addr} (X : K.In h) (hx : K.lookup x = none) (k : ∀ b o, b ≠ x → h.get? b = some o → h'.get? b = some o) : K.In h' := fun a o e => k a o (fun z => by rw [z, hx] at e; cases e) (X a o e)
theorem ns_but {h h' : Heap} {L x : Addr} {m : Str → Option Value} (hn : h.Ns L m) (hL : L ≠ x) (k : ∀ b o, b ≠ x → h.get? b = some o → h'.get? b = some o) : h'.Ns L m := by
  obtain ⟨o, es, ep, ho, r⟩ := hn
  exact ⟨o, es, ep, k _ _ hL ho, r⟩
/-- how super().__init__(..) is read, in a context where its rows are known -/
def UpEv (f cc ca : Addr) (qual : Str) (scope : Scope) (p0 p1 p2 p4 p5 : Pos) (es : List PySem.Expr) : Prop := ∀ L : Addr, (∃ pl, eval (.Call (.Attribute (.Call (.Name "super" p0) [] [] p1) "__init__" p2) es [] p4) (ksEnv qual scope L f (.ref ca) cc) = (do
      let ov ← attributeBase (.Call (.Name "super" p0) [] [] p1) "__init__" (ksEnv qual scope L f (.ref ca) cc) (eval (.Call (.Name "super" p0) [] [] p1) (ksEnv qual scope L f (.ref ca) cc))
      standAt p2.atName
      let (f', first) ← holding [ov] (getMethod ov "__init__" pl)
      callWith p4 f' first (backTo p4 (starEach es (ksEnv qual scope L f (.ref ca) cc))) [])) ∧
    swapsWith (.Call (.Attribute (.Call (.Name "super" p0) [] [] p1) "__init__" p2) es [] p4) none p5.line (ksEnv qual scope L f (.ref ca) cc) = pure false
/-- one field -/
structure Ini1 (K : Frag) (f cc ca : Addr) (a : Str) : Prop where
  fn : ∃ (qual : Str) (params : Arguments) (scope : Scope) (doc pm ct oc : Value) (od an : Option Addr) (osl : Array (Option Value)) (p0 p1 p2 p3 p4 p5 q1 q2 q3 q4 : Pos),
    K.lookup f = some ⟨oc, od, .func (ksFn "__init__" qual params [.Expr (.Call (.Attribute (.Call (.Name "super" p0) [] [] p1) "__init__" p2) [.Name a p3] [] p4) p5, .Assign [.Attribute (.Name "self" q1) a q2] (.Name a q3) q4] scope .none .none doc pm an (.ref ca) ct cc), osl⟩ ∧ codeIn K (.ref ca) qual = true ∧
    (params.posonlyargs ++ params.args).head?.map (·.arg) = some "self" ∧ scope.names.lookup ("super" : Str) = some .globalImplicit ∧ scope.names.lookup ("__class__" : Str) = some .free ∧ scope.names.lookup ("self" : Str) = some .local ∧ scope.names.lookup a = some .local ∧ scope.kind = .function ∧ scope.isCoroutine = false ∧ scope.isGenerator = false ∧
    (∀ y ∈ scope.names, y.2 ≠ .cell) ∧ (∀ (s : Shared) (x v : Value), BindsTo s (ksFn "__init__" qual params [.Expr (.Call (.Attribute (.Call (.Name "super" p0) [] [] p1) "__init__" p2) [.Name a p3] [] p4) p5, .Assign [.Attribute (.Name "self" q1) a q2] (.Name a q3) q4] scope .none .none doc pm an (.ref ca) ct cc) ⟨[x, v], []⟩ [("self", x), (a, v)]) ∧
    UpEv f cc ca qual scope p0 p1 p2 p4 p5 [.Name a p3] ∧ ∀ L : Addr, swapsWith (.Name a q3) (some (.Attribute (.Name "self" q1) a q2)) q4.line (ksEnv qual scope L f (.ref ca) cc) = pure false
  as : (a == ("self" : Str)) = false
  ad : (a == ("__debug__" : Str)) = false
theorem ini1 {prog : Program} (T : Txt prog K mg C f cc ca cd) {a : Str} (I : Ini1 K f cc ca a) (ha0 : findIn K (.ref C) a = some none) {x t0 : Addr} {v : Value} (X : K.In s.heap) (G : s.heap.Ns mainGlobals mg) (Bn : s.heap.Ns builtinsNs mb) (hb : mb "super" = some (.type "super")) (hlim : s.heap.NoLimit)
    (hx : s.heap.get? x = some (excO C t0)) (hnx : K.lookup x = none) (hroom : A.depth < recursionLimit)
    (hq : ∀ h' tk, Left s.heap h' x C (fun y => if y = a then some v else none) → R (.ok (.ret .none)) { s with heap := h', toks := tk }) :
    codeAny (model prog w) A (.call (.ref f) ⟨[.ref x, v], []⟩) R s := by
  obtain ⟨qual, params, scope, doc, pm, ct, oc, od, an, osl, p0, p1, p2, p3, p4, p5, q1, q2, q3, q4, lk, hcd, hpar, hks, hkc, hkself, hka, hkind, hco, hgen, hcell, hbind, hev, hsw⟩ := I.fn
  have as_ : ¬ a = "self" := fun e => by have := I.as; rw [e] at this; simp at this
  obtain ⟨ar, har, hself⟩ : ∃ ar, (params.posonlyargs ++ params.args).head? = some ar ∧ ar.arg = "self" := by
    cases e : (params.posonlyargs ++ params.args).head? with
    | none => rw [e] at hpar; cases hpar
    | some ar => rw [e] at hpar; exact ⟨ar, rfl, Option.some.inj hpar⟩
  refine ks_codeAny_call_defAt (binds := [("self", .ref x), (a, v)]) hroom (X _ _ lk) rfl hlim (codeRec_of X hcd) rfl (hbind s (.ref x) v) hcell (fun y hy => ?_) (fun h0 hns k0 => ?_) hco hgen hkind
  · have : y = ((("self" : Str), Value.ref x) : Str × Value) ∨ y = (a, v) := by simpa using hy
    rcases this with rfl | rfl
    · exact hkself
    · exact hka
  have X0 : K.In h0 := X.keeps k0
  have hx0 := k0 _ _ hx
  have hxL : s.heap.objs.size ≠ x := Nat.ne_of_gt (Heap.lt_size hx)
  have ms : List.lookup ("self" : Str) [(("self" : Str), Value.ref x), (a, v)].reverse = some (.ref x) := by
    show List.lookup ("self" : Str) [(a, v), (("self" : Str), Value.ref x)] = _
    have : (("self" : Str) == a) = false := by simpa using fun e => as_ e.symm
    simp [List.lookup, this]
  have ma : List.lookup a [(("self" : Str), Value.ref x), (a, v)].reverse = some v := by
    show List.lookup a [(a, v), (("self" : Str), Value.ref x)] = _
    simp [List.lookup]
  refine ks_wpAt_execs_cons ?_
  refine up_init (s := { s with heap := h0, toks := s.toks + 2 }) T (vs := [v]) X0 (G.keeps k0) (Bn.keeps k0) hb lk har hns (by rw [hself]; exact ms) hx0 hks hkc (by rw [hself]; exact hkself) hkind (by show 1 ≤ sizeLine; decide) (fun s' ks' Q q => ?_) (fun h1 tk t1 k1 hx1 => ?_) rfl rfl (hev _).1 (by simp [interactive, hkind]) (hev _).2
  · refine Calls.spliced_cons (ldS (hns.keeps ks') ma (Calls.spliced_nil ?_) hkind hka I.ad)
    exact q s'.toks
  have X1 : K.In h1 := in_but X0 hnx k1
  have hn1 := ns_but hns hxL k1
  refine ks_wpAt_execs_cons (ks_wpAt_Assign_Attr (wpAt_of_wpAny ?_) (hsw _))
  refine ldS (env := ksEnv qual scope s.heap.objs.size f (.ref ca) cc) hn1 ma ?_ hkind hka I.ad
  refine ldS (env := ksEnv qual scope s.heap.objs.size f (.ref ca) cc) hn1 ms ?_ hkind hkself rfl
  refine set_plain X1 (ox := excO C t1) (od := none) ⟨hx1, rfl, rfl, trivial⟩ T.sa ?_
  refine osa_first X1 hx1 T.ov ha0 fun h2 tk2 dx k2 dn dne hx2 hn2 => ?_
  refine wpAt_of_wpAny (wpAny_execs_nil ?_)
  refine hq h2 tk2 ⟨fun b o hb' e => k2 b o hb' (k1 b o hb' (k0 b o e)), dx, t1, ?_, dne, hx2, hn2⟩
  have z : s.heap.objs.size < h1.objs.size := hn1.lt
  exact Nat.le_of_lt (Nat.lt_of_lt_of_le z dn)
/-- two fields -/
structure Ini2 (K : Frag) (f cc ca : Addr) (a b : Str) : Prop where
  fn : ∃ (qual : Str) (params : Arguments) (scope : Scope) (doc pm ct oc : Value) (od an : Option Addr) (osl : Array (Option Value)) (p0 p1 p2 p3 p6 p4 p5 q1 q2 q3 q4 r1 r2 r3 r4 : Pos) (body : List Stmt),
    body = [.Expr (.Call (.Attribute (.Call (.Name "super" p0) [] [] p1) "__init__" p2) [.Name a p3, .Name b p6] [] p4) p5, .Assign [.Attribute (.Name "self" q1) a q2] (.Name a q3) q4, .Assign [.Attribute (.Name "self" r1) b r2] (.Name b r3) r4] ∧
    K.lookup f = some ⟨oc, od, .func (ksFn "__init__" qual params body scope .none .none doc pm an (.ref ca) ct cc), osl⟩ ∧ codeIn K (.ref ca) qual = true ∧
    (params.posonlyargs ++ params.args).head?.map (·.arg) = some "self" ∧ scope.names.lookup ("super" : Str) = some .globalImplicit ∧ scope.names.lookup ("__class__" : Str) = some .free ∧ scope.names.lookup ("self" : Str) = some .local ∧ scope.names.lookup a = some .local ∧ scope.names.lookup b = some .local ∧ scope.kind = .function ∧ scope.isCoroutine = false ∧ scope.isGenerator = false ∧
    (∀ y ∈ scope.names, y.2 ≠ .cell) ∧ (∀ (s : Shared) (x v u : Value), BindsTo s (ksFn "__init__" qual params body scope .none .none doc pm an (.ref ca) ct cc) ⟨[x, v, u], []⟩ [("self", x), (a, v), (b, u)]) ∧
    UpEv f cc ca qual scope p0 p1 p2 p4 p5 [.Name a p3, .Name b p6] ∧ (∀ L : Addr, swapsWith (.Name a q3) (some (.Attribute (.Name "self" q1) a q2)) q4.line (ksEnv qual scope L f (.ref ca) cc) = pure false) ∧ ∀ L : Addr, swapsWith (.Name b r3) (some (.Attribute (.Name "self" r1) b r2)) r4.line (ksEnv qual scope L f (.ref ca) cc) = pure false
  as : (a == ("self" : Str)) = false
  bs : (b == ("self" : Str)) = false
  ab : (a == b) = false
  ad : (a == ("__debug__" : Str)) = false
  bd : (b == ("__debug__" : Str)) = false
theorem ini2 {prog : Program} (T : Txt prog K mg C f cc ca cd) {a b : Str} (I : Ini2 K f cc ca a b) (ha0 : findIn K (.ref C) a = some none) (hb0 : findIn K (.ref C) b = some none) {x t0 : Addr} {v u : Value} (X : K.In s.heap) (G : s.heap.Ns mainGlobals mg) (Bn : s.heap.Ns builtinsNs mb) (hb : mb "super" = some (.type "super")) (hlim : s.heap.NoLimit)
    (hx : s.heap.get? x = some (excO C t0)) (hnx : K.lookup x = none) (hroom : A.depth < recursionLimit)
    (hq : ∀ h' tk, Left s.heap h' x C (fun y => if y = b then some u else if y = a then some v else none) → R (.ok (.ret .none)) { s with heap := h', toks := tk }) :
    codeAny (model prog w) A (.call (.ref f) ⟨[.ref x, v, u], []⟩) R s := by
  obtain ⟨qual, params, scope, doc, pm, ct, oc, od, an, osl, p0, p1, p2, p3, p6, p4, p5, q1, q2, q3, q4, r1, r2, r3, r4, body, hbody, lk, hcd, hpar, hks, hkc, hkself, hka, hkb, hkind, hco, hgen, hcell, hbind, hev, hsw, hsw2⟩ := I.fn
  have as_ : ¬ a = "self" := fun e => by have := I.as; rw [e] at this; simp at this
  have bs_ : ¬ b = "self" := fun e => by have := I.bs; rw [e] at this; simp at this
  obtain ⟨ar, har, hself⟩ : ∃ ar, (params.posonlyargs ++ params.args).head? = some ar ∧ ar.arg = "self" := by
    cases e : (params.posonlyargs ++ params.args).head? with
    | none => rw [e] at hpar; cases hpar
    | some ar => rw [e] at hpar; exact ⟨ar, rfl, Option.some.inj hpar⟩
  refine ks_codeAny_call_defAt (binds := [("self", .ref x), (a, v), (b, u)]) hroom (X _ _ lk) rfl hlim (codeRec_of X hcd) rfl (hbind s (.ref x) v u) hcell (fun y hy => ?_) (fun h0 hns k0 => ?_) hco hgen hkind
  · have : y = ((("self" : Str), Value.ref x) : Str × Value) ∨ y = (a, v) ∨ y = (b, u) := by simpa using hy
    rcases this with rfl | rfl | rfl
    · exact hkself
    · exact hka
    · exact hkb
  have X0 : K.In h0 := X.keeps k0
  have hx0 := k0 _ _ hx
  have hxL : s.heap.objs.size ≠ x := Nat.ne_of_gt (Heap.lt_size hx)
  have ms : List.lookup ("self" : Str) [(("self" : Str), Value.ref x), (a, v), (b, u)].reverse = some (.ref x) := by
    show List.lookup ("self" : Str) [(b, u), (a, v), (("self" : Str), Value.ref x)] = _
    have h1 : (("self" : Str) == a) = false := by simpa using fun e => as_ e.symm
    have h2 : (("self" : Str) == b) = false := by simpa using fun e => bs_ e.symm
    simp [List.lookup, h1, h2]
  have ma : List.lookup a [(("self" : Str), Value.ref x), (a, v), (b, u)].reverse = some v := by
    show List.lookup a [(b, u), (a, v), (("self" : Str), Value.ref x)] = _
    simp [List.lookup, I.ab]
  have mb2 : List.lookup b [(("self" : Str), Value.ref x), (a, v), (b, u)].reverse = some u := by
    show List.lookup b [(b, u), (a, v), (("self" : Str), Value.ref x)] = _
    simp [List.lookup]
  subst hbody
  refine ks_wpAt_execs_cons ?_
  refine up_init (s := { s with heap := h0, toks := s.toks + 3 }) T (vs := [v, u]) X0 (G.keeps k0) (Bn.keeps k0) hb lk har hns (by rw [hself]; exact ms) hx0 hks hkc (by rw [hself]; exact hkself) hkind (by show 2 ≤ sizeLine; decide) (fun s' ks' Q q => ?_) (fun h1 tk t1 k1 hx1 => ?_) rfl rfl (hev _).1 (by simp [interactive, hkind]) (hev _).2
  · refine Calls.spliced_cons (ldS (hns.keeps ks') ma (Calls.spliced_cons (ldS (hns.keeps ks') mb2 (Calls.spliced_nil ?_) hkind hkb I.bd)) hkind hka I.ad)
    exact q s'.toks
  have X1 : K.In h1 := in_but X0 hnx k1
  have hn1 := ns_but hns hxL k1
  refine ks_wpAt_execs_cons (ks_wpAt_Assign_Attr (wpAt_of_wpAny ?_) (hsw _))
  refine ldS (env := ksEnv qual scope s.heap.objs.size f (.ref ca) cc) hn1 ma ?_ hkind hka I.ad
  refine ldS (env := ksEnv qual scope s.heap.objs.size f (.ref ca) cc) hn1 ms ?_ hkind hkself rfl
  refine set_plain X1 (ox := excO C t1) (od := none) ⟨hx1, rfl, rfl, trivial⟩ T.sa ?_
  refine osa_first X1 hx1 T.ov ha0 fun h2 tk2 dx k2 dn dne hx2 hn2 => ?_
  have X2 : K.In h2 := in_but X1 hnx k2
  have hnL := ns_but hn1 hxL k2
  obtain ⟨oD, _, _, hoD, hdD, _⟩ := id hn2
  have hlt : s.heap.objs.size < h1.objs.size := hn1.lt
  have hdL : s.heap.objs.size ≠ dx := Nat.ne_of_lt (Nat.lt_of_lt_of_le hlt dn)
  refine wpAt_of_wpAny ?_
  refine wpAny_execs_cons (plainObj_wpAny_Assign_Attribute ?_ (hsw2 _))
  refine ldS (env := ksEnv qual scope s.heap.objs.size f (.ref ca) cc) hnL mb2 ?_ hkind hkb I.bd
  refine ldS (env := ksEnv qual scope s.heap.objs.size f (.ref ca) cc) hnL ms ?_ hkind hkself rfl
  refine set_plain X2 (ox := { cls := .ref C, dict := some dx, data := .fields #[.ref t1, .none, .none, .none, .bool false, .none] }) (od := some oD) ⟨hx2, rfl, rfl, hoD⟩ T.sa ?_
  have hw : PySem.Within (fun y => if y = a then some v else none) [a] := fun y hy => by
    by_cases e : y = a
    · rw [e]; simp
    · simp [e] at hy
  refine osa_next X2 hx2 hn2 hw (by show 1 ≤ 1000; omega) T.ov hb0 fun h3 tk3 k3 hn3 => ?_
  refine wpAny_execs_nil ?_
  refine hq h3 tk3 ⟨fun b' o hb' e => ?_, dx, t1, Nat.le_of_lt (Nat.lt_of_lt_of_le hlt dn), dne, k3 _ _ dne.symm hx2, hn3⟩
  have e1 := k1 b' o hb' (k0 b' o e)
  exact k3 b' o (Nat.ne_of_lt (Nat.lt_of_lt_of_le (Heap.lt_size e1) dn)) (k2 b' o hb' e1)
end
end BwX
end PySem
set_option linter.all false
set_option autoImplicit false
set_option maxRecDepth 100000
set_option maxHeartbeats 2000000
/-! Own exceptions made, raised. -/
namespace PySem
namespace BwX
open PySem.W PySem.Calls PyProof.Rows PySem.HandSPX
/-- a made exception -/
structure OwnX (h h' : Heap) (e C d : Addr) (m : Str → Option Value) : Prop where
  keep : ∀ b o, h.get? b = some o → h'.get? b = some o
  new : h.objs.size ≤ e
  obj : ∃ oe vs, h'.get? e = some oe ∧ oe.cls = .ref C ∧ oe.dict = some d ∧ oe.data = .fields vs ∧ vs[1]? = some .none
  dbig : h.objs.size ≤ d
  dne : d ≠ e
  ns : h'.Ns1 d m
/-- the class at C is called: fields of these names -/
def MkX (prog : Program) (w : World) (K : Frag) (mg : Str → Option Value) (C : Addr) (as : List Str) : Prop :=
  ∀ (A : Around) (R : Result → Shared → Prop) (s : Shared) (vs : List L2.V) (us : List Value) (mb : Str → Option Value), K.In s.heap → s.heap.Ns mainGlobals mg → s.heap.Ns builtinsNs mb → mb "super" = some (.type "super") → s.heap.NoLimit → A.depth + 1 < recursionLimit → L2.Vals vs us → vs.length = as.length →
    (∀ h' tk e d m, OwnX s.heap h' e C d m → (∀ f, L2.RelO (List.lookup f (as.zip vs)) (m f)) → R (.ok (.ret (.ref e))) { s with heap := h', toks := tk }) → codeAny (model prog w) A (.call (.ref C) ⟨us, []⟩) R s
section
variable {prog : Program} {w : World} {A : Around} {R : Result → Shared → Prop} {s : Shared} {K : Frag} {mg mb : Str → Option Value} {C f cc ca : Addr} {cd : ClassData}
theorem made {us : List Value} {m : Str → Option Value} (T : Txt prog K mg C f cc ca cd) (hlen : us.length ≤ sizeLine) (X : K.In s.heap) (hroom : A.depth + 1 < recursionLimit)
    (hrun : ∀ (A' : Around) (R' : Result → Shared → Prop) (s' : Shared) (x t0 : Addr), A'.depth = A.depth + 1 → (∀ b o, s.heap.get? b = some o → s'.heap.get? b = some o) → s'.heap.get? x = some (excO C t0) → K.lookup x = none → (∀ h' tk, Left s'.heap h' x C m → R' (.ok (.ret .none)) { s' with heap := h', toks := tk }) → codeAny (model prog w) A' (.call (.ref f) ⟨.ref x :: us, []⟩) R' s')
    (hq : ∀ h' tk e d, OwnX s.heap h' e C d m → R (.ok (.ret (.ref e))) { s with heap := h', toks := tk }) : codeAny (model prog w) A (.call (.ref C) ⟨us, []⟩) R s := by
  obtain ⟨nm, q, N, bs, bm, sn, sub, ab, col, dd, k0, k1, k2, k3, k5, hC, hbm⟩ := T.cls
  obtain ⟨hp, g, dr, tk, os⟩ := s
  have k : ∀ b o, hp.get? b = some o → ((hp.push (kdv_tup us)).push (excO C hp.objs.size)).get? b = some o := fun b o e => Heap.get?_push_of_some _ (Heap.get?_push_of_some _ e)
  have hx : ((hp.push (kdv_tup us)).push (excO C hp.objs.size)).get? (hp.objs.size + 1) = some (excO C hp.objs.size) := by heap_get
  have hn : K.lookup (hp.objs.size + 1) = none := by
    cases e : K.lookup (hp.objs.size + 1) with
    | none => rfl
    | some o => exact absurd (Nat.lt_of_succ_lt (Heap.lt_size (show hp.get? (hp.objs.size + 1) = some o from X _ _ e))) (Nat.lt_irrefl _)
  refine call_own F.excBase_Exception (fun Y => excTail_contains Y bm hbm) (X _ _ hC) (looks_findIn X T.ini) (fun self => bind_fn X self T.tI) hlen ?_
  refine hrun _ _ ⟨(hp.push (kdv_tup us)).push (excO C hp.objs.size), g, dr, tk, os⟩ (hp.objs.size + 1) hp.objs.size L2.make_depth k hx hn fun h' tk' l => ?_
  obtain ⟨dx, t1, dbig, dne, hob, hns⟩ := l.obj
  have old : ∀ b o, hp.get? b = some o → h'.get? b = some o := fun b o e => l.keep b o (Nat.ne_of_lt (Nat.lt_succ_of_lt (Heap.lt_size e))) (k b o e)
  have z : hp.objs.size + 1 + 1 ≤ dx := by
    have q := dbig
    rw [Heap.size_push, Heap.size_push] at q
    exact q
  exact ⟨rfl, hq h' tk' (hp.objs.size + 1) dx ⟨old, Nat.le_succ _, ⟨_, _, hob, rfl, rfl, rfl, rfl⟩, Nat.le_trans (Nat.le_succ_of_le (Nat.le_succ _)) z, dne, hns⟩⟩
theorem made1 (T : Txt prog K mg C f cc ca cd) {a : Str} (I : Ini1 K f cc ca a) (ha : findIn K (.ref C) a = some none) : MkX prog w K mg C [a] := by
  intro A R s vs us mb X G Bn hb hlim hroom r hl hq
  cases r with
  | nil => cases hl
  | @cons v v' _ _ rv rr =>
    cases rr with
    | cons _ _ => simp at hl
    | nil =>
    refine made (m := fun y => if y = a then some v' else none) T (by show 1 ≤ sizeLine; decide) X hroom (fun A' R' s' x t0 hA k hx hn hR => ?_) fun h' tk e d o => hq h' tk e d _ o fun f => ?_
    · exact ini1 T I ha (X.keeps k) (G.keeps k) (Bn.keeps k) hb (hlim.keeps k) hx hn (by rw [hA]; exact hroom) hR
    · show L2.RelO (List.lookup f [(a, v)]) _
      by_cases e : f = a
      · subst e
        rw [if_pos rfl]
        have : List.lookup f [(f, v)] = some v := by simp [List.lookup]
        rw [this]
        exact rv
      · rw [if_neg e]
        have h0 : (f == a) = false := by simpa using e
        have : List.lookup f [(a, v)] = none := by simp [List.lookup, h0]
        rw [this]
        trivial
theorem made2 (T : Txt prog K mg C f cc ca cd) {a b : Str} (I : Ini2 K f cc ca a b) (ha : findIn K (.ref C) a = some none) (hb0 : findIn K (.ref C) b = some none) : MkX prog w K mg C [a, b] := by
  intro A R s vs us mb X G Bn hb hlim hroom r hl hq
  cases r with
  | nil => cases hl
  | @cons v v' _ _ rv rr =>
    cases rr with
    | nil => simp at hl
    | @cons u u' _ _ ru rr =>
    cases rr with
    | cons _ _ => simp at hl
    | nil =>
    refine made (m := fun y => if y = b then some u' else if y = a then some v' else none) T (by show 2 ≤ sizeLine; decide) X hroom (fun A' R' s' x t0 hA k hx hn hR => ?_) fun h' tk e d o => hq h' tk e d _ o fun f => ?_
    · exact ini2 T I ha hb0 (X.keeps k) (G.keeps k) (Bn.keeps k) hb (hlim.keeps k) hx hn (by rw [hA]; exact hroom) hR
    · show L2.RelO (List.lookup f [(a, v), (b, u)]) _
      by_cases e : f = b
      · subst e
        rw [if_pos rfl]
        have h0 : (f == a) = false := by
          have := I.ab
          cases h : f == a with
          | false => rfl
          | true => rw [beq_iff_eq] at h; subst h; simp at this
        have : List.lookup f [(a, v), (f, u)] = some u := by simp [List.lookup, h0]
        rw [this]
        exact ru
      · rw [if_neg e]
        have h0 : (f == b) = false := by simpa using e
        by_cases e2 : f = a
        · subst e2
          rw [if_pos rfl]
          have : List.lookup f [(f, v), (b, u)] = some v := by simp [List.lookup]
          rw [this]
          exact rv
        · rw [if_neg e2]
          have h1 : (f == a) = false := by simpa using e2
          have : List.lookup f [(a, v), (b, u)] = none := by simp [List.lookup, h0, h1]
          rw [this]
          trivial
end
end BwX
end PySem
set_option linter.all false
set_option autoImplicit false
set_option maxRecDepth 100000
set_option maxHeartbeats 2000000
/-! raise, try, an error's field, by data. -/
namespace Bw
open PySem PySem.Spec PyProof.Rows L2
/-- C(e, ..) -/
def tMkX (C : Addr) (as : List Str) (ta : TA) : L2.St → Hp → XK → Prop := fun σ H Q => ta σ H fun vs H1 => vs.length = as.length ∧ ∀ d, H1 d = none → Q (.ref C) (some d) (upd H1 d (.xd (as.zip vs)))
theorem boot_sup : bootBuiltins "super" = some (.type "super") := by decide +kernel
section
variable {X : Cx} {c : Fc} {T : List (Addr × Str)} {W : WX}
theorem pmk_x {C : Addr} {as : List Str} {x : Str} {e : PySem.Expr} {es : List PySem.Expr} {ta : TA} {p pos : Pos} {k : Nat} (M : BwX.MkX X.prog X.w X.K X.mg C as) (kp : PySem.W.keepIn X.K (.ref C) = true) (r1 : PySem.W.subIn X.K (.ref C) (.type "BaseException") = some true) (r2 : PySem.W.typeIn X.K (.ref C) = some (.type "type"))
    (hr : Room k X.A) (hm : X.mg x = some (.ref C)) (ha : PA X (e :: es) ta) (hg : Gl X x) (hdb : (x == ("__debug__" : Str)) = false) (he : starEach (e :: es) X.env = (false, eval e X.env) :: starEach es X.env) (hpl : (backTo pos (starEach es X.env)).any (·.1) = false) :
    PMk X (.Call (.Name x p) (e :: es) [] pos) (tMkX C as ta) := by
  intro pins s σ H Q I h
  refine wpAny_Call_Name_kw (ld_glob I hg hm ?_ hdb)
  refine PySem.W.callWith_K (h₀ := X.base) I.ok.mod.kin kp (thn (ha.run pos pins s σ H _ I h) fun us s1 ⟨vs, H1, I1, rv, hl, q⟩ => ⟨I1.kIn, ?_⟩) he hpl
  show wpAny _ _ (call (.ref C) us) _ _ _
  have lim := I1.nolimit
  obtain ⟨mb, hb1, hb2⟩ := I1.mod.blt
  have G := I1.mod.glob.keeps I1.bk
  have B := hb1.keeps I1.bk
  obtain ⟨hp, g, dr, tk, os⟩ := s1
  refine wpAny_call (M X.A _ ⟨hp, g, dr, tk, os⟩ vs us mb I1.kIn G B ((hb2 _ (by decide)).trans boot_sup) lim (by have := hr.dp; omega) rv hl fun h' tk' e d m O rel => ?_)
  show MkP X pins σ Q (.ref e) ⟨h', g, dr, tk', os⟩
  obtain ⟨oe, fv, hoe, hc, hd, hdat, h1⟩ := O.obj
  obtain ⟨G', g1, g2⟩ := restrict h' fun b => decide (b ≠ e)
  have gk : ∀ b, b ≠ e → G'.get? b = h'.get? b := fun b hb => g1 b (decide_eq_true hb)
  have ge : G'.get? e = none := g2 e (by simp)
  have old : ∀ b o, hp.get? b = some o → G'.get? b = some o := fun b o q => (gk b (Nat.ne_of_lt (Nat.lt_of_lt_of_le (Heap.lt_size q) O.new))).trans (O.keep b o q)
  have ob : ObjOk X.prog X.w (upd H1 d (.xd (as.zip vs))) G' d (.xd (as.zip vs)) := ⟨m, O.ns.at (fun o q => (gk d O.dne).trans q), rel⟩
  have J : L2.Inv X pins σ (upd H1 d (.xd (as.zip vs))) ⟨G', g, dr, tk', os⟩ := I1.laid (t' := tk') old O.dbig ob
  refine ⟨e, oe, fv, ⟨G', g, dr, tk', os⟩, _, .ref C, some d, rfl, J, fun b o q => ?_, ge, hoe, ⟨hc, hd⟩, hdat, h1, ?_, rfl, I1.bare, raises_own r1 r2, q d (I1.hok.fresh O.dbig)⟩
  · by_cases hb : b = e
    · have q' : G'.get? b = some o := q
      rw [hb, ge] at q'
      cases q'
    · exact (gk b hb).symm.trans q
  · rw [upd_ne (Ne.symm O.dne)]
    exact I1.hok.fresh O.new
def sRaise (cls : String) (as : List String) (a : MA) : MS := fun ρ st => sBind (a ρ st) ρ fun ds st => if ds.length = as.length then .er ⟨cls, as.zip ds⟩ ρ st else .no
theorem rpf_zip {c : Cc} {z : Zw} : ∀ {as : List String} {vs : List V} {ds : List D}, Rps c z vs ds → Rpf c z ((as.map Str.ofString).zip vs) (as.zip ds)
  | [], _, _, _ => .nil
  | _ :: _, _, _, .nil => .nil
  | _ :: as, _, _, .cons a t => .cons a (rpf_zip t)
theorem s_raise {C : Addr} (x : String) {as : List String} {e : PySem.Expr} {es : List PySem.Expr} {mr : MA} {p p2 pos : Pos} {k : Nat} (hmg : X.mg = c.mg) (tk : Takes X W) (hc : X.calm = true) (M : BwX.MkX X.prog X.w X.K X.mg C (as.map Str.ofString)) (kp : PySem.W.keepIn X.K (.ref C) = true) (r1 : PySem.W.subIn X.K (.ref C) (.type "BaseException") = some true)
    (r2 : PySem.W.typeIn X.K (.ref C) = some (.type "type")) (hr : Room k X.A) (hm : X.mg (Str.ofString x) = some (.ref C)) (ha : PA X (e :: es) (LA c T W mr)) (hg : Gl X (Str.ofString x) := by rfl) (hdb : (Str.ofString x == ("__debug__" : Str)) = false := by decide) (he : starEach (e :: es) X.env = (false, eval e X.env) :: starEach es X.env := by rfl)
    (hpl : (backTo p2 (starEach es X.env)).any (·.1) = false := by rfl) : SD X c T W (.Raise (some (.Call (.Name (Str.ofString x) p) (e :: es) [] p2)) none pos) (sRaise x as mr) :=
  imp_PS (ps_raise hc tk (pmk_x M kp r1 r2 hr hm ha hg hdb he hpl)) fun D σ H ⟨z, ρ, st, w, r, q⟩ => ⟨z, ρ, st, w, r, (PstS.bnd q r).imp fun vs H1 ⟨z1, st1, ds, l1, w1, rs, q1⟩ => by
    split at q1
    · rename_i hl
      refine ⟨by rw [rs.len, hl, List.length_map], fun d hd => ?_⟩
      have l2 := Zw.lay_le (o := HO.xd ((as.map Str.ofString).zip vs)) (w1.noG hd)
      exact q1 _ _ σ _ _ l2 (w1.lay hd) ((r.mono l1).mono l2) ⟨⟨C, rfl, by rw [← hmg]; exact hm⟩, _, upd_same, rpf_zip (rs.mono l2)⟩
    · exact q1.elim⟩
/-! ### several clauses with a name -/
/-- a clause: its class, its name's slot, its suite -/
abbrev Cl := Value × Nat × (Addr → Value → Option Addr → TS)
def unset (i : Nat) (D : Ends) : Ends := { nx := fun σ' H' => D.nx (σ'.set i none) H', rt := D.rt, bk := fun σ' H' => D.bk (σ'.set i none) H', ct := fun σ' H' => D.ct (σ'.set i none) H' }
def wCls (K : PySem.W.Frag) (Wo : WX) (D : Ends) : List Cl → WX
  | [] => Wo
  | (v, i, ts) :: r => fun cls d σ H => ∃ b, PySem.W.exmOne K cls v = some b ∧ (b = true → ∀ a, H a = none → ts a cls d (unset i D) (σ.set i (some (.ref a))) H) ∧ (b = false → wCls K Wo D r cls d σ H)
inductive ClsOk (X : Cx) : List ExceptHandler → List Cl → Prop
  | nil : ClsOk X [] []
  | cons {x n : Str} {v : Value} {i : Nat} {ts : Addr → Value → Option Addr → TS} {b0 : Stmt} {suite : List Stmt} {np pos' : Pos} {hds : List ExceptHandler} {l : List Cl} (hc : Names X x v) (hi : X.N[i]? = some n) (hln : X.env.kindOf n = some .local)
      (hsu : ∀ (a : Addr) (oe : Obj) (cls : Value) (d : Option Addr) (pn : List (Addr × Obj)), Zc cls d oe → (∃ vs, oe.data = .fields vs) → PSs (X.suite a ((a, oe) :: pn)) (b0 :: suite) (ts a cls d)) (r : ClsOk X hds l) : ClsOk X (.ExceptHandler (some (.Name x np)) (some n) (b0 :: suite) pos' :: hds) ((v, i, ts) :: l)
theorem ps_tryAs {body : List Stmt} {h0 : ExceptHandler} {hds : List ExceptHandler} {l : List Cl} {pos : Pos} {tb : WX → TS} {Wo : WX} (hs : X.stack = X.env :: X.outer) (hf : X.env.frame = some X.env.locals) (hN : X.N.Nodup) (tk : Takes X Wo)
    (hb : ∀ (W : WX) (pn : List (Addr × Obj)) (xe : Value → Shared → Prop), Takes (X.tr pn xe) W → PassesOwn (model X.prog X.w) X.A X.env xe → PSs (X.tr pn xe) body (tb W)) (hh : ClsOk X (h0 :: hds) l) : PS X (.Try body (h0 :: hds) [] [] pos) (fun D σ H => tb (wCls X.K Wo D l) D σ H) := by
  refine ⟨fun pins s σ H D I h => ?_⟩
  have ok := I.ok
  have frm : X.A.frames = some (X.env :: X.outer) := by rw [ok.frames, hs]
  refine wpAny_Try_except ?_
  refine wpAny_mono ((hb (wCls X.K Wo D l) (X.pn ++ pins) (fun e s1 => wpAny (model X.prog X.w) X.A (noteFrame e X.env) (fun _ s2 => wpAny (model X.prog X.w) X.A (setFlight e none) (fun _ s3 => wpAny (model X.prog X.w) X.A (handleBy e X.env (h0 :: hds)) (SP X pins D) X.xe s3) X.xe s2) X.xe s1)
    (fun u s' xx => ?_) PassesOwn.looking).run [] s σ H D (I.toTry _) h) (fun fl s1 hsp => ?_) (fun e s1 he => he)
  · obtain ⟨a, B, sI, pins', σ1, H1, cls, d, rfl, J0, nb, up, sky, na, os, ag, w⟩ := xx
    have J : L2.Inv X pins σ1 H1 sI := J0.ofTry ok
    rw [hs] at sky
    show wpAny (model X.prog X.w) X.A (noteFrame (.ref a) X.env) _ _ _
    refine Sky.land Zc.steady frm hf sky fun h3 f3 up3 => ?_
    have J3 : L2.Inv X pins σ1 H1 { s' with heap := h3 } := J.landed nb f3.1 (up.trans up3) os ag
    obtain ⟨oe3, vs3, he3, hz3, hd3⟩ := f3.there
    have nfr : a ∉ frs (X.env :: X.outer) := fun hm => by
      obtain ⟨_, o', e', hnf⟩ := f3.2.2.1.mem hm
      rw [he3] at e'
      cases e'
      exact hnf _ hd3
    have nL : a ≠ X.env.locals := fun z => nfr (List.mem_filterMap.mpr ⟨X.env, List.mem_cons_self, by rw [hf, z]⟩)
    have nF : a ∉ X.fs := fun hm => by
      obtain ⟨e, he, q⟩ := List.mem_filterMap.mp hm
      exact nfr (List.mem_filterMap.mpr ⟨e, List.mem_cons_of_mem _ he, q⟩)
    have S3 := J3.suite he3 hd3 na nL nF
    have walk : ∀ {hds' : List ExceptHandler} {l' : List Cl}, ClsOk X hds' l' → wCls X.K Wo D l' cls d σ1 H1 → wpAny (model X.prog X.w) X.A (handleBy (.ref a) X.env hds') (SP X pins D) X.xe { s' with heap := h3 } := by
      intro hds' l' hk
      induction hk with
      | nil =>
        intro w
        refine wpAny_handleBy_nil ?_
        obtain ⟨k1, k2, k3, oe, vs, Tb, oT, ts', he, hz, hd, h1, hr⟩ := id f3
        unfold PySem.passOn
        refine wpAny_bind (wpAny_field he hd h1 ?_)
        rw [if_neg (show ¬ ((Value.ref Tb == Value.none) = true) from by simp)]
        have out : wpAny (model X.prog X.w) X.A (setFlight (.ref a) X.env.frame) (fun _ s4 => wpAny (model X.prog X.w) X.A (throw (.ref a) : Sem Flow) (SP X pins D) X.xe s4) X.xe { s' with heap := h3 } := by
          rw [hf]
          refine HandSPX.setFlight_upZ f3 fun h4 hh4 up4 => wpAny_throw (tk _ _ ?_)
          exact ⟨a, B, sI, pins, σ1, H1, cls, d, rfl, J, nb, (up.trans up3).trans up4, .inr (.inr (by rw [hs]; exact hh4)), na, os, ag, w⟩
        first
          | exact wpAny_bind (wpAny_pure (wpAny_bind out))
          | exact wpAny_bind out
      | @cons x n v i ts b0 suite np pos' hds2 l2 hc hi hln hsu r ih =>
        intro w
        obtain ⟨b, hb1, yes, no⟩ := w
        refine wpAny_handleBy_cons (codeAny_handlers_test ?_) (by intro q; cases q)
        have LT : PySem.W.Looks (model X.prog X.w) h3 (typeOf (.ref a)) cls := fun A Q E s k q => wpAny_typeOf_ref (k _ _ he3) (by rw [hz3.1]; exact q)
        have LM := PySem.W.exm_one (M := model X.prog X.w) (J3.kIn) LT hb1
        have test : ∀ {Q : Value → Shared → Prop} {E : Value → Shared → Prop}, Q v { s' with heap := h3 } → wpAny (model X.prog X.w) (X.A.mark (some (.ref a))) (eval (.Name x np) X.env) Q E { s' with heap := h3 } := fun {Q E} q => by
          obtain ⟨hg, hdbg, hm | ⟨hm, hv, hnn⟩⟩ := hc
          · exact ld_glob (X := X.suite a ((a, oe3) :: (X.pn ++ pins))) S3 hg hm q hdbg
          · exact ld_blt (X := X.suite a ((a, oe3) :: (X.pn ++ pins))) S3 hg hm hv q hnn hdbg
        refine test (LM.here ?_)
        cases b with
        | true =>
          refine codeAny_handlers_suite_as ?_
          refine HandSPX.lands_againZ f3 fun h4 f4 up4 => ?_
          have J4 : L2.Inv X pins σ1 H1 { s' with heap := h4 } := J.landed nb f4.1 ((up.trans up3).trans up4) os ag
          obtain ⟨oe4, vs4, he4, hz4, hd4⟩ := f4.there
          have S4 := J4.suite he4 hd4 na nL nF
          refine store_ok (X := X.suite a ((a, oe4) :: (X.pn ++ pins))) (v := .ref a) S4 hN hi (.inl hln) rfl (fun s5 S5 => ?_) (.inr hln)
          refine wpAny_mono ((hsu a oe4 cls d (X.pn ++ pins) hz4 ⟨_, hd4⟩).run [] s5 _ H1 _ S5 (yes rfl a na)) (fun f s6 hsp => ?_) (fun _ _ z => False.elim z)
          have fin : ∀ {σ6 : L2.St} {H6 : Hp} {Q : Shared → Prop}, L2.Inv (X.suite a ((a, oe4) :: (X.pn ++ pins))) [] σ6 H6 s6 → (∀ s7, L2.Inv X pins (σ6.set i none) H6 s7 → Q s7) → wpAny (model X.prog X.w) X.A (do bindName X.env n .none; unbindBehindTheSuite X.env n pos') (fun _ s7 => Q s7) X.xe s6 :=
            fun {σ6 H6 Q} S6 hq => gone_ok (S6.unsuite ok) hN hi hln hq
          cases f with
          | next => obtain ⟨σ6, H6, S6, q6⟩ := hsp; exact fin S6 fun s7 J7 => ⟨_, _, J7, q6⟩
          | brk => obtain ⟨σ6, H6, S6, q6⟩ := hsp; exact fin S6 fun s7 J7 => ⟨_, _, J7, q6⟩
          | cont => obtain ⟨σ6, H6, S6, q6⟩ := hsp; exact fin S6 fun s7 J7 => ⟨_, _, J7, q6⟩
          | ret u => obtain ⟨v6, σ6, H6, S6, r6, q6⟩ := hsp; exact fin S6 fun s7 J7 => ⟨_, _, _, J7, r6, q6⟩
        | false => exact ih (no rfl)
    exact walk hh w
  · cases fl with
    | next => obtain ⟨σ', H', J', q⟩ := hsp; exact wpAny_execs_nil ⟨σ', H', J'.ofTry ok, q⟩
    | brk => obtain ⟨σ', H', J', q⟩ := hsp; exact ⟨σ', H', J'.ofTry ok, q⟩
    | cont => obtain ⟨σ', H', J', q⟩ := hsp; exact ⟨σ', H', J'.ofTry ok, q⟩
    | ret u => obtain ⟨v, σ', H', J', r, q⟩ := hsp; exact ⟨v, σ', H', J'.ofTry ok, r, q⟩
end
end Bw
set_option linter.all false
set_option autoImplicit false
set_option maxRecDepth 100000
set_option maxHeartbeats 2000000
/-! try and an error's field, by data. -/
namespace Bw
open PySem PySem.Spec PyProof.Rows L2
abbrev Hd := String × Nat × (Er → MS)
def noX (ρ : Env) : Bool := ρ.all fun o => match o with
  | some (.clo 1) => false
  | _ => true
def unsetO (i : Nat) : Out → Out
  | .nx ρ st => if noX (ρ.set i none) then .nx (ρ.set i none) st else .no
  | .bk ρ st => if noX (ρ.set i none) then .bk (ρ.set i none) st else .no
  | .ct ρ st => if noX (ρ.set i none) then .ct (ρ.set i none) st else .no
  | .rt d st => .rt d st
  | _ => .no
def handF (exm : String → String → Option Bool) (e : Er) (ρ : Env) (st : Store) : List Hd → Out
  | [] => .er e ρ st
  | (n, i, s) :: r => match exm e.cls n with
    | some true => unsetO i (s e (ρ.set i (some (.clo 1))) st)
    | some false => handF exm e ρ st r
    | none => .no
def sTry (exm : String → String → Option Bool) (b : MS) (hs : List Hd) : MS := fun ρ st => match b ρ st with
  | .er e ρ' st' => handF exm e ρ' st' hs
  | o => o
/-- which clause takes which class -/
def ExmOk (K : PySem.W.Frag) (mg : Str → Option Value) (exm : String → String → Option Bool) : Prop :=
  ∀ n1 n2 C1 C2 b, mg (Str.ofString n1) = some (.ref C1) → mg (Str.ofString n2) = some (.ref C2) → exm n1 n2 = some b → PySem.W.exmOne K (.ref C1) (.ref C2) = some b
abbrev Fc.sui (c : Fc) (a : Addr) (z : Zw) : Fc := { c with xa := some a, z0 := z }
inductive HdsD (X : Cx) (c : Fc) (T : List (Addr × Str)) : List ExceptHandler → List Hd → Prop
  | nil : HdsD X c T [] []
  | cons {x : String} {n : Str} {C : Addr} {i : Nat} {s : Er → MS} {b0 : Stmt} {suite : List Stmt} {np pos' : Pos} {hds : List ExceptHandler} {l : List Hd} (hm : X.mg (Str.ofString x) = some (.ref C)) (hc : Names X (Str.ofString x) (.ref C)) (hi : X.N[i]? = some n) (hln : X.env.kindOf n = some .local)
      (hsu : ∀ (a : Addr) (oe : Obj) (cls : Value) (d : Option Addr) (pn : List (Addr × Obj)) (er : Er) (z0 : Zw), Zc cls d oe → (∃ vs, oe.data = .fields vs) → ErOk c.toCc z0 er cls d → SsD (X.suite a ((a, oe) :: pn)) (c.sui a z0) T W0 (b0 :: suite) (s er)) (r : HdsD X c T hds l) :
      HdsD X c T (.ExceptHandler (some (.Name (Str.ofString x) np)) (some n) (b0 :: suite) pos' :: hds) ((x, i, s) :: l)
section
variable {X : Cx} {c : Fc} {T : List (Addr × Str)} {W : WX}
def tCl (c : Fc) (T : List (Addr × Str)) (s : Er → MS) : Addr → Value → Option Addr → TS := fun a cls d D σ H => ∃ er z0, ErOk c.toCc z0 er cls d ∧ LS (c.sui a z0) T W0 (s er) D σ H
theorem noX_at {ρ : Env} (h : noX ρ = true) {j : Nat} (e : ρ[j]? = some (some (.clo 1))) : False := by
  unfold noX at h
  rw [List.all_eq_true] at h
  have := h _ (List.mem_of_getElem? e)
  cases this
theorem un_env {a : Addr} {z0 z : Zw} {σ : L2.St} {ρ : Env} {i : Nat} (l0 : Lg c.z0 z0) (r : Rσ (c.sui a z0) z σ ρ) (h : noX (ρ.set i none) = true) : Rσ c z (σ.set i none) (ρ.set i none) := by
  refine ⟨by rw [List.length_set, List.length_set]; exact r.len, fun j d e => ?_, l0.trans r.le⟩
  by_cases hj : i = j
  · subst hj
    by_cases hl : i < ρ.length
    · rw [List.getElem?_set_self hl] at e; cases e
    · rw [List.getElem?_eq_none (by rw [List.length_set]; omega)] at e; cases e
  · have e' := e
    rw [List.getElem?_set_ne hj] at e
    obtain ⟨v, h1, h2⟩ := r.at_ j d e
    refine ⟨v, by rw [List.getElem?_set_ne hj]; exact h1, ?_⟩
    cases h2 with
    | d h => exact .d h
    | clo h => exact .clo h
    | exc _ => exact (noX_at h e').elim
theorem un_out {a : Addr} {z0 z : Zw} {i : Nat} {o : Out} {D : Ends} (l0 : Lg c.z0 z0) (q : PstS c T W z (unsetO i o) D) : PstS (c.sui a z0) T W0 z o (unset i D) := by
  cases o with
  | nx ρ st =>
    have q : PstS c T W z (if noX (ρ.set i none) then .nx (ρ.set i none) st else .no) D := q
    split at q
    · rename_i h
      exact fun z' H' σ' l w r => q z' H' _ l w (un_env l0 r h)
    · exact q.elim
  | bk ρ st =>
    have q : PstS c T W z (if noX (ρ.set i none) then .bk (ρ.set i none) st else .no) D := q
    split at q
    · rename_i h
      exact fun z' H' σ' l w r => q z' H' _ l w (un_env l0 r h)
    · exact q.elim
  | ct ρ st =>
    have q : PstS c T W z (if noX (ρ.set i none) then .ct (ρ.set i none) st else .no) D := q
    split at q
    · rename_i h
      exact fun z' H' σ' l w r => q z' H' _ l w (un_env l0 r h)
    · exact q.elim
  | rt d st => exact fun z' H' v l w r => q z' H' v l w r
  | er _ _ _ => exact q.elim
  | no => exact q.elim
theorem hds_cls {hds : List ExceptHandler} {hs : List Hd} (h : HdsD X c T hds hs) : ∃ l : List Cl, ClsOk X hds l ∧ ∀ {exm : String → String → Option Bool}, ExmOk X.K X.mg exm → X.mg = c.mg → c.xa = none → ∀ {z : Zw} {e : Er} {ρ : Env} {st : Store} {D : Ends}, PstS c T W z (handF exm e ρ st hs) D →
    ∀ z' H' σ' cls dd, Le z z' → Wf c.toCc T z' st H' → Rσ c z' σ' ρ → ErOk c.toCc z' e cls dd → wCls X.K W D l cls dd σ' H' := by
  induction h with
  | nil => exact ⟨[], .nil, fun {exm} _ _ _ {z e ρ st D} q z' H' σ' cls dd l w r eo => q z' H' σ' cls dd l w r eo⟩
  | @cons x n C i s b0 suite np pos' hds l hm hc hi hln hsu r ih =>
    obtain ⟨lc, ok, ih⟩ := ih
    refine ⟨(.ref C, i, tCl c T s) :: lc, .cons hc hi hln (fun a oe cls d pn hz hd => ⟨fun pins s' σ H D I ⟨er, z0, eo, q⟩ => (hsu a oe cls d pn er z0 hz hd eo).run pins s' σ H D I q⟩) ok, ?_⟩
    intro exm hx hmg hxa z e ρ st D q z' H' σ' cls dd l w r eo
    have eo' := eo
    obtain ⟨⟨Ce, rfl, hme⟩, _⟩ := eo'
    unfold handF at q
    split at q
    · rename_i hb
      refine ⟨true, hx _ _ _ _ _ (by rw [hmg]; exact hme) hm hb, fun _ a na => ?_, fun h => Bool.noConfusion h⟩
      refine ⟨e, z', eo, z', _, st, w, ?_, un_out r.le (q.le l)⟩
      have r0 : Rσ (c.sui a z') z' σ' ρ := ⟨r.len, fun j d e => let ⟨v, h1, h2⟩ := r.at_ j d e; ⟨v, h1, by
        cases h2 with
        | d h => exact .d h
        | clo h => exact .clo h
        | exc h => rw [hxa] at h; cases h⟩, Lg.refl z'⟩
      exact r0.set (.exc rfl) i
    · rename_i hb
      exact ⟨false, hx _ _ _ _ _ (by rw [hmg]; exact hme) hm hb, fun h => Bool.noConfusion h, fun _ => ih hx hmg hxa q z' H' σ' _ dd l w r eo⟩
    · exact q.elim
theorem s_try {body : List Stmt} {h0 : ExceptHandler} {hds : List ExceptHandler} {hs : List Hd} {exm : String → String → Option Bool} {m : MS} {pos : Pos} (hmg : X.mg = c.mg) (hxa : c.xa = none) (hst : X.stack = X.env :: X.outer) (hf : X.env.frame = some X.env.locals) (hN : X.N.Nodup) (tk : Takes X W) (hx : ExmOk X.K X.mg exm)
    (hb : ∀ (W' : WX) (pn : List (Addr × Obj)) (xe : Value → Shared → Prop), Takes (X.tr pn xe) W' → PassesOwn (model X.prog X.w) X.A X.env xe → SsD (X.tr pn xe) c T W' body m) (hh : HdsD X c T (h0 :: hds) hs) : SD X c T W (.Try body (h0 :: hds) [] [] pos) (sTry exm m hs) := by
  obtain ⟨l, ok, read⟩ := hds_cls (W := W) hh
  refine imp_PS (ps_tryAs (tb := fun W' => LS c T W' m) hst hf hN tk hb ok) fun D σ H ⟨z, ρ, st, w, r, q⟩ => ⟨z, ρ, st, w, r, ?_⟩
  unfold sTry at q
  cases e : m ρ st with
  | er er ρ' st' => rw [e] at q; exact read hx hmg hxa q
  | nx ρ' st' => rw [e] at q; exact q
  | rt d st' => rw [e] at q; exact q
  | bk ρ' st' => rw [e] at q; exact q
  | ct ρ' st' => rw [e] at q; exact q
  | no => rw [e] at q; exact q
/-! ### e.field in the suite -/
/-- how a field of an error of the class at C is found -/
structure Gets (K : PySem.W.Frag) (C : Addr) (f : Str) : Prop where
  ga : PySem.W.findIn K (.ref C) "__getattribute__" = some (some (.builtin "BaseException.__getattribute__"))
  gq : PySem.W.findIn K (.ref C) "__getattr__" = some none
  bs : PySem.W.subIn K (.ref C) (.type "BaseException") = some true
  hd : PySem.W.hasDictIn K C = true
  no : PySem.W.findIn K (.ref C) f = some none
def mFld (ns : List String) (i : Nat) (f : String) (er : Er) : ME := fun ρ st => match ρ[i]? with
  | some (some (.clo 1)) => if er.cls ∈ ns then match er.fs.lookup f with
      | some d => .ok d st
      | none => .no
    else .no
  | _ => .no
theorem ofString_inj {a b : String} (h : Str.ofString a = Str.ofString b) : a = b := by
  rw [Str.ofString_eq_toList, Str.ofString_eq_toList] at h
  have h1 : a.toList.map Char.toNat = b.toList.map Char.toNat := by
    have := congrArg (fun s : Str => s.cps.toList) h
    simpa using this
  have inj : ∀ l m : List Char, l.map Char.toNat = m.map Char.toNat → l = m := by
    intro l
    induction l with
    | nil => intro m e; cases m with
      | nil => rfl
      | cons _ _ => cases e
    | cons x l ih => intro m e; cases m with
      | nil => cases e
      | cons y m =>
        have e1 := (List.cons.inj e).1
        rw [ih m (List.cons.inj e).2, Char.ext (UInt32.toNat_inj.mp e1)]
  have h2 : a.toList = b.toList := inj _ _ h1
  exact String.ext_iff.mpr h2
theorem rpf_look {c : Cc} {z : Zw} {f : String} {d : D} : ∀ {fs : List (Str × V)} {es : List (String × D)}, Rpf c z fs es → es.lookup f = some d → ∃ v, List.lookup (Str.ofString f) fs = some v ∧ Rp c z v d
  | _, _, .nil, e => by cases e
  | _, _, @Rpf.cons _ _ x v d0 fs es a t, e => by
    by_cases h : f = x
    · subst h
      simp [List.lookup] at e
      subst e
      exact ⟨v, by simp [List.lookup], a⟩
    · have h1 : (f == x) = false := by simpa using h
      have h2 : (Str.ofString f == Str.ofString x) = false := by
        cases q : Str.ofString f == Str.ofString x with
        | false => rfl
        | true => exact absurd (ofString_inj (beq_iff_eq.mp q)) h
      simp [List.lookup, h1] at e
      obtain ⟨v', e1, e2⟩ := rpf_look t e
      exact ⟨v', by simp [List.lookup, h2]; exact e1, e2⟩
theorem e_fld {a : Addr} {oe : Obj} {cls : Value} {d : Option Addr} {pn : List (Addr × Obj)} {er : Er} {z0 : Zw} {W : WX} (ns : List String) (i : Nat) (f : String) {x : Str} {p pos : Pos} (hK : X.K = c.K) (hmg : X.mg = c.mg) (hz : Zc cls d oe) (hd : ∃ vs, oe.data = .fields vs) (eo : ErOk c.toCc z0 er cls d)
    (hG : ∀ n ∈ ns, ∀ C, X.mg (Str.ofString n) = some (.ref C) → Gets X.K C (Str.ofString f)) (hN : X.N[i]? = some x := by rfl) (hv : Vis X.env.scope x := by first | exact Or.inl rfl | exact Or.inr (Or.inl rfl) | exact Or.inr (Or.inr rfl)) (hdb : (x == ("__debug__" : Str)) = false := by decide) (hcd : (x == ("__classdict__" : Str)) = false := by decide)
    (hb : attributeBase (.Name x p) (Str.ofString f) X.env (eval (.Name x p) X.env) = eval (.Name x p) X.env := by rfl) : PD (X.suite a ((a, oe) :: pn)) (c.sui a z0) T W (.Attribute (.Name x p) (Str.ofString f) pos) (mFld ns i f er) := by
  refine ⟨fun pins s σ H Q I ⟨z, ρ, st, w, r, q⟩ => ?_⟩
  unfold mFld at q
  split at q
  · rename_i hi
    split at q
    · rename_i hn
      split at q
      · rename_i dd hl
        obtain ⟨v, h1, h2⟩ := r.at_ i _ hi
        have hva : v = .ref a := by
          cases h2 with
          | d h => cases h
          | exc h => cases h; rfl
        subst hva
        refine attr_of hb (thn ((pe_var (pos := p) (i := i) (X := X.suite a ((a, oe) :: pn)) hN hv hdb hcd).run pins s σ H (fun y H1 => y = .ref a ∧ H1 = H) I ⟨.ref a, h1, rfl, rfl⟩) fun u s1 ⟨y, H1, I1, r1, e1, e2⟩ => ?_)
        subst e1 e2
        obtain rfl : u = Value.ref a := r1
        obtain ⟨⟨C, rfl, hmc⟩, hdd⟩ := eo
        have g := hG _ hn C (by rw [hmg]; exact hmc)
        cases d with
        | none =>
          have hdd' : er.fs = [] := hdd
          rw [hdd'] at hl
          cases hl
        | some dx =>
          obtain ⟨fs, hfs, rf⟩ := hdd
          obtain ⟨fv, hlk, rv⟩ := rpf_look rf hl
          have hH : H1 dx = some (.xd fs) := w.sub _ _ (r.le.g _ _ hfs)
          obtain ⟨ha, _⟩ := I1.pin (a, oe) (List.mem_append_left _ List.mem_cons_self)
          obtain ⟨vs, hdat⟩ := hd
          obtain ⟨mA, hns, hr⟩ := (show ∃ mA, s1.heap.Ns1 dx mA ∧ ∀ f, RelO (List.lookup f fs) (mA f) from I1.hok dx _ hH)
          obtain ⟨od, ho, hlo⟩ := lookIn_ns hns
          obtain ⟨u, hu, ru⟩ := RelO.some_of (v := fv) (o := mA (Str.ofString f)) (by rw [← hlk]; exact hr _)
          have J : PySem.W.InstAt s1.heap a oe C (some od) := ⟨ha, hz.1, by unfold PySem.W.notCls; rw [hdat] <;> rfl, by rw [hz.2]; exact ho⟩
          exact HandSPX.exc_get I1.kIn J g.ga g.gq g.bs (PySem.W.findObj_own g.hd g.no rfl (by rw [hlo, hu])) (handed_of ru) ⟨fv, H1, I1.tok _, ru, q z H1 fv (Le.refl z) w (rv.monoG r.le)⟩
      · exact q.elim
    · exact q.elim
  · exact q.elim
end
end Bw
set_option linter.all false
set_option autoImplicit false
set_option maxRecDepth 100000
set_option maxHeartbeats 2000000
/-! Lambdas made: with or without a default. -/
namespace PySem
namespace BwX
open PySem.W PySem.Calls PyProof.Rows
abbrev lamFn (dV : Value) (q : Str) (params : Arguments) (body : Expr) (scope : Scope) (cl : List (Str × Addr)) (pm cdv ct : Value) : FuncData := { kla_fn "<lambda>" q params body scope cl pm cdv ct with defaults := dV }
abbrev lamObj (dV : Value) (q : Str) (params : Arguments) (body : Expr) (scope : Scope) (cl : List (Str × Addr)) (pm : Value) (c' : Addr) (ct : Value) : Obj := { cls := .type "function", data := .func (lamFn dV q params body scope cl pm (.ref c') ct) }
section
variable {M : Model} {A : Around} {E : Value → Shared → Prop} {s : Shared} {qual : Str} {params : Arguments} {body : Expr} {scope : Scope} {env : Env} {c P : Addr} {ps : Array Value} {pos : Pos} {firstLine : Nat} {mg : Str → Option Value} {clos : List (Str × Addr)} {Q : Value → Shared → Prop} {dV : Value}
theorem tail_new (hcl : closureFor scope env = pure clos) (hge : env.globals = mainGlobals) (hg : s.heap.Ns mainGlobals mg) (hcode : env.code = .ref c) (C : CodeHd s.heap c P) (hP : s.heap.get? P = some (tabObj ps)) (ht : TriplesOk ps.toList) (hnf : codeAmong pos ps.toList = none) (hgP : mainGlobals ≠ P) (hb : s.heap.BuiltinsAt mg P)
    (h : ∀ c' ctv h' tk, Heap.ExtBut P s.heap h' → s.heap.objs.size ≤ c' → c' < h'.objs.size → h'.CodeRec (.ref c') qual → h'.get? P = some (tabObj (ps ++ #[rawInt pos.line, rawInt pos.col, .ref c'])) → Q (.ref h'.objs.size) { s with heap := h'.push (lamObj dV qual params body scope clos ((mg "__name__").getD .none) c' ctv), toks := tk }) :
    wpAny M A (makeTail "<lambda>" qual params (.expr body) scope env dV .none none pos firstLine) Q E s := by
  obtain ⟨bm, ob, hbm, ne0, _, neP, hbo, bc, bd, bdat⟩ := hb
  unfold makeTail
  rw [hcl, hge]
  refine wpAny_bind (wpAny_pure ?_)
  cases clos with
  | nil =>
    simp only [List.isEmpty_nil, if_true]
    refine wpAny_bind (wpAny_pure (wpAny_bind (wpAny_functionCodeX hcode (C.code hP ht) (C.tab hP) hnf fun c' h' tk hx hge' hlt _ hrec htb _ => ?_)))
    have hg' := hg.extBut hx hgP
    refine wpAny_bind (wpAny_builtinsFor hg' hbm ne0 (hx _ _ neP hbo) bc bd bdat (wpAny_bind (wpAny_nsGet hg' ?_)))
    exact wpAny_bind (wpAny_pure (wpAny_newObj_type (h c' .none h' tk hx hge' hlt hrec htb.2) (by size_fits)))
  | cons q r =>
    simp only [List.isEmpty_cons, Bool.false_eq_true, if_false]
    refine wpAny_bind (wpAny_newTextTuple (wpAny_bind (wpAny_functionCodeX hcode ((C.keeps fun b o e => Heap.get?_push_of_some _ e).code (Heap.get?_push_of_some _ hP) ht) ((C.keeps fun b o e => Heap.get?_push_of_some _ e).tab (Heap.get?_push_of_some _ hP)) hnf fun c' h' tk hx hge' hlt _ hrec htb _ => ?_)))
    have hg' := (hg.push _).extBut hx hgP
    have hx' : Heap.ExtBut P s.heap h' := fun b o hb' e => hx b o hb' (Heap.get?_push_of_some _ e)
    have hge2 : s.heap.objs.size ≤ c' := Nat.le_trans (by rw [Heap.size_push]; omega) hge'
    refine wpAny_bind (wpAny_builtinsFor hg' hbm ne0 (hx' _ _ neP hbo) bc bd bdat (wpAny_bind (wpAny_nsGet hg' ?_)))
    exact wpAny_bind (wpAny_pure (wpAny_newObj_type (h c' _ h' tk hx' hge2 hlt hrec htb.2) (by size_fits)))
theorem tail_old {cv : Value} (hcl : closureFor scope env = pure clos) (hge : env.globals = mainGlobals) (hg : s.heap.Ns mainGlobals mg) (hcode : env.code = .ref c) (C : CodeHd s.heap c P) (hP : s.heap.get? P = some (tabObj ps)) (ht : TriplesOk ps.toList) (hf : codeAmong pos ps.toList = some cv) (hb : s.heap.BuiltinsAt mg P)
    (h : ∀ (ctv : Value) (h' : Heap) (tk : Tok), (∀ b o, s.heap.get? b = some o → h'.get? b = some o) → s.heap.objs.size ≤ h'.objs.size → Q (.ref h'.objs.size) { s with heap := h'.push { cls := .type "function", data := .func (lamFn dV qual params body scope clos ((mg "__name__").getD .none) cv ctv) }, toks := tk }) :
    wpAny M A (makeTail "<lambda>" qual params (.expr body) scope env dV .none none pos firstLine) Q E s := by
  obtain ⟨bm, ob, hbm, ne0, _, neP, hbo, bc, bd, bdat⟩ := hb
  unfold makeTail
  rw [hcl, hge]
  refine wpAny_bind (wpAny_pure ?_)
  cases clos with
  | nil =>
    simp only [List.isEmpty_nil, if_true]
    refine wpAny_bind (wpAny_pure (wpAny_bind (wpAny_functionCode_hit hcode (C.code hP ht) hf (wpAny_bind (wpAny_builtinsFor hg hbm ne0 hbo bc bd bdat (wpAny_bind (wpAny_nsGet hg ?_)))))))
    exact wpAny_bind (wpAny_pure (wpAny_newObj_type (h .none s.heap s.toks (fun _ _ e => e) (Nat.le_refl _)) (by size_fits)))
  | cons q r =>
    simp only [List.isEmpty_cons, Bool.false_eq_true, if_false]
    refine wpAny_bind (wpAny_newTextTuple (wpAny_bind (wpAny_functionCode_hit hcode ((C.keeps fun b o e => Heap.get?_push_of_some _ e).code (Heap.get?_push_of_some _ hP) ht) hf (wpAny_bind (wpAny_builtinsFor (hg.push _) hbm ne0 (Heap.get?_push_of_some _ hbo) bc bd bdat (wpAny_bind (wpAny_nsGet (hg.push _) ?_)))))))
    have sz : ∀ oT : Obj, s.heap.objs.size ≤ (s.heap.push oT).objs.size := fun oT => by rw [Heap.size_push]; omega
    exact wpAny_bind (wpAny_pure (wpAny_newObj_type (h _ _ s.toks (fun b o e => Heap.get?_push_of_some _ e) (sz _)) (by size_fits)))
end
end BwX
end PySem
namespace Bw
open PySem PySem.Spec PyProof.Rows L2 LamX
section
variable {X : Cx} {pins : List (Addr × Obj)} {σ : L2.St} {H : Hp} {s : Shared}
/-- the lambda's object is made: all that was tracked stands, but for the maker's table -/
theorem lam_tail {T : List (Addr × Str)} {c P : Addr} {params : Arguments} {body : PySem.Expr} {scope : Scope} {pos : Pos} {dV : Value} {E : Value → Shared → Prop} {Q : Value → Shared → Prop} (I : L2.Inv X pins σ H s) (TB : TabB X.base X.mg c P) (hcode : X.env.code = .ref c)
    (hm : (P, X.env.qual ++ "<lambda>") ∈ T) (hu : ∀ p ∈ T, p.1 = P → p.2 = X.env.qual ++ "<lambda>") (hT : Tabs T H) (hfree : ∀ y ∈ scope.names, y.2 = .free → ∃ c, X.env.cells.lookup y.1 = some c)
    (h : ∀ (f c' : Addr) (pm ctv : Value) (H1 : Hp) (s' : Shared), L2.Inv X pins σ H1 s' → (∀ b o, b ≠ P → H b = some o → H1 b = some o) → Tabs T H1 → (∀ b o, b ≠ P → s.heap.get? b = some o → s'.heap.get? b = some o) → (∀ b o, s.heap.get? b = some o → H b = none → H1 b = none) →
      s'.heap.get? f = some (BwX.lamObj dV (X.env.qual ++ "<lambda>") params body scope (cloFrom X.env.cells scope.names []) pm c' ctv) → H1 f = none → f ∉ frs X.stack → s.heap.objs.size ≤ f → H1 c' = some (CodeO c' (X.env.qual ++ "<lambda>")) → Q (.ref f) s') :
    wpAny (model X.prog X.w) X.A (makeTail "<lambda>" (X.env.qual ++ "<lambda>") params (.expr body) scope X.env dV .none none pos pos.line) Q E s := by
  obtain ⟨ps, hP, ht, ha⟩ := hT _ hm
  have bP : s.heap.BuiltinsAt X.mg P := TB.bm.keeps I.bk
  have hP' : s.heap.get? P = some { cls := .none, data := .fields ps } := I.hok P _ hP
  have nofr : ∀ f, s.heap.objs.size ≤ f → f ∉ frs X.stack := fun f hf z => by
    rcases List.mem_cons.mp (I.stkSub _ z) with e | e
    · have := I.lt
      rw [← e] at this
      exact Nat.lt_irrefl _ (Nat.lt_of_lt_of_le this hf)
    · exact I.nofs hf e
  cases hc : codeAmong pos ps.toList with
  | none =>
    refine BwX.tail_new (mg := X.mg) (c := c) (P := P) (ps := ps) (closure_ok hfree) I.ok.glob (I.mod.glob.keeps I.bk) hcode (TB.code.keeps I.bk) hP' ht hc TB.gP bP fun c' ctv h' tk hx hge hlt hrec htb => ?_
    obtain ⟨c2, oc, vs, t, e2, hoc, hd, hv⟩ := hrec
    cases e2
    have sz : s.heap.objs.size ≤ h'.objs.size := Nat.le_trans hge (Nat.le_of_lt hlt)
    have nC : H c' = none := I.hok.fresh hge
    have hkp : ∀ b o, b ≠ P → s.heap.get? b = some o → (h'.push (BwX.lamObj dV (X.env.qual ++ "<lambda>") params body scope (cloFrom X.env.cells scope.names []) ((X.mg "__name__").getD .none) c' ctv)).get? b = some o := fun b o hb e => Heap.get?_push_of_some _ (hx b o hb e)
    have I1 := inv_table (t' := tk) (q := X.env.qual ++ "<lambda>") (more := #[rawInt pos.line, rawInt pos.col, .ref c']) (h' := h'.push (BwX.lamObj dV (X.env.qual ++ "<lambda>") params body scope (cloFrom X.env.cells scope.names []) ((X.mg "__name__").getD .none) c' ctv)) I hP hkp (Heap.get?_push_of_some _ htb) hge ⟨oc, vs, t, Heap.get?_push_of_some _ hoc, hd, hv⟩
    have hE : ∀ b o, b ≠ P → H b = some o → upd (upd H P (.tbl (ps ++ #[rawInt pos.line, rawInt pos.col, .ref c']))) c' (CodeO c' (X.env.qual ++ "<lambda>")) b = some o := fun b o n e => by
      rw [upd_ne (ne_of_none e nC), upd_ne n]
      exact e
    have eL : (ps ++ #[rawInt pos.line, rawInt pos.col, .ref c']).toList = ps.toList ++ [rawInt pos.line, rawInt pos.col, .ref c'] := by simp
    refine h h'.objs.size c' ((X.mg "__name__").getD .none) ctv _ _ I1 hE (fun p hp => ?_) hkp (fun b o e n => ?_) (Heap.get?_push_size _ rfl) ?_ (nofr _ sz) sz upd_same
    · by_cases hb : p.1 = P
      · rw [hu p hp hb, hb]
        refine ⟨_, by rw [upd_ne (ne_of_none hP nC), upd_same], by rw [eL]; exact PySem.TriplesOk_snoc _ _ _ _ ht, fun p' cv hcv => ?_⟩
        rw [eL] at hcv
        rcases among_app _ ht hcv with z | z
        · obtain ⟨c0, e1, e2⟩ := ha p' cv z
          exact ⟨c0, e1, hE _ _ (fun q => by rw [q, hP] at e2; exact codeO_ne _ (Option.some.inj e2).symm) e2⟩
        · exact ⟨c', z, upd_same⟩
      · obtain ⟨ps', a1, a2, a3⟩ := hT p hp
        refine ⟨ps', hE _ _ hb a1, a2, fun p' cv hcv => ?_⟩
        obtain ⟨c0, e1, e2⟩ := a3 p' cv hcv
        exact ⟨c0, e1, hE _ _ (fun q => by rw [q, hP] at e2; exact codeO_ne _ (Option.some.inj e2).symm) e2⟩
    · rw [upd_ne (Nat.ne_of_lt (Nat.lt_of_lt_of_le (Heap.lt_size e) hge)), upd_ne (fun q => by rw [q, hP] at n; cases n)]
      exact n
    · rw [upd_ne (Nat.ne_of_gt hlt), upd_ne (Nat.ne_of_gt (Nat.lt_of_lt_of_le (Heap.lt_size hP') sz))]
      exact I.hok.fresh sz
  | some cv =>
    obtain ⟨c', e, hco⟩ := ha pos cv hc
    subst e
    refine BwX.tail_old (mg := X.mg) (c := c) (P := P) (ps := ps) (closure_ok hfree) I.ok.glob (I.mod.glob.keeps I.bk) hcode (TB.code.keeps I.bk) hP' ht hc bP fun ctv h' tk hx hsz => ?_
    have hkp : ∀ b o, s.heap.get? b = some o → (h'.push (BwX.lamObj dV (X.env.qual ++ "<lambda>") params body scope (cloFrom X.env.cells scope.names []) ((X.mg "__name__").getD .none) c' ctv)).get? b = some o := fun b o e => Heap.get?_push_of_some _ (hx b o e)
    exact h h'.objs.size c' ((X.mg "__name__").getD .none) ctv H _ (I.kept (t' := tk) hkp) (fun _ _ _ e => e) hT (fun b o _ e => hkp b o e) (fun _ _ _ n => n) (Heap.get?_push_size _ rfl) (I.hok.fresh hsz) (nofr _ hsz) hsz hco
end
end Bw
set_option linter.all false
set_option autoImplicit false
set_option maxRecDepth 100000
set_option maxHeartbeats 2000000
/-! What is called: defs by their data, lambdas handed to defs. -/
namespace Bw
open PySem PySem.Spec PyProof.Rows L2
def Fc.of (c : Cc) : Fc := ⟨c, none, none, ⟨fun _ => none, [], fun _ => none⟩⟩
/-- what follows a call -/
def PstC (c : Cc) (T : List (Addr × Str)) (z : Zw) (r : Res D) (Q : VK) (E : XK) : Prop := Pst (Rp c) (Fc.of c) T (fun cls dd _ H => E cls dd H) z [] r Q
theorem PstC.of {c : Fc} {T : List (Addr × Str)} {z : Zw} {r : Res D} {Q : VK} {W : WX} {σ : L2.St} (h : Pst (Rp c.toCc) c T W z σ r Q) : PstC c.toCc T z r Q (WE W σ) := by
  cases r with
  | ok d st => exact h
  | er e st => exact h
  | no => exact h
theorem PstC.to {c : Fc} {T : List (Addr × Str)} {z : Zw} {r : Res D} {Q : VK} {E : XK} {σ : L2.St} (h : PstC c.toCc T z r Q E) : Pst (Rp c.toCc) c T (fun cls dd _ H => E cls dd H) z σ r Q := by
  cases r with
  | ok d st => exact h
  | er e st => exact h
  | no => exact h
/-! ### one state after another -/
structure Rch (S0 : List PySem.Env) (s0 : Shared) (H0 : Hp) (z0 : Zw) (S1 : List PySem.Env) (s1 : Shared) (H1 : Hp) (z1 : Zw) : Prop where
  un : Un (frs S0) [] H0 H1 s0.heap s1.heap
  fr : ∀ b ∈ frs S1, b ∈ frs S0 ∨ s0.heap.get? b = none
  z : Lg z0 z1
theorem Rch.trans {S0 S1 S2 : List PySem.Env} {s0 s1 s2 : Shared} {H0 H1 H2 : Hp} {z0 z1 z2 : Zw} (a : Rch S0 s0 H0 z0 S1 s1 H1 z1) (b : Rch S1 s1 H1 z1 S2 s2 H2 z2) : Rch S0 s0 H0 z0 S2 s2 H2 z2 := by
  have out : ∀ {x o}, s0.heap.get? x = some o → x ∉ frs S0 → x ∉ frs S1 := fun {x o} e h h1 => by
    rcases a.fr x h1 with q | q
    · exact h q
    · rw [e] at q; cases q
  refine ⟨⟨fun x o e n h hx => b.un.keep x o (a.un.keep x o e n h hx) (a.un.free x o e n hx) (out e h) hx, fun x o e n h hx => ?_, fun x o e n hx => ?_, fun x o e hx => ?_, fun x xs e => b.un.tups x xs (a.un.tups x xs e), fun x o u e => b.un.frzs x o u (a.un.frzs x o u e), fun x ps e => ?_⟩, fun x hx => ?_, a.z.trans b.z⟩
  · obtain ⟨sl, e1⟩ := a.un.slot x o e n h hx
    obtain ⟨sl2, e2⟩ := b.un.any e1 (a.un.free x o e n hx) hx
    exact ⟨sl2, e2⟩
  · obtain ⟨o', e1⟩ := a.un.there x o e hx
    exact b.un.free x o' e1 (a.un.free x o e n hx) hx
  · obtain ⟨o', e1⟩ := a.un.there x o e hx
    exact b.un.there x o' e1 hx
  · obtain ⟨m1, e1⟩ := a.un.tbls x ps e
    obtain ⟨m2, e2⟩ := b.un.tbls x _ e1
    exact ⟨m1 ++ m2, by rw [e2, Array.append_assoc]⟩
  · rcases b.fr x hx with q | q
    · exact a.fr x q
    · refine .inr ?_
      cases e : s0.heap.get? x with
      | none => rfl
      | some o =>
        obtain ⟨o', e1⟩ := a.un.there x o e (by simp)
        rw [q] at e1
        cases e1
/-- from the entry of a def to where it stands -/
theorem Rch.now {X : Cx} {pins : List (Addr × Obj)} {σ : L2.St} {H : Hp} {s : Shared} {z0 z : Zw} (I : L2.Inv X pins σ H s) (hex : X.ex = []) (l : Lg z0 z) : Rch X.outer X.s_0 X.H_0 z0 X.stack s H z := by
  refine ⟨by have := I.base; rw [hex] at this; exact this, fun b hb => ?_, l⟩
  rcases List.mem_cons.mp (I.stkSub b hb) with e | e
  · refine .inr ?_
    rw [e]
    exact Heap.get?_none_of_le I.ok.above
  · exact .inl e
/-- what stands at a may be called and does as g says, from a state on -/
structure Clos (P : Program) (w : World) (K : PySem.W.Frag) (mg : Str → Option Value) (base : Heap) (c : Cc) (T : List (Addr × Str)) (k : Nat) (S0 : List PySem.Env) (s0 : Shared) (H0 : Hp) (z0 : Zw) (a : Addr) (g : Clo) : Prop where
  at_ : ∀ (A : Around) S1 s1 H1 z1 st, Env0 P w K mg base A S1 s1 H1 → Rch S0 s0 H0 z0 S1 s1 H1 z1 → Wf c T z1 st H1 → PySem.W.FnAt a s1.heap
  run : ∀ (A : Around) (S1 : List PySem.Env) (s1 : Shared) (H1 : Hp) (z1 : Zw) (st : Store) (us : List Value) (vs : List V) (ds : List D) (Q : VK) (E : XK), Room k A → Env0 P w K mg base A S1 s1 H1 → Rch S0 s0 H0 z0 S1 s1 H1 z1 → Wf c T z1 st H1 → Vals vs us → Rps c z1 vs ds → PstC c T z1 (g ds st) Q E →
    codeAny (model P w) A (.call (.ref a) ⟨us, []⟩) (CR (L2.CX P w) S1 P w H1 s1 Q E) s1
theorem Clos.at' {P : Program} {w : World} {K : PySem.W.Frag} {mg : Str → Option Value} {base : Heap} {c : Cc} {T : List (Addr × Str)} {k : Nat} {S0 S1 : List PySem.Env} {s0 s1 : Shared} {H0 H1 : Hp} {z0 z1 : Zw} {a : Addr} {g : Clo} (h : Clos P w K mg base c T k S0 s0 H0 z0 a g) (r : Rch S0 s0 H0 z0 S1 s1 H1 z1) : Clos P w K mg base c T k S1 s1 H1 z1 a g :=
  ⟨fun A S2 s2 H2 z2 st e0 q => h.at_ A S2 s2 H2 z2 st e0 (r.trans q), fun A S2 s2 H2 z2 st us vs ds Q E hr e0 q => h.run A S2 s2 H2 z2 st us vs ds Q E hr e0 (r.trans q)⟩
/-! ### x(..), x the frame's closure -/
def mAct (i : Nat) (g : Clo) (a : MA) : ME := fun ρ st => match ρ[i]? with
  | some (some (.clo 0)) => (a ρ st).bind g
  | _ => .no
section
variable {X : Cx} {c : Fc} {T : List (Addr × Str)} {W : WX} {e : PySem.Expr} {es : List PySem.Expr} {mr : MA} {pos p1 : Pos}
theorem act_end {pins : List (Addr × Obj)} {σ : L2.St} {H : Hp} {s : Shared} {Q : VK} {a : Addr} {us : List Value} (tk : Takes X W) (I : L2.Inv X pins σ H s) (h : codeAny (model X.prog X.w) X.A (.call (.ref a) ⟨us, []⟩) (CR (L2.CX X.prog X.w) X.stack X.prog X.w H s Q (WE W σ)) s) :
    wpAny (model X.prog X.w) X.A (call (.ref a) us) (EP X pins σ Q) X.xe s := by
  refine wpAny_call (codeAny_mono h fun r s' hq => ?_)
  cases r with
  | error e => exact passAt tk σ pins H s e s' I hq
  | ok fl =>
    cases fl with
    | ret u => exact I.after hq
    | next => exact False.elim hq
    | brk => exact False.elim hq
    | cont => exact False.elim hq
theorem e_act0 (i : Nat) {x : Str} {k : Nat} {a : Addr} {g : Clo} (hca : c.ca = some a) (ho : Clos X.prog X.w X.K X.mg X.base c.toCc T k X.outer X.s_0 X.H_0 c.z0 a g) (hr : Room k X.A) (tk : Takes X W) (hex : X.ex = [] := by rfl) (hN : X.N[i]? = some x := by rfl)
    (hv : Vis X.env.scope x := by first | exact Or.inl rfl | exact Or.inr (Or.inl rfl) | exact Or.inr (Or.inr rfl)) (hd : (x == ("__debug__" : Str)) = false := by decide) (hcd : (x == ("__classdict__" : Str)) = false := by decide) : PD X c T W (.Call (.Name x p1) [] [] pos) (mAct i g aNil) := by
  refine ⟨fun pins s σ H Q I ⟨z, ρ, st, w, r, q⟩ => ?_⟩
  unfold mAct at q
  split at q
  · rename_i hi
    obtain ⟨v, h1, h2⟩ := r.at_ i _ hi
    have hva : v = .ref a := by
      cases h2 with
      | d h => cases h
      | clo h => rw [hca] at h; cases h; rfl
    subst hva
    refine wpAny_Call_Name_kw (thn ((pe_var (pos := p1) (i := i) hN hv hd hcd).run pins s σ H (fun v H1 => v = .ref a ∧ H1 = H) I ⟨.ref a, h1, rfl, rfl⟩) fun u s1 ⟨v, H1, I1, r1, e1, e2⟩ => ?_)
    subst e1 e2
    obtain rfl : u = Value.ref a := r1
    have rc := Rch.now I1 hex r.le
    refine PySem.W.callWith_F0 (ho.at_ _ _ _ _ _ _ I1.env0 rc w) ?_
    exact act_end tk I1 (ho.run X.A X.stack s1 H1 z st [] [] [] Q _ hr I1.env0 rc w .nil .nil (PstC.of q))
  · exact q.elim
theorem e_act (i : Nat) {x : Str} {k : Nat} {a : Addr} {g : Clo} (hca : c.ca = some a) (ho : Clos X.prog X.w X.K X.mg X.base c.toCc T k X.outer X.s_0 X.H_0 c.z0 a g) (hr : Room k X.A) (tk : Takes X W) (ha : PA X (e :: es) (LA c T W mr)) (hex : X.ex = [] := by rfl) (hN : X.N[i]? = some x := by rfl)
    (hv : Vis X.env.scope x := by first | exact Or.inl rfl | exact Or.inr (Or.inl rfl) | exact Or.inr (Or.inr rfl)) (hd : (x == ("__debug__" : Str)) = false := by decide) (hcd : (x == ("__classdict__" : Str)) = false := by decide)
    (he : starEach (e :: es) X.env = (false, eval e X.env) :: starEach es X.env := by rfl) (hpl : (backTo pos (starEach es X.env)).any (·.1) = false := by rfl) : PD X c T W (.Call (.Name x p1) (e :: es) [] pos) (mAct i g mr) := by
  refine ⟨fun pins s σ H Q I ⟨z, ρ, st, w, r, q⟩ => ?_⟩
  unfold mAct at q
  split at q
  · rename_i hi
    obtain ⟨v, h1, h2⟩ := r.at_ i _ hi
    have hva : v = .ref a := by
      cases h2 with
      | d h => cases h
      | clo h => rw [hca] at h; cases h; rfl
    subst hva
    refine wpAny_Call_Name_kw (thn ((pe_var (pos := p1) (i := i) hN hv hd hcd).run pins s σ H (fun v H1 => v = .ref a ∧ H1 = H) I ⟨.ref a, h1, rfl, rfl⟩) fun u s1 ⟨v, H1, I1, r1, e1, e2⟩ => ?_)
    subst e1 e2
    obtain rfl : u = Value.ref a := r1
    refine PySem.W.callWith_F (ho.at_ _ _ _ _ _ _ I1.env0 (Rch.now I1 hex r.le) w) (thn (ha.run pos pins s1 σ H1 _ I1 ⟨z, ρ, st, w, r, Pst.bnd (R' := Rps c.toCc) q⟩) fun us s2 ⟨vs, H2, I2, rv, z2, st2, ds, l2, w2, rd, q2⟩ => ?_) he hpl
    have rc := Rch.now I2 hex (r.mono l2).le
    exact ⟨ho.at_ _ _ _ _ _ _ I2.env0 rc w2, act_end tk I2 (ho.run X.A X.stack s2 H2 z2 st2 us vs ds Q _ hr I2.env0 rc w2 rv rd (PstC.of q2))⟩
  · exact q.elim
end
/-! ### a def, by its data -/
def spB (c : Cc) (T : List (Addr × Str)) (n : Nat) (g : List D → Store → Res D) : Sp := fun vs H Q E => vs.length = n ∧ ∃ z st ds, Wf c T z st H ∧ Rps c z vs ds ∧ PstC c T z (g ds st) Q E
/-- its first parameter is called -/
def FnC (P : Program) (w : World) (K : PySem.W.Frag) (mg : Str → Option Value) (base : Heap) (c : Cc) (T : List (Addr × Str)) (k : Nat) (f : Addr) (fd : FuncData) (ps : List Str) (g : Clo → List D → Store → Res D) : Prop :=
  ∀ (kc : Nat) (A : Around) (S : List PySem.Env) (s : Shared) (H : Hp) (args : Args) (us : List Value) (a : Addr) (vs : List V) (gc : Clo) (ds : List D) (z : Zw) (st : Store) (Q : VK) (E : XK), Room (k + kc) A → Env0 P w K mg base A S s H → BindsTo s fd args (ps.zip us) → Vals (.ref a :: vs) us → vs.length + 1 = ps.length →
    Clos P w K mg base c T kc S s H z a gc → Wf c T z st H → Rps c z vs ds → PstC c T z (g gc ds st) Q E → codeAny (model P w) A (.call (.ref f) args) (CR (L2.CX P w) S P w H s Q E) s
/-- the names at the entry -/
def envE (n : Nat) (ds : List (Option D)) : Env := ds ++ List.replicate (n - ds.length) none
theorem start_ok {c : Fc} {z : Zw} {N : List Str} {vs : List V} {ds : List D} (r : Rps c.toCc z vs ds) (h : vs.length ≤ N.length) (l : Lg c.z0 z) : Rσ c z (L2.start N vs) (envE N.length (ds.map some)) := by
  refine ⟨?_, fun i d e => ?_, l⟩
  · unfold L2.start envE
    simp only [List.length_append, List.length_map, List.length_replicate]
    rw [r.len]
  · unfold envE at e
    by_cases hi : i < ds.length
    · rw [List.getElem?_append_left (by simpa using hi), List.getElem?_map] at e
      cases hd : ds[i]? with
      | none => rw [hd] at e; cases e
      | some d' =>
        rw [hd] at e
        cases e
        obtain ⟨v, h1, h2⟩ := r.get hd
        refine ⟨v, ?_, .d h2⟩
        unfold L2.start
        rw [List.getElem?_append_left (by rw [List.length_map, r.len]; exact hi), List.getElem?_map, h1]
        rfl
    · rw [List.getElem?_append_right (by simpa using hi), List.getElem?_replicate] at e
      split at e <;> cases e
theorem start_okC {c : Fc} {z : Zw} {N : List Str} {a : Addr} {vs : List V} {ds : List D} (hca : c.ca = some a) (r : Rps c.toCc z vs ds) (h : vs.length + 1 ≤ N.length) (l : Lg c.z0 z) : Rσ c z (L2.start N (.ref a :: vs)) (envE N.length (some (.clo 0) :: ds.map some)) := by
  refine ⟨?_, fun i d e => ?_, l⟩
  · unfold L2.start envE
    simp only [List.length_append, List.length_map, List.length_replicate, List.length_cons]
    rw [r.len]
  · unfold envE at e
    cases i with
    | zero =>
      have e' : some (some (D.clo 0)) = some (some d) := e
      cases e'
      exact ⟨.ref a, rfl, .clo hca⟩
    | succ i =>
      by_cases hi : i < ds.length
      · rw [List.cons_append, List.getElem?_cons_succ, List.getElem?_append_left (by simpa using hi), List.getElem?_map] at e
        cases hd : ds[i]? with
        | none => rw [hd] at e; cases e
        | some d' =>
          rw [hd] at e
          cases e
          obtain ⟨v, h1, h2⟩ := r.get hd
          refine ⟨v, ?_, .d h2⟩
          unfold L2.start
          rw [List.map_cons, List.cons_append, List.getElem?_cons_succ, List.getElem?_append_left (by rw [List.length_map, r.len]; exact hi), List.getElem?_map, h1]
          rfl
      · rw [List.cons_append, List.getElem?_cons_succ, List.getElem?_append_right (by simpa using hi), List.getElem?_replicate] at e
        split at e <;> cases e
/-- what a body's outcome is to its caller -/
def bodyR (o : Out) : Res D := match o with
  | .nx _ st => .ok .non st
  | .rt d st => .ok d st
  | .er e _ st => .er e st
  | _ => .no
theorem body_ok {c : Fc} {T : List (Addr × Str)} {z : Zw} {o : Out} {Q : VK} {E : XK} (h : PstC c.toCc T z (bodyR o) Q E) : PstS c T (fun cls dd _ H => E cls dd H) z o { nx := fun _ H' => Q .non H', rt := Q } := by
  cases o with
  | nx ρ st => exact fun z' H' σ' l w r => h z' H' .non l w .non
  | rt d st => exact h
  | er e ρ st => exact fun z' H' σ' cls dd l w r eo => h z' H' cls dd l w eo
  | bk ρ st => exact h.elim
  | ct ρ st => exact h.elim
  | no => exact h.elim
section
variable {P : Program} {w : World} {K : PySem.W.Frag} {mg : Str → Option Value} {base : Heap} {k : Nat} {f : Addr} {name qual : Str} {params : Arguments} {body : List Stmt} {scope : Scope} {dV kV doc pm cdv ct oc : Value} {an od : Option Addr} {osl : Array (Option Value)} {N ps : List Str} {c : Cc} {T : List (Addr × Str)}
/-- a def of plain data -/
theorem fnB (lk : K.lookup f = some ⟨oc, od, .func (PySem.W.fnOf name qual params body scope dV kV doc pm an cdv ct), osl⟩) (hcd : PySem.W.codeIn K cdv qual = true) (S : FnScope N ps scope) (m : MS)
    (hbody : ∀ (A : Around) (S1 : List PySem.Env) (s : Shared) (H : Hp) (E : XK) (z : Zw), Room k (A.deeper (envOfC qual scope s.heap.objs.size f cdv)) → SsD (cxOf (L2.CX P w) P w K mg base N qual scope f cdv A S1 s H E) ⟨c, none, none, z⟩ T (fun cls dd _ H => E cls dd H) body m) :
    FnOk P w K mg base (L2.CX P w) (k + 1) f (PySem.W.fnOf name qual params body scope dV kV doc pm an cdv ct) ps (spB c T ps.length fun ds st => bodyR (m (envE N.length (ds.map some)) st)) := by
  have hle : ps.length ≤ N.length := by have := congrArg List.length S.pre; rw [List.length_take] at this; omega
  refine fn_of lk hcd S (fun vs H Q E h => h.1) fun A outer s H vs Q E hr ⟨hl, z, st, ds, w', rd, q⟩ => ⟨_, hbody A outer s H E z hr, z, _, st, w', start_ok rd (by rw [hl]; exact hle) (Lg.refl z), body_ok (c := ⟨c, none, none, z⟩) q⟩
/-- .. a token out when it begins -/
theorem fnBT (lk : K.lookup f = some ⟨oc, od, .func (PySem.W.fnOf name qual params body scope dV kV doc pm an cdv ct), osl⟩) (hcd : PySem.W.codeIn K cdv qual = true) (S : FnScope N ps scope) (m : MS) (hnc : ∀ y ∈ scope.names, y.2 ≠ .cell) (hps : 1 ≤ ps.length)
    (hbody : ∀ (A : Around) (S1 : List PySem.Env) (s : Shared) (H : Hp) (E : XK) (z : Zw), Room k (A.deeper (envOfC qual scope s.heap.objs.size f cdv)) → SsDT (cxOf (L2.CX P w) P w K mg base N qual scope f cdv A S1 s H E) ⟨c, none, none, z⟩ T (fun cls dd _ H => E cls dd H) body m) :
    FnOk P w K mg base (L2.CX P w) (k + 1) f (PySem.W.fnOf name qual params body scope dV kV doc pm an cdv ct) ps (spB c T ps.length fun ds st => bodyR (m (envE N.length (ds.map some)) st)) := by
  have hle : ps.length ≤ N.length := by have := congrArg List.length S.pre; rw [List.length_take] at this; omega
  refine fn_ofT lk hcd S hnc hps (fun vs H Q E h => h.1) fun A outer s H vs Q E hr ⟨hl, z, st, ds, w', rd, q⟩ => ⟨_, hbody A outer s H E z hr, z, _, st, w', start_ok rd (by rw [hl]; exact hle) (Lg.refl z), body_ok (c := ⟨c, none, none, z⟩) q⟩
/-- a def whose first parameter is called -/
theorem fnCl (lk : K.lookup f = some ⟨oc, od, .func (PySem.W.fnOf name qual params body scope dV kV doc pm an cdv ct), osl⟩) (hcd : PySem.W.codeIn K cdv qual = true) (S : FnScope N ps scope) (m : Clo → MS)
    (hbody : ∀ (kc : Nat) (A : Around) (S1 : List PySem.Env) (s : Shared) (H : Hp) (E : XK) (z : Zw) (a : Addr) (gc : Clo), Room (k + kc) (A.deeper (envOfC qual scope s.heap.objs.size f cdv)) → Clos P w K mg base c T kc S1 s H z a gc → SsD (cxOf (L2.CX P w) P w K mg base N qual scope f cdv A S1 s H E) ⟨c, some a, none, z⟩ T (fun cls dd _ H => E cls dd H) body (m gc)) :
    FnC P w K mg base c T (k + 1) f (PySem.W.fnOf name qual params body scope dV kV doc pm an cdv ct) ps (fun gc ds st => bodyR (m gc (envE N.length (some (.clo 0) :: ds.map some)) st)) := by
  have hle : ps.length ≤ N.length := by have := congrArg List.length S.pre; rw [List.length_take] at this; omega
  intro kc A S1 s H args us a vs gc ds z st Q E hr e0 hb rv hl hc w' rd q
  refine LamX.run_ofS (CX := L2.CX P w) (k := k + kc) lk hcd S (by rw [show k + kc + 1 = k + 1 + kc by omega]; exact hr) e0 hb rv (by rw [List.length_cons]; exact hl) fun hr' => ⟨_, hbody kc A S1 s H E z a gc hr' hc, z, _, st, w', start_okC (c := ⟨c, some a, none, z⟩) rfl rd (by omega) (Lg.refl z), body_ok (c := ⟨c, some a, none, z⟩) q⟩
end
/-! ### f(..) -/
def mCall (g : List D → Store → Res D) (a : MA) : ME := fun ρ st => (a ρ st).bind g
section
variable {X : Cx} {c : Fc} {T : List (Addr × Str)} {W : WX} {e : PySem.Expr} {es : List PySem.Expr} {mr : MA} {pos p : Pos} {k : Nat} {f : Addr} {fd : FuncData} {ps : List Str} {x : Str} {g : List D → Store → Res D}
theorem e_call (F : FnOk X.prog X.w X.K X.mg X.base (L2.CX X.prog X.w) k f fd ps (spB c.toCc T ps.length g)) (hr : Room k X.A) (hm : X.mg x = some (.ref f)) (hk : PySem.W.keepIn X.K (.ref f) = true) (hb : Binds X.K fd ps []) (tk : Takes X W) (ha : PA X (e :: es) (LA c T W mr)) (hn : (e :: es).length = ps.length := by rfl)
    (hg : Gl X x := by rfl) (hdb : (x == ("__debug__" : Str)) = false := by decide) (he : starEach (e :: es) X.env = (false, eval e X.env) :: starEach es X.env := by rfl) (hpl : (backTo pos (starEach es X.env)).any (·.1) = false := by rfl) : PD X c T W (.Call (.Name x p) (e :: es) [] pos) (mCall (fun ds st => if ds.length = ps.length then g ds st else .no) mr) :=
  imp_PE (pe_callS F hr hg hm hk hb (fun σ => passAt tk σ) ha hdb he hpl) fun σ H Q ⟨z, ρ, st, w, r, q⟩ => ⟨z, ρ, st, w, r, (Pst.bnd q).imp fun vs H1 ⟨z1, st1, ds, l1, w1, rs, q1⟩ => by
    split at q1
    · rename_i hl
      exact ⟨by rw [rs.len]; exact hl, z1, st1, ds, w1, rs, PstC.of q1⟩
    · exact q1.elim⟩
end
end Bw
set_option linter.all false
set_option autoImplicit false
set_option maxRecDepth 100000
set_option maxHeartbeats 2000000
/-! A lambda handed to a def. -/
namespace Bw
open PySem PySem.Spec PyProof.Rows L2
/-- a lambda's names: its parameters, captured ones, globals -/
structure LamP (sc scope : Scope) (as : List Str) : Prop where
  kind : scope.kind = .function
  co : scope.isCoroutine = false
  gen : scope.isGenerator = false
  cell : ∀ y ∈ scope.names, y.2 ≠ .cell
  own : ∀ y ∈ scope.names, y.2 = .local → y.1 ∈ as
  par : ∀ a ∈ as, scope.names.lookup a = some .local
  nd : as.Nodup
  free : ∀ y ∈ scope.names, y.2 = .free → sc.names.lookup y.1 = some .cell ∨ sc.names.lookup y.1 = some .free
def lamPB (sc scope : Scope) (as : List Str) : Bool :=
  decide (scope.kind = .function) && !scope.isCoroutine && !scope.isGenerator && (scope.names.all fun y => !decide (y.2 = .cell) && (!decide (y.2 = .local) || decide (y.1 ∈ as)) && (!decide (y.2 = .free) || decide (sc.names.lookup y.1 = some .cell) || decide (sc.names.lookup y.1 = some .free))) &&
    (as.all fun a => decide (scope.names.lookup a = some .local)) && decide as.Nodup
theorem lamP_by {sc scope : Scope} {as : List Str} (h : lamPB sc scope as = true) : LamP sc scope as := by
  unfold lamPB at h
  simp only [Bool.and_eq_true, Bool.or_eq_true, Bool.not_eq_true', decide_eq_true_eq, decide_eq_false_iff_not, List.all_eq_true] at h
  obtain ⟨⟨⟨⟨⟨h1, h2⟩, h3⟩, h4⟩, h5⟩, h6⟩ := h
  refine ⟨h1, h2, h3, fun y hy => (h4 y hy).1.1, fun y hy e => ((h4 y hy).1.2).resolve_left (fun z => z e), h5, h6, fun y hy e => ?_⟩
  rcases (h4 y hy).2 with (z | z) | z
  · exact absurd e z
  · exact .inl z
  · exact .inr z
def maskL {α : Type} (ms : List Bool) (l : List (Option α)) : List (Option α) := List.zipWith (fun b o => if b then o else none) ms l
theorem maskL_some {α : Type} : ∀ {ms : List Bool} {l : List (Option α)} {j : Nat} {v : α}, (maskL ms l)[j]? = some (some v) → ms[j]? = some true ∧ l[j]? = some (some v)
  | [], l, j, v, e => by simp [maskL] at e
  | b :: ms, [], j, v, e => by simp [maskL] at e
  | b :: ms, o :: l, 0, v, e => by
    have e' : some (if b then o else none) = some (some v) := e
    cases b with
    | true => exact ⟨rfl, e'⟩
    | false => cases e'
  | b :: ms, o :: l, j + 1, v, e => maskL_some (ms := ms) (l := l) (j := j) e
theorem maskL_len {α : Type} (ms : List Bool) (l : List (Option α)) : (maskL ms l).length = min ms.length l.length := by
  unfold maskL
  rw [List.length_zipWith]
/-- which names the lambda captures -/
def capt (N : List Str) (scope : Scope) : List Bool := N.map fun x => decide (scope.names.lookup x = some .free)
theorem lookup_of {u : Value} {a : Str} : ∀ {l : List (Str × Value)}, (a, u) ∈ l → (∀ v, (a, v) ∈ l → v = u) → l.lookup a = some u
  | [], h, _ => by cases h
  | (b, v) :: l, h, hu => by
    by_cases e : a = b
    · subst e
      have := hu v List.mem_cons_self
      subst this
      simp [List.lookup]
    · have hb : (a == b) = false := by simpa using e
      have hm : (a, u) ∈ l := by
        rcases List.mem_cons.mp h with q | q
        · exact absurd (Prod.mk.inj q).1 e
        · exact q
      simp only [List.lookup, hb]
      exact lookup_of hm fun v hv => hu v (List.mem_cons_of_mem _ hv)
theorem lookup_zip {as : List Str} {us : List Value} {i : Nat} {a : Str} {u : Value} (nd : as.Nodup) (h1 : as[i]? = some a) (h2 : us[i]? = some u) : (as.zip us).reverse.lookup a = some u := by
  refine lookup_of (List.mem_reverse.mpr (List.mem_of_getElem? (i := i) (by rw [List.getElem?_zip_eq_some]; exact ⟨h1, h2⟩))) fun v hv => ?_
  obtain ⟨j, hj⟩ := List.getElem?_of_mem (List.mem_reverse.mp hv)
  rw [List.getElem?_zip_eq_some] at hj
  have e := nodup_ix nd h1 hj.1
  subst e
  rw [h2] at hj
  exact (Option.some.inj hj.2).symm
abbrev lamEnv (X : Cx) (scope : Scope) (L f c' : Addr) : PySem.Env := PySem.W.envX (X.env.qual ++ "<lambda>") scope L f (.ref c') (cloFrom X.env.cells scope.names [])
/-- the context of its body, entered at s from the frames outer -/
def lamCx (X : Cx) (A : Around) (outer : List PySem.Env) (s : Shared) (H : Hp) (E : XK) (scope : Scope) (as : List Str) (f c' : Addr) : Cx where
  prog := X.prog
  w := X.w
  K := X.K
  mg := X.mg
  base := X.base
  A := A.deeper (lamEnv X scope s.heap.objs.size f c')
  N := as ++ X.N
  s_0 := s
  H_0 := H
  env := lamEnv X scope s.heap.objs.size f c'
  outer := outer
  stack := lamEnv X scope s.heap.objs.size f c' :: outer
  ex := []
  fn := fun _ => false
  calm := true
  pn := []
  xe := fun e s' => wpAny (model X.prog X.w) (A.deeper (lamEnv X scope s.heap.objs.size f c')) (leaving (lamEnv X scope s.heap.objs.size f c') e) (fun _ s'' => L2.CX X.prog X.w outer H s E e s'') (fun e' s'' => L2.CX X.prog X.w outer H s E e' s'') s'
section
variable {X : Cx} {pins : List (Addr × Obj)} {σ : L2.St} {H HZ : Hp} {s s1 : Shared}
theorem lam_has {scope : Scope} {as : List Str} (L : LamP X.env.scope scope as) (ok : X.Ok) : ∀ y ∈ scope.names, y.2 = .free → ∃ c, X.env.cells.lookup y.1 = some c := fun y hy e => by
  rcases L.free y hy e with k | k
  · exact ok.has _ (.inl k)
  · exact ok.has _ (.inr k)
theorem lam_begin {A : Around} {outer : List PySem.Env} {E : XK} {scope : Scope} {as : List Str} {f c' : Addr} {h1 : Heap} {tk : Nat} {us : List Value} {vs : List V} (I : L2.Inv X pins σ H s) (L : LamP X.env.scope scope as) (e0 : Env0 X.prog X.w X.K X.mg X.base A outer s1 HZ) (hd : A.handled = none) (rv : Vals vs us) (hl : vs.length = as.length)
    (un : Un (frs X.stack) [] H HZ s.heap s1.heap) (hns : h1.Ns s1.heap.objs.size fun y => (as.zip us).reverse.lookup y) (kp : ∀ b o, s1.heap.get? b = some o → h1.get? b = some o) :
    L2.Inv (lamCx X A outer s1 HZ E scope as f c') [] (vs.map some ++ maskL (capt X.N scope) σ) HZ { s1 with heap := h1, toks := tk } := by
  have hfree := lam_has L I.ok
  have cm : ∀ {y c}, (cloFrom X.env.cells scope.names []).lookup y = some c → X.env.cells.lookup y = some c := fun {y c} e => by
    rcases cloFrom_mem (PySem.mem_of_lookup e) with hm | ⟨q1, q2⟩
    · cases hm
    · obtain ⟨c1, hc⟩ := hfree _ q1 rfl
      have hc : X.env.cells.lookup y = some c1 := hc
      have e2 : c = c1 := by rw [q2, hc] <;> rfl
      rw [e2]
      exact hc
  have look : ∀ {y}, scope.names.lookup y = some .free → ∃ c, (cloFrom X.env.cells scope.names []).lookup y = some c := fun {y} hl => mem_lookup (cloFrom_has (cells := X.env.cells) (acc := []) (show (y, NameKind.free) ∈ scope.names from PySem.mem_of_lookup hl))
  have cellK : ∀ {c : Addr} {v : Option Value}, H c = none → s.heap.IsCell c v → h1.IsCell c v := fun {c v} n ⟨o, ho, hd⟩ => by
    obtain ⟨sl, q⟩ := un.any ho n (by simp)
    exact ⟨_, kp _ _ q, hd⟩
  have noA : ∀ b : Addr, b ∉ (lamCx X A outer s1 HZ E scope as f c').ex := fun b z => absurd (show b ∈ ([] : List Addr) from z) (by simp)
  refine ⟨⟨e0.mod, L.kind, rfl, rfl, Nat.le_refl _, fun y z c q1 q2 => I.ok.inj y z c (cm q1) (cm q2), fun y hy => ?_, fun y c z _ => ?_, fun _ => hd, Around.frames_deeper e0.frames, .inr ⟨rfl, rfl⟩, fun b z => absurd z (noA b), e0.bs, e0.bsz, fun b _ _ => noA b, fun b z => absurd z (noA b), e0.funs, e0.frf⟩,
    rfl, e0.bare, Un.kept kp, ⟨_, hns, fun i y v q1 q2 q3 => ?_⟩, fun y c e => ?_, e0.hok.fresh (Nat.le_refl _), fun y c e => ?_, fun q hq => absurd (show q ∈ ([] : List (Addr × Obj)) ++ [] from hq) (by simp), e0.hok.kept kp, ?_⟩
  · have hy : scope.names.lookup y = some .cell ∨ scope.names.lookup y = some .free := hy
    rcases hy with hy | hy
    · exact absurd rfl (L.cell _ (PySem.mem_of_lookup hy))
    · exact look hy
  · have z : false = true := z
    cases z
  · have q1 : (as ++ X.N)[i]? = some y := q1
    have q3 : Vis scope y := q3
    by_cases hi : i < as.length
    · rw [List.getElem?_append_left hi] at q1
      rw [List.getElem?_append_left (by rw [List.length_map, hl]; exact hi), List.getElem?_map] at q2
      cases hv : vs[i]? with
      | none => rw [hv] at q2; cases q2
      | some v0 =>
        rw [hv] at q2
        cases q2
        obtain ⟨u, hu, ru⟩ := rv.get hv
        exact ⟨u, ru, .inl ⟨L.par y (List.mem_of_getElem? q1), lookup_zip L.nd q1 hu⟩⟩
    · have hi' : as.length ≤ i := Nat.le_of_not_lt hi
      rw [List.getElem?_append_right hi'] at q1
      rw [List.getElem?_append_right (by rw [List.length_map, hl]; exact hi'), List.length_map, hl] at q2
      obtain ⟨m1, m2⟩ := maskL_some q2
      unfold capt at m1
      rw [List.getElem?_map, q1] at m1
      have k : scope.names.lookup y = some .free := of_decide_eq_true (Option.some.inj m1)
      obtain ⟨m, hn, hlk⟩ := I.loc
      have hvis : Vis X.env.scope y := (L.free _ (PySem.mem_of_lookup k) rfl).elim (fun k => .inr (.inl k)) (fun k => .inr (.inr k))
      obtain ⟨w', r, q⟩ := hlk _ y v q1 m2 hvis
      obtain ⟨c2, h2⟩ := look k
      refine ⟨w', r, .inr ⟨.inr k, c2, h2, ?_⟩⟩
      have c1 := cm h2
      rcases q with ⟨k', _⟩ | ⟨_, c3, e', z⟩
      · have k' : X.env.scope.names.lookup y = some .local := k'
        rcases L.free _ (PySem.mem_of_lookup k) rfl with k2 | k2 <;> rw [show X.env.scope.names.lookup y = _ from k2] at k' <;> cases k'
      · rw [c1] at e'
        cases e'
        exact cellK (I.freeC y _ c1) z
  · obtain ⟨w', z⟩ := I.cell y c (cm e)
    exact ⟨w', cellK (I.freeC y c (cm e)) z⟩
  · obtain ⟨v, o, ho, hd⟩ := I.cell y c (cm e)
    exact un.free c o ho (I.freeC y c (cm e)) (by simp)
  · show (vs.map some ++ maskL (capt X.N scope) σ).length = (as ++ X.N).length
    rw [List.length_append, List.length_append, List.length_map, maskL_len, hl, I.len]
    unfold capt
    rw [List.length_map, Nat.min_self]
/-- the default, where there is one: None -/
def DfOk (dn : Bool) (dV : Value) (h : Heap) : Prop := if dn = true then ∃ T0, dV = .ref T0 ∧ h.get? T0 = some { cls := .type "tuple", data := .seq #[.none] } else dV = .none
def dfU (dn : Bool) : List Value := if dn = true then [.none] else []
def dfV (dn : Bool) : List V := if dn = true then [.non] else []
def dfD (dn : Bool) : List D := if dn = true then [.non] else []
theorem df_len {dn : Bool} : (dfU dn).length = (dfD dn).length ∧ (dfV dn).length = (dfD dn).length := by cases dn <;> exact ⟨rfl, rfl⟩
theorem df_vals (dn : Bool) : Vals (dfV dn) (dfU dn) := by
  cases dn
  · exact .nil
  · exact .cons rfl .nil
theorem df_rps {c : Cc} {z : Zw} (dn : Bool) : Rps c z (dfV dn) (dfD dn) := by
  cases dn
  · exact .nil
  · exact .cons .non .nil
/-- how its arguments are bound -/
def LamBind (dn : Bool) (n : Nat) (as : List Str) (params : Arguments) (body : PySem.Expr) (scope : Scope) : Prop := as.length = n + (dfD dn).length ∧ ∀ (q : Str) (cl : List (Str × Addr)) (pm cdv ct dV : Value) (s : Shared) (us : List Value), us.length = n → DfOk dn dV s.heap →
  BindsTo s (BwX.lamFn dV q params body scope cl pm cdv ct) ⟨us, []⟩ (as.zip (us ++ dfU dn))
/-- what a lambda does: its body by data, the captured values as they stood -/
def lamD (dn : Bool) (n : Nat) (ms : List Bool) (mb : ME) (ρ : Env) : Clo := fun ds st => if ds.length = n then mb ((ds ++ dfD dn).map some ++ maskL ms ρ) st else .no
theorem lam_env {c : Fc} {z z1 : Zw} {σ : L2.St} {ρ : Env} {ms : List Bool} {vs : List V} {ds : List D} (r : Rσ c z σ ρ) (l : Lg z z1) (rd : Rps c.toCc z1 vs ds) : Rσ { c with z0 := z1 } z1 (vs.map some ++ maskL ms σ) (ds.map some ++ maskL ms ρ) := by
  refine ⟨by rw [List.length_append, List.length_append, List.length_map, List.length_map, maskL_len, maskL_len, rd.len, r.len], fun i d e => ?_, Lg.refl z1⟩
  by_cases hi : i < ds.length
  · rw [List.getElem?_append_left (by simpa using hi), List.getElem?_map] at e
    cases hd : ds[i]? with
    | none => rw [hd] at e; cases e
    | some d' =>
      rw [hd] at e
      cases e
      obtain ⟨v, h1, h2⟩ := rd.get hd
      exact ⟨v, by rw [List.getElem?_append_left (by rw [List.length_map, rd.len]; exact hi), List.getElem?_map, h1]; rfl, .d h2⟩
  · have hi' : ds.length ≤ i := Nat.le_of_not_lt hi
    rw [List.getElem?_append_right (by rw [List.length_map]; exact hi'), List.length_map] at e
    obtain ⟨m1, m2⟩ := maskL_some e
    obtain ⟨v, h1, h2⟩ := r.at_ _ d m2
    refine ⟨v, ?_, ?_⟩
    · rw [List.getElem?_append_right (by rw [List.length_map, rd.len]; exact hi'), List.length_map, rd.len]
      unfold maskL
      rw [List.getElem?_zipWith, m1, h1]
      rfl
    · cases h2 with
      | d h => exact .d (h.monoG l)
      | clo h => exact .clo h
      | exc h => exact .exc h
abbrev Fc.at (c : Fc) (z : Zw) : Fc := { c with z0 := z }
theorem lam_clos {c : Fc} {T : List (Addr × Str)} {scope : Scope} {as : List Str} {params : Arguments} {body : PySem.Expr} {dn : Bool} {n k : Nat} {mb : ME} {f c' : Addr} {dV pm ct : Value} {z : Zw} {ρ : Env} (I : L2.Inv X pins σ H s) (L : LamP X.env.scope scope as) (hB : LamBind dn n as params body scope) (r : Rσ c z σ ρ) (hex : X.ex = [])
    (hf : s.heap.get? f = some (BwX.lamObj dV (X.env.qual ++ "<lambda>") params body scope (cloFrom X.env.cells scope.names []) pm c' ct)) (hfn : H f = none) (hfr : f ∉ frs X.stack) (hG : z.G c' = some (LamX.CodeO c' (X.env.qual ++ "<lambda>"))) (hdf : DfOk dn dV s.heap) (hdn : ∀ T0, dV = .ref T0 → H T0 = none ∧ T0 ∉ frs X.stack)
    (hbody : ∀ (A : Around) (outer : List PySem.Env) (s1 : Shared) (H1 : Hp) (E : XK) (f c' : Addr) (z1 : Zw), Room k (A.deeper (lamEnv X scope s1.heap.objs.size f c')) → (∀ kc a gc, Clos X.prog X.w X.K X.mg X.base c.toCc T kc X.outer X.s_0 X.H_0 c.z0 a gc → Clos X.prog X.w X.K X.mg X.base c.toCc T kc outer s1 H1 z1 a gc) →
      PD (lamCx X A outer s1 H1 E scope as f c') (c.at z1) T (fun cls dd _ H => E cls dd H) body mb) : Clos X.prog X.w X.K X.mg X.base c.toCc T (k + 1) X.stack s H z f (lamD dn n (capt X.N scope) mb ρ) := by
  have at1 : ∀ {S1 : List PySem.Env} {s1 : Shared} {H1 : Hp} {z1 : Zw}, Rch X.stack s H z S1 s1 H1 z1 → s1.heap.get? f = some (BwX.lamObj dV (X.env.qual ++ "<lambda>") params body scope (cloFrom X.env.cells scope.names []) pm c' ct) := fun rc => rc.un.keep f _ hf hfn hfr (by simp)
  refine ⟨fun A S1 s1 H1 z1 st e0 rc w => ⟨_, _, _, _, at1 rc⟩, fun A S1 s1 H1 z1 st us vs ds Q E hr e0 rc w rv rd q => ?_⟩
  unfold lamD at q
  split at q
  · rename_i hn
    have hc : H1 c' = some (LamX.CodeO c' (X.env.qual ++ "<lambda>")) := w.sub _ _ (rc.z.g _ _ hG)
    obtain ⟨⟨oc, fv, t, hoc, hdc, hvc⟩, _, _⟩ := e0.hok c' _ hc
    have hun : us.length = n := by rw [← rv.length, rd.len]; exact hn
    have hdf1 : DfOk dn dV s1.heap := by
      unfold DfOk at hdf ⊢
      split
      · rename_i hd
        rw [if_pos hd] at hdf
        obtain ⟨T0, e, hT⟩ := hdf
        obtain ⟨n1, n2⟩ := hdn T0 e
        exact ⟨T0, e, rc.un.keep T0 _ hT n1 n2 (by simp)⟩
      · rename_i hd
        rw [if_neg hd] at hdf
        exact hdf
    have rv' : Vals (vs ++ dfV dn) (us ++ dfU dn) := rv.append (df_vals dn)
    have hlen : (vs ++ dfV dn).length = as.length := by
      rw [List.length_append, rd.len, hn, df_len.2, hB.1]
    have lim : s1.heap.NoLimit := e0.mod.nolimit.keeps fun b o e => (e0.bs b o e).1
    refine PySem.W.kla_callFunE hr.depth (at1 rc) rfl L.co L.gen rfl ⟨c', oc, fv, t, rfl, hoc, hdc, hvc⟩ ?_
    refine hB.2 (X.env.qual ++ "<lambda>") (cloFrom X.env.cells scope.names []) pm (.ref c') ct dV s1 us hun hdf1 _ _ _ _ ?_
    refine wpAny_newFunctionEnv (fun y hy => L.cell y hy) (fun y hy => L.par y.1 (List.of_mem_zip hy).1) (fun h1 hns hsb => ⟨lim.fresh _ hsb, ?_⟩) L.kind
    show codeAny _ _ (.expr body (lamEnv X scope s1.heap.objs.size f c')) _ _
    have kp : ∀ b o, s1.heap.get? b = some o → h1.get? b = some o := fun b o e => hsb.extBut b o (Nat.ne_of_lt (Heap.lt_size e)) (Heap.get?_push_of_some _ e)
    have J := lam_begin (tk := s1.toks + (as.zip (us ++ dfU dn)).length) (E := E) (f := f) (c' := c') I L e0 hr.hd rv' hlen rc.un hns kp
    have rw1 : Rσ (c.at z1) z1 ((vs ++ dfV dn).map some ++ maskL (capt X.N scope) σ) ((ds ++ dfD dn).map some ++ maskL (capt X.N scope) ρ) := lam_env r rc.z (rd.app (df_rps dn))
    have hb := hbody A S1 s1 H1 E f c' z1 (hr.deeper _) (fun kc a gc h => h.at' ((Rch.now I hex r.le).trans rc))
    refine PySem.W.kla_codeExpr (wpAny_mono (hb.run [] _ _ H1 Q J ⟨z1, _, st, w, rw1, PstC.to (c := c.at z1) q⟩) (fun v s' hq => ?_) fun e s' hq => hq)
    obtain ⟨w', H', J', rv2, q2⟩ := hq
    exact ⟨w', H', J'.os, J'.bare, J'.base, J'.hok, rv2, q2⟩
  · exact q.elim
end
end Bw
set_option linter.all false
set_option autoImplicit false
set_option maxRecDepth 100000
set_option maxHeartbeats 2000000
/-! f(lambda ..: .., e, ..). -/
namespace Bw
open PySem PySem.Spec PyProof.Rows L2 LamX
section
variable {c : Cc} {T : List (Addr × Str)} {z : Zw} {st : Store} {H H1 : Hp}
theorem Wf.tables {P : Addr} {q : Str} (w : Wf c T z st H) (hm : (P, q) ∈ T) (k : ∀ b o, b ≠ P → H b = some o → H1 b = some o) (t : Tabs T H1) : Wf c T z st H1 := by
  obtain ⟨n1, n2⟩ := w.noT _ hm
  refine ⟨fun a o e => k a o (fun h => by rw [h] at e; rw [n1] at e; cases e) (w.sub a o e), w.len, w.nd, fun n a o e1 e2 => ?_, t, w.noT, fun a o e => ?_⟩
  · obtain ⟨h1, h2⟩ := w.obj n a o e1 e2
    have ne : a ≠ P := fun h => n2 (h ▸ List.mem_of_getElem? e1)
    refine ⟨h1, h2.mono (Le.refl z) ?_⟩
    cases e : H a with
    | none => exact absurd e h2.stands
    | some u => exact k a u ne e
  · obtain ⟨h1, h0, h2, h3, h4⟩ := w.fr a o e
    exact ⟨k a o (fun h => h3 _ hm h.symm) h1, h0, h2, h3, h4⟩
/-- a code object is known -/
theorem Wf.know {p : Addr} {q : Str} (w : Wf c T z st H) (hp : H p = some (CodeO p q)) : Le z (z.lay p (CodeO p q)) ∧ Wf c T (z.lay p (CodeO p q)) st H := by
  have hg : ∀ o, z.G p = some o → o = CodeO p q := fun o e => by
    have := w.sub p o e
    rw [hp] at this
    exact (Option.some.inj this).symm
  have nl : ∀ vs, CodeO p q ≠ .lst vs := fun vs e => by unfold CodeO at e; cases e
  have lz : Le z (z.lay p (CodeO p q)) := ⟨fun a u e => by
    show upd z.G p (CodeO p q) a = _
    by_cases h : a = p
    · subst h
      rw [upd_same, hg u e]
    · rw [upd_ne h]; exact e, ⟨[], (List.append_nil _).symm⟩, rfl⟩
  have nμ : p ∉ z.μ := fun hm => by
    obtain ⟨n, e⟩ := List.getElem?_of_mem hm
    have hl : n < st.length := by rw [← w.len]; exact (List.getElem?_eq_some_iff.mp e).1
    have h2 := (w.obj n p _ e (List.getElem?_eq_getElem hl)).2
    cases h : st[n] with
    | lst ds =>
      rw [h] at h2
      obtain ⟨vs, x, _⟩ := h2
      rw [hp] at x
      exact nl vs (Option.some.inj x)
    | ins cl fs =>
      rw [h] at h2
      obtain ⟨C, dx, vs, _, x, _⟩ := h2
      rw [hp] at x
      have := Option.some.inj x
      unfold CodeO at this
      cases this
  have nT : ∀ r ∈ T, r.1 ≠ p := fun r hr h => by
    obtain ⟨ps, e, _⟩ := w.tab r hr
    rw [h, hp] at e
    exact codeO_ne ps (Option.some.inj e)
  refine ⟨lz, fun a o e => ?_, w.len, w.nd, fun n a o e1 e2 => ?_, w.tab, fun r hr => ⟨?_, (w.noT r hr).2⟩, fun a o e => ?_⟩
  · have e' : upd z.G p (CodeO p q) a = some o := e
    by_cases h : a = p
    · subst h
      rw [upd_same] at e'
      cases e'
      exact hp
    · rw [upd_ne h] at e'
      exact w.sub a o e'
  · obtain ⟨h1, h2⟩ := w.obj n a o e1 e2
    have ne : a ≠ p := fun h => nμ (h ▸ List.mem_of_getElem? e1)
    exact ⟨by show upd z.G p (CodeO p q) a = none; rw [upd_ne ne]; exact h1, h2.mono lz rfl⟩
  · show upd z.G p (CodeO p q) r.1 = none
    rw [upd_ne (nT r hr)]
    exact (w.noT r hr).1
  · obtain ⟨h1, h0, h2, h3, vs, h4⟩ := w.fr a o e
    have ne : a ≠ p := fun h => by
      rw [h, hp] at h1
      have := Option.some.inj h1
      rw [h4] at this
      exact nl vs this
    exact ⟨h1, by show upd z.G p (CodeO p q) a = none; rw [upd_ne ne]; exact h0, h2, h3, vs, h4⟩
end
def mLam (G : Clo → List D → Store → Res D) (dn : Bool) (n : Nat) (ms : List Bool) (mb : ME) (mr : MA) : ME := fun ρ st => (mr ρ st).bind fun ds st' => G (lamD dn n ms mb ρ) ds st'
section
variable {X : Cx} {c : Fc} {T : List (Addr × Str)} {W : WX} {es : List PySem.Expr} {mr : MA} {pos p lpos : Pos}
/-- how the defaults are written -/
def DfEx (dn : Bool) (params : Arguments) (env : PySem.Env) : Prop := if dn = true then ∃ j cp, defaultsOf params env = ([eval (.Constant .none j cp) env], []) else defaultsOf params env = ([], [])
theorem lam_eval {pins : List (Addr × Obj)} {σ : L2.St} {H : Hp} {s : Shared} {cA P : Addr} {params : Arguments} {body : PySem.Expr} {scope : Scope} {dn : Bool} {E : Value → Shared → Prop} {Q : Value → Shared → Prop} (I : L2.Inv X pins σ H s) (TB : TabB X.base X.mg cA P) (hcode : X.env.code = .ref cA)
    (hm : (P, X.env.qual ++ "<lambda>") ∈ T) (hu : ∀ p ∈ T, p.1 = P → p.2 = X.env.qual ++ "<lambda>") (hT : Tabs T H) (hfree : ∀ y ∈ scope.names, y.2 = .free → ∃ c, X.env.cells.lookup y.1 = some c) (hd : DfEx dn params X.env)
    (h : ∀ (f c' : Addr) (dV pm ctv : Value) (H1 : Hp) (s' : Shared), L2.Inv X pins σ H1 s' → (∀ b o, b ≠ P → H b = some o → H1 b = some o) → Tabs T H1 → s'.heap.get? f = some (BwX.lamObj dV (X.env.qual ++ "<lambda>") params body scope (cloFrom X.env.cells scope.names []) pm c' ctv) → H1 f = none → f ∉ frs X.stack → s.heap.objs.size ≤ f → H1 c' = some (CodeO c' (X.env.qual ++ "<lambda>")) →
      DfOk dn dV s'.heap → (∀ T0, dV = .ref T0 → H1 T0 = none ∧ T0 ∉ frs X.stack ∧ s.heap.objs.size ≤ T0 ∧ T0 < f) → Q (.ref f) s') : wpAny (model X.prog X.w) X.A (eval (.Lambda params body scope lpos) X.env) Q E s := by
  obtain ⟨ps, hP, _⟩ := hT _ hm
  have hP' : s.heap.get? P = some { cls := .none, data := .fields ps } := I.hok P _ hP
  cases dn with
  | false =>
    have hd : defaultsOf params X.env = ([], []) := hd
    refine PySem.W.kla_eval hd ?_
    rw [makeFunction_eq]
    simp only [List.zip_nil_right, List.filterMap_nil, List.isEmpty_nil, if_true, pure_bind]
    refine lam_tail I TB hcode hm hu hT hfree fun f c' pm ctv H1 s' I1 k1 t1 k2 k3 hf hfn hfr hge hco => h f c' .none pm ctv H1 s' I1 k1 t1 hf hfn hfr hge hco rfl fun T0 e => nomatch e
  | true =>
    obtain ⟨j, cp, hd⟩ : ∃ j cp, defaultsOf params X.env = ([eval (.Constant .none j cp) X.env], []) := hd
    rw [arm_eval_Lambda, hd]
    show wpAny _ _ (do let dv ← evalAll [eval (.Constant .none j cp) X.env]; let kdv ← holding dv (evalAllOpt []); makeFunction "<lambda>" (X.env.qual ++ "<lambda>") params (.expr body) scope X.env dv kdv [] lpos lpos.line) Q E s
    refine wpAny_bind (wpAny_evalAll_cons (Constant_none (wpAny_evalAll_nil ?_)))
    refine wpAny_bind (wpAny_holding (wpAny_pure ?_))
    rw [makeFunction_eq]
    simp only [List.zip_nil_right, List.filterMap_nil, List.isEmpty_nil, List.isEmpty_cons, Bool.false_eq_true, if_false, if_true, pure_bind]
    refine wpAny_bind (wpAny_newTextTuple ?_)
    have I0 : L2.Inv X pins σ H { s with heap := s.heap.push { cls := .type "tuple", data := .seq [Value.none].toArray } } := I.kept (t' := s.toks) fun b o e => Heap.get?_push_of_some _ e
    have nofr : s.heap.objs.size ∉ frs X.stack := fun z => by
      rcases List.mem_cons.mp (I.stkSub _ z) with e | e
      · have := I.lt
        rw [← e] at this
        exact Nat.lt_irrefl _ this
      · exact I.nofs (Nat.le_refl _) e
    have hT0 : (s.heap.push { cls := .type "tuple", data := .seq [Value.none].toArray }).get? s.heap.objs.size = some { cls := .type "tuple", data := .seq [Value.none].toArray } := Heap.get?_push_size _ rfl
    refine lam_tail I0 TB hcode hm hu hT hfree fun f c' pm ctv H1 s' I1 k1 t1 k2 k3 hf hfn hfr hge hco => h f c' (.ref s.heap.objs.size) pm ctv H1 s' I1 k1 t1 hf hfn hfr (Nat.le_trans (by rw [Heap.size_push]; exact Nat.le_succ _) hge) hco ?_ fun T0 e => ?_
    · exact ⟨_, rfl, k2 _ _ (Nat.ne_of_gt (Heap.lt_size hP')) hT0⟩
    · cases e
      exact ⟨k3 _ _ hT0 (I.hok.fresh (Nat.le_refl _)), nofr, Nat.le_refl _, by rw [Heap.size_push] at hge; exact hge⟩
theorem e_lam {x : Str} {g cA P : Addr} {k kb : Nat} {fd : FuncData} {ps : List Str} {G : Clo → List D → Store → Res D} {params : Arguments} {body : PySem.Expr} {scope : Scope} {as : List Str} {dn : Bool} {n : Nat} {mb : ME} (F : FnC X.prog X.w X.K X.mg X.base c.toCc T k g fd ps G) (hr : Room (k + (kb + 1)) X.A) (hm : X.mg x = some (.ref g)) (hk : PySem.W.keepIn X.K (.ref g) = true)
    (hb : Binds X.K fd ps []) (tk : Takes X W) (TB : TabB X.base X.mg cA P) (hcode : X.env.code = .ref cA) (hmT : (P, X.env.qual ++ "<lambda>") ∈ T) (hu : ∀ p ∈ T, p.1 = P → p.2 = X.env.qual ++ "<lambda>") (hs : X.stack = X.env :: X.outer) (hfm : X.env.frame = some X.env.locals) (hex : X.ex = [])
    (L : LamP X.env.scope scope as) (hB : LamBind dn n as params body scope) (hd : DfEx dn params X.env) (hn : es.length + 1 = ps.length)
    (hbody : ∀ (A : Around) (outer : List PySem.Env) (s1 : Shared) (H1 : Hp) (E : XK) (f c' : Addr) (z1 : Zw), Room kb (A.deeper (lamEnv X scope s1.heap.objs.size f c')) → (∀ kc a gc, Clos X.prog X.w X.K X.mg X.base c.toCc T kc X.outer X.s_0 X.H_0 c.z0 a gc → Clos X.prog X.w X.K X.mg X.base c.toCc T kc outer s1 H1 z1 a gc) →
      PD (lamCx X A outer s1 H1 E scope as f c') (c.at z1) T (fun cls dd _ H => E cls dd H) body mb)
    (ha : PA X es (LA c T W mr)) (hg : Gl X x := by rfl) (hdb : (x == ("__debug__" : Str)) = false := by decide) (he : starEach (.Lambda params body scope lpos :: es) X.env = (false, eval (.Lambda params body scope lpos) X.env) :: starEach es X.env := by rfl) (hpl : (backTo pos (starEach es X.env)).any (·.1) = false := by rfl) :
    PD X c T W (.Call (.Name x p) (.Lambda params body scope lpos :: es) [] pos) (mLam (fun gc ds st => if ds.length + 1 = ps.length then G gc ds st else .no) dn n (capt X.N scope) mb mr) := by
  refine ⟨fun pins s σ H Q I ⟨z, ρ, st, w, r, q⟩ => ?_⟩
  refine wpAny_Call_Name_kw (ld_glob I hg hm ?_ hdb)
  refine PySem.W.callWith_K (h₀ := X.base) I.ok.mod.kin hk ?_ he hpl
  rw [he]
  show wpAny _ _ (spliced ((false, eval (.Lambda params body scope lpos) X.env) :: backTo pos (starEach es X.env))) _ _ s
  refine Calls.spliced_cons (lam_eval I TB hcode hmT hu w.tab (lam_has L I.ok) hd fun f c' dV pm ctv H1 s1 I1 k1 t1 hf hfn hfr _ hco hdf hdn => ?_)
  obtain ⟨lc, wc⟩ := (w.tables hmT k1 t1).know hco
  have notL : ∀ a, a ∉ frs X.stack → a ≠ X.env.locals ∧ a ∉ X.fs := fun a h => ⟨fun e => h (by rw [hs]; exact List.mem_filterMap.mpr ⟨X.env, List.mem_cons_self, by rw [hfm, e]⟩), fun e => h (by
    rw [hs]
    obtain ⟨e0, h1, h2⟩ := List.mem_filterMap.mp e
    exact List.mem_filterMap.mpr ⟨e0, List.mem_cons_of_mem _ h1, h2⟩)⟩
  -- the lambda's own things are pinned while the other arguments come
  obtain ⟨lp, hlp, hp1, hp2, hp3⟩ : ∃ lp : List (Addr × Obj), (∀ q ∈ lp, s1.heap.get? q.1 = some q.2 ∧ H1 q.1 = none ∧ q.1 ≠ X.env.locals ∧ q.1 ∉ X.fs ∧ ∀ v, q.2.data ≠ .cell v) ∧ (f, BwX.lamObj dV (X.env.qual ++ "<lambda>") params body scope (cloFrom X.env.cells scope.names []) pm c' ctv) ∈ lp ∧ (∀ h, (∀ q ∈ lp, h q.1 = some q.2) → ∀ hh : Heap, hh.get? = h → DfOk dn dV hh) ∧ (∀ T0, dV = .ref T0 → ∃ o, (T0, o) ∈ lp) := by
    cases dn with
    | false => exact ⟨[(f, _)], fun q hq => by
        rw [List.mem_singleton] at hq
        subst hq
        exact ⟨hf, hfn, (notL f hfr).1, (notL f hfr).2, fun v e => nomatch e⟩, List.mem_cons_self, fun h _ hh _ => hdf, fun T0 e => by
          have hdf : dV = .none := hdf
          rw [hdf] at e
          cases e⟩
    | true =>
      obtain ⟨T0, e, hT⟩ := hdf
      obtain ⟨n1, n2, _⟩ := hdn T0 e
      exact ⟨[(f, _), (T0, _)], fun q hq => by
        rcases List.mem_cons.mp hq with rfl | hq
        · exact ⟨hf, hfn, (notL f hfr).1, (notL f hfr).2, fun v e => nomatch e⟩
        · rw [List.mem_singleton] at hq
          subst hq
          exact ⟨hT, n1, (notL T0 n2).1, (notL T0 n2).2, fun v e => nomatch e⟩, List.mem_cons_self, fun h hq hh eh => ⟨T0, e, by rw [eh]; exact hq (T0, _) (by simp)⟩, fun T1 e1 => by
          rw [e] at e1
          cases e1
          exact ⟨_, List.mem_cons_of_mem _ List.mem_cons_self⟩⟩
  have I1p : L2.Inv X (pins ++ lp) σ H1 s1 := I1.pins_of fun q hq => (List.mem_append.mp hq).elim (fun hq => I1.pin q (List.mem_append_right _ hq)) (hlp q)
  have q' : Pst (Rp c.toCc) c T W z σ ((mr ρ st).bind fun ds st' => if ds.length + 1 = ps.length then G (lamD dn n (capt X.N scope) mb ρ) ds st' else .no) Q := q
  refine thn (ha.run pos (pins ++ lp) s1 σ H1 _ I1p ⟨_, ρ, st, wc, r.mono lc, Pst.bnd (R' := Rps c.toCc) (q'.le lc)⟩) fun us s2 ⟨vs, H2, I2, rv, z2, st2, ds, l2, w2, rd, q2⟩ => ⟨I2.kIn, ?_⟩
  split at q2
  · rename_i hl
    have pin2 : ∀ q ∈ lp, s2.heap.get? q.1 = some q.2 ∧ H2 q.1 = none := fun q hq =>
      let x := I2.pin q (List.mem_append_right _ (List.mem_append_right _ hq))
      ⟨x.1, x.2.1⟩
    have I3 : L2.Inv X pins σ H2 s2 := I2.unpinned
    have r2 : Rσ c z2 σ ρ := (r.mono lc).mono l2
    have hG : z2.G c' = some (CodeO c' (X.env.qual ++ "<lambda>")) := l2.g _ _ (show upd z.G c' _ c' = _ from upd_same)
    have hdf2 : DfOk dn dV s2.heap := hp2 s2.heap.get? (fun q hq => (pin2 q hq).1) s2.heap rfl
    have hdn2 : ∀ T0, dV = .ref T0 → H2 T0 = none ∧ T0 ∉ frs X.stack := fun T0 e => by
      obtain ⟨n1, n2, _⟩ := hdn T0 e
      obtain ⟨o, ho⟩ := hp3 T0 e
      exact ⟨(pin2 _ ho).2, n2⟩
    have cl := lam_clos (k := kb) I3 L hB r2 hex (pin2 _ hp1).1 (pin2 _ hp1).2 hfr hG hdf2 hdn2 hbody
    have hvl : vs.length + 1 = ps.length := by rw [rd.len]; exact hl
    have hul : (Value.ref f :: us ++ []).length = ps.length := by
      rw [List.append_nil, List.length_cons, ← rv.length]
      exact hvl
    have hbt := hb s2 (.ref f :: us) I3.kIn hul
    rw [List.append_nil] at hbt
    exact act_end tk I3 (F (kb + 1) X.A X.stack s2 H2 ⟨.ref f :: us, []⟩ (.ref f :: us) f vs _ ds z2 st2 Q _ hr I3.env0 hbt (.cons rfl rv) hvl cl w2 rd (PstC.of q2))
  · exact q2.elim
end
end Bw
set_option linter.all false
set_option autoImplicit false
set_option maxRecDepth 100000
set_option maxHeartbeats 2000000
/-! Names for operators, defs of the text, weaker promises. -/
namespace Bw
open PySem PySem.Spec PyProof.Rows L2
/-! ### operators -/
abbrev fAdd : D → D → Store → Option D := fun a b _ => addD a b
abbrev fSub : D → D → Store → Option D := fun a b _ => subD a b
abbrev fMul : D → D → Store → Option D := fun a b _ => mulD a b
abbrev fDiv : D → D → Store → Option D := fun a b _ => divD a b
abbrev fMod : D → D → Store → Option D := fun a b _ => modD a b
abbrev fPow : D → D → Store → Option D := fun a b _ => powD a b
abbrev fShl : D → D → Store → Option D := fun a b _ => shlD a b
abbrev fEq : D → D → Store → Option D := fun a b st => (eqv st a b).map D.bl
abbrev fNe : D → D → Store → Option D := fun a b st => (eqv st a b).map fun k => D.bl (!k)
abbrev fLt : D → D → Store → Option D := fun a b _ => (ltD a b).map D.bl
abbrev fLe : D → D → Store → Option D := fun a b _ => (leD a b).map D.bl
abbrev fGt : D → D → Store → Option D := fun a b _ => (gtD a b).map D.bl
abbrev fGe : D → D → Store → Option D := fun a b _ => (geD a b).map D.bl
abbrev fIsN : D → D → Store → Option D := fun a b _ => match b with | .non => (isNone a).map D.bl | _ => none
abbrev fNotN : D → D → Store → Option D := fun a b _ => match b with | .non => (isNone a).map fun k => D.bl (!k) | _ => none
abbrev fIsB : D → D → Store → Option D := fun a b _ => match b with | .bl b => (isBool b a).map D.bl | _ => none
abbrev fNotB : D → D → Store → Option D := fun a b _ => match b with | .bl b => (isBool b a).map fun k => D.bl (!k) | _ => none
abbrev fIn : D → D → Store → Option D := fun a b st => (inD st a b).map D.bl
abbrev fNotIn : D → D → Store → Option D := fun a b st => (inD st a b).map fun k => D.bl (!k)
section
variable {X : Cx} {c : Fc} {T : List (Addr × Str)} {W : WX} {pos : Pos}
theorem e_gstr (s : List Nat) {x : Str} {y : Str} {t : Tok} (hm : X.mg x = some (.str y t)) (hy : y = strOf s := by first | rfl | decide) (hg : Gl X x := by rfl) (hd : (x == ("__debug__" : Str)) = false := by decide) : PD X c T W (.Name x pos) (mLit (.str s)) := by
  subst hy
  exact e_glob (.str s) (fun z => .str s) hm ⟨t, rfl⟩ hg hd
theorem e_gint (i : Int) {x : Str} {t : Tok} (hm : X.mg x = some (.int i t)) (hg : Gl X x := by rfl) (hd : (x == ("__debug__" : Str)) = false := by decide) : PD X c T W (.Name x pos) (mLit (.int i)) := e_glob (.int i) (fun z => .int i) hm ⟨t, rfl⟩ hg hd
/-- a built-in type, named -/
theorem e_ty (n : String) {x : Str} (hm : X.mg x = none) (hv : bootBuiltins x = some (.type n)) (hg : Gl X x := by rfl) (hn : x ≠ "__name__" := by decide) (hd : (x == ("__debug__" : Str)) = false := by decide) : PD X c T W (.Name x pos) (mLit (.ty n)) :=
  imp_PE (pe_bltn (v := .ty n) hg hm hv rfl hn hd) fun σ H Q ⟨z, ρ, st, w, r, q⟩ => q z H _ (Le.refl z) w (.ty n)
theorem u64 {A : Around} {k : Nat} (hr : Room k A) : A.units + 64 < cLine := by have := hr.un; omega
theorem u65 {A : Around} {k : Nat} (hr : Room k A) : A.units + 65 < cLine := by have := hr.un; omega
end
/-! ### defs of the text -/
section
variable {P : Program} {w : World} {K : PySem.W.Frag} {mg : Str → Option Value} {base : Heap} {x qual : Str} {st : Stmt} {f : Addr} {fd : FuncData} {N ps : List Str} {k : Nat} {T : List (Addr × Str)}
theorem bwB (F : L2.Fun K x qual st f fd) (S : FnScope N ps (defScope st)) (m : MS) (hbody : ∀ (cdv : Value) (A : Around) (S1 : List PySem.Env) (s : Shared) (H : Hp) (E : XK) (z : Zw), Room k (A.deeper (envOfC qual (defScope st) s.heap.objs.size f cdv)) →
      SsD (cxOf (L2.CX P w) P w K mg base N qual (defScope st) f cdv A S1 s H E) ⟨⟨K, mg⟩, none, none, z⟩ T (fun cls dd _ H => E cls dd H) (defBody st) m) :
    FnOk P w K mg base (L2.CX P w) (k + 1) f fd ps (spB ⟨K, mg⟩ T ps.length fun ds st => bodyR (m (envE N.length (ds.map some)) st)) := by
  obtain ⟨oc, od, kV, doc, pm, an, cdv, ct, osl, rfl, lk, hcd⟩ := F.ex
  exact fnB lk hcd S m fun A S1 s H E z hr => hbody cdv A S1 s H E z hr
theorem bwT (F : L2.Fun K x qual st f fd) (S : FnScope N ps (defScope st)) (m : MS) (hnc : ∀ y ∈ (defScope st).names, y.2 ≠ .cell) (hps : 1 ≤ ps.length) (hbody : ∀ (cdv : Value) (A : Around) (S1 : List PySem.Env) (s : Shared) (H : Hp) (E : XK) (z : Zw), Room k (A.deeper (envOfC qual (defScope st) s.heap.objs.size f cdv)) →
      SsDT (cxOf (L2.CX P w) P w K mg base N qual (defScope st) f cdv A S1 s H E) ⟨⟨K, mg⟩, none, none, z⟩ T (fun cls dd _ H => E cls dd H) (defBody st) m) :
    FnOk P w K mg base (L2.CX P w) (k + 1) f fd ps (spB ⟨K, mg⟩ T ps.length fun ds st => bodyR (m (envE N.length (ds.map some)) st)) := by
  obtain ⟨oc, od, kV, doc, pm, an, cdv, ct, osl, rfl, lk, hcd⟩ := F.ex
  exact fnBT lk hcd S m hnc hps fun A S1 s H E z hr => hbody cdv A S1 s H E z hr
/-- where the code object and its table matter too -/
structure FunC (K : PySem.W.Frag) (x qual : Str) (st : Stmt) (f : Addr) (fd : FuncData) (cA : Addr) : Prop where
  ex : ∃ (oc : Value) (od : Option Addr) (kV doc pm : Value) (an : Option Addr) (ct : Value) (osl : Array (Option Value)), fd = PySem.W.fnOf x qual (defArgs st) (defBody st) (defScope st) .none kV doc pm an (.ref cA) ct ∧ K.lookup f = some ⟨oc, od, .func fd, osl⟩ ∧ PySem.W.codeIn K (.ref cA) qual = true
theorem bwBC {cA : Addr} (F : FunC K x qual st f fd cA) (S : FnScope N ps (defScope st)) (m : MS) (hbody : ∀ (A : Around) (S1 : List PySem.Env) (s : Shared) (H : Hp) (E : XK) (z : Zw), Room k (A.deeper (envOfC qual (defScope st) s.heap.objs.size f (.ref cA))) →
      SsD (cxOf (L2.CX P w) P w K mg base N qual (defScope st) f (.ref cA) A S1 s H E) ⟨⟨K, mg⟩, none, none, z⟩ T (fun cls dd _ H => E cls dd H) (defBody st) m) :
    FnOk P w K mg base (L2.CX P w) (k + 1) f fd ps (spB ⟨K, mg⟩ T ps.length fun ds st => bodyR (m (envE N.length (ds.map some)) st)) := by
  obtain ⟨oc, od, kV, doc, pm, an, ct, osl, rfl, lk, hcd⟩ := F.ex
  exact fnB lk hcd S m fun A S1 s H E z hr => hbody A S1 s H E z hr
theorem bwC (F : L2.Fun K x qual st f fd) (S : FnScope N ps (defScope st)) (m : Clo → MS) (hbody : ∀ (cdv : Value) (kc : Nat) (A : Around) (S1 : List PySem.Env) (s : Shared) (H : Hp) (E : XK) (z : Zw) (a : Addr) (gc : Clo), Room (k + kc) (A.deeper (envOfC qual (defScope st) s.heap.objs.size f cdv)) → Clos P w K mg base ⟨K, mg⟩ T kc S1 s H z a gc →
      SsD (cxOf (L2.CX P w) P w K mg base N qual (defScope st) f cdv A S1 s H E) ⟨⟨K, mg⟩, some a, none, z⟩ T (fun cls dd _ H => E cls dd H) (defBody st) (m gc)) :
    FnC P w K mg base ⟨K, mg⟩ T (k + 1) f fd ps (fun gc ds st => bodyR (m gc (envE N.length (some (.clo 0) :: ds.map some)) st)) := by
  obtain ⟨oc, od, kV, doc, pm, an, cdv, ct, osl, rfl, lk, hcd⟩ := F.ex
  exact fnCl lk hcd S m fun kc A S1 s H E z a gc hr hc => hbody cdv kc A S1 s H E z a gc hr hc
theorem bwCC {cA : Addr} (F : FunC K x qual st f fd cA) (S : FnScope N ps (defScope st)) (m : Clo → MS) (hbody : ∀ (kc : Nat) (A : Around) (S1 : List PySem.Env) (s : Shared) (H : Hp) (E : XK) (z : Zw) (a : Addr) (gc : Clo), Room (k + kc) (A.deeper (envOfC qual (defScope st) s.heap.objs.size f (.ref cA))) → Clos P w K mg base ⟨K, mg⟩ T kc S1 s H z a gc →
      SsD (cxOf (L2.CX P w) P w K mg base N qual (defScope st) f (.ref cA) A S1 s H E) ⟨⟨K, mg⟩, some a, none, z⟩ T (fun cls dd _ H => E cls dd H) (defBody st) (m gc)) :
    FnC P w K mg base ⟨K, mg⟩ T (k + 1) f fd ps (fun gc ds st => bodyR (m gc (envE N.length (some (.clo 0) :: ds.map some)) st)) := by
  obtain ⟨oc, od, kV, doc, pm, an, ct, osl, rfl, lk, hcd⟩ := F.ex
  exact fnCl lk hcd S m fun kc A S1 s H E z a gc hr hc => hbody kc A S1 s H E z a gc hr hc
end
/-! ### weaker promises: what is laid and no more reached is forgotten -/
mutual
/-- only things of the store below n -/
def lowD (n : Nat) : D → Bool
  | .ref k => decide (k < n)
  | .tup ds => lowDs n ds
  | .lst ds => lowDs n ds
  | _ => true
def lowDs (n : Nat) : List D → Bool
  | [] => true
  | d :: ds => lowD n d && lowDs n ds
end
def lowF (n : Nat) (fs : List (String × D)) : Bool := fs.all fun p => lowD n p.2
def lowO (n : Nat) : MO → Bool
  | .lst ds => lowDs n ds
  | .ins _ fs => lowF n fs
section
variable {c : Cc} {z z' : Zw}
mutual
theorem Rp.low : ∀ {v : V} {d : D}, Rp c z v d → lowD z.μ.length d = true
  | _, _, .non => rfl
  | _, _, .bl _ => rfl
  | _, _, .int _ => rfl
  | _, _, .str _ => rfl
  | _, _, .tup _ r => by unfold lowD; exact Rps.low r
  | _, _, .lst _ r => by unfold lowD; exact Rps.low r
  | _, _, .ref e => by unfold lowD; exact decide_eq_true (List.getElem?_eq_some_iff.mp e).1
  | _, _, .fn _ _ => rfl
  | _, _, .ty _ => rfl
  | _, _, .scr _ => rfl
theorem Rps.low : ∀ {vs : List V} {ds : List D}, Rps c z vs ds → lowDs z.μ.length ds = true
  | _, _, .nil => rfl
  | _, _, .cons a r => by unfold lowDs; rw [Rp.low a, Rps.low r] <;> rfl
end
abbrev Zw.cut (z : Zw) (n : Nat) : Zw := ⟨z.G, z.μ.take n, z.F⟩
mutual
theorem Rp.cut {n : Nat} : ∀ {v : V} {d : D}, Rp c z v d → lowD n d = true → Rp c (z.cut n) v d
  | _, _, .non, _ => .non
  | _, _, .bl b, _ => .bl b
  | _, _, .int i, _ => .int i
  | _, _, .str s, _ => .str s
  | _, _, .tup s r, h => .tup s (Rps.cut' r (by unfold lowD at h; exact h))
  | _, _, .lst s r, h => .lst s (Rps.cut' r (by unfold lowD at h; exact h))
  | _, _, .ref (n := k) e, h => .ref (by unfold lowD at h; show (z.μ.take n)[k]? = _; rw [List.getElem?_take_of_lt (of_decide_eq_true h)]; exact e)
  | _, _, .fn a b, _ => .fn a b
  | _, _, .ty m, _ => .ty m
  | _, _, .scr s, _ => .scr s
theorem Rps.cut' {n : Nat} : ∀ {vs : List V} {ds : List D}, Rps c z vs ds → lowDs n ds = true → Rps c (z.cut n) vs ds
  | _, _, .nil, _ => .nil
  | _, _, .cons a r, h => by
    unfold lowDs at h
    rw [Bool.and_eq_true] at h
    exact .cons (Rp.cut a h.1) (Rps.cut' r h.2)
end
theorem Rpf.low {fs : List (Str × V)} {es : List (String × D)} (r : Rpf c z fs es) : lowF z.μ.length es = true := by
  induction r with
  | nil => rfl
  | cons a _ ih =>
    unfold lowF at ih ⊢
    rw [List.all_cons, ih, Bool.and_true]
    exact a.low
theorem Rpf.cut {n : Nat} {fs : List (Str × V)} {es : List (String × D)} (r : Rpf c z fs es) (h : lowF n es = true) : Rpf c (z.cut n) fs es := by
  induction r with
  | nil => exact .nil
  | cons a _ ih =>
    unfold lowF at h ih
    rw [List.all_cons, Bool.and_eq_true] at h
    exact .cons (a.cut h.1) (ih h.2)
theorem RpO.low {H : Hp} {a : Addr} : ∀ {o : MO}, RpO c z H a o → lowO z.μ.length o = true
  | .lst _, ⟨_, _, r⟩ => r.low
  | .ins _ _, ⟨_, _, _, _, _, r⟩ => r.low
theorem RpO.cut {n : Nat} {H : Hp} {a : Addr} : ∀ {o : MO}, RpO c z H a o → lowO n o = true → RpO c (z.cut n) H a o
  | .lst _, ⟨vs, x, r⟩, h => ⟨vs, x, r.cut' h⟩
  | .ins _ _, ⟨C, dx, vs, m, x, r⟩, h => ⟨C, dx, vs, m, x, r.cut h⟩
theorem Wf.cut {T : List (Addr × Str)} {st j : Store} {H : Hp} (w : Wf c T z (st ++ j) H) (h : ∀ (n : Nat) (o : MO), st[n]? = some o → lowO st.length o = true) : Wf c T (z.cut st.length) st H := by
  refine ⟨w.sub, ?_, ?_, fun n a o e1 e2 => ?_, w.tab, fun p hp => ⟨(w.noT p hp).1, fun hm => (w.noT p hp).2 (List.mem_of_mem_take hm)⟩, fun a o e => ?_⟩
  · show (z.μ.take st.length).length = _
    rw [List.length_take, w.len, List.length_append]
    omega
  · exact w.nd.sublist (List.take_sublist _ _)
  · have hn : n < st.length := (List.getElem?_eq_some_iff.mp e2).1
    have e1' : z.μ[n]? = some a := by
      have q : (z.μ.take st.length)[n]? = some a := e1
      rw [List.getElem?_take_of_lt hn] at q
      exact q
    obtain ⟨h1, h2⟩ := w.obj n a o e1' (by rw [List.getElem?_append_left hn]; exact e2)
    exact ⟨h1, h2.cut (h n o e2)⟩
  · obtain ⟨h1, h0, h2, h3⟩ := w.fr a o e
    exact ⟨h1, h0, fun hm => h2 (List.mem_of_mem_take hm), h3⟩
end
/-- what is forgotten: j -/
def Keeps (st st' j : Store) : Prop := j = [] ∨ (st'.length = st.length ∧ ∀ (n : Nat) (o : MO), st'[n]? = some o → st[n]? = some o ∨ lowO st.length o = true)
def SubR (st : Store) : Res D → Res D → Prop
  | _, .no => True
  | .ok d s, .ok d' s' => d = d' ∧ ∃ j, s = s' ++ j ∧ Keeps st s' j ∧ (j = [] ∨ lowD st.length d = true)
  | .er e s, .er e' s' => e = e' ∧ ∃ j, s = s' ++ j ∧ Keeps st s' j ∧ (j = [] ∨ lowF st.length e.fs = true)
  | _, _ => False
theorem SubR.refl {st : Store} : ∀ r : Res D, SubR st r r
  | .ok d s => ⟨rfl, [], (List.append_nil _).symm, .inl rfl, .inl rfl⟩
  | .er e s => ⟨rfl, [], (List.append_nil _).symm, .inl rfl, .inl rfl⟩
  | .no => trivial
section
variable {c : Cc} {T : List (Addr × Str)} {z : Zw} {st : Store} {H : Hp} {Q : VK} {E : XK}
theorem sub_pst {r r' : Res D} (w : Wf c T z st H) (h : SubR st r r') (q : PstC c T z r' Q E) : PstC c T z r Q E := by
  have low : ∀ {s' j}, Keeps st s' j → j ≠ [] → s'.length = st.length ∧ ∀ (n : Nat) (o : MO), s'[n]? = some o → lowO s'.length o = true := fun {s' j} k hj => by
    obtain ⟨h1, h2⟩ := k.resolve_left hj
    refine ⟨h1, fun n o e => ?_⟩
    rw [h1]
    rcases h2 n o e with q | q
    · have hn : n < st.length := (List.getElem?_eq_some_iff.mp q).1
      have ha : z.μ[n]? = some (z.μ[n]'(by rw [w.len]; exact hn)) := List.getElem?_eq_getElem _
      have := (w.obj n _ o ha q).2.low
      rw [w.len] at this
      exact this
    · exact q
  have cutLe : ∀ {z' : Zw} {n : Nat}, Le z z' → n = st.length → Le z (z'.cut n) := fun {z' n} l e => by
    refine ⟨l.g, ⟨[], ?_⟩, l.f⟩
    obtain ⟨r, hr⟩ := l.m
    show z'.μ.take n = _
    rw [hr, e, ← w.len, List.take_left, List.append_nil]
  cases r' with
  | no => exact q.elim
  | ok d' s' =>
    cases r with
    | ok d s =>
      obtain ⟨rfl, j, rfl, k, kd⟩ := h
      intro z' H' v l w' rv
      by_cases hj : j = []
      · subst hj
        rw [List.append_nil] at w'
        exact q z' H' v l w' rv
      · obtain ⟨h1, h2⟩ := low k hj
        refine q (z'.cut s'.length) H' v (cutLe l h1) (w'.cut h2) (rv.cut ?_)
        rw [h1]
        exact kd.resolve_left hj
    | er e s => exact h.elim
    | no => exact h.elim
  | er e' s' =>
    cases r with
    | er e s =>
      obtain ⟨rfl, j, rfl, k, kd⟩ := h
      intro z' H' cls dd l w' eo
      by_cases hj : j = []
      · subst hj
        rw [List.append_nil] at w'
        exact q z' H' cls dd l w' eo
      · obtain ⟨h1, h2⟩ := low k hj
        refine q (z'.cut s'.length) H' cls dd (cutLe l h1) (w'.cut h2) ⟨eo.1, ?_⟩
        obtain ⟨_, eo2⟩ := eo
        cases dd with
        | none => exact eo2
        | some d =>
          obtain ⟨fs, h3, h4⟩ := eo2
          exact ⟨fs, h3, h4.cut (by rw [h1]; exact kd.resolve_left hj)⟩
    | ok d s => exact h.elim
    | no => exact h.elim
end
theorem spB.weak {P : Program} {w : World} {K : PySem.W.Frag} {mg : Str → Option Value} {base : Heap} {k : Nat} {f : Addr} {fd : FuncData} {ps : List Str} {c : Cc} {T : List (Addr × Str)} {n : Nat} {g g' : List D → Store → Res D} (F : FnOk P w K mg base (L2.CX P w) k f fd ps (spB c T n g)) (h : ∀ ds st, ds.length = n → SubR st (g ds st) (g' ds st)) :
    FnOk P w K mg base (L2.CX P w) k f fd ps (spB c T n g') :=
  F.imp fun vs H Q E ⟨hl, z, st, ds, w', rd, q⟩ => ⟨hl, z, st, ds, w', rd, sub_pst w' (h ds st (by rw [← rd.len]; exact hl)) q⟩
theorem FnC.weak {P : Program} {w : World} {K : PySem.W.Frag} {mg : Str → Option Value} {base : Heap} {k : Nat} {f : Addr} {fd : FuncData} {ps : List Str} {c : Cc} {T : List (Addr × Str)} {g g' : Clo → List D → Store → Res D} (F : FnC P w K mg base c T k f fd ps g) (h : ∀ gc ds st, SubR st (g gc ds st) (g' gc ds st)) :
    FnC P w K mg base c T k f fd ps g' :=
  fun kc A S s H args us a vs gc ds z st Q E hr e0 hb rv hl hc w' rd q => F kc A S s H args us a vs gc ds z st Q E hr e0 hb rv hl hc w' rd (sub_pst w' (h gc ds st) q)
end Bw
set_option linter.all false
set_option autoImplicit false
set_option maxRecDepth 100000
set_option maxHeartbeats 2000000
/-! Small ones: items set, three at once, name += number, calls by name alone. -/
namespace Bw
open PySem PySem.Spec PyProof.Rows L2
section
variable {X : Cx} {c : Fc} {T : List (Addr × Str)} {W : WX} {a b d o i e : PySem.Expr} {ma mb md mo mi : ME} {mr : MA} {pos tpos p : Pos}
theorem putD_some {o i v : D} {st st' : Store} (h : putD o i v st = some st') : ∃ n kk ds j, o = .ref n ∧ i = .int kk ∧ st[n]? = some (.lst ds) ∧ atN ds.length kk = some j ∧ st' = st.set n (.lst (ds.set j v)) := by
  unfold putD at h
  split at h
  · split at h
    · rename_i n k _ ds hst
      cases hj : atN ds.length k with
      | none => rw [hj] at h; cases h
      | some j =>
        rw [hj] at h
        cases h
        exact ⟨n, k, ds, j, rfl, rfl, hst, hj, rfl⟩
    · cases h
  · cases h
theorem s_put (hK : X.K = c.K) (ha : PD X c T W a ma) (ho : PD X c T W o mo) (hi : PD X c T W i mi)
    (hs : swapsWithSole [.Subscript o i tpos] a pos.line X.env = pure false := by rfl) (hw : swappedStores [.Subscript o i tpos] a X.env = pure none := by rfl) (h1 : (assignEach [.Subscript o i tpos] X.env).map (·.2) = [assign (.Subscript o i tpos) X.env] := by rfl)
    (has : ∀ v, assign (.Subscript o i tpos) X.env v = (do
      let ov ← holding [v] (eval o X.env)
      let iv ← holding [v, ov] (eval i X.env)
      standAt tpos
      holding [v, ov, iv] (setItem ov iv v)
      release [v, ov, iv] []) := by intro _; rfl) :
    SD X c T W (.Assign [.Subscript o i tpos] a pos) (sPut mo mi ma) :=
  imp_PS (ps_asg ha (pg_sub ho hi set_list has) hs hw h1) fun D σ H ⟨z, ρ, st, w, r, q⟩ => ⟨z, ρ, st, w, r, (PstS.bnd q r).imp fun x H1 ⟨z1, st1, dx, l1, w1, rx, q1⟩ => ⟨z1, ρ, st1, w1, r.mono l1, (PstS.bnd q1 (r.mono l1)).imp fun y H2 ⟨z2, st2, dy, l2, w2, ry, q2⟩ =>
    ⟨z2, ρ, st2, w2, (r.mono l1).mono l2, (PstS.bnd q2 ((r.mono l1).mono l2)).imp fun k H3 ⟨z3, st3, dk, l3, w3, rk, q3⟩ => by
      split at q3
      · rename_i st' he
        obtain ⟨n, kk, ds, j, rfl, rfl, hst, hj, rfl⟩ := putD_some he
        cases ry with
        | ref e1 =>
          cases rk with
          | int _ =>
            have e2 := l3.at e1
            obtain ⟨_, vs, k1, k2⟩ := w3.obj _ _ _ e2 hst
            exact ⟨_, vs, kk, j, rfl, rfl, k1, by rw [k2.len]; exact hj, q3 z3 _ σ (Le.refl z3) (w3.put e2 hst (k2.set ((rx.mono l2).mono l3) j)) (((r.mono l1).mono l2).mono l3)⟩
      · exact q3.elim⟩⟩⟩
theorem s_par3 (i j l : Nat) {x y z : Str} {a b d : PySem.Expr} {px py pz pt : Pos} {kt k2 pt2} (hc : X.calm = true) (ha : PA X [a, b, d] (LA c T W mr)) (hN : X.N.Nodup) (hi : X.N[i]? = some x := by rfl) (hj : X.N[j]? = some y := by rfl) (hl : X.N[l]? = some z := by rfl) (hij : i ≠ j := by decide) (hil : i ≠ l := by decide) (hjl : j ≠ l := by decide)
    (hx : X.env.scope.names.lookup x = some .local := by rfl) (hy : X.env.scope.names.lookup y = some .local := by rfl) (hz : X.env.scope.names.lookup z = some .local := by rfl)
    (hw : swappedStores [.Tuple [.Name x px, .Name y py, .Name z pz] kt pt] (.Tuple [a, b, d] k2 pt2) X.env = pure (some [x, y, z]) := by rfl)
    (hs : swapsWithSole [.Tuple [.Name x px, .Name y py, .Name z pz] kt pt] (.Tuple [a, b, d] k2 pt2) pos.line X.env = pure false := by rfl) :
    SD X c T W (.Assign [.Tuple [.Name x px, .Name y py, .Name z pz] kt pt] (.Tuple [a, b, d] k2 pt2) pos) (sPar3 i j l mr) :=
  imp_PS (ps_par3 hc hN hi hj hl hij hil hjl hx hy hz ha hw hs) fun D σ H ⟨zz, ρ, st, w, r, q⟩ => ⟨zz, ρ, st, w, r, (PstS.bnd q r).imp fun xs H1 ⟨z1, st1, ds, l1, w1, rs, q1⟩ => by
    split at q1
    · cases rs with
      | cons ra rr => cases rr with
        | cons rb rr => cases rr with
          | cons rc rr => cases rr with
            | nil => exact ⟨_, _, _, rfl, q1 z1 H1 _ (Le.refl z1) w1 ((((r.mono l1).set (.d ra) i).set (.d rb) j).set (.d rc) l)⟩
    · exact q1.elim⟩
/-! ### numbers added in place -/
def fInc : D → D → Store → Option D := fun a b _ => match a, b with
  | .int i, .int j => some (.int (i + j))
  | _, _ => none
def fDec : D → D → Store → Option D := fun a b _ => match a, b with
  | .int i, .int j => some (.int (i - j))
  | _, _ => none
theorem i_inc : PIp X .Add (rIp c.toCc T fInc) := fun pins s σ H x y v u Q I rx ry ⟨z, st, dx, dy, dd, w, h1, h2, e, q⟩ => by
  unfold fInc at e
  cases h1 with
  | int i => cases h2 with
    | int j =>
      cases e
      exact ip_add pins s σ H _ _ v u Q I rx ry ⟨i, j, rfl, rfl, q z H _ (Le.refl z) w (.int _)⟩
    | _ => cases e
  | _ => cases e
theorem i_dec : PIp X .Sub (rIp c.toCc T fDec) := fun pins s σ H x y v u Q I rx ry ⟨z, st, dx, dy, dd, w, h1, h2, e, q⟩ => by
  unfold fDec at e
  cases h1 with
  | int i => cases h2 with
    | int j =>
      cases e
      exact ip_sub pins s σ H _ _ v u Q I rx ry ⟨i, j, rfl, rfl, q z H _ (Le.refl z) w (.int _)⟩
    | _ => cases e
  | _ => cases e
variable {k : Nat} {f : Addr} {fd : FuncData} {ps ks : List Str} {x nm : Str} {g : List D → Store → Res D}
theorem e_call0 (F : FnOk X.prog X.w X.K X.mg X.base (L2.CX X.prog X.w) k f fd ps (spB c.toCc T ps.length g)) (hr : Room k X.A) (hm : X.mg x = some (.ref f)) (hk : PySem.W.keepIn X.K (.ref f) = true) (hb : Binds X.K fd ps []) (tk : Takes X W) (hn : 0 = ps.length := by rfl)
    (hg : Gl X x := by rfl) (hdb : (x == ("__debug__" : Str)) = false := by decide) : PD X c T W (.Call (.Name x p) [] [] pos) (mCall g aNil) := by
  refine ⟨fun pins s σ H Q I ⟨z, ρ, st, w, r, q⟩ => ?_⟩
  refine wpAny_Call_Name_kw (ld_glob I hg hm ?_ hdb)
  exact PySem.W.callWith_K0 I.kIn hk (run_fnS (us := []) (E := fun σ => WE W σ) F hr hb (passAt tk σ) I .nil ⟨by simpa using hn, z, st, [], w, .nil, PstC.of q⟩)
/-- f(name = e) -/
theorem e_callK (F : FnOk X.prog X.w X.K X.mg X.base (L2.CX X.prog X.w) k f fd ps (spB c.toCc T ps.length g)) (hr : Room k X.A) (hm : X.mg x = some (.ref f)) (hk : PySem.W.keepIn X.K (.ref f) = true) {kpos : Pos} (hb : ∀ (s : Shared) (v : Value), BindsTo s fd ⟨[], [(nm, v)]⟩ [(nm, v)]) (tk : Takes X W) (ha : PD X c T W e ma) (hps : ps = [nm] := by rfl)
    (hall : (backToKw pos (keywordEach [⟨some nm, e, kpos⟩] X.env)).all (·.1.isSome) = true := by rfl) (hks : (backToKw pos (keywordEach [⟨some nm, e, kpos⟩] X.env)).filterMap (·.1) = [nm] := by rfl)
    (hpl : ((backTo pos (starEach [] X.env)).any (·.1) || (backToKw pos (keywordEach [⟨some nm, e, kpos⟩] X.env)).any (·.1.isNone)) = false := by rfl)
    (hg : Gl X x := by rfl) (hdb : (x == ("__debug__" : Str)) = false := by decide) : PD X c T W (.Call (.Name x p) [] [⟨some nm, e, kpos⟩] pos) (fun ρ st => (ma ρ st).bind fun y st => g [y] st) := by
  subst hps
  refine ⟨fun pins s σ H Q I ⟨z, ρ, st, w, r, q⟩ => ?_⟩
  refine wpAny_Call_Name_kw (ld_glob I hg hm ?_ hdb)
  refine PySem.W.callWith_KW0 (h₀ := X.base) I.ok.mod.kin hk hall ?_ hpl
  refine thn ((pk_cons ha pk_nil).run pos pins s σ H (fun vs H1 => ∃ z1 st1 y dy, vs = [y] ∧ Le z z1 ∧ Wf c.toCc T z1 st1 H1 ∧ Rp c.toCc z1 y dy ∧ PstC c.toCc T z1 (g [dy] st1) Q (WE W σ)) I ⟨z, ρ, st, w, r, (Pst.bnd q).imp fun y H1 ⟨z1, st1, dy, l1, w1, ry, q1⟩ => ⟨z1, st1, y, dy, rfl, l1, w1, ry, PstC.of q1⟩⟩) fun us s1 ⟨vs, H1, I1, r1, z1, st1, y, dy, e1, l1, w1, rd, q1⟩ => ⟨I1.kIn, ?_⟩
  subst e1
  obtain ⟨u, rfl, ru⟩ : ∃ u, us = [u] ∧ RelV y u := by
    cases r1 with
    | cons a b => cases b; exact ⟨_, rfl, a⟩
  rw [hks]
  refine wpAny_call (codeAny_mono (F.run X.A X.stack s1 H1 ⟨[], [nm].zip [u]⟩ [u] [y] Q (WE W σ) hr I1.env0 (hb s1 u) (.cons ru .nil) ⟨rfl, z1, st1, [dy], w1, .cons rd .nil, q1⟩) fun r s' hq => ?_)
  cases r with
  | error e => exact passAt tk σ pins H1 s1 e s' I1 hq
  | ok fl =>
    cases fl with
    | ret u => exact I1.after hq
    | next => exact False.elim hq
    | brk => exact False.elim hq
    | cont => exact False.elim hq
end
end Bw
set_option linter.all false
set_option autoImplicit false
set_option maxRecDepth 100000
set_option maxHeartbeats 2000000
/-! What a printed walk leans on. -/
namespace Bw
open PySem PySem.Spec PyProof.Rows L2 LamX
section
variable {X : Cx} {c : Fc} {T : List (Addr × Str)} {W : WX} {pos : Pos}
theorem e_gstrx (s : List Nat) {x : Str} (hm : ∃ t, X.mg x = some (.str (strOf s) t)) (hg : Gl X x := by rfl) (hd : (x == ("__debug__" : Str)) = false := by decide) : PD X c T W (.Name x pos) (mLit (.str s)) := by
  obtain ⟨t, hm⟩ := hm
  exact e_gstr s hm rfl hg hd
theorem e_gintx (i : Int) {x : Str} (hm : ∃ t, X.mg x = some (.int i t)) (hg : Gl X x := by rfl) (hd : (x == ("__debug__" : Str)) = false := by decide) : PD X c T W (.Name x pos) (mLit (.int i)) := by
  obtain ⟨t, hm⟩ := hm
  exact e_gint i hm hg hd
/-- a tuple or list that the top has made -/
def Gval (K : PySem.W.Frag) (mg : Str → Option Value) (x : Str) (d : D) : Prop := ∃ a, mg x = some (.ref a) ∧ ∀ z, Rp ⟨K, mg⟩ z (.ref a) d
theorem e_gval (d : D) {x : Str} (hm : Gval X.K X.mg x d) (hc : c.toCc = ⟨X.K, X.mg⟩ := by rfl) (hg : Gl X x := by rfl) (hd : (x == ("__debug__" : Str)) = false := by decide) : PD X c T W (.Name x pos) (mLit d) := by
  obtain ⟨a, h1, h2⟩ := hm
  exact e_glob (v := .ref a) d (fun z => by rw [hc]; exact h2 z) h1 rfl hg hd
end
/-! ### functions and error classes of the top -/
structure At (K : PySem.W.Frag) (mg : Str → Option Value) (x : Str) (st : Stmt) (ps : List Str) (f : Addr) (fd : FuncData) : Prop where
  mg : mg x = some (.ref f)
  kp : PySem.W.keepIn K (.ref f) = true
  bd : Binds K fd ps []
  fn : L2.Fun K x x st f fd
theorem FunC.fun {K : PySem.W.Frag} {x qual : Str} {st : Stmt} {f : Addr} {fd : FuncData} {cA : Addr} (F : FunC K x qual st f fd cA) (kp : PySem.W.keepIn K (.ref f) = true) : L2.Fun K x qual st f fd := by
  obtain ⟨oc, od, kV, doc, pm, an, ct, osl, h1, h2, h3⟩ := F.ex
  exact ⟨⟨oc, od, kV, doc, pm, an, .ref cA, ct, osl, h1, h2, h3⟩, kp⟩
theorem At.kw {K : PySem.W.Frag} {mg : Str → Option Value} {x : Str} {st : Stmt} {ps : List Str} {f : Addr} {fd : FuncData} {nm : Str} (F : At K mg x st ps f fd) (h : ∀ (kV doc pm : Value) (an : Option Addr) (cdv ct v : Value), bindArgs (PySem.W.fnOf x x (defArgs st) (defBody st) (defScope st) .none kV doc pm an cdv ct) ⟨[], [(nm, v)]⟩ = pure [(nm, v)] := by intros; rfl) (s : Shared) (v : Value) : BindsTo s fd ⟨[], [(nm, v)]⟩ [(nm, v)] := by
  obtain ⟨oc, od, kV, doc, pm, an, cdv, ct, osl, rfl, lk, hcd⟩ := F.fn.ex
  exact .of_eq (h kV doc pm an cdv ct v)
structure AtC (K : PySem.W.Frag) (mg : Str → Option Value) (x : Str) (st : Stmt) (ps : List Str) (f : Addr) (fd : FuncData) (cA : Addr) : Prop where
  mg : mg x = some (.ref f)
  kp : PySem.W.keepIn K (.ref f) = true
  bd : Binds K fd ps []
  fn : FunC K x x st f fd cA
structure XAt (P : Program) (w : World) (K : PySem.W.Frag) (mg : Str → Option Value) (x : String) (C : Addr) (as : List String) : Prop where
  mkx : BwX.MkX P w K mg C (as.map Str.ofString)
  mg : mg (Str.ofString x) = some (.ref C)
  kp : PySem.W.keepIn K (.ref C) = true
  bs : PySem.W.subIn K (.ref C) (.type "BaseException") = some true
  ty : PySem.W.typeIn K (.ref C) = some (.type "type")
/-- the lambdas' name under a def -/
abbrev lq (q : Str) : Str := (q ++ ".<locals>.") ++ "<lambda>"
/-- nothing is promised at no depth -/
theorem bw0 {P : Program} {w : World} {K : PySem.W.Frag} {mg : Str → Option Value} {base : Heap} {f : Addr} {fd : FuncData} {ps : List Str} {c : Cc} {T : List (Addr × Str)} {k : Nat} : FnOk P w K mg base (L2.CX P w) k f fd ps (spB c T ps.length fun _ _ => .no) :=
  ⟨fun vs H Q E h => h.1, fun A S s H args us vs Q E _ _ _ _ h => by
    obtain ⟨_, _, _, _, _, _, q⟩ := h
    exact q.elim⟩
/-! ### lambdas' arguments -/
section
variable {params : Arguments} {body : PySem.Expr} {scope : Scope}
theorem lamB0f (h : params = { posonlyargs := [], args := [], vararg := none, kwonlyargs := [], kw_defaults := [], kwarg := none, defaults := [] } := by rfl) : LamBind false 0 [] params body scope := ⟨rfl, fun q cl pm cdv ct dV s us hl hd => by
  subst h
  have hd : dV = .none := hd
  subst hd
  cases us with
  | nil => exact .of_eq rfl
  | cons _ _ => cases hl⟩
theorem lamB1f {a : Str} (hk : ∀ (v : Value) (q : Str) (cl : List (Str × Addr)) (pm cdv ct : Value), bindArgs (BwX.lamFn .none q params body scope cl pm cdv ct) ⟨[v], []⟩ = pure [(a, v)] := by intros; rfl) : LamBind false 1 [a] params body scope := ⟨rfl, fun q cl pm cdv ct dV s us hl hd => by
  have hd : dV = .none := hd
  subst hd
  match us, hl with
  | [v], _ => exact .of_eq (hk v q cl pm cdv ct)⟩
theorem lamB0t {a : Str} (hk : ∀ (T0 : Addr) (q : Str) (cl : List (Str × Addr)) (pm cdv ct : Value), ∃ k, bindArgs (BwX.lamFn (.ref T0) q params body scope cl pm cdv ct) ⟨[], []⟩ = seqItems? (.ref T0) >>= k ∧ k (some #[.none]) = pure [(a, .none)] := by intros; exact ⟨_, rfl, rfl⟩) : LamBind true 0 [a] params body scope := ⟨rfl, fun q cl pm cdv ct dV s us hl hd => by
  obtain ⟨T0, rfl, ho⟩ : ∃ T0, dV = .ref T0 ∧ s.heap.get? T0 = some { cls := .type "tuple", data := .seq #[.none] } := hd
  cases us with
  | nil =>
    obtain ⟨k, h1, h2⟩ := hk T0 q cl pm cdv ct
    exact BindsTo.of_defaults rfl ho rfl h1 h2
  | cons _ _ => cases hl⟩
end
section
variable {X : Cx} {c : Fc} {T : List (Addr × Str)} {W : WX} {es : List PySem.Expr} {mr : MA} {pos p lpos : Pos}
theorem e_callM {e : PySem.Expr} {k m : Nat} {f : Addr} {fd : FuncData} {ps : List Str} {x : Str} {g : List D → Store → Res D} (F : FnOk X.prog X.w X.K X.mg X.base (L2.CX X.prog X.w) k f fd ps (spB c.toCc T ps.length g)) (hr : Room k X.A) (hm : X.mg x = some (.ref f)) (hk : PySem.W.keepIn X.K (.ref f) = true) (hb : Binds X.K fd ps []) (tk : Takes X W) (ha : PA X (e :: es) (LA c T W mr)) (hpm : ps.length = m := by rfl) (hn : (e :: es).length = ps.length := by rfl)
    (hg : Gl X x := by rfl) (hdb : (x == ("__debug__" : Str)) = false := by decide) (he : starEach (e :: es) X.env = (false, eval e X.env) :: starEach es X.env := by rfl) (hpl : (backTo pos (starEach es X.env)).any (·.1) = false := by rfl) : PD X c T W (.Call (.Name x p) (e :: es) [] pos) (mCall (fun ds st => if ds.length = m then g ds st else .no) mr) := by
  subst hpm
  exact e_call F hr hm hk hb tk ha hn hg hdb he hpl
theorem e_lamC {x : Str} {g cA P : Addr} {k kb : Nat} {fd : FuncData} {ps : List Str} {G : Clo → List D → Store → Res D} {params : Arguments} {body : PySem.Expr} {scope : Scope} {as : List Str} {dn : Bool} {n m : Nat} {ms : List Bool} {mb : ME} (F : FnC X.prog X.w X.K X.mg X.base c.toCc T k g fd ps G) (hr : Room (k + (kb + 1)) X.A) (hm : X.mg x = some (.ref g)) (hk : PySem.W.keepIn X.K (.ref g) = true)
    (hb : Binds X.K fd ps []) (tk : Takes X W) (TB : TabB X.base X.mg cA P) (hcode : X.env.code = .ref cA) (hmT : (P, X.env.qual ++ "<lambda>") ∈ T) (hu : ∀ p ∈ T, p.1 = P → p.2 = X.env.qual ++ "<lambda>") (hs : X.stack = X.env :: X.outer) (hfm : X.env.frame = some X.env.locals) (hex : X.ex = [])
    (L : LamP X.env.scope scope as) (hB : LamBind dn n as params body scope) (hd : DfEx dn params X.env) (hn : es.length + 1 = ps.length) (hpm : ps.length = m) (hms : capt X.N scope = ms)
    (hbody : ∀ (A : Around) (outer : List PySem.Env) (s1 : Shared) (H1 : Hp) (E : XK) (f c' : Addr) (z1 : Zw), Room kb (A.deeper (lamEnv X scope s1.heap.objs.size f c')) → (∀ kc a gc, Clos X.prog X.w X.K X.mg X.base c.toCc T kc X.outer X.s_0 X.H_0 c.z0 a gc → Clos X.prog X.w X.K X.mg X.base c.toCc T kc outer s1 H1 z1 a gc) →
      PD (lamCx X A outer s1 H1 E scope as f c') (c.at z1) T (fun cls dd _ H => E cls dd H) body mb)
    (ha : PA X es (LA c T W mr)) (hg : Gl X x := by rfl) (hdb : (x == ("__debug__" : Str)) = false := by decide) (he : starEach (.Lambda params body scope lpos :: es) X.env = (false, eval (.Lambda params body scope lpos) X.env) :: starEach es X.env := by rfl) (hpl : (backTo pos (starEach es X.env)).any (·.1) = false := by rfl) :
    PD X c T W (.Call (.Name x p) (.Lambda params body scope lpos :: es) [] pos) (mLam (fun gc ds st => if ds.length + 1 = m then G gc ds st else .no) dn n ms mb mr) := by
  subst hms hpm
  exact e_lam F hr hm hk hb tk TB hcode hmT hu hs hfm hex L hB hd hn hbody ha hg hdb he hpl
end
end Bw
set_option linter.all false
set_option autoImplicit false
set_option maxRecDepth 100000
set_option maxHeartbeats 2000000
/-! The top's facts, gathered. -/
namespace Bw
open PySem PySem.Spec PyProof.Rows PySem.W PySem.HandSPX PySem.BwX
open L2 (defBody defScope defArgs fun_mk)
/-- the text of an __init__ that hands two things to super's and keeps them -/
def Shape2 (s : Stmt) (a b : Str) : Prop := ∃ (p0 p1 p2 p3 p6 p4 p5 q1 q2 q3 q4 r1 r2 r3 r4 : Pos),
  defBody s = [.Expr (.Call (.Attribute (.Call (.Name "super" p0) [] [] p1) "__init__" p2) [.Name a p3, .Name b p6] [] p4) p5, .Assign [.Attribute (.Name "self" q1) a q2] (.Name a q3) q4, .Assign [.Attribute (.Name "self" r1) b r2] (.Name b r3) r4] ∧
  ((defArgs s).posonlyargs ++ (defArgs s).args).head?.map (·.arg) = some "self" ∧ (defScope s).names.lookup ("super" : Str) = some .globalImplicit ∧ (defScope s).names.lookup ("__class__" : Str) = some .free ∧ (defScope s).names.lookup ("self" : Str) = some .local ∧ (defScope s).names.lookup a = some .local ∧ (defScope s).names.lookup b = some .local ∧
  (defScope s).kind = .function ∧ (defScope s).isCoroutine = false ∧ (defScope s).isGenerator = false ∧ (∀ y ∈ (defScope s).names, y.2 ≠ .cell) ∧
  (∀ (qual : Str) (doc pm cdv ct : Value) (an : Option Addr) (cc : Addr) (x v u : Value), bindArgs (ksFn "__init__" qual (defArgs s) (defBody s) (defScope s) .none .none doc pm an cdv ct cc) ⟨[x, v, u], []⟩ = pure [(("self" : Str), x), (a, v), (b, u)]) ∧
  (∀ (f cc ca : Addr) (qual : Str), UpEv f cc ca qual (defScope s) p0 p1 p2 p4 p5 [.Name a p3, .Name b p6] ∧ (∀ L : Addr, swapsWith (.Name a q3) (some (.Attribute (.Name "self" q1) a q2)) q4.line (ksEnv qual (defScope s) L f (.ref ca) cc) = pure false) ∧ ∀ L : Addr, swapsWith (.Name b r3) (some (.Attribute (.Name "self" r1) b r2)) r4.line (ksEnv qual (defScope s) L f (.ref ca) cc) = pure false)
def Shape1 (s : Stmt) (a : Str) : Prop := ∃ (p0 p1 p2 p3 p4 p5 q1 q2 q3 q4 : Pos),
  defBody s = [.Expr (.Call (.Attribute (.Call (.Name "super" p0) [] [] p1) "__init__" p2) [.Name a p3] [] p4) p5, .Assign [.Attribute (.Name "self" q1) a q2] (.Name a q3) q4] ∧
  ((defArgs s).posonlyargs ++ (defArgs s).args).head?.map (·.arg) = some "self" ∧ (defScope s).names.lookup ("super" : Str) = some .globalImplicit ∧ (defScope s).names.lookup ("__class__" : Str) = some .free ∧ (defScope s).names.lookup ("self" : Str) = some .local ∧ (defScope s).names.lookup a = some .local ∧
  (defScope s).kind = .function ∧ (defScope s).isCoroutine = false ∧ (defScope s).isGenerator = false ∧ (∀ y ∈ (defScope s).names, y.2 ≠ .cell) ∧
  (∀ (qual : Str) (doc pm cdv ct : Value) (an : Option Addr) (cc : Addr) (x v : Value), bindArgs (ksFn "__init__" qual (defArgs s) (defBody s) (defScope s) .none .none doc pm an cdv ct cc) ⟨[x, v], []⟩ = pure [(("self" : Str), x), (a, v)]) ∧
  (∀ (f cc ca : Addr) (qual : Str), UpEv f cc ca qual (defScope s) p0 p1 p2 p4 p5 [.Name a p3] ∧ ∀ L : Addr, swapsWith (.Name a q3) (some (.Attribute (.Name "self" q1) a q2)) q4.line (ksEnv qual (defScope s) L f (.ref ca) cc) = pure false)
section
variable {P : Program} {w : World} {K : Frag} {h : Heap} {mg : Str → Option Value}
/-- what is read off the top of an error class -/
structure XF (P : Program) (K : Frag) (x : String) (s : Stmt) (C f cc ca : Addr) (qual : Str) : Prop where
  aC : nsIn K mainGlobals (Str.ofString x) = some (some (.ref C))
  lC : ∃ nm q N bs bm sn sub ab col dd k0 k1 k2 k3 k5, K.lookup C = some (excClassObj nm q C N bs bm true sn sub ab col dd k0 k1 k2 k3 k5 "Exception.__new__") ∧ excTail ESX.exTail bm = true
  oC : mroIn K C (.type "object") = some true
  sa : findIn K (.ref C) "__setattr__" = some (some (.builtin "object.__setattr__"))
  ga : findIn K (.ref C) "__getattribute__" = some (some (.builtin "BaseException.__getattribute__"))
  gq : findIn K (.ref C) "__getattr__" = some none
  ini : findIn K (.ref C) "__init__" = some (some (.ref f))
  tI : typeIn K (.ref f) = some (.type "function")
  kp : keepIn K (.ref C) = true
  bs : subIn K (.ref C) (.type "BaseException") = some true
  xs : subIn K (.ref C) (.type "Exception") = some true
  ty : typeIn K (.ref C) = some (.type "type")
  hd : hasDictIn K C = true
  up : ks_superIn K C C "__init__" = some (some (.builtin "Exception.__init__"))
  me : mroIn K C (.ref C) = some true
  cell : ∃ cl cld csl, K.lookup cc = some ⟨cl, cld, .cell (some (.ref C)), csl⟩
  code : ∃ ccl cdd ccs vs file tf, K.lookup ca = some ⟨ccl, cdd, .fields vs, ccs⟩ ∧ vs[2]? = some (.str file tf) ∧ ((P.main.file : Str) == file) = true
  tp : nsIn K cStatics "thirdparty.any" = some none
  noS : nsIn K mainGlobals "super" = some none
  top : (P.main.scope.names.lookup ("super" : Str)).isSome = false
  li : ∃ (oc doc pm ct : Value) (od an : Option Addr) (osl : Array (Option Value)), K.lookup f = some ⟨oc, od, .func (ksFn "__init__" qual (defArgs s) (defBody s) (defScope s) .none .none doc pm an (.ref ca) ct cc), osl⟩
  cq : codeIn K (.ref ca) qual = true
theorem XF.txt {x : String} {s : Stmt} {C f cc ca : Addr} {qual : Str} (X : K.In h) (G : h.Ns mainGlobals mg) (F : XF P K x s C f cc ca qual) : ∃ cd, Txt P K mg C f cc ca cd := by
  obtain ⟨nm, q, N, bs, bm, sn, sub, ab, col, dd, k0, k1, k2, k3, k5, hC, hb⟩ := F.lC
  have hcl : clsIn K C = some { name := nm, bases := bs, mro := .ref C :: bm, ns := N, qualname := q, hasDict := true, slotNames := sn, subclasses := sub, abstract := ab, collection := col, hasDel := false } := by unfold clsIn; rw [hC] <;> rfl
  refine ⟨_, ⟨nm, q, N, bs, bm, sn, sub, ab, col, dd, k0, k1, k2, k3, k5, hC, hb⟩, ⟨hcl, ?_, F.oC, rfl⟩, F.sa, F.ga, F.gq, F.ini, F.tI, F.kp, F.bs, F.xs, F.ty, F.hd, F.up, F.me, F.cell, F.code, F.tp, mg_none_of X G F.noS, F.top⟩
  exact hb
theorem XF.at2 {x : String} {s : Stmt} {C f cc ca : Addr} {qual : Str} {a b : String} (X : K.In h) (G : h.Ns mainGlobals mg) (F : XF P K x s C f cc ca qual) (S : Shape2 s (Str.ofString a) (Str.ofString b)) (na : findIn K (.ref C) (Str.ofString a) = some none) (nb : findIn K (.ref C) (Str.ofString b) = some none)
    (d1 : ((Str.ofString a : Str) == ("self" : Str)) = false := by decide) (d2 : ((Str.ofString b : Str) == ("self" : Str)) = false := by decide) (d3 : ((Str.ofString a : Str) == Str.ofString b) = false := by decide) (d4 : ((Str.ofString a : Str) == ("__debug__" : Str)) = false := by decide) (d5 : ((Str.ofString b : Str) == ("__debug__" : Str)) = false := by decide) :
    XAt P w K mg x C [a, b] := by
  obtain ⟨cd, T⟩ := F.txt X G
  obtain ⟨oc, doc, pm, ct, od, an, osl, li⟩ := F.li
  obtain ⟨p0, p1, p2, p3, p6, p4, p5, q1, q2, q3, q4, r1, r2, r3, r4, hb, h1, h2, h3, h4, h5, h6, h7, h8, h9, h10, h11, h12⟩ := S
  exact ⟨made2 T ⟨⟨qual, _, _, doc, pm, ct, oc, od, an, osl, p0, p1, p2, p3, p6, p4, p5, q1, q2, q3, q4, r1, r2, r3, r4, _, hb, li, F.cq, h1, h2, h3, h4, h5, h6, h7, h8, h9, h10, fun s x v u => .of_eq (h11 qual doc pm (.ref ca) ct an cc x v u), (h12 f cc ca qual).1, (h12 f cc ca qual).2.1, (h12 f cc ca qual).2.2⟩, d1, d2, d3, d4, d5⟩ na nb, mg_of X G F.aC, F.kp, F.bs, F.ty⟩
theorem XF.at1 {x : String} {s : Stmt} {C f cc ca : Addr} {qual : Str} {a : String} (X : K.In h) (G : h.Ns mainGlobals mg) (F : XF P K x s C f cc ca qual) (S : Shape1 s (Str.ofString a)) (na : findIn K (.ref C) (Str.ofString a) = some none)
    (d1 : ((Str.ofString a : Str) == ("self" : Str)) = false := by decide) (d4 : ((Str.ofString a : Str) == ("__debug__" : Str)) = false := by decide) :
    XAt P w K mg x C [a] := by
  obtain ⟨cd, T⟩ := F.txt X G
  obtain ⟨oc, doc, pm, ct, od, an, osl, li⟩ := F.li
  obtain ⟨p0, p1, p2, p3, p4, p5, q1, q2, q3, q4, hb, h1, h2, h3, h4, h5, h7, h8, h9, h10, h11, h12⟩ := S
  rw [hb] at li
  exact ⟨made1 T ⟨⟨qual, _, _, doc, pm, ct, oc, od, an, osl, p0, p1, p2, p3, p4, p5, q1, q2, q3, q4, li, F.cq, h1, h2, h3, h4, h5, h7, h8, h9, h10, fun s x v => .of_eq (by have := h11 qual doc pm (.ref ca) ct an cc x v; rw [hb] at this; exact this), (h12 f cc ca qual).1, (h12 f cc ca qual).2⟩, d1, d4⟩ na, mg_of X G F.aC, F.kp, F.bs, F.ty⟩
theorem XF.gets {x : String} {s : Stmt} {C f cc ca : Addr} {qual : Str} {a : String} (X : K.In h) (G : h.Ns mainGlobals mg) (F : XF P K x s C f cc ca qual) (na : findIn K (.ref C) (Str.ofString a) = some none) : ∀ C, mg (Str.ofString x) = some (.ref C) → Gets K C (Str.ofString a) := fun C' e => by
  rw [mg_of X G F.aC] at e
  cases e
  exact ⟨F.ga, F.gq, F.bs, F.hd, na⟩
theorem at_mk {x : Str} {st : Stmt} {ps : List Str} {f : Addr} {oc kV doc pm cd ct : Value} {od an : Option Addr} {osl : Array (Option Value)} (X : K.In h) (G : h.Ns mainGlobals mg) (a : nsIn K mainGlobals x = some (some (.ref f))) (l : K.lookup f = some ⟨oc, od, .func (fnOf x x (defArgs st) (defBody st) (defScope st) .none kV doc pm an cd ct), osl⟩) (c : codeIn K cd x = true) (k : keepIn K (.ref f) = true)
    (b : ∀ (kV doc pm : Value) (an : Option Addr) (cdv ct : Value) (us : List Value), us.length = ps.length → bindArgs (fnOf x x (defArgs st) (defBody st) (defScope st) .none kV doc pm an cdv ct) ⟨us, []⟩ = pure (ps.zip us)) :
    At K mg x st ps f (fnOf x x (defArgs st) (defBody st) (defScope st) .none kV doc pm an cd ct) :=
  ⟨mg_of X G a, k, (fun_mk l c k).binds b, fun_mk l c k⟩
theorem atC_mk {x : Str} {st : Stmt} {ps : List Str} {f cA : Addr} {oc kV doc pm ct : Value} {od an : Option Addr} {osl : Array (Option Value)} (X : K.In h) (G : h.Ns mainGlobals mg) (a : nsIn K mainGlobals x = some (some (.ref f))) (l : K.lookup f = some ⟨oc, od, .func (fnOf x x (defArgs st) (defBody st) (defScope st) .none kV doc pm an (.ref cA) ct), osl⟩) (c : codeIn K (.ref cA) x = true) (k : keepIn K (.ref f) = true)
    (b : ∀ (kV doc pm : Value) (an : Option Addr) (cdv ct : Value) (us : List Value), us.length = ps.length → bindArgs (fnOf x x (defArgs st) (defBody st) (defScope st) .none kV doc pm an cdv ct) ⟨us, []⟩ = pure (ps.zip us)) :
    AtC K mg x st ps f (fnOf x x (defArgs st) (defBody st) (defScope st) .none kV doc pm an (.ref cA) ct) cA :=
  ⟨mg_of X G a, k, (fun_mk l c k).binds b, ⟨⟨oc, od, kV, doc, pm, an, ct, osl, rfl, l, c⟩⟩⟩
end
end Bw
set_option linter.all false
set_option autoImplicit false
set_option maxRecDepth 100000
set_option maxHeartbeats 2000000
/-! The law's own call: a script comes in, True goes out. -/
namespace Bw
open PySem PySem.Spec PyProof.Rows L2 LamX
theorem rel_str {s : Str} {cs : List Nat} {t : Tok} (h : s = strOf cs) : RelV (.str (strOf cs)) (.str s t) := by
  subst h
  exact ⟨t, rfl⟩
theorem end_cx {P : Program} {w : World} {H : Hp} {s : Shared} {e : Value} {s' : Shared} (h : L2.CX P w [] H s (fun _ _ _ => False) e s') : False := by
  obtain ⟨_, _, _, _, _, _, _, _, _, _, _, _, h⟩ := h
  exact h
theorem end_at {K : PySem.W.Frag} {mg : Str → Option Value} {cs : List (Addr × Addr)} {T : List (Addr × Str)} {n : Nat} {g : List D → Store → Res D} (hT : ∀ p ∈ T, ∃ q ∈ cs, q.2 = p.1) (hg : ∀ ns : List Int, ns.length ≤ n → (∀ z ∈ ns, Builtin.Int.intBits z ≤ 1048576) → ∃ st, g [.scr ns] [] = .ok (.bl true) st) (H : Hp) (a : Addr) (ns : List Int) (hl : ns.length ≤ n) (hb : ∀ z ∈ ns, Builtin.Int.intBits z ≤ 1048576)
    (hP : ∀ p ∈ cs, H p.2 = some (.tbl #[])) (hS : SqL K H a (ns.map V.int)) : spB ⟨K, mg⟩ T 1 g [.ref a] H (fun v _ => v = .bl true) fun _ _ _ => False := by
  have hH : ∀ p ∈ T, H p.1 = some (.tbl #[]) := fun p hp => by
    obtain ⟨q, hq, e⟩ := hT p hp
    rw [← e]
    exact hP q hq
  have tb : Tabs T H := fun p hp => TabS.nil (hH p hp)
  obtain ⟨st, e⟩ := hg ns hl hb
  have fin : ∀ z : Zw, PstC ⟨K, mg⟩ T z (g [.scr ns] []) (fun v _ => v = .bl true) fun _ _ _ => False := fun z => by
    rw [e]
    intro z' H' v l w rv
    cases rv
    rfl
  refine ⟨rfl, ?_⟩
  rcases hS with r | k
  · have ne : ∀ p ∈ T, p.1 ≠ a := fun p hp q => by
      have := hH p hp
      rw [q] at this
      rcases r with r | ⟨o, r⟩ <;> rw [r] at this <;> cases this
    refine ⟨⟨fun b => if b = a then H a else none, [], fun _ => none⟩, [], [.scr ns], ⟨fun b o h => ?_, rfl, List.nodup_nil, fun n b o h => by simp at h, tb, fun p hp => ⟨if_neg (ne p hp), by simp⟩, fun b o h => by cases h⟩, .cons (.scr (.inl ?_)) .nil, fin _⟩
    · by_cases hb : b = a
      · subst hb
        have h : (if b = b then H b else none) = some o := h
        rw [if_pos rfl] at h
        exact h
      · have h : (if b = a then H a else none) = some o := h
        rw [if_neg hb] at h
        cases h
    · rcases r with r | ⟨o, r⟩
      · exact .inl (by show (if a = a then H a else none) = _; rw [if_pos rfl]; exact r)
      · exact .inr ⟨o, by show (if a = a then H a else none) = _; rw [if_pos rfl]; exact r⟩
  · have w0 : Wf ⟨K, mg⟩ T ⟨fun _ => none, [], fun _ => none⟩ [] H := ⟨(fun b o h => nomatch h), rfl, List.nodup_nil, fun n b o h => by simp at h, tb, fun p hp => ⟨rfl, by simp⟩, fun b o h => nomatch h⟩
    exact ⟨_, [], [.scr ns], w0, .cons (.scr (.inr k)) .nil, fin _⟩
end Bw
set_option linter.all false
set_option autoImplicit false
set_option maxRecDepth 100000
set_option maxHeartbeats 2000000
/-! Lambdas (and functions of the top) as values of a list that a loop walks. -/
namespace Bw
open PySem PySem.Spec PyProof.Rows L2 LamX
/-- a thing that stands as it is -/
def RawO (a : Addr) (o : Obj) : HO := .ext fun h => h.get? a = some o
theorem rawO_ok {P : Program} {w : World} {H : Hp} {h : Heap} {a : Addr} {o : Obj} (e : h.get? a = some o) : ObjOk P w H h a (RawO a o) := ⟨e, ⟨o, e⟩, fun _ _ q k => k _ q⟩
theorem rawO_get {P : Program} {w : World} {H : Hp} {h : Heap} {a : Addr} {o : Obj} (e : ObjOk P w H h a (RawO a o)) : h.get? a = some o := e.1
section
variable {X : Cx} {pins : List (Addr × Obj)} {σ : L2.St} {H : Hp} {s : Shared}
/-- what was made in this frame and is nobody's is known from now on -/
theorem Inv.adopt {a : Addr} {o : Obj} (I : L2.Inv X pins σ H s) (e : s.heap.get? a = some o) (hn : H a = none) (h0 : X.s_0.heap.objs.size ≤ a) (hL : a ≠ X.env.locals) (hc : ∀ x c, X.env.cells.lookup x = some c → c ≠ a) (hp : ∀ p ∈ X.pn ++ pins, p.1 ≠ a) :
    L2.Inv X pins σ (upd H a (RawO a o)) s := by
  have ne : ∀ {b : Addr} {u : HO}, H b = some u → b ≠ a := fun h => ne_of_none h hn
  have ok : HOk X.prog X.w (upd H a (RawO a o)) s.heap := by
    intro b u hb
    by_cases h : b = a
    · subst h
      rw [upd_same] at hb
      cases hb
      exact rawO_ok e
    · rw [upd_ne h] at hb
      exact (I.hok b u hb).stay (fun c v _ q => q) (fun c q => by rw [upd_ne (ne q)]; exact q) (fun c xs q => by rw [upd_ne (ne q)]; exact q)
  exact I.step (h' := s.heap) (g' := s.gens) (d' := s.drawn) (t' := s.toks) (ch := [a]) (fun b hb => by
      rw [List.mem_singleton] at hb
      subst hb
      exact ⟨.inr h0, hL, hc, hp⟩) (fun b o _ _ _ q _ => q) (fun b o _ _ _ q _ => ⟨o.slots, q⟩) (fun b o hb _ n => by rw [upd_ne (fun h => hb (List.mem_singleton.mpr h))]; exact n) (fun b o _ q => ⟨o, q⟩)
    (fun b xs q => by rw [upd_ne (ne q)]; exact q) (fun b o u q => by rw [upd_ne (ne q)]; exact q) (fun b ps q => ⟨#[], by rw [upd_ne (ne q), Array.append_empty]; exact q⟩) (fun _ h => h) ok I.bare
end
/-- what is known of a lambda's object -/
def DfG (dn : Bool) (z : Zw) (dV : Value) : Prop := if dn = true then ∃ T0, dV = .ref T0 ∧ z.G T0 = some (RawO T0 { cls := .type "tuple", data := .seq #[.none] }) else dV = .none
theorem DfG.mono {dn : Bool} {z z' : Zw} {dV : Value} (l : Lg z z') (h : DfG dn z dV) : DfG dn z' dV := by
  unfold DfG at h ⊢
  split
  · rename_i hd
    rw [if_pos hd] at h
    obtain ⟨T0, e, q⟩ := h
    exact ⟨T0, e, l.g _ _ q⟩
  · rename_i hd
    rw [if_neg hd] at h
    exact h
def LamK (dn : Bool) (q : Str) (params : Arguments) (body : PySem.Expr) (scope : Scope) (cl : List (Str × Addr)) (z : Zw) (f : Addr) : Prop := ∃ (dV pm ct : Value) (c' : Addr), z.G f = some (RawO f (BwX.lamObj dV q params body scope cl pm c' ct)) ∧ z.G c' = some (CodeO c' q) ∧ DfG dn z dV
theorem LamK.mono {dn : Bool} {q : Str} {params : Arguments} {body : PySem.Expr} {scope : Scope} {cl : List (Str × Addr)} {z z' : Zw} {f : Addr} (l : Lg z z') (h : LamK dn q params body scope cl z f) : LamK dn q params body scope cl z' f := by
  obtain ⟨dV, pm, ct, c', h1, h2, h3⟩ := h
  exact ⟨dV, pm, ct, c', l.g _ _ h1, l.g _ _ h2, h3.mono l⟩
/-- values that a list of things to call holds -/
def TKn (c : Fc) (T : List (Addr × Str)) (Kn : Zw → Addr → Prop) : TE := fun σ H Q => ∃ z ρ st, Wf c.toCc T z st H ∧ Rσ c z σ ρ ∧ ∀ z' H' f, Le z z' → Wf c.toCc T z' st H' → Kn z' f → Q (.ref f) H'
section
variable {X : Cx} {c : Fc} {T : List (Addr × Str)} {pos p lpos : Pos}
theorem pe_lamV {cA P : Addr} {params : Arguments} {body : PySem.Expr} {scope : Scope} {as : List Str} {dn : Bool} (TB : TabB X.base X.mg cA P) (hcode : X.env.code = .ref cA) (hmT : (P, X.env.qual ++ "<lambda>") ∈ T) (hu : ∀ p ∈ T, p.1 = P → p.2 = X.env.qual ++ "<lambda>")
    (L : LamP X.env.scope scope as) (hd : DfEx dn params X.env) : PE X (.Lambda params body scope lpos) (TKn c T (LamK dn (X.env.qual ++ "<lambda>") params body scope (cloFrom X.env.cells scope.names []))) := by
  refine ⟨fun pins s σ H Q I ⟨z, ρ, st, w, r, q⟩ => ?_⟩
  refine lam_eval I TB hcode hmT hu w.tab (lam_has L I.ok) hd fun f c' dV pm ctv H1 s1 I1 k1 t1 hf hfn hfr hge hco hdf hdn => ?_
  obtain ⟨lc, wc⟩ := (w.tables hmT k1 t1).know hco
  have loc : ∀ {a : Addr}, s.heap.objs.size ≤ a → a ≠ X.env.locals := fun h e => by
    have := I.lt
    rw [← e] at this
    exact Nat.lt_irrefl _ (Nat.lt_of_lt_of_le this h)
  have cel : ∀ {a : Addr}, s.heap.objs.size ≤ a → ∀ x c, X.env.cells.lookup x = some c → c ≠ a := fun h x c e q => by
    obtain ⟨v, o, ho, _⟩ := I.cell x c e
    have := Heap.lt_size ho
    rw [q] at this
    exact Nat.lt_irrefl _ (Nat.lt_of_lt_of_le this h)
  have pin : ∀ {a : Addr}, s.heap.objs.size ≤ a → ∀ p ∈ X.pn ++ pins, p.1 ≠ a := fun h p hp q => by
    have := Heap.lt_size (I.pin p hp).1
    rw [q] at this
    exact Nat.lt_irrefl _ (Nat.lt_of_lt_of_le this h)
  have hG : (z.lay c' (CodeO c' (X.env.qual ++ "<lambda>"))).G c' = some (CodeO c' (X.env.qual ++ "<lambda>")) := upd_same
  cases dn with
  | false =>
    have hdf : dV = .none := hdf
    have I2 := Inv.adopt I1 hf hfn (Nat.le_trans I.sz hge) (loc hge) (cel hge) (pin hge)
    have w2 := wc.lay (o := RawO f (BwX.lamObj dV (X.env.qual ++ "<lambda>") params body scope (cloFrom X.env.cells scope.names []) pm c' ctv)) hfn
    have l2 := Zw.lay_le (o := RawO f (BwX.lamObj dV (X.env.qual ++ "<lambda>") params body scope (cloFrom X.env.cells scope.names []) pm c' ctv)) (wc.noG hfn)
    exact ⟨.ref f, _, I2, rfl, q _ _ f (lc.trans l2) w2 ⟨dV, pm, ctv, c', upd_same, l2.g _ _ hG, hdf⟩⟩
  | true =>
    obtain ⟨T0, e, hT⟩ : ∃ T0, dV = .ref T0 ∧ s1.heap.get? T0 = some { cls := .type "tuple", data := .seq #[.none] } := hdf
    obtain ⟨n1, n2, n3, n4⟩ := hdn T0 e
    have I2 := Inv.adopt I1 hT n1 (Nat.le_trans I.sz n3) (loc n3) (cel n3) (pin n3)
    have hfn2 : upd H1 T0 (RawO T0 { cls := .type "tuple", data := .seq #[.none] }) f = none := by rw [upd_ne (Nat.ne_of_gt n4)]; exact hfn
    have w2 := wc.lay (o := RawO T0 { cls := .type "tuple", data := .seq #[.none] }) n1
    have l2 := Zw.lay_le (o := RawO T0 { cls := .type "tuple", data := .seq #[.none] }) (wc.noG n1)
    have I3 := Inv.adopt I2 hf hfn2 (Nat.le_trans I.sz hge) (loc hge) (cel hge) (pin hge)
    have w3 := w2.lay (o := RawO f (BwX.lamObj dV (X.env.qual ++ "<lambda>") params body scope (cloFrom X.env.cells scope.names []) pm c' ctv)) hfn2
    have l3 := Zw.lay_le (o := RawO f (BwX.lamObj dV (X.env.qual ++ "<lambda>") params body scope (cloFrom X.env.cells scope.names []) pm c' ctv)) (w2.noG hfn2)
    exact ⟨.ref f, _, I3, rfl, q _ _ f ((lc.trans l2).trans l3) w3 ⟨dV, pm, ctv, c', upd_same, l3.g _ _ (l2.g _ _ hG), T0, e, l3.g _ _ upd_same⟩⟩
end
end Bw
set_option linter.all false
set_option autoImplicit false
set_option maxRecDepth 100000
set_option maxHeartbeats 2000000
/-! for x in [lambda ..: .., f, ..]: each turn knows what x is. -/
namespace Bw
open PySem PySem.Spec PyProof.Rows L2 LamX
/-- so many of them, each known so -/
inductive Kns (z : Zw) : List (Zw → Addr → Prop) → List Addr → Prop
  | nil : Kns z [] []
  | cons {K : Zw → Addr → Prop} {Ks : List (Zw → Addr → Prop)} {f : Addr} {fs : List Addr} : K z f → Kns z Ks fs → Kns z (K :: Ks) (f :: fs)
def MonK (K : Zw → Addr → Prop) : Prop := ∀ z z' f, Lg z z' → K z f → K z' f
theorem Kns.len {z : Zw} {Ks : List (Zw → Addr → Prop)} {fs : List Addr} (h : Kns z Ks fs) : fs.length = Ks.length := by
  induction h with
  | nil => rfl
  | cons _ _ ih => rw [List.length_cons, List.length_cons, ih]
theorem Kns.get {z : Zw} {Ks : List (Zw → Addr → Prop)} {fs : List Addr} (h : Kns z Ks fs) : ∀ {i : Nat} {f : Addr}, fs[i]? = some f → ∃ K, Ks[i]? = some K ∧ K z f := by
  induction h with
  | nil => intro i f e; simp at e
  | cons hk _ ih =>
    intro i f e
    cases i with
    | zero =>
      have e' := Option.some.inj (show some _ = some f from e)
      subst e'
      exact ⟨_, rfl, hk⟩
    | succ i => exact ih (i := i) e
/-- a name's closure put away -/
def wipe1 : Option D → Option D
  | some (.clo 0) => none
  | o => o
theorem wipe1_get {o : Option D} {d : D} (h : wipe1 o = some d) : o = some d ∧ d ≠ .clo 0 := by
  cases o with
  | none => cases h
  | some x =>
    cases x with
    | clo n =>
      cases n with
      | zero => cases h
      | succ n => cases h; exact ⟨rfl, fun e => nomatch e⟩
    | _ => cases h; exact ⟨rfl, fun e => nomatch e⟩
def wipeC (ρ : Env) : Env := ρ.map wipe1
theorem wipeC_get {ρ : Env} {i : Nat} {d : D} (h : (wipeC ρ)[i]? = some (some d)) : ρ[i]? = some (some d) ∧ d ≠ .clo 0 := by
  unfold wipeC at h
  rw [List.getElem?_map] at h
  cases e : ρ[i]? with
  | none => rw [e] at h; cases h
  | some o =>
    rw [e] at h
    have h' : wipe1 o = some d := Option.some.inj h
    obtain ⟨h1, h2⟩ := wipe1_get h'
    exact ⟨by rw [h1], h2⟩
abbrev Fc.cal (c : Fc) (f : Addr) (z : Zw) : Fc := { c with ca := some f, z0 := z }
theorem Rσ.out {c : Fc} {f : Addr} {z1 z : Zw} {σ : L2.St} {ρ : Env} (r : Rσ (c.cal f z1) z σ ρ) (l : Lg c.z0 z1) : Rσ c z σ (wipeC ρ) := by
  refine ⟨by unfold wipeC; rw [List.length_map]; exact r.len, fun i d e => ?_, l.trans r.le⟩
  obtain ⟨h1, h2⟩ := wipeC_get e
  obtain ⟨v, a, b⟩ := r.at_ i d h1
  refine ⟨v, a, ?_⟩
  cases b with
  | d h => exact .d h
  | clo h => exact absurd rfl h2
  | exc h => exact .exc h
theorem Rσ.away {c : Fc} {z : Zw} {σ : L2.St} {ρ : Env} (r : Rσ c z σ ρ) : Rσ c z σ (wipeC ρ) := by
  refine ⟨by unfold wipeC; rw [List.length_map]; exact r.len, fun i d e => ?_, r.le⟩
  obtain ⟨h1, h2⟩ := wipeC_get e
  exact r.at_ i d h1
theorem Rσ.into {c : Fc} {f : Addr} {z1 z : Zw} {σ : L2.St} {ρ : Env} (r : Rσ c z σ ρ) (l : Lg z1 z) (i : Nat) : Rσ (c.cal f z1) z (σ.set i (some (.ref f))) ((wipeC ρ).set i (some (.clo 0))) := by
  have r1 : Rσ (c.cal f z1) z σ (wipeC ρ) := by
    refine ⟨by unfold wipeC; rw [List.length_map]; exact r.len, fun i d e => ?_, l⟩
    obtain ⟨h1, h2⟩ := wipeC_get e
    obtain ⟨v, a, b⟩ := r.at_ i d h1
    refine ⟨v, a, ?_⟩
    cases b with
    | d h => exact .d h
    | clo h => exact absurd rfl h2
    | exc h => exact .exc h
  exact r1.set (.clo rfl) i
def sForL (i : Nat) : List MS → MS
  | [], ρ, st => .nx (wipeC ρ) st
  | m :: ms, ρ, st => match m ((wipeC ρ).set i (some (.clo 0))) st with
    | .nx ρ' st' => sForL i ms (wipeC ρ') st'
    | .ct ρ' st' => sForL i ms (wipeC ρ') st'
    | .bk ρ' st' => .nx (wipeC ρ') st'
    | .rt d st' => .rt d st'
    | .er e ρ' st' => .er e (wipeC ρ') st'
    | .no => .no
def TKs (c : Fc) (T : List (Addr × Str)) (Ks : List (Zw → Addr → Prop)) : TA := fun σ H Q => ∃ z ρ st, Wf c.toCc T z st H ∧ Rσ c z σ ρ ∧ ∀ z' H' fs, Le z z' → Wf c.toCc T z' st H' → Kns z' Ks fs → Q (fs.map .ref) H'
section
variable {X : Cx} {c : Fc} {T : List (Addr × Str)} {W : WX} {pos p px : Pos} {e : PySem.Expr} {es : List PySem.Expr}
theorem k_nil : PA X [] (TKs c T []) := ⟨fun pos pins s σ H Q I ⟨z, ρ, st, w, r, q⟩ => pa_nil.run pos pins s σ H Q I (q z H [] (Le.refl z) w .nil)⟩
theorem k_cons {K : Zw → Addr → Prop} {Ks : List (Zw → Addr → Prop)} (hm : MonK K) (ha : PE X e (TKn c T K)) (hr : PA X es (TKs c T Ks)) (hs : starEach (e :: es) X.env = (false, eval e X.env) :: starEach es X.env := by rfl) : PA X (e :: es) (TKs c T (K :: Ks)) :=
  ⟨fun pos pins s σ H Q I ⟨z, ρ, st, w, r, q⟩ => (pa_cons ha hr hs).run pos pins s σ H Q I ⟨z, ρ, st, w, r, fun z1 H1 f l1 w1 k1 => ⟨z1, ρ, st, w1, r.mono l1, fun z2 H2 fs l2 w2 k2 => q z2 H2 (f :: fs) (l1.trans l2) w2 (.cons (hm _ _ _ l2.lg k1) k2)⟩⟩⟩
/-- the loop -/
theorem s_forL (i : Nat) {x : Str} {body : List Stmt} {Ks : List (Zw → Addr → Prop)} {ms : List MS} (hp : PassesOwn (model X.prog X.w) X.A X.env X.xe) (hc : X.calm = true) (hcK : c.K = X.K) (ha : PA X es (TKs c T Ks)) (hl : Ks.length = ms.length) (hmon : ∀ K ∈ Ks, MonK K) (hN : X.N.Nodup)
    (hb : ∀ (j : Nat) (K : Zw → Addr → Prop) (m : MS), Ks[j]? = some K → ms[j]? = some m → ∀ (z1 : Zw) (f : Addr), K z1 f → Lg c.z0 z1 → SsD X (c.cal f z1) T W body m) (hsz : es.length ≤ 1000 := by decide)
    (hi : X.N[i]? = some x := by rfl) (hx : Loc X.env.scope x := by first | exact Or.inl rfl | exact Or.inr rfl) (hf : X.fn x = true ∨ X.env.scope.names.lookup x = some .local := by first | exact .inl rfl | exact .inr rfl)
    (hs : ∀ x, foldedSetIterable (.List es p) X.env x = pure x := by intro _; rfl) (hK : Ks.length ≤ 1000 := by decide) : SD X c T W (.For (.Name x px) (.List es p) body [] pos) (sForL i ms) := by
  -- the body, whichever stands there
  have hbody : PSs X body (fun D σ H => ∃ (j : Nat) (K : Zw → Addr → Prop) (m : MS) (z1 : Zw) (f : Addr), Ks[j]? = some K ∧ ms[j]? = some m ∧ K z1 f ∧ Lg c.z0 z1 ∧ LS (c.cal f z1) T W m D σ H) :=
    ⟨fun pins s σ H D I ⟨j, K, m, z1, f, e1, e2, k, l, h⟩ => (hb j K m e1 e2 z1 f k l).run pins s σ H D I h⟩
  refine imp_PS (ps_for hp hc (pi_list (pe_lst ha)) (pg_name hN hi hx hf) hbody hs) fun D σ H ⟨z, ρ, st, w, r, q⟩ => ⟨z, ρ, st, w, r, fun z1 H1 fs l1 w1 kn => ⟨?_, fun a hna => ⟨a, rfl, ⟨_, SqL.of upd_same⟩, ?_⟩⟩⟩
  · rw [List.length_map, kn.len]
    exact Nat.le_trans hK (by rw [sizeLine_eq]; decide)
  · have w2 := w1.lay (o := .lst (fs.map .ref)) hna
    have l2 := Zw.lay_le (o := .lst (fs.map .ref)) (w1.noG hna)
    have hG : (z1.lay a (.lst (fs.map .ref))).G a = some (.lst (fs.map .ref)) := upd_same
    generalize hz2 : z1.lay a (.lst (fs.map .ref)) = z2 at w2 l2 hG
    generalize hH2 : upd H1 a (.lst (fs.map .ref)) = H2 at w2
    have kn2 : Kns z2 Ks fs := by
      clear hb hbody hl hsz q ha
      induction kn with
      | nil => exact .nil
      | @cons K Ks f fs hk _ ih => exact .cons (hmon K List.mem_cons_self _ _ _ l2.lg hk) (by
          have : ∀ {gs : List Addr} {Ls : List (Zw → Addr → Prop)}, Kns z1 Ls gs → (∀ K ∈ Ls, MonK K) → Kns z2 Ls gs := fun {gs Ls} h hm => by
            induction h with
            | nil => exact .nil
            | @cons K Ks f fs hk _ ih => exact .cons (hm K List.mem_cons_self _ _ _ l2.lg hk) (ih fun K h => hm K (List.mem_cons_of_mem _ h))
          exact this (by assumption) fun K h => hmon K (List.mem_cons_of_mem _ h))
    have seq : ∀ {z' : Zw} {st' : Store} {H' : Hp}, Lg z2 z' → Wf c.toCc T z' st' H' → SqL X.K H' a (fs.map .ref) := fun l w => .inl (.inl (w.sub _ _ (l.g _ _ hG)))
    have one : ∀ {z' : Zw} {st' : Store} {H' : Hp} {xs : List V}, Lg z2 z' → Wf c.toCc T z' st' H' → SqL X.K H' a xs → (∀ ys, SqL X.K H' a ys → ∀ i : Nat, ys[i]? = (fs.map V.ref)[i]? ∨ True) := fun _ _ _ _ _ _ => .inr trivial
    have rρ : Rσ c z2 σ ρ := (r.mono l1).mono l2
    have l0 : Lg c.z0 z2 := rρ.le
    refine ⟨fun i' k σ H => k = fs.length - i' ∧ i' ≤ fs.length ∧ ∃ z' ρ' st', Le z2 z' ∧ Wf c.toCc T z' st' H ∧ Rσ c z' σ ρ' ∧ PstS c T W z' (sForL i (ms.drop i') ρ' st') D, ⟨_, rfl, Nat.zero_le _, z2, ρ, st, Le.refl z2, w2, rρ, ?_⟩, ?_⟩
    · have : PstS c T W z (sForL i ms ρ st) D := q
      exact (this.le l1).le l2
    · rintro i' k σ2 H3 ⟨rfl, hle, z3, ρ3, st3, l3, w3, r3, q3⟩
      by_cases hlt : i' < fs.length
      · have hm : i' < ms.length := by rw [← hl, ← kn.len]; exact hlt
        obtain ⟨f, hfi⟩ : ∃ f, fs[i']? = some f := ⟨fs[i'], List.getElem?_eq_getElem hlt⟩
        obtain ⟨K, hK1, hK2⟩ := kn2.get hfi
        have ed : ms.drop i' = ms[i'] :: ms.drop (i' + 1) := List.drop_eq_getElem_cons hm
        rw [ed] at q3
        have hx1 : (fs.map V.ref)[i']? = some (.ref f) := by rw [List.getElem?_map, hfi]; rfl
        refine .inr ⟨⟨_, _, seq l3.lg w3, hx1⟩, fun σ' H' => ∃ z' ρ' st', Le z2 z' ∧ Wf c.toCc T z' st' H' ∧ Rσ c z' σ' ρ' ∧ PstS c T W z' (sForL i (ms.drop (i' + 1)) ρ' st') D, fun σ' H' ⟨z', ρ', st', h⟩ => ⟨fs.length - (i' + 1), by omega, rfl, hlt, z', ρ', st', h⟩, fun y H4 hy => ?_⟩
        obtain ⟨e4, hy⟩ : H4 = H3 ∧ ∀ xs, SqL X.K H3 a xs → xs[i']? = some y := hy
        subst e4
        have ey : y = .ref f := by
          have := hy _ (seq l3.lg w3)
          rw [hx1] at this
          exact (Option.some.inj this).symm
        subst ey
        refine ⟨i', K, ms[i'], z2, f, hK1, List.getElem?_eq_getElem hm, hK2, l0, z3, _, st3, w3, r3.into l3.lg i, ?_⟩
        have q4 : PstS c T W z3 (match ms[i'] ((wipeC ρ3).set i (some (.clo 0))) st3 with
          | .nx ρ' st' => sForL i (ms.drop (i' + 1)) (wipeC ρ') st'
          | .ct ρ' st' => sForL i (ms.drop (i' + 1)) (wipeC ρ') st'
          | .bk ρ' st' => .nx (wipeC ρ') st'
          | .rt d st' => .rt d st'
          | .er e ρ' st' => .er e (wipeC ρ') st'
          | .no => .no) D := q3
        cases em : ms[i'] ((wipeC ρ3).set i (some (.clo 0))) st3 with
        | nx ρ4 st4 => rw [em] at q4; exact fun z4 H4 σ4 l4 w4 r4 => ⟨z4, _, st4, l3.trans l4, w4, r4.out l0, q4.le l4⟩
        | ct ρ4 st4 => rw [em] at q4; exact fun z4 H4 σ4 l4 w4 r4 => ⟨z4, _, st4, l3.trans l4, w4, r4.out l0, q4.le l4⟩
        | bk ρ4 st4 => rw [em] at q4; exact fun z4 H4 σ4 l4 w4 r4 => q4 z4 H4 σ4 l4 w4 (r4.out l0)
        | rt d4 st4 => rw [em] at q4; exact q4
        | er e4 ρ4 st4 => rw [em] at q4; exact fun z4 H4 σ4 cls dd l4 w4 r4 eo => q4 z4 H4 σ4 cls dd l4 w4 (r4.out l0) eo
        | no => rw [em] at q4; exact q4
      · have hle2 : fs.length ≤ i' := Nat.le_of_not_lt hlt
        have ed : ms.drop i' = [] := List.drop_eq_nil_iff.mpr (by rw [← hl, ← kn.len]; exact hle2)
        rw [ed] at q3
        have q4 : PstS c T W z3 (.nx (wipeC ρ3) st3) D := q3
        exact .inl ⟨⟨_, seq l3.lg w3, by rw [List.length_map]; exact hle2⟩, q4 z3 H3 σ2 (Le.refl z3) w3 r3.away⟩
end
end Bw
set_option linter.all false
set_option autoImplicit false
set_option maxRecDepth 100000
set_option maxHeartbeats 2000000
/-! What such a name calls; f(it, e, ..). -/
namespace Bw
open PySem PySem.Spec PyProof.Rows L2 LamX
section
variable {X : Cx} {c : Fc} {T : List (Addr × Str)} {W : WX} {pins : List (Addr × Obj)} {σ : L2.St} {H : Hp} {s : Shared}
/-- what stands at a may be called, whenever in this frame -/
def AtClos (X : Cx) (c : Fc) (T : List (Addr × Str)) (k : Nat) (a : Addr) (g : Clo) : Prop := ∀ (pins : List (Addr × Obj)) (s : Shared) (σ : L2.St) (H : Hp) (z : Zw), L2.Inv X pins σ H s → Lg c.z0 z → Clos X.prog X.w X.K X.mg X.base c.toCc T k X.stack s H z a g
theorem at_start {k : Nat} {a : Addr} {g : Clo} (hex : X.ex = []) (h : Clos X.prog X.w X.K X.mg X.base c.toCc T k X.outer X.s_0 X.H_0 c.z0 a g) : AtClos X c T k a g := fun pins s σ H z I l => h.at' (Rch.now I hex l)
abbrev BodyOk (X : Cx) (c : Fc) (T : List (Addr × Str)) (k : Nat) (scope : Scope) (as : List Str) (body : PySem.Expr) (mb : ME) : Prop := ∀ (A : Around) (outer : List PySem.Env) (s1 : Shared) (H1 : Hp) (E : XK) (f c' : Addr) (z1 : Zw), Room k (A.deeper (lamEnv X scope s1.heap.objs.size f c')) → (∀ kc a gc, AtClos X c T kc a gc → Clos X.prog X.w X.K X.mg X.base c.toCc T kc outer s1 H1 z1 a gc) →
  PD (lamCx X A outer s1 H1 E scope as f c') (c.at z1) T (fun cls dd _ H => E cls dd H) body mb
theorem lamK_clos {scope : Scope} {as : List Str} {params : Arguments} {body : PySem.Expr} {dn : Bool} {n k : Nat} {mb : ME} {f : Addr} {z : Zw} {ρ : Env} (I : L2.Inv X pins σ H s) (L : LamP X.env.scope scope as) (hB : LamBind dn n as params body scope) (r : Rσ c z σ ρ)
    (kn : LamK dn (X.env.qual ++ "<lambda>") params body scope (cloFrom X.env.cells scope.names []) z f) (hbody : BodyOk X c T k scope as body mb) : Clos X.prog X.w X.K X.mg X.base c.toCc T (k + 1) X.stack s H z f (lamD dn n (capt X.N scope) mb ρ) := by
  obtain ⟨dV, pm, ct, c', h1, h2, h3⟩ := kn
  have at1 : ∀ {A : Around} {S1 : List PySem.Env} {s1 : Shared} {H1 : Hp} {z1 : Zw} {st : Store}, Env0 X.prog X.w X.K X.mg X.base A S1 s1 H1 → Lg z z1 → Wf c.toCc T z1 st H1 → s1.heap.get? f = some (BwX.lamObj dV (X.env.qual ++ "<lambda>") params body scope (cloFrom X.env.cells scope.names []) pm c' ct) := fun e0 l w => rawO_get (e0.hok f _ (w.sub _ _ (l.g _ _ h1)))
  refine ⟨fun A S1 s1 H1 z1 st e0 rc w => ⟨_, _, _, _, at1 e0 rc.z w⟩, fun A S1 s1 H1 z1 st us vs ds Q E hr e0 rc w rv rd q => ?_⟩
  unfold lamD at q
  split at q
  · rename_i hn
    have hc : H1 c' = some (LamX.CodeO c' (X.env.qual ++ "<lambda>")) := w.sub _ _ (rc.z.g _ _ h2)
    obtain ⟨⟨oc, fv, t, hoc, hdc, hvc⟩, _, _⟩ := e0.hok c' _ hc
    have hun : us.length = n := by rw [← rv.length, rd.len]; exact hn
    have hdf1 : DfOk dn dV s1.heap := by
      have h4 := h3.mono rc.z
      unfold DfG at h4
      unfold DfOk
      split
      · rename_i hd
        rw [if_pos hd] at h4
        obtain ⟨T0, e, hT⟩ := h4
        exact ⟨T0, e, rawO_get (e0.hok T0 _ (w.sub _ _ hT))⟩
      · rename_i hd
        rw [if_neg hd] at h4
        exact h4
    have rv' : Vals (vs ++ dfV dn) (us ++ dfU dn) := rv.append (df_vals dn)
    have hlen : (vs ++ dfV dn).length = as.length := by rw [List.length_append, rd.len, hn, df_len.2, hB.1]
    have lim : s1.heap.NoLimit := e0.mod.nolimit.keeps fun b o e => (e0.bs b o e).1
    refine PySem.W.kla_callFunE hr.depth (at1 e0 rc.z w) rfl L.co L.gen rfl ⟨c', oc, fv, t, rfl, hoc, hdc, hvc⟩ ?_
    refine hB.2 (X.env.qual ++ "<lambda>") (cloFrom X.env.cells scope.names []) pm (.ref c') ct dV s1 us hun hdf1 _ _ _ _ ?_
    refine wpAny_newFunctionEnv (fun y hy => L.cell y hy) (fun y hy => L.par y.1 (List.of_mem_zip hy).1) (fun h1 hns hsb => ⟨lim.fresh _ hsb, ?_⟩) L.kind
    show codeAny _ _ (.expr body (lamEnv X scope s1.heap.objs.size f c')) _ _
    have kp : ∀ b o, s1.heap.get? b = some o → h1.get? b = some o := fun b o e => hsb.extBut b o (Nat.ne_of_lt (Heap.lt_size e)) (Heap.get?_push_of_some _ e)
    have J := lam_begin (tk := s1.toks + (as.zip (us ++ dfU dn)).length) (E := E) (f := f) (c' := c') I L e0 hr.hd rv' hlen rc.un hns kp
    have rw1 : Rσ (c.at z1) z1 ((vs ++ dfV dn).map some ++ maskL (capt X.N scope) σ) ((ds ++ dfD dn).map some ++ maskL (capt X.N scope) ρ) := lam_env r rc.z (rd.app (df_rps dn))
    have hb := hbody A S1 s1 H1 E f c' z1 (hr.deeper _) (fun kc a gc h => (h pins s σ H z I r.le).at' rc)
    refine PySem.W.kla_codeExpr (wpAny_mono (hb.run [] _ _ H1 Q J ⟨z1, _, st, w, rw1, PstC.to (c := c.at z1) q⟩) (fun v s' hq => ?_) fun e s' hq => hq)
    obtain ⟨w', H', J', rv2, q2⟩ := hq
    exact ⟨w', H', J'.os, J'.bare, J'.base, J'.hok, rv2, q2⟩
  · exact q.elim
/-- a lambda that captures nothing -/
def lam0D (dn : Bool) (n N : Nat) (mb : ME) : Clo := fun ds st => if ds.length = n then mb ((ds ++ dfD dn).map some ++ List.replicate N none) st else .no
theorem maskL_none {α : Type} : ∀ (ms : List Bool), maskL ms (List.replicate ms.length (none : Option α)) = List.replicate ms.length none
  | [] => rfl
  | b :: ms => by
    show (if b then none else none) :: maskL ms (List.replicate ms.length none) = none :: List.replicate ms.length none
    rw [maskL_none ms]
    cases b <;> rfl
theorem lam0_at {scope : Scope} {as : List Str} {params : Arguments} {body : PySem.Expr} {dn : Bool} {n k N : Nat} {mb : ME} {f : Addr} (L : LamP X.env.scope scope as) (hB : LamBind dn n as params body scope)
    (kn : LamK dn (X.env.qual ++ "<lambda>") params body scope (cloFrom X.env.cells scope.names []) c.z0 f) (hN : X.N.length = N) (hbody : BodyOk X c T k scope as body mb) : AtClos X c T (k + 1) f (lam0D dn n N mb) := fun pins s σ H z I l => by
  have r : Rσ c z σ (List.replicate N none) := ⟨by rw [List.length_replicate, I.len, hN], (fun i d e => by
    rw [List.getElem?_replicate] at e
    split at e
    · cases e
    · cases e), l⟩
  have h := lamK_clos (z := z) I L hB r (kn.mono l) hbody
  have hl : (capt X.N scope).length = N := by unfold capt; rw [List.length_map, hN]
  have e : lamD dn n (capt X.N scope) mb (List.replicate N none) = lam0D dn n N mb := by
    funext ds st
    unfold lamD lam0D
    have : maskL (capt X.N scope) (List.replicate N (none : Option D)) = List.replicate N none := by
      have := maskL_none (α := D) (capt X.N scope)
      rw [hl] at this
      exact this
    rw [this]
  rw [← e]
  exact h
theorem fn_at {k m : Nat} {f : Addr} {fd : FuncData} {ps : List Str} {g : List D → Store → Res D} {oc : Value} {od : Option Addr} {osl : Array (Option Value)} (F : FnOk X.prog X.w X.K X.mg X.base (L2.CX X.prog X.w) k f fd ps (spB c.toCc T ps.length g)) (lk : X.K.lookup f = some ⟨oc, od, .func fd, osl⟩) (hb : Binds X.K fd ps []) (hm : ps.length = m := by rfl) : AtClos X c T k f (fun ds st => if ds.length = m then g ds st else .no) := fun pins s σ H z I l => by
  subst hm
  refine ⟨fun A S1 s1 H1 z1 st e0 rc w => ⟨_, _, _, _, (e0.mod.kin.keeps fun b o e => (e0.bs b o e).1) _ _ lk⟩, fun A S1 s1 H1 z1 st us vs ds Q E hr e0 rc w rv rd q => ?_⟩
  split at q
  · rename_i hl
    have hvl : vs.length = ps.length := by rw [rd.len]; exact hl
    have hul : (us ++ []).length = ps.length := by rw [List.append_nil, ← rv.length]; exact hvl
    have hbt := hb s1 us (e0.mod.kin.keeps fun b o e => (e0.bs b o e).1) hul
    rw [List.append_nil] at hbt
    exact F.run A S1 s1 H1 ⟨us, []⟩ us vs Q E hr e0 hbt rv ⟨hvl, z1, st, ds, w, rd, q⟩
  · exact q.elim
/-- a function of the top -/
def KFn (f0 : Addr) : Zw → Addr → Prop := fun _ f => f = f0
theorem kfn_mon {f0 : Addr} : MonK (KFn f0) := fun _ _ _ _ h => h
theorem lamK_mon {dn : Bool} {q : Str} {params : Arguments} {body : PySem.Expr} {scope : Scope} {cl : List (Str × Addr)} : MonK (LamK dn q params body scope cl) := fun _ _ _ l h => h.mono l
variable {pos p lpos : Pos} {es : List PySem.Expr} {mr : MA}
theorem pe_fnV {x : Str} {f0 : Addr} (hm : X.mg x = some (.ref f0)) (hg : Gl X x := by rfl) (hdb : (x == ("__debug__" : Str)) = false := by decide) : PE X (.Name x p) (TKn c T (KFn f0)) :=
  ⟨fun pins s σ H Q I ⟨z, ρ, st, w, r, q⟩ => ld_glob I hg hm ⟨.ref f0, H, I, rfl, q z H f0 (Le.refl z) w rfl⟩ hdb⟩
/-- f(it, e, ..), it a thing to call -/
theorem e_firstK {e0 : PySem.Expr} {Kn : Zw → Addr → Prop} {x : Str} {g : Addr} {k kb m : Nat} {fd : FuncData} {ps : List Str} {G : Clo → List D → Store → Res D} {gc : Env → Clo} (hmon : MonK Kn) (h0 : PE X e0 (TKn c T Kn)) (F : FnC X.prog X.w X.K X.mg X.base c.toCc T k g fd ps G) (hr : Room (k + kb) X.A) (hm : X.mg x = some (.ref g)) (hk : PySem.W.keepIn X.K (.ref g) = true)
    (hb : Binds X.K fd ps []) (tk : Takes X W) (hpm : ps.length = m) (hcl : ∀ (pins : List (Addr × Obj)) (s : Shared) (σ : L2.St) (H : Hp) (z : Zw) (ρ : Env) (f : Addr), L2.Inv X pins σ H s → Rσ c z σ ρ → Kn z f → Clos X.prog X.w X.K X.mg X.base c.toCc T kb X.stack s H z f (gc ρ))
    (ha : PA X es (LA c T W mr)) (hg : Gl X x := by rfl) (hdb : (x == ("__debug__" : Str)) = false := by decide) (he : starEach (e0 :: es) X.env = (false, eval e0 X.env) :: starEach es X.env := by rfl) (hpl : (backTo pos (starEach es X.env)).any (·.1) = false := by rfl) :
    PD X c T W (.Call (.Name x p) (e0 :: es) [] pos) (fun ρ st => (mr ρ st).bind fun ds st' => if ds.length + 1 = m then G (gc ρ) ds st' else .no) := by
  subst hpm
  refine ⟨fun pins s σ H Q I ⟨z, ρ, st, w, r, q⟩ => ?_⟩
  refine wpAny_Call_Name_kw (ld_glob I hg hm ?_ hdb)
  refine PySem.W.callWith_K (h₀ := X.base) I.ok.mod.kin hk (thn ((pa_cons h0 ha he).run pos pins s σ H (fun vs H2 => ∃ f xs z2 st2 ds, vs = .ref f :: xs ∧ Kn z2 f ∧ Le z z2 ∧ Wf c.toCc T z2 st2 H2 ∧ Rps c.toCc z2 xs ds ∧ PstC c.toCc T z2 (if ds.length + 1 = ps.length then G (gc ρ) ds st2 else .no) Q (WE W σ)) I
    ⟨z, ρ, st, w, r, fun z1 H1 f l1 w1 k1 => ⟨z1, ρ, st, w1, r.mono l1, (Pst.bnd (R' := Rps c.toCc) (Pst.le q l1)).imp fun xs H2 ⟨z2, st2, ds, l2, w2, rs, q2⟩ => ⟨f, xs, z2, st2, ds, rfl, hmon _ _ _ l2.lg k1, l1.trans l2, w2, rs, PstC.of q2⟩⟩⟩) fun us s2 ⟨vs, H2, I2, rv, f, xs, z2, st2, ds, e1, k2, l2, w2, rd, q2⟩ => ⟨I2.kIn, ?_⟩) he hpl
  subst e1
  split at q2
  · rename_i hl
    obtain ⟨us', rfl, rv'⟩ : ∃ us', us = .ref f :: us' ∧ Vals xs us' := by
      cases rv with
      | cons a b =>
        have a' : _ = Value.ref f := a
        subst a'
        exact ⟨_, rfl, b⟩
    have hvl : xs.length + 1 = ps.length := by rw [rd.len]; exact hl
    have hul : (Value.ref f :: us' ++ []).length = ps.length := by
      rw [List.append_nil, List.length_cons, ← rv'.length]
      exact hvl
    have hbt := hb s2 (.ref f :: us') I2.kIn hul
    rw [List.append_nil] at hbt
    exact act_end tk I2 (F kb X.A X.stack s2 H2 ⟨.ref f :: us', []⟩ (.ref f :: us') f xs _ ds z2 st2 Q _ hr I2.env0 hbt (.cons rfl rv') hvl (hcl pins s2 σ H2 z2 ρ f I2 (r.mono l2) k2) w2 rd q2)
  · exact q2.elim
/-- .. a lambda, told there -/
theorem e_lamB {x : Str} {g cA P : Addr} {k kb : Nat} {fd : FuncData} {ps : List Str} {G : Clo → List D → Store → Res D} {params : Arguments} {body : PySem.Expr} {scope : Scope} {as : List Str} {dn : Bool} {n m : Nat} {ms : List Bool} {mb : ME} (F : FnC X.prog X.w X.K X.mg X.base c.toCc T k g fd ps G) (hr : Room (k + (kb + 1)) X.A) (hm : X.mg x = some (.ref g)) (hk : PySem.W.keepIn X.K (.ref g) = true)
    (hb : Binds X.K fd ps []) (tk : Takes X W) (TB : TabB X.base X.mg cA P) (hcode : X.env.code = .ref cA) (hmT : (P, X.env.qual ++ "<lambda>") ∈ T) (hu : ∀ p ∈ T, p.1 = P → p.2 = X.env.qual ++ "<lambda>")
    (L : LamP X.env.scope scope as) (hB : LamBind dn n as params body scope) (hd : DfEx dn params X.env) (hpm : ps.length = m) (hms : capt X.N scope = ms) (hbody : BodyOk X c T kb scope as body mb)
    (ha : PA X es (LA c T W mr)) (hg : Gl X x := by rfl) (hdb : (x == ("__debug__" : Str)) = false := by decide) (he : starEach (.Lambda params body scope lpos :: es) X.env = (false, eval (.Lambda params body scope lpos) X.env) :: starEach es X.env := by rfl) (hpl : (backTo pos (starEach es X.env)).any (·.1) = false := by rfl) :
    PD X c T W (.Call (.Name x p) (.Lambda params body scope lpos :: es) [] pos) (mLam (fun gc ds st => if ds.length + 1 = m then G gc ds st else .no) dn n ms mb mr) := by
  subst hms
  exact e_firstK (gc := fun ρ => lamD dn n (capt X.N scope) mb ρ) lamK_mon (pe_lamV TB hcode hmT hu L hd) F hr hm hk hb tk hpm (fun pins s σ H z ρ f I r k => lamK_clos I L hB r k hbody) ha hg hdb he hpl
/-- .. a function of the top -/
def mFst (G : Clo → List D → Store → Res D) (g : Clo) (mr : MA) : ME := fun ρ st => (mr ρ st).bind fun ds st' => G g ds st'
theorem e_fnB {x y : Str} {g f0 : Addr} {k kb m : Nat} {fd : FuncData} {ps : List Str} {G : Clo → List D → Store → Res D} {py : Pos} {gc : Clo} (F : FnC X.prog X.w X.K X.mg X.base c.toCc T k g fd ps G) (hr : Room (k + kb) X.A) (hm : X.mg x = some (.ref g)) (hk : PySem.W.keepIn X.K (.ref g) = true)
    (hb : Binds X.K fd ps []) (tk : Takes X W) (hpm : ps.length = m) (hy : X.mg y = some (.ref f0)) (hcl : AtClos X c T kb f0 gc)
    (ha : PA X es (LA c T W mr)) (hg : Gl X x := by rfl) (hgy : Gl X y := by rfl) (hdb : (x == ("__debug__" : Str)) = false := by decide) (hdy : (y == ("__debug__" : Str)) = false := by decide) (he : starEach (.Name y py :: es) X.env = (false, eval (.Name y py) X.env) :: starEach es X.env := by rfl) (hpl : (backTo pos (starEach es X.env)).any (·.1) = false := by rfl) :
    PD X c T W (.Call (.Name x p) (.Name y py :: es) [] pos) (mFst (fun gc ds st => if ds.length + 1 = m then G gc ds st else .no) gc mr) :=
  e_firstK (gc := fun _ => gc) kfn_mon (pe_fnV hy hgy hdy) F hr hm hk hb tk hpm (fun pins s σ H z ρ f I r k => by
    have k : f = f0 := k
    subst k
    exact hcl pins s σ H z I r.le) ha hg hdb he hpl
/-- .. what a name calls -/
def mPass (i : Nat) (G : Clo → List D → Store → Res D) (gc : Env → Clo) (mr : MA) : ME := fun ρ st => match ρ[i]? with
  | some (some (.clo 0)) => (mr ρ st).bind fun ds st' => G (gc ρ) ds st'
  | _ => .no
theorem e_pass (i : Nat) {x y : Str} {g a : Addr} {k kb m : Nat} {fd : FuncData} {ps : List Str} {G : Clo → List D → Store → Res D} {py : Pos} {gc : Env → Clo} (hca : c.ca = some a) (F : FnC X.prog X.w X.K X.mg X.base c.toCc T k g fd ps G) (hr : Room (k + kb) X.A) (hm : X.mg x = some (.ref g)) (hk : PySem.W.keepIn X.K (.ref g) = true)
    (hb : Binds X.K fd ps []) (tk : Takes X W) (hpm : ps.length = m) (hcl : ∀ (pins : List (Addr × Obj)) (s : Shared) (σ : L2.St) (H : Hp) (z : Zw) (ρ : Env), L2.Inv X pins σ H s → Rσ c z σ ρ → Clos X.prog X.w X.K X.mg X.base c.toCc T kb X.stack s H z a (gc ρ))
    (ha : PA X es (LA c T W mr)) (hN : X.N[i]? = some y := by rfl) (hv : Vis X.env.scope y := by first | exact Or.inl rfl | exact Or.inr (Or.inl rfl) | exact Or.inr (Or.inr rfl)) (hd : (y == ("__debug__" : Str)) = false := by decide) (hcd : (y == ("__classdict__" : Str)) = false := by decide)
    (hg : Gl X x := by rfl) (hdb : (x == ("__debug__" : Str)) = false := by decide) (he : starEach (.Name y py :: es) X.env = (false, eval (.Name y py) X.env) :: starEach es X.env := by rfl) (hpl : (backTo pos (starEach es X.env)).any (·.1) = false := by rfl) :
    PD X c T W (.Call (.Name x p) (.Name y py :: es) [] pos) (mPass i (fun gc ds st => if ds.length + 1 = m then G gc ds st else .no) gc mr) := by
  refine ⟨fun pins s σ H Q I ⟨z, ρ, st, w, r, q⟩ => ?_⟩
  unfold mPass at q
  split at q
  · rename_i hi
    obtain ⟨v, h1, h2⟩ := r.at_ i _ hi
    have hva : v = .ref a := by
      cases h2 with
      | d h => cases h
      | clo h => rw [hca] at h; cases h; rfl
    subst hva
    have h0 : PE X (.Name y py) (fun σ' H' Q' => σ' = σ ∧ Q' (.ref a) H') := imp_PE (pe_var hN hv hd hcd) fun σ' H' Q' ⟨e, q'⟩ => ⟨.ref a, by rw [e]; exact h1, q'⟩
    subst hpm
    refine wpAny_Call_Name_kw (ld_glob I hg hm ?_ hdb)
    refine PySem.W.callWith_K (h₀ := X.base) I.ok.mod.kin hk (thn ((pa_cons h0 ha he).run pos pins s σ H (fun vs H2 => ∃ xs z2 st2 ds, vs = .ref a :: xs ∧ Le z z2 ∧ Wf c.toCc T z2 st2 H2 ∧ Rps c.toCc z2 xs ds ∧ PstC c.toCc T z2 (if ds.length + 1 = ps.length then G (gc ρ) ds st2 else .no) Q (WE W σ)) I
      ⟨rfl, z, ρ, st, w, r, (Pst.bnd (R' := Rps c.toCc) q).imp fun xs H2 ⟨z2, st2, ds, l2, w2, rs, q2⟩ => ⟨xs, z2, st2, ds, rfl, l2, w2, rs, PstC.of q2⟩⟩) fun us s2 ⟨vs, H2, I2, rv, xs, z2, st2, ds, e1, l2, w2, rd, q2⟩ => ⟨I2.kIn, ?_⟩) he hpl
    subst e1
    split at q2
    · rename_i hl
      obtain ⟨us', rfl, rv'⟩ : ∃ us', us = .ref a :: us' ∧ Vals xs us' := by
        cases rv with
        | cons a' b =>
          have a'' : _ = Value.ref a := a'
          subst a''
          exact ⟨_, rfl, b⟩
      have hvl : xs.length + 1 = ps.length := by rw [rd.len]; exact hl
      have hul : (Value.ref a :: us' ++ []).length = ps.length := by
        rw [List.append_nil, List.length_cons, ← rv'.length]
        exact hvl
      have hbt := hb s2 (.ref a :: us') I2.kIn hul
      rw [List.append_nil] at hbt
      exact act_end tk I2 (F kb X.A X.stack s2 H2 ⟨.ref a :: us', []⟩ (.ref a :: us') a xs _ ds z2 st2 Q _ hr I2.env0 hbt (.cons rfl rv') hvl (hcl pins s2 σ H2 z2 ρ I2 (r.mono l2)) w2 rd q2)
    · exact q2.elim
  · exact q.elim
end
end Bw
set_option linter.all false
set_option autoImplicit false
set_option maxRecDepth 100000
set_option maxHeartbeats 2000000
/-! gcd, all, calls with keywords and with defaults, rows turned round. -/
namespace Bw
open PySem PySem.Spec PyProof.Rows L2
section
variable {X : Cx} {c : Cc} {T : List (Addr × Str)}
def fGcd : List D → Store → Option D := fun ds _ => match ds with
  | [.int a, .int b] => some (.int ((Nat.gcd a.natAbs b.natAbs : Nat) : Int))
  | _ => none
theorem c_gcd : CallR X (.builtin "math.gcd") (rN c T fGcd) := by
  intro pins s σ H xs us Q I r h
  obtain ⟨z, st, ds, d, w, rs, e, q⟩ := h
  unfold fGcd at e
  split at e
  · cases e
    cases rs with
    | cons ra rr =>
      cases rr with
      | cons rb rr =>
        cases rr
        cases ra
        cases rb
        exact cr_gcd pins s σ H _ us Q I r ⟨_, _, rfl, q z H _ (Le.refl z) w (.int _)⟩
  · cases e
def blsD : List D → Option (List Bool)
  | [] => some []
  | .bl b :: r => (blsD r).map (b :: ·)
  | _ => none
def fAll : List D → Store → Option D := fun ds _ => match ds with
  | [.lst ds] => (blsD ds).map fun bs => .bl (bs.all id)
  | _ => none
theorem blsD_of {z : Zw} : ∀ {vs : List V} {ds : List D} {bs : List Bool}, Rps c z vs ds → blsD ds = some bs → vs = bs.map V.bl
  | _, _, _, .nil, e => by cases e; rfl
  | _, _, bs, .cons (d := d) (ds := ds) ra rr, e => by
    cases d with
    | bl b =>
      unfold blsD at e
      cases h : blsD ds with
      | none => rw [h] at e; cases e
      | some cs =>
        rw [h] at e
        cases e
        cases ra
        rw [List.map_cons, blsD_of rr h]
    | _ => cases e
theorem c_all (hK : X.K = c.K) (hc : X.calm = true) : CallR X (.builtin "all") (rN c T fAll) := by
  obtain ⟨K, mg⟩ := c
  cases hK
  intro pins s σ H xs us Q I r h
  obtain ⟨z, st, ds, d, w, rs, e, q⟩ := h
  unfold fAll at e
  split at e
  · rename_i es
    cases rs with
    | cons ra rr =>
      cases rr
      cases hb : blsD es with
      | none => rw [hb] at e; cases e
      | some bs =>
        rw [hb] at e
        cases e
        cases ra with
        | lst s1 rs =>
          have := blsD_of rs hb
          subst this
          exact cr_all hc pins s σ H _ us Q I r ⟨_, bs, rfl, .inl (.inl (w.sub _ _ s1)), q z H _ (Le.refl z) w (.bl _)⟩
  · cases e
end
section
variable {X : Cx} {c : Fc} {T : List (Addr × Str)} {W : WX} {pos p : Pos} {e a : PySem.Expr} {es : List PySem.Expr} {kws : List Keyword} {mr : MA} {ma : ME} {k : Nat} {f : Addr} {fd : FuncData} {ps : List Str} {x : Str} {g : List D → Store → Res D}
/-- f(e, ..), f a name that the module brought in for a function of math -/
theorem e_bfn {id : String} {h : List D → Store → Option D} (hc : CallR X (.builtin id) (rN c.toCc T h)) (hm : X.mg x = some (.builtin id)) (ha : PA X (e :: es) (LA c T W mr)) (hg : Gl X x := by rfl) (hdb : (x == ("__debug__" : Str)) = false := by decide) (he : starEach (e :: es) X.env = (false, eval e X.env) :: starEach es X.env := by rfl) (hpl : (backTo pos (starEach es X.env)).any (·.1) = false := by rfl) :
    PD X c T W (.Call (.Name x p) (e :: es) [] pos) (mBlt h mr) :=
  imp_PE (pe_callBfun hc hg hm ha hdb he hpl) fun σ H Q ⟨z, ρ, st, w, r, q⟩ => ⟨z, ρ, st, w, r, (Pst.bnd q).imp fun xs H1 ⟨z1, st1, ds, l1, w1, rs, q1⟩ =>
    let ⟨dd, e, q2⟩ := Pst.ofO q1
    ⟨z1, st1, ds, dd, w1, rs, e, q2⟩⟩
/-! ### keywords -/
theorem imp_PK {t t' : TA} (h : PK X kws t) (i : ∀ σ H Q, t' σ H Q → t σ H Q) : PK X kws t' := ⟨fun pos pins s σ H Q I q => h.run pos pins s σ H Q I (i _ _ _ q)⟩
theorem kw_nil : PK X [] (LA c T W aNil) := imp_PK pk_nil fun σ H Q ⟨z, ρ, st, w, r, q⟩ => q z H [] (Le.refl z) w .nil
theorem kw_cons {nm : Option Str} {kpos : Pos} {me : ME} (he : PD X c T W e me) (hr : PK X kws (LA c T W mr)) : PK X (⟨nm, e, kpos⟩ :: kws) (LA c T W (aCons me mr)) :=
  imp_PK (pk_cons he hr) fun σ H Q ⟨z, ρ, st, w, r, q⟩ => ⟨z, ρ, st, w, r, (Pst.bnd q).imp fun x H1 ⟨z1, st1, dx, l1, w1, rx, q1⟩ => ⟨z1, ρ, st1, w1, r.mono l1, (Pst.bnd (R' := Rps c.toCc) q1).imp fun xs H2 ⟨z2, st2, ds, l2, w2, rs, q2⟩ => q2 z2 H2 (x :: xs) (Le.refl z2) w2 (.cons (rx.mono l2) rs)⟩⟩
theorem e_callW {m : Nat} (F : FnOk X.prog X.w X.K X.mg X.base (L2.CX X.prog X.w) k f fd ps (spB c.toCc T ps.length g)) (hr : Room k X.A) (hm : X.mg x = some (.ref f)) (hk : PySem.W.keepIn X.K (.ref f) = true) (hb : ∀ (s : Shared) (us : List Value), us.length = ps.length → BindsTo s fd ⟨[], ps.zip us⟩ (ps.zip us)) (tk : Takes X W) (ha : PK X kws (LA c T W mr)) (hpm : ps.length = m := by rfl)
    (hks : (backToKw pos (keywordEach kws X.env)).filterMap (·.1) = ps := by rfl) (hall : (backToKw pos (keywordEach kws X.env)).all (·.1.isSome) = true := by rfl)
    (hpl : ((backTo pos (starEach [] X.env)).any (·.1) || (backToKw pos (keywordEach kws X.env)).any (·.1.isNone)) = false := by rfl)
    (hg : Gl X x := by rfl) (hdb : (x == ("__debug__" : Str)) = false := by decide) : PD X c T W (.Call (.Name x p) [] kws pos) (mCall (fun ds st => if ds.length = m then g ds st else .no) mr) := by
  subst hpm
  refine ⟨fun pins s σ H Q I ⟨z, ρ, st, w, r, q⟩ => ?_⟩
  refine wpAny_Call_Name_kw (ld_glob I hg hm ?_ hdb)
  refine PySem.W.callWith_KW0 (h₀ := X.base) I.ok.mod.kin hk hall ?_ hpl
  refine thn (ha.run pos pins s σ H (fun vs H1 => ∃ z1 st1 ds, Le z z1 ∧ Wf c.toCc T z1 st1 H1 ∧ Rps c.toCc z1 vs ds ∧ PstC c.toCc T z1 (if ds.length = ps.length then g ds st1 else .no) Q (WE W σ)) I ⟨z, ρ, st, w, r, (Pst.bnd (R' := Rps c.toCc) q).imp fun vs H1 ⟨z1, st1, ds, l1, w1, rs, q1⟩ => ⟨z1, st1, ds, l1, w1, rs, PstC.of q1⟩⟩) fun us s1 ⟨vs, H1, I1, r1, z1, st1, ds, l1, w1, rd, q1⟩ => ⟨I1.kIn, ?_⟩
  rw [hks]
  split at q1
  · rename_i hl
    have hv : vs.length = ps.length := by rw [rd.len]; exact hl
    refine wpAny_call (codeAny_mono (F.run X.A X.stack s1 H1 ⟨[], ps.zip us⟩ us vs Q (WE W σ) hr I1.env0 (hb s1 us (by rw [← r1.length]; exact hv)) r1 ⟨hv, z1, st1, ds, w1, rd, q1⟩) fun r s' hq => ?_)
    cases r with
    | error e => exact passAt tk σ pins H1 s1 e s' I1 hq
    | ok fl =>
      cases fl with
      | ret u => exact I1.after hq
      | next => exact False.elim hq
      | brk => exact False.elim hq
      | cont => exact False.elim hq
  · exact q1.elim
theorem At.kwAll {K : PySem.W.Frag} {mg : Str → Option Value} {x : Str} {st : Stmt} {ps : List Str} {f : Addr} {fd : FuncData} (F : At K mg x st ps f fd) (h : ∀ (kV doc pm : Value) (an : Option Addr) (cdv ct : Value) (us : List Value), us.length = ps.length → bindArgs (PySem.W.fnOf x x (defArgs st) (defBody st) (defScope st) .none kV doc pm an cdv ct) ⟨[], ps.zip us⟩ = pure (ps.zip us)) (s : Shared) (us : List Value) (hl : us.length = ps.length) : BindsTo s fd ⟨[], ps.zip us⟩ (ps.zip us) := by
  obtain ⟨oc, od, kV, doc, pm, an, cdv, ct, osl, rfl, lk, hcd⟩ := F.fn.ex
  exact .of_eq (h kV doc pm an cdv ct us hl)
/-! ### a default -/
/-- a def whose last parameter has a number for a default -/
structure AtD (K : PySem.W.Frag) (mg : Str → Option Value) (x : Str) (st : Stmt) (ps : List Str) (f : Addr) (fd : FuncData) (i : Int) : Prop where
  mg : mg x = some (.ref f)
  kp : PySem.W.keepIn K (.ref f) = true
  bd : Binds K fd ps []
  bd1 : ∃ t, Binds K fd ps [.int i t]
  ex : ∃ (oc : Value) (od : Option Addr) (dV kV doc pm : Value) (an : Option Addr) (cdv ct : Value) (osl : Array (Option Value)), fd = PySem.W.fnOf x x (defArgs st) (defBody st) (defScope st) dV kV doc pm an cdv ct ∧ K.lookup f = some ⟨oc, od, .func fd, osl⟩ ∧ PySem.W.codeIn K cdv x = true
theorem atD_mk {K : PySem.W.Frag} {h : Heap} {mg : Str → Option Value} {x : Str} {st : Stmt} {ps : List Str} {f TT : Addr} {oc kV doc pm cd ct cT : Value} {od an dT : Option Addr} {osl sT : Array (Option Value)} {n : Nat} {i : Int} {t : Tok} (X : K.In h) (G : h.Ns mainGlobals mg) (a : PySem.W.nsIn K mainGlobals x = some (some (.ref f)))
    (l : K.lookup f = some ⟨oc, od, .func (PySem.W.fnOf x x (defArgs st) (defBody st) (defScope st) (.ref TT) kV doc pm an cd ct), osl⟩) (lT : K.lookup TT = some ⟨cT, dT, .seq #[.int i t] n, sT⟩) (c : PySem.W.codeIn K cd x = true) (k : PySem.W.keepIn K (.ref f) = true)
    (b : ∀ (T0 : Addr) (kV doc pm : Value) (an : Option Addr) (cdv ct : Value) (us : List Value), us.length = ps.length → ∃ k, bindArgs (PySem.W.fnOf x x (defArgs st) (defBody st) (defScope st) (.ref T0) kV doc pm an cdv ct) ⟨us, []⟩ = seqItems? (.ref T0) >>= k ∧ k (some #[.int i t]) = pure (ps.zip us))
    (b1 : ∀ (T0 : Addr) (kV doc pm : Value) (an : Option Addr) (cdv ct : Value) (us : List Value), us.length + 1 = ps.length → ∃ k, bindArgs (PySem.W.fnOf x x (defArgs st) (defBody st) (defScope st) (.ref T0) kV doc pm an cdv ct) ⟨us, []⟩ = seqItems? (.ref T0) >>= k ∧ k (some #[.int i t]) = pure (ps.zip (us ++ [.int i t]))) :
    AtD K mg x st ps f (PySem.W.fnOf x x (defArgs st) (defBody st) (defScope st) (.ref TT) kV doc pm an cd ct) i := by
  refine ⟨PySem.W.mg_of X G a, k, fun s us X hl => ?_, ⟨t, fun s us X hl => ?_⟩, ⟨oc, od, .ref TT, kV, doc, pm, an, cd, ct, osl, rfl, l, c⟩⟩
  · rw [List.append_nil] at hl ⊢
    obtain ⟨k, h1, h2⟩ := b TT kV doc pm an cd ct us hl
    refine BindsTo.of_looks fun M => ?_
    rw [h1]
    exact looks_items X lT rfl (by rw [h2]; exact PySem.W.Looks.of_pure rfl)
  · rw [List.length_append] at hl
    obtain ⟨k, h1, h2⟩ := b1 TT kV doc pm an cd ct us hl
    refine BindsTo.of_looks fun M => ?_
    rw [h1]
    exact looks_items X lT rfl (by rw [h2]; exact PySem.W.Looks.of_pure rfl)
/-- such a def walked -/
theorem bwD {P : Program} {w : World} {K : PySem.W.Frag} {mg : Str → Option Value} {base : Heap} {N ps : List Str} {c : Cc} {st : Stmt} {i : Int} {k : Nat} (F : AtD K mg x st ps f fd i) (S : FnScope N ps (defScope st)) (m : MS)
    (hbody : ∀ (cdv : Value) (A : Around) (S1 : List PySem.Env) (s : Shared) (H : Hp) (E : XK) (z : Zw), Room k (A.deeper (envOfC x (defScope st) s.heap.objs.size f cdv)) → SsD (cxOf (L2.CX P w) P w K mg base N x (defScope st) f cdv A S1 s H E) ⟨c, none, none, z⟩ T (fun cls dd _ H => E cls dd H) (defBody st) m) :
    FnOk P w K mg base (L2.CX P w) (k + 1) f fd ps (spB c T ps.length fun ds st => bodyR (m (envE N.length (ds.map some)) st)) := by
  obtain ⟨oc, od, dV, kV, doc, pm, an, cdv, ct, osl, rfl, lk, hcd⟩ := F.ex
  exact fnB lk hcd S m fun A S1 s H E z hr => hbody cdv A S1 s H E z hr
theorem act_endB {pins : List (Addr × Obj)} {σ : L2.St} {H : Hp} {s : Shared} {Q : VK} {a : Addr} {ar : Args} (tk : Takes X W) (I : L2.Inv X pins σ H s) (h : codeAny (model X.prog X.w) X.A (.call (.ref a) ar) (CR (L2.CX X.prog X.w) X.stack X.prog X.w H s Q (WE W σ)) s) :
    codeAny (model X.prog X.w) X.A (.call (.ref a) ar) (wants (EP X pins σ Q) X.xe) s := codeAny_mono h fun r s' hq => by
  cases r with
  | error e => exact passAt tk σ pins H s e s' I hq
  | ok fl =>
    cases fl with
    | ret u => exact I.after hq
    | next => exact False.elim hq
    | brk => exact False.elim hq
    | cont => exact False.elim hq
/-- f(e, ..) with the last parameter left out -/
theorem e_callD {m : Nat} {i : Int} (F : FnOk X.prog X.w X.K X.mg X.base (L2.CX X.prog X.w) k f fd ps (spB c.toCc T ps.length g)) (hr : Room k X.A) (hm : X.mg x = some (.ref f)) (hk : PySem.W.keepIn X.K (.ref f) = true) (hb : ∃ t, Binds X.K fd ps [.int i t]) (tk : Takes X W) (ha : PA X (e :: es) (LA c T W mr)) (hpm : ps.length = m + 1 := by rfl)
    (hg : Gl X x := by rfl) (hdb : (x == ("__debug__" : Str)) = false := by decide) (he : starEach (e :: es) X.env = (false, eval e X.env) :: starEach es X.env := by rfl) (hpl : (backTo pos (starEach es X.env)).any (·.1) = false := by rfl) : PD X c T W (.Call (.Name x p) (e :: es) [] pos) (mCall (fun ds st => if ds.length = m then g (ds ++ [.int i]) st else .no) mr) := by
  obtain ⟨t, hb⟩ := hb
  refine ⟨fun pins s σ H Q I ⟨z, ρ, st, w, r, q⟩ => ?_⟩
  refine wpAny_Call_Name_kw (ld_glob I hg hm ?_ hdb)
  refine PySem.W.callWith_K (h₀ := X.base) I.ok.mod.kin hk (thn (ha.run pos pins s σ H (fun vs H2 => ∃ z2 st2 ds, Le z z2 ∧ Wf c.toCc T z2 st2 H2 ∧ Rps c.toCc z2 vs ds ∧ PstC c.toCc T z2 (if ds.length = m then g (ds ++ [.int i]) st2 else .no) Q (WE W σ)) I
    ⟨z, ρ, st, w, r, (Pst.bnd (R' := Rps c.toCc) q).imp fun xs H2 ⟨z2, st2, ds, l2, w2, rs, q2⟩ => ⟨z2, st2, ds, l2, w2, rs, PstC.of q2⟩⟩) fun us s2 ⟨vs, H2, I2, rv, z2, st2, ds, l2, w2, rd, q2⟩ => ⟨I2.kIn, ?_⟩) he hpl
  split at q2
  · rename_i hl
    have hvl : (vs ++ [V.int i]).length = ps.length := by rw [List.length_append, rd.len, hl, hpm]; rfl
    have hul : (us ++ [Value.int i t]).length = ps.length := by rw [List.length_append, ← rv.length, rd.len, hl, hpm]; rfl
    have rv' : Vals (vs ++ [V.int i]) (us ++ [Value.int i t]) := rv.append (.cons ⟨t, rfl⟩ .nil)
    exact act_end tk I2 (F.run X.A X.stack s2 H2 ⟨us, []⟩ (us ++ [.int i t]) (vs ++ [.int i]) Q (WE W σ) hr I2.env0 (hb s2 us I2.kIn hul) rv' ⟨hvl, z2, st2, _, w2, rd.app (.cons (.int i) .nil), q2⟩)
  · exact q2.elim
end
/-! ### xs[::-1] -/
theorem adjust_rev (n : Nat) : Builtin.Slice.sliceAdjust none none (-1) (n : Int) = ((n : Int) - 1, -1) := by
  unfold Builtin.Slice.sliceAdjust
  simp
theorem places_rev (n : Nat) : Builtin.Slice.slicePlaces ((n : Int) - 1) (-1) (-1) = n := by
  unfold Builtin.Slice.slicePlaces
  simp only [show ¬ ((-1 : Int) > 0) from by omega, if_false]
  by_cases h : (n : Int) - 1 > -1
  · rw [if_pos h]
    have : ((n : Int) - 1 - -1 - 1) / (- -1) + 1 = n := by
      have e : (- -1 : Int) = 1 := by decide
      rw [e, Int.ediv_one]
      omega
    rw [this]
    omega
  · rw [if_neg h]
    omega
theorem pick_rev {α : Type} (xs : List α) : ((List.range xs.length).filterMap fun (m : Nat) => xs[((xs.length : Int) - 1 + (m : Int) * (-1)).toNat]?) = xs.reverse := by
  refine List.ext_getElem? fun i => ?_
  have e : (fun (m : Nat) => xs[((xs.length : Int) - 1 + (m : Int) * (-1)).toNat]?) = fun m => xs[xs.length - 1 - m]? := by
    funext m
    by_cases h : m < xs.length
    · have : ((xs.length : Int) - 1 + (m : Int) * (-1)).toNat = xs.length - 1 - m := by omega
      rw [this]
    · have h1 : ((xs.length : Int) - 1 + (m : Int) * (-1)).toNat = 0 := by omega
      have h2 : xs.length - 1 - m = 0 := by omega
      rw [h1, h2]
  rw [e]
  have e2 : (List.range xs.length).filterMap (fun m => xs[xs.length - 1 - m]?) = (List.range xs.length).filterMap (fun m => xs.reverse[m]?) := by
    have cg : ∀ l : List Nat, (∀ m ∈ l, m < xs.length) → l.filterMap (fun m => xs[xs.length - 1 - m]?) = l.filterMap (fun m => xs.reverse[m]?) := by
      intro l
      induction l with
      | nil => intro _; rfl
      | cons m l ih =>
        intro hl
        rw [List.filterMap_cons, List.filterMap_cons, ih fun y hy => hl y (List.mem_cons_of_mem _ hy), List.getElem?_reverse (hl m List.mem_cons_self)]
    exact cg _ fun m hm => List.mem_range.mp hm
  rw [e2]
  have e3 : ∀ ys : List α, (List.range ys.length).filterMap (fun m => ys[m]?) = ys := by
    intro ys
    induction ys with
    | nil => rfl
    | cons y ys ih =>
      rw [List.length_cons, List.range_succ_eq_map, List.filterMap_cons, List.filterMap_map]
      show y :: _ = _
      congr 1
  have := e3 xs.reverse
  rw [List.length_reverse] at this
  rw [this]
end Bw
set_option linter.all false
set_option autoImplicit false
set_option maxRecDepth 100000
set_option maxHeartbeats 2000000
/-! xs[::-1] of tuples and lists. -/
namespace Bw
open PySem PySem.Spec PyProof.Rows L2 HT
section
variable {prog : Program} {w : World} {A : Around} {E : Value → Shared → Prop} {s : Shared}
theorem applied_rev {sl : Addr} {n : Nat} {t : Tok} {Q : Int × Int × Nat → Shared → Prop} (hs : s.heap.IsSliceOf sl .none .none (.int (-1) t)) (h : Q ((n : Int) - 1, -1, n) s) : wpAny (model prog w) A (Builtin.Slice.sliceApplied (.ref sl) (pure (n : Int))) Q E s := by
  obtain ⟨os, hos, hcs, hds⟩ := id hs
  unfold Builtin.Slice.sliceApplied Builtin.Slice.sliceFields
  refine wpAny_bind (wpAny_bind (wpAny_field hos hds (x := .none) rfl (wpAny_bind (wpAny_field hos hds (x := .none) rfl (wpAny_bind (wpAny_field hos hds (x := .int (-1) t) rfl (wpAny_pure ?_)))))))
  refine wpAny_bind (slicePart_int ?_)
  show wpAny _ _ (if ((-1 : Int) == 0) = true then _ else _) _ _ s
  rw [if_neg (by decide)]
  refine wpAny_bind (slicePart_none (wpAny_bind (slicePart_none (wpAny_bind (wpAny_pure ?_)))))
  show wpAny _ _ (match Builtin.Slice.sliceAdjust none none (-1) (n : Int) with | (lo, hi) => pure (lo, (-1 : Int), Builtin.Slice.slicePlaces lo hi (-1))) _ _ s
  rw [adjust_rev n]
  show wpAny _ _ (pure ((n : Int) - 1, (-1 : Int), Builtin.Slice.slicePlaces ((n : Int) - 1) (-1) (-1))) _ _ s
  rw [places_rev]
  exact wpAny_pure h
theorem getItem_tuple_rev {t sl : Addr} {items : Array Value} {tk : Tok} {Q : Value → Shared → Prop} (ht : IsTup s.heap t items) (hs : s.heap.IsSliceOf sl .none .none (.int (-1) tk))
    (h : Q (.ref s.heap.objs.size) { s with heap := s.heap.push { cls := .type "tuple", data := .seq items.toList.reverse.toArray } })
    (hsz : items.size ≤ sizeLine) : wpAny (model prog w) A (getItem (.ref t) (.ref sl)) Q E s := by
  have htake : sizeOk (.seq items.toList.reverse.toArray) := by
    show items.toList.reverse.toArray.size ≤ sizeLine
    rw [List.size_toArray, List.length_reverse, Array.length_toList]
    exact hsz
  obtain ⟨os, hos, hcs, hds⟩ := id hs
  have hTs : s.TypeIs (.ref sl) "slice" := ⟨os, hos, hcs⟩
  unfold getItem
  try with_reducible refine wpAny_holding ?_
  first | refine wpAny_bind (wpAny_pure ?_) | skip
  refine wpAny_bind (wpAny_sequenceKey ht.typeIs (by decide) ?_)
  refine wpAny_bind (wpAny_callSpecial?_slot (name := Str.ofString "__getitem__") ht.typeIs PyProof.Rows.slot_tuple_getitem
    (wpAny_call_entry PyProof.Rows.slot_tuple_getitem ht.typeIs entry_tuple_getitem ?_ (args_tuple_getitem _ _)))
  show wpAny _ _ (Builtin.Tuple.tupleItemsOf (.ref t) >>= _) _ _ s
  refine wpAny_bind (tupleItemsOf_ ht ?_)
  refine wpAny_bind (wpAny_typeOf hTs ?_)
  rw [if_pos (by decide)]
  refine wpAny_bind (applied_rev (n := items.size) hs ?_)
  have hno : ¬ ((((items.size : Int) - 1) == 0 && (-1 : Int) == 1 && items.size == items.size) = true) := by
    have h1 : ((-1 : Int) == 1) = false := by decide
    rw [h1, Bool.and_false, Bool.false_and]
    exact Bool.false_ne_true
  show wpAny _ _ (if (((items.size : Int) - 1) == 0 && (-1 : Int) == 1 && items.size == items.size) = true then _ else _) _ _ s
  have pr : ((List.range items.size).filterMap fun (m : Nat) => items[((items.size : Int) - 1 + (m : Int) * (-1)).toNat]?).toArray = items.toList.reverse.toArray := by
    have := pick_rev items.toList
    rw [Array.length_toList] at this
    rw [← this]
    congr 2
    funext m
    exact (Array.getElem?_toList).symm
  rw [if_neg hno, pr]
  exact wpAny_bind (m := Builtin.Tuple.tupleExact _) (wpAny_newObj_type (wpAny_pure ⟨_, rfl, wpAny_pure h⟩) htake)
end
section
variable {X : Cx}
def tRevT (K : PySem.W.Frag) (te : TE) : TE := fun σ H Q => te σ H fun x H1 => ∃ a xs, x = .ref a ∧ SqT K H1 a xs ∧ ∀ p, H1 p = none → Q (.ref p) (upd H1 p (.tup xs.reverse))
theorem pe_revT {e : PySem.Expr} {te : TE} {k : Nat} {p1 p2 p3 pos : Pos} (he : PE X e te) : PE X (.Subscript e (.Slice none none (some (.UnaryOp .USub (.Constant (.int 1) k p1) p2)) p3) pos) (tRevT X.K te) := by
  refine ⟨fun pins s σ H Q I h => ?_⟩
  refine Subscript_ (thn (he.run pins s σ H _ I h) fun v s1 ⟨x, H1, I1, r1, q1⟩ => ?_)
  obtain ⟨a, xs, ex, hx, q⟩ := q1
  subst ex
  cases r1
  have hst : PO X (some (.UnaryOp .USub (.Constant (.int 1) k p1) p2)) (tPart (tUn (rU fun i => .int (-i)) (tC (.int 1)))) := po_some (pe_un un_neg pe_int)
  refine wpAny_Slice (thn (po_none.run pins s1 σ H1 (fun o H2 => o = none ∧ H2 = H1) I1 ⟨rfl, rfl⟩) fun vl s2 ⟨l, H2, I2, pl, el, e2⟩ => ?_)
  subst el e2
  refine thn (po_none.run pins s2 σ H2 (fun o H3 => o = none ∧ H3 = H2) I2 ⟨rfl, rfl⟩) fun vu s3 ⟨u, H3, I3, pu, eu, e3⟩ => ?_
  subst eu e3
  refine thn (hst.run pins s3 σ H3 (fun o H4 => o = some (-1) ∧ H4 = H3) I3 ⟨1, rfl, -1, rfl, rfl, rfl⟩) fun vs s4 ⟨o, H4, I4, ps, eo, e4⟩ => ?_
  subst eo e4
  have I5 : L2.Inv X pins σ H4 { s4 with heap := s4.heap.push { cls := .type "slice", data := .fields #[vl, vu, vs] } } := I4.kept (t' := s4.toks) fun b ob q => Heap.get?_push_of_some _ q
  obtain ⟨its, r, ht, hz⟩ := I5.tuple hx
  have hlen := r.length
  cases pl
  cases pu
  obtain ⟨tk, rfl⟩ : ∃ tk, vs = .int (-1) tk := by cases ps with | int i t => exact ⟨t, rfl⟩
  show wpAny (model X.prog X.w) X.A (subscriptTail e (.Slice none none (some (.UnaryOp .USub (.Constant (.int 1) k p1) p2)) p3) (.ref a) (.ref s4.heap.objs.size)) (EP X pins σ Q) X.xe { s4 with heap := s4.heap.push { cls := .type "slice", data := .fields #[.none, .none, .int (-1) tk] } }
  refine tail_any (ops := [.ref a, .ref s4.heap.objs.size]) ht.typeIs (PyProof.Rows.slot_tuple_getitem.lookup) ?_ (by with_unfolding_all rfl)
  refine getItem_tuple_rev ht (Heap.IsSliceOf.new _ .none .none _) ?_ (by rw [List.size_toArray]; omega)
  refine ⟨.ref _, _, I5.laid (t' := s4.toks) (o := .tup xs.reverse) (fun b ob q => Heap.get?_push_of_some _ q) (Nat.le_refl _) ?_, rfl, q _ (I5.hok.fresh (Nat.le_refl _))⟩
  refine ⟨by rw [List.length_reverse]; exact hz, its.reverse, r.reverse, ?_⟩
  have : (List.toArray its).toList.reverse.toArray = its.reverse.toArray := rfl
  exact IsTup.new _ _
variable {c : Fc} {T : List (Addr × Str)} {W : WX} {e : PySem.Expr} {ma : ME}
def revD : D → Store → Option D := fun d st => match d with
  | .tup ds => some (.tup ds.reverse)
  | .lst ds => some (.lst ds.reverse)
  | .ref n => match st[n]? with
    | some (.lst ds) => some (.lst ds.reverse)
    | _ => none
  | _ => none
theorem e_rev {k : Nat} {p1 p2 p3 pos : Pos} (hK : X.K = c.K) (ha : PD X c T W e ma) : PD X c T W (.Subscript e (.Slice none none (some (.UnaryOp .USub (.Constant (.int 1) k p1) p2)) p3) pos) (mUn revD ma) := by
  refine ⟨fun pins s σ H Q I ⟨z, ρ, st, w, r, q⟩ => ?_⟩
  unfold mUn at q
  cases e1 : ma ρ st with
  | no => rw [e1] at q; exact q.elim
  | er x st' => rw [e1] at q; exact (pe_revL ha).run pins s σ H Q I ⟨z, ρ, st, w, r, by rw [e1]; exact q⟩
  | ok dd st' =>
    rw [e1] at q
    obtain ⟨d2, e2, q'⟩ := Pst.ofO (show Pst (Rp c.toCc) c T W z σ (ofO (revD dd st') st') Q from q)
    by_cases ht : ∃ ds, dd = .tup ds
    · obtain ⟨ds, rfl⟩ := ht
      cases e2
      refine (pe_revT ha).run pins s σ H Q I ⟨z, ρ, st, w, r, ?_⟩
      rw [e1]
      intro z' H' v l w' rv
      cases rv with
      | tup s1 rs =>
        refine ⟨_, _, rfl, by rw [hK]; exact w'.tup s1, fun p hp => ?_⟩
        obtain ⟨l2, w2, r2⟩ := w'.newTup hp rs.rev
        exact q' _ _ _ (l.trans l2) w2 r2
    · refine (pe_revL ha).run pins s σ H Q I ⟨z, ρ, st, w, r, ?_⟩
      rw [e1]
      intro z' H' v l w' rv
      unfold revD at e2
      split at e2
      · exact absurd ⟨_, rfl⟩ ht
      · cases e2
        cases rv with
        | lst s1 rs =>
          refine ⟨_, _, rfl, .inl (.inl (w'.sub _ _ s1)), fun p hp => ?_⟩
          obtain ⟨l2, w2, r2⟩ := w'.newLst hp rs.rev
          exact q' _ _ _ (l.trans l2) w2 r2
      · split at e2
        · rename_i hk
          cases e2
          cases rv with
          | ref e3 =>
            obtain ⟨_, vs, k1, k2⟩ := w'.obj _ _ _ e3 hk
            refine ⟨_, _, rfl, .inl (.inl k1), fun p hp => ?_⟩
            obtain ⟨l2, w2, r2⟩ := w'.newLst hp k2.rev
            exact q' _ _ _ (l.trans l2) w2 r2
        · cases e2
      · cases e2
end
end Bw
set_option linter.all false
set_option autoImplicit false
set_option maxRecDepth 100000
set_option maxHeartbeats 2000000
/-! What a printed walk leans on, second part. -/
namespace Bw
open PySem PySem.Spec PyProof.Rows L2 LamX
/-- the bodies, one behind another -/
inductive HbL (X : Cx) (c : Fc) (T : List (Addr × Str)) (W : WX) (body : List Stmt) : List (Zw → Addr → Prop) → List MS → Prop
  | nil : HbL X c T W body [] []
  | cons {Kn : Zw → Addr → Prop} {m : MS} {Ks : List (Zw → Addr → Prop)} {ms : List MS} : MonK Kn → (∀ (z1 : Zw) (f : Addr), Kn z1 f → Lg c.z0 z1 → SsD X (c.cal f z1) T W body m) → HbL X c T W body Ks ms → HbL X c T W body (Kn :: Ks) (m :: ms)
section
variable {X : Cx} {c : Fc} {T : List (Addr × Str)} {W : WX} {pos p px lpos : Pos} {es : List PySem.Expr} {mr : MA}
theorem HbL.len {body : List Stmt} {Ks : List (Zw → Addr → Prop)} {ms : List MS} (h : HbL X c T W body Ks ms) : Ks.length = ms.length := by
  induction h with
  | nil => rfl
  | cons _ _ _ ih => rw [List.length_cons, List.length_cons, ih]
theorem HbL.mon {body : List Stmt} {Ks : List (Zw → Addr → Prop)} {ms : List MS} (h : HbL X c T W body Ks ms) : ∀ Kn ∈ Ks, MonK Kn := by
  induction h with
  | nil => intro _ h; cases h
  | cons hm _ _ ih =>
    intro K hK
    rcases List.mem_cons.mp hK with rfl | hK
    · exact hm
    · exact ih K hK
theorem HbL.at_ {body : List Stmt} {Ks : List (Zw → Addr → Prop)} {ms : List MS} (h : HbL X c T W body Ks ms) : ∀ (j : Nat) (Kn : Zw → Addr → Prop) (m : MS), Ks[j]? = some Kn → ms[j]? = some m → ∀ (z1 : Zw) (f : Addr), Kn z1 f → Lg c.z0 z1 → SsD X (c.cal f z1) T W body m := by
  induction h with
  | nil => intro j K m e _; simp at e
  | cons _ hb _ ih =>
    intro j K m e1 e2
    cases j with
    | zero =>
      have e1' := Option.some.inj (show some _ = some K from e1)
      have e2' := Option.some.inj (show some _ = some m from e2)
      subst e1' e2'
      exact hb
    | succ j => exact ih j K m e1 e2
theorem s_forLL (i : Nat) {x : Str} {body : List Stmt} {Ks : List (Zw → Addr → Prop)} {ms : List MS} (hp : PassesOwn (model X.prog X.w) X.A X.env X.xe) (hc : X.calm = true) (hcK : c.K = X.K) (ha : PA X es (TKs c T Ks)) (hN : X.N.Nodup) (hb : HbL X c T W body Ks ms)
    (hsz : es.length ≤ 1000 := by exact Nat.le_of_ble_eq_true rfl) (hi : X.N[i]? = some x := by rfl) (hx : Loc X.env.scope x := by first | exact Or.inl rfl | exact Or.inr rfl) (hf : X.fn x = true ∨ X.env.scope.names.lookup x = some .local := by first | exact .inl rfl | exact .inr rfl)
    (hs : ∀ x, foldedSetIterable (.List es p) X.env x = pure x := by intro _; rfl) (hK : Ks.length ≤ 1000 := by exact Nat.le_of_ble_eq_true rfl) : SD X c T W (.For (.Name x px) (.List es p) body [] pos) (sForL i ms) :=
  s_forL i hp hc hcK ha hb.len hb.mon hN hb.at_ hsz hi hx hf hs hK
theorem with_at {body : List Stmt} {m : MS} {k : Nat} {a : Addr} {g : Clo} (h : AtClos X c T k a g) (b : AtClos X c T k a g → SsD X c T W body m) : SsD X c T W body m := b h
theorem at_fn {k : Nat} {f0 f1 : Addr} {z1 : Zw} {g : Clo} (kn : KFn f0 z1 f1) (h : AtClos X c T k f0 g) : AtClos X c T k f1 g := by
  have e : f1 = f0 := kn
  rw [e]
  exact h
theorem fn_atF {k m : Nat} {f : Addr} {fd : FuncData} {ps : List Str} {g : List D → Store → Res D} {x : Str} {st : Stmt} (F : L2.Fun X.K x x st f fd) (hb : Binds X.K fd ps []) (G : FnOk X.prog X.w X.K X.mg X.base (L2.CX X.prog X.w) k f fd ps (spB c.toCc T ps.length g)) (hm : ps.length = m := by rfl) : AtClos X c T k f (fun ds st => if ds.length = m then g ds st else .no) := by
  obtain ⟨⟨oc, od, kV, doc, pm, an, cdv, ct, osl, rfl, lk, hcd⟩, _⟩ := F
  exact fn_at G lk hb hm
theorem e_passC (i : Nat) {x y : Str} {g a : Addr} {k kb m : Nat} {fd : FuncData} {ps : List Str} {G : Clo → List D → Store → Res D} {py : Pos} {gc : Clo} (hca : c.ca = some a) (ho : AtClos X c T kb a gc) (F : FnC X.prog X.w X.K X.mg X.base c.toCc T k g fd ps G) (hr : Room (k + kb) X.A) (hm : X.mg x = some (.ref g)) (hk : PySem.W.keepIn X.K (.ref g) = true)
    (hb : Binds X.K fd ps []) (tk : Takes X W) (hpm : ps.length = m)
    (ha : PA X es (LA c T W mr)) (hN : X.N[i]? = some y := by rfl) (hv : Vis X.env.scope y := by first | exact Or.inl rfl | exact Or.inr (Or.inl rfl) | exact Or.inr (Or.inr rfl)) (hd : (y == ("__debug__" : Str)) = false := by decide) (hcd : (y == ("__classdict__" : Str)) = false := by decide)
    (hg : Gl X x := by rfl) (hdb : (x == ("__debug__" : Str)) = false := by decide) (he : starEach (.Name y py :: es) X.env = (false, eval (.Name y py) X.env) :: starEach es X.env := by rfl) (hpl : (backTo pos (starEach es X.env)).any (·.1) = false := by rfl) :
    PD X c T W (.Call (.Name x p) (.Name y py :: es) [] pos) (mPass i (fun gc ds st => if ds.length + 1 = m then G gc ds st else .no) (fun _ => gc) mr) :=
  e_pass i hca F hr hm hk hb tk hpm (fun pins s σ H z ρ I r => ho pins s σ H z I r.le) ha hN hv hd hcd hg hdb he hpl
theorem e_passL (i : Nat) {x y : Str} {g a : Addr} {k kb m n : Nat} {fd : FuncData} {ps : List Str} {G : Clo → List D → Store → Res D} {py : Pos} {params : Arguments} {body : PySem.Expr} {scope : Scope} {as : List Str} {dn : Bool} {ms : List Bool} {mb : ME} (hca : c.ca = some a) (kn : LamK dn (X.env.qual ++ "<lambda>") params body scope (cloFrom X.env.cells scope.names []) c.z0 a) (L : LamP X.env.scope scope as) (hB : LamBind dn n as params body scope) (hms : capt X.N scope = ms) (hbody : BodyOk X c T kb scope as body mb)
    (F : FnC X.prog X.w X.K X.mg X.base c.toCc T k g fd ps G) (hr : Room (k + (kb + 1)) X.A) (hm : X.mg x = some (.ref g)) (hk : PySem.W.keepIn X.K (.ref g) = true)
    (hb : Binds X.K fd ps []) (tk : Takes X W) (hpm : ps.length = m)
    (ha : PA X es (LA c T W mr)) (hN : X.N[i]? = some y := by rfl) (hv : Vis X.env.scope y := by first | exact Or.inl rfl | exact Or.inr (Or.inl rfl) | exact Or.inr (Or.inr rfl)) (hd : (y == ("__debug__" : Str)) = false := by decide) (hcd : (y == ("__classdict__" : Str)) = false := by decide)
    (hg : Gl X x := by rfl) (hdb : (x == ("__debug__" : Str)) = false := by decide) (he : starEach (.Name y py :: es) X.env = (false, eval (.Name y py) X.env) :: starEach es X.env := by rfl) (hpl : (backTo pos (starEach es X.env)).any (·.1) = false := by rfl) :
    PD X c T W (.Call (.Name x p) (.Name y py :: es) [] pos) (mPass i (fun gc ds st => if ds.length + 1 = m then G gc ds st else .no) (fun ρ => lamD dn n ms mb ρ) mr) := by
  subst hms
  exact e_pass i hca F hr hm hk hb tk hpm (fun pins s σ H z ρ I r => lamK_clos I L hB r (kn.mono r.le) hbody) ha hN hv hd hcd hg hdb he hpl
/-- a lambda of some parameters -/
theorem lamBnf {params : Arguments} {body : PySem.Expr} {scope : Scope} {n : Nat} {as : List Str} (hk : ∀ (us : List Value), us.length = n → ∀ (q : Str) (cl : List (Str × Addr)) (pm cdv ct : Value), bindArgs (BwX.lamFn .none q params body scope cl pm cdv ct) ⟨us, []⟩ = pure (as.zip us)) (hl : as.length = n) : LamBind false n as params body scope := ⟨by rw [hl]; rfl, fun q cl pm cdv ct dV s us hlen hd => by
  have hd : dV = .none := hd
  subst hd
  have e : us ++ dfU false = us := List.append_nil us
  rw [e]
  exact .of_eq (hk us hlen q cl pm cdv ct)⟩
end
end Bw
set_option Elab.async false
set_option linter.all false
set_option autoImplicit false
set_option maxRecDepth 100000
set_option maxHeartbeats 4000000
/-! list(zip(..)) of tuples and of lists, at the library's level. -/
namespace ZpL
open PySem PySem.Spec PyProof.Rows
open PySem.Sem (wp)
open RZ (nextOf_tuple_item nextOf_tuple_end)
/-- a tuple (t) or a list -/
def SqAt (t : Bool) (h : Heap) (l : Addr) (xs : Array Value) : Prop := if t = true then h.IsTuple l xs else h.IsList l xs
def SqIt (t : Bool) (h : Heap) (i l : Addr) (k : Nat) : Prop := if t = true then h.IsTupleIter i l k else h.IsListIter i l k
theorem SqAt.at {t : Bool} {h h' : Heap} {l : Addr} {xs : Array Value} (x : SqAt t h l xs) (e : ∀ o, h.get? l = some o → h'.get? l = some o) : SqAt t h' l xs := by
  cases t
  · exact Heap.IsList.at x e
  · exact Heap.IsTuple.at x e
theorem SqIt.at {t : Bool} {h h' : Heap} {i l : Addr} {k : Nat} (x : SqIt t h i l k) (e : ∀ o, h.get? i = some o → h'.get? i = some o) : SqIt t h' i l k := by
  cases t
  · exact Heap.IsListIter.at x e
  · exact Heap.IsTupleIter.at x e
theorem SqAt.lt {t : Bool} {h : Heap} {l : Addr} {xs : Array Value} (x : SqAt t h l xs) : l < h.objs.size := by
  cases t <;> exact (let ⟨_, e, _⟩ := x; Heap.lt_size e)
theorem SqIt.lt {t : Bool} {h : Heap} {i l : Addr} {k : Nat} (x : SqIt t h i l k) : i < h.objs.size := by
  cases t <;> exact (let ⟨_, e, _⟩ := x; Heap.lt_size e)
section
variable {prog : Program} {w : World} {A : Around} {E : Value → Shared → Prop} {s : Shared}
theorem sq_item {t : Bool} {it l : Addr} {i : Nat} {items : Array Value} {x : Value} {Q : Value → Shared → Prop} (hit : SqIt t s.heap it l i) (hl : SqAt t s.heap l items) (hx : items[i]? = some x)
    (hQ : ∀ h', SqIt t h' it l (i + 1) → Heap.SameBut it s.heap h' → Q x { s with heap := h' }) : wpAny (model prog w) A (Builtin.SmallTypes.nextOf (.ref it)) Q E s := by
  cases t
  · exact wpAny_nextOf_list_item hit hl hx hQ
  · exact nextOf_tuple_item hit hl hx hQ
theorem sq_end {t : Bool} {it l : Addr} {i : Nat} {items : Array Value} {Q : Value → Shared → Prop} (hh : A.handled = none) (hit : SqIt t s.heap it l i) (hl : SqAt t s.heap l items) (hx : items[i]? = none)
    (hE : ∀ h' e, Heap.ExtBut it s.heap h' → (∃ o, h'.get? e = some o ∧ o.cls = .type "StopIteration") → E (.ref e) { s with heap := h' }) : wpAny (model prog w) A (Builtin.SmallTypes.nextOf (.ref it)) Q E s := by
  cases t
  · exact wpAny_nextOf_list_end hh hit hl hx hE
  · exact nextOf_tuple_end hh hit hl hx hE
variable {t1 t2 : Bool} {z TI TO i1 i2 l1 l2 : Addr} {k1 k2 : Nat} {xs ys : Array Value} {x y a b : Value}
theorem fresh_item {Q : Value → Shared → Prop} (D : ZipApart z TI TO i1 i2 l1 l2) (hz : IsZip s.heap z TI TO .none) (hTI : IsPair s.heap TI (.ref i1) (.ref i2)) (hTO : IsPair s.heap TO a b)
    (h1 : SqIt t1 s.heap i1 l1 k1) (h2 : SqIt t2 s.heap i2 l2 k2) (hl1 : SqAt t1 s.heap l1 xs) (hl2 : SqAt t2 s.heap l2 ys) (hx : xs[k1]? = some x) (hy : ys[k2]? = some y)
    (hQ : ∀ h', IsZipHeld h' z TI TO s.heap.objs.size false → SqIt t1 h' i1 l1 (k1 + 1) → SqIt t2 h' i2 l2 (k2 + 1) → IsPair h' s.heap.objs.size x y → h'.objs.size = s.heap.objs.size + 1 →
      (∀ c o, c ≠ z → c ≠ TO → c ≠ i1 → c ≠ i2 → s.heap.get? c = some o → h'.get? c = some o) → Q (.ref s.heap.objs.size) { s with heap := h' }) :
    wpAny (model prog w) A (Builtin.«zip.__next__» ⟨[.ref z], []⟩) (fun fin s' => ∃ v, fin = .done (.ret v) ∧ Q v s') E s := by
  show wpAny _ _ (field (.ref z) 2 >>= _) _ _ _
  refine wpAny_bind (wpAny_field hz rfl (x := .bool false) rfl ?_)
  show wpAny _ _ (field (.ref z) 3 >>= _) _ _ _
  refine wpAny_bind (wpAny_field hz rfl (x := .ref TI) rfl ?_)
  refine wpAny_bind (wpAny_seqItems hTI rfl ?_)
  show wpAny _ _ (Builtin.SmallTypes.ownedTupleIsFree (.ref z) >>= _) _ _ _
  refine wpAny_bind ?_
  unfold Builtin.SmallTypes.ownedTupleIsFree
  refine wpAny_bind (wpAny_field hz rfl (x := .none) rfl (wpAny_pure ?_))
  simp only [if_true]
  refine wpAny_bind (wpAny_rule ?_)
  refine wpAny_bind (wpAny_field hz rfl (x := .ref TO) rfl ?_)
  refine wpAny_bind (wpAny_setField_rec hz (by simp) fun h₁ hz₁ hs₁ => ?_)
  replace hz₁ : IsZip h₁ z TI TO .ellipsis := hz₁
  refine wpAny_bind ?_
  simp only [List.zipIdx_cons, List.zipIdx_nil, List.forIn_cons, List.forIn_nil]
  refine wpAny_bind (wpAny_bind (wpAny_onRaise ?_))
  show wpAny _ _ (Builtin.SmallTypes.nextOf (.ref i1) >>= _) _ _ _
  refine wpAny_bind (sq_item (h1.at fun o e => hs₁.extBut _ _ D.i1z e) (hl1.at fun o e => hs₁.extBut _ _ D.l1z e) hx fun h₂ h1₂ hs₂ => wpAny_pure ?_)
  have hTO₂ : IsPair h₂ TO a b := hs₂.extBut _ _ D.TOi1 (hs₁.extBut _ _ D.TOz hTO)
  refine wpAny_bind (wpAny_seqItems hTO₂ rfl ?_)
  refine wpAny_bind (wpAny_updateSeq_pair hTO₂ fun h₃ hTO₃ hs₃ => ?_)
  replace hTO₃ : IsPair h₃ TO x b := hTO₃
  refine wpAny_bind (wpAny_letGo (wpAny_pure ?_))
  refine wpAny_bind (wpAny_bind (wpAny_onRaise ?_))
  show wpAny _ _ (Builtin.SmallTypes.nextOf (.ref i2) >>= _) _ _ _
  refine wpAny_bind (sq_item (h2.at fun o e => hs₃.extBut _ _ D.TOi2.symm (hs₂.extBut _ _ D.i12.symm (hs₁.extBut _ _ D.i2z e)))
    (hl2.at fun o e => hs₃.extBut _ _ D.l2TO (hs₂.extBut _ _ D.l2i1 (hs₁.extBut _ _ D.l2z e))) hy fun h₄ h2₄ hs₄ => wpAny_pure ?_)
  have hTO₄ : IsPair h₄ TO x b := hs₄.extBut _ _ D.TOi2 hTO₃
  refine wpAny_bind (wpAny_seqItems hTO₄ rfl ?_)
  refine wpAny_bind (wpAny_updateSeq_pair hTO₄ fun h₅ hTO₅ hs₅ => ?_)
  replace hTO₅ : IsPair h₅ TO x y := hTO₅
  refine wpAny_bind (wpAny_letGo (wpAny_pure (wpAny_pure ?_)))
  refine wpAny_bind (wpAny_seqItems hTO₅ rfl ?_)
  refine wpAny_bind (wpAny_newTuple ?_)
  have hsz : h₅.objs.size = s.heap.objs.size := by rw [hs₅.1, hs₄.1, hs₃.1, hs₂.1, hs₁.1]
  have hz₅ : IsZip h₅ z TI TO .ellipsis := hs₅.extBut _ _ D.TOz.symm (hs₄.extBut _ _ D.i2z.symm (hs₃.extBut _ _ D.TOz.symm (hs₂.extBut _ _ D.i1z.symm hz₁)))
  have hk₅ : ∀ c o, c ≠ z → c ≠ TO → c ≠ i1 → c ≠ i2 → s.heap.get? c = some o → h₅.get? c = some o := fun c o c1 c2 c3 c4 e =>
    hs₅.extBut _ _ c2 (hs₄.extBut _ _ c4 (hs₃.extBut _ _ c2 (hs₂.extBut _ _ c3 (hs₁.extBut _ _ c1 e))))
  have h1₅ : SqIt t1 h₅ i1 l1 (k1 + 1) := h1₂.at fun o e => hs₅.extBut _ _ D.TOi1.symm (hs₄.extBut _ _ D.i12 (hs₃.extBut _ _ D.TOi1.symm e))
  have h2₅ : SqIt t2 h₅ i2 l2 (k2 + 1) := h2₄.at fun o e => hs₅.extBut _ _ D.TOi2.symm e
  have hzlt : z < h₅.objs.size := Heap.lt_size hz₅
  show wpAny _ _ (Builtin.SmallTypes.ownedTupleHandOut (.ref z) (.ref h₅.objs.size) >>= _) _ _ _
  refine wpAny_bind ?_
  unfold Builtin.SmallTypes.ownedTupleHandOut
  have hz₆ : IsZip (h₅.push { cls := .type "tuple", data := .seq #[x, y] }) z TI TO .ellipsis := Heap.get?_push_of_some _ hz₅
  refine wpAny_bind (wpAny_setField_rec hz₆ (by simp) fun h₇ hz₇ hs₇ => ?_)
  replace hz₇ : IsZip h₇ z TI TO (rawInt h₅.objs.size) := hz₇
  refine wpAny_setField_rec hz₇ (by simp) fun h₈ hz₈ hs₈ => ?_
  replace hz₈ : IsZip h₈ z TI TO (rawInt h₅.objs.size) := hz₈
  have up : ∀ c o, c ≠ z → h₅.get? c = some o → h₈.get? c = some o := fun c o c1 e => hs₈.extBut _ _ c1 (hs₇.extBut _ _ c1 (Heap.get?_push_of_some _ e))
  have hT₈ : IsPair h₈ h₅.objs.size x y := hs₈.extBut _ _ (Nat.ne_of_gt hzlt) (hs₇.extBut _ _ (Nat.ne_of_gt hzlt) (Heap.get?_push_size _ rfl))
  have hz8 : h₈.objs.size = h₅.objs.size + 1 := by rw [hs₈.1, hs₇.1, Heap.size_push]
  rw [hsz] at hz₈ hT₈ hz8
  refine wpAny_pure ⟨_, rfl, ?_⟩
  show Q (.ref h₅.objs.size) _
  rw [hsz]
  exact hQ h₈ hz₈ (h1₅.at fun o e => up _ o D.i1z e) (h2₅.at fun o e => up _ o D.i2z e) hT₈ hz8 fun c o c1 c2 c3 c4 e => up c o c1 (hk₅ c o c1 c2 c3 c4 e)
theorem fresh_end {Q : Fin → Shared → Prop} (hh : A.handled = none) (D : ZipApart z TI TO i1 i2 l1 l2) (hz : IsZip s.heap z TI TO .none) (hTI : IsPair s.heap TI (.ref i1) (.ref i2)) (hTO : IsPair s.heap TO a b)
    (h1 : SqIt t1 s.heap i1 l1 k1) (h2 : SqIt t2 s.heap i2 l2 k2) (hl1 : SqAt t1 s.heap l1 xs) (hl2 : SqAt t2 s.heap l2 ys) (hend : xs[k1]? = none ∨ ys[k2]? = none)
    (hE : ∀ h' e, (∀ c o, c ≠ z → c ≠ TO → c ≠ i1 → c ≠ i2 → s.heap.get? c = some o → h'.get? c = some o) → (∃ o, h'.get? e = some o ∧ o.cls = .type "StopIteration") → E (.ref e) { s with heap := h' }) :
    wpAny (model prog w) A (Builtin.«zip.__next__» ⟨[.ref z], []⟩) Q E s := by
  show wpAny _ _ (field (.ref z) 2 >>= _) _ _ _
  refine wpAny_bind (wpAny_field hz rfl (x := .bool false) rfl ?_)
  show wpAny _ _ (field (.ref z) 3 >>= _) _ _ _
  refine wpAny_bind (wpAny_field hz rfl (x := .ref TI) rfl ?_)
  refine wpAny_bind (wpAny_seqItems hTI rfl ?_)
  show wpAny _ _ (Builtin.SmallTypes.ownedTupleIsFree (.ref z) >>= _) _ _ _
  refine wpAny_bind ?_
  unfold Builtin.SmallTypes.ownedTupleIsFree
  refine wpAny_bind (wpAny_field hz rfl (x := .none) rfl (wpAny_pure ?_))
  simp only [if_true]
  refine wpAny_bind (wpAny_rule ?_)
  refine wpAny_bind (wpAny_field hz rfl (x := .ref TO) rfl ?_)
  refine wpAny_bind (wpAny_setField_rec hz (by simp) fun h₁ hz₁ hs₁ => ?_)
  replace hz₁ : IsZip h₁ z TI TO .ellipsis := hz₁
  refine wpAny_bind ?_
  simp only [List.zipIdx_cons, List.zipIdx_nil, List.forIn_cons, List.forIn_nil]
  refine wpAny_bind (wpAny_bind (wpAny_onRaise ?_))
  show wpAny _ _ (Builtin.SmallTypes.nextOf (.ref i1) >>= _) _ _ _
  cases hx : xs[k1]? with
  | none =>
    refine wpAny_bind (sq_end hh (h1.at fun o e => hs₁.extBut _ _ D.i1z e) (hl1.at fun o e => hs₁.extBut _ _ D.l1z e) hx fun h₂ e hs₂ he => ?_)
    obtain ⟨oe, hoe, hce⟩ := he
    have hz₂ : IsZip h₂ z TI TO .ellipsis := hs₂ _ _ D.i1z.symm hz₁
    have hez : e ≠ z := fun x => by subst x; rw [hz₂] at hoe; cases hoe; simp at hce
    refine wpAny_setField_rec hz₂ (by simp) fun h₃ _ hs₃ => hE h₃ e (fun c o c1 _ c3 _ x => hs₃.extBut _ _ c1 (hs₂ _ _ c3 (hs₁.extBut _ _ c1 x))) ⟨oe, hs₃.extBut _ _ hez hoe, hce⟩
  | some x =>
    have hy : ys[k2]? = none := by rcases hend with h | h; rw [hx] at h; cases h; exact h
    refine wpAny_bind (sq_item (h1.at fun o e => hs₁.extBut _ _ D.i1z e) (hl1.at fun o e => hs₁.extBut _ _ D.l1z e) hx fun h₂ h1₂ hs₂ => wpAny_pure ?_)
    have hTO₂ : IsPair h₂ TO a b := hs₂.extBut _ _ D.TOi1 (hs₁.extBut _ _ D.TOz hTO)
    refine wpAny_bind (wpAny_seqItems hTO₂ rfl ?_)
    refine wpAny_bind (wpAny_updateSeq_pair hTO₂ fun h₃ hTO₃ hs₃ => ?_)
    refine wpAny_bind (wpAny_letGo (wpAny_pure ?_))
    refine wpAny_bind (wpAny_bind (wpAny_onRaise ?_))
    show wpAny _ _ (Builtin.SmallTypes.nextOf (.ref i2) >>= _) _ _ _
    refine wpAny_bind (sq_end hh (h2.at fun o e => hs₃.extBut _ _ D.TOi2.symm (hs₂.extBut _ _ D.i12.symm (hs₁.extBut _ _ D.i2z e)))
      (hl2.at fun o e => hs₃.extBut _ _ D.l2TO (hs₂.extBut _ _ D.l2i1 (hs₁.extBut _ _ D.l2z e))) hy fun h₄ e hs₄ he => ?_)
    obtain ⟨oe, hoe, hce⟩ := he
    have hz₄ : IsZip h₄ z TI TO .ellipsis := hs₄ _ _ D.i2z.symm (hs₃.extBut _ _ D.TOz.symm (hs₂.extBut _ _ D.i1z.symm hz₁))
    have hez : e ≠ z := fun x => by subst x; rw [hz₄] at hoe; cases hoe; simp at hce
    refine wpAny_setField_rec hz₄ (by simp) fun h₅ _ hs₅ => hE h₅ e (fun c o c1 c2 c3 c4 x => hs₅.extBut _ _ c1 (hs₄ _ _ c4 (hs₃.extBut _ _ c2 (hs₂.extBut _ _ c3 (hs₁.extBut _ _ c1 x))))) ⟨oe, hs₅.extBut _ _ hez hoe, hce⟩
theorem held_item {Th : Addr} {f : Bool} {oT : Obj} {Q : Value → Shared → Prop} (D : ZipApart z TI TO i1 i2 l1 l2) (hz : IsZipHeld s.heap z TI TO Th f) (hT : s.heap.get? Th = some oT) (hTI : IsPair s.heap TI (.ref i1) (.ref i2))
    (h1 : SqIt t1 s.heap i1 l1 k1) (h2 : SqIt t2 s.heap i2 l2 k2) (hl1 : SqAt t1 s.heap l1 xs) (hl2 : SqAt t2 s.heap l2 ys) (hx : xs[k1]? = some x) (hy : ys[k2]? = some y)
    (hQ : ∀ h', IsZipHeld h' z TI TO Th true → SqIt t1 h' i1 l1 (k1 + 1) → SqIt t2 h' i2 l2 (k2 + 1) → IsPair h' s.heap.objs.size x y → h'.objs.size = s.heap.objs.size + 1 →
      (∀ c o, c ≠ z → c ≠ i1 → c ≠ i2 → s.heap.get? c = some o → h'.get? c = some o) → Q (.ref s.heap.objs.size) { s with heap := h' }) :
    wpAny (model prog w) A (Builtin.«zip.__next__» ⟨[.ref z], []⟩) (fun fin s' => ∃ v, fin = .done (.ret v) ∧ Q v s') E s := by
  show wpAny _ _ (field (.ref z) 2 >>= _) _ _ _
  refine wpAny_bind (wpAny_field hz rfl (x := .bool false) rfl ?_)
  show wpAny _ _ (field (.ref z) 3 >>= _) _ _ _
  refine wpAny_bind (wpAny_field hz rfl (x := .ref TI) rfl ?_)
  refine wpAny_bind (wpAny_seqItems hTI rfl ?_)
  show wpAny _ _ (Builtin.SmallTypes.ownedTupleIsFree (.ref z) >>= _) _ _ _
  refine wpAny_bind (wpAny_tupleHeld_zip hz hT fun h₁ hz₁ hs₁ => ?_)
  simp only [Bool.false_eq_true, if_false]
  refine wpAny_bind ?_
  rw [← Array.forIn_toList]
  simp only [List.forIn_cons, List.forIn_nil]
  refine wpAny_bind (wpAny_bind (wpAny_holding ?_))
  show wpAny _ _ (Builtin.SmallTypes.nextOf (.ref i1) >>= _) _ _ _
  refine wpAny_bind (sq_item (s := { s with heap := h₁ }) (h1.at fun o e => hs₁.extBut _ _ D.i1z e) (hl1.at fun o e => hs₁.extBut _ _ D.l1z e) hx fun h₂ h1₂ hs₂ => wpAny_pure ?_)
  refine wpAny_pure ?_
  refine wpAny_bind (wpAny_bind (wpAny_holding ?_))
  show wpAny _ _ (Builtin.SmallTypes.nextOf (.ref i2) >>= _) _ _ _
  refine wpAny_bind (sq_item (s := { s with heap := h₂ }) (h2.at fun o e => hs₂.extBut _ _ D.i12.symm (hs₁.extBut _ _ D.i2z e)) (hl2.at fun o e => hs₂.extBut _ _ D.l2i1 (hs₁.extBut _ _ D.l2z e)) hy fun h₃ h2₃ hs₃ => wpAny_pure ?_)
  refine wpAny_pure (wpAny_pure ?_)
  show wpAny _ _ (newTuple [x, y] >>= _) _ _ _
  refine wpAny_bind (wpAny_newTuple ?_)
  have hsz : h₃.objs.size = s.heap.objs.size := by rw [hs₃.1, hs₂.1, hs₁.1]
  have hz₃ : IsZipHeld h₃ z TI TO Th true := hs₃.extBut _ _ D.i2z.symm (hs₂.extBut _ _ D.i1z.symm hz₁)
  have hk : ∀ c o, c ≠ z → c ≠ i1 → c ≠ i2 → s.heap.get? c = some o → h₃.get? c = some o := fun c o c1 c2 c3 e => hs₃.extBut _ _ c3 (hs₂.extBut _ _ c2 (hs₁.extBut _ _ c1 e))
  have h1₃ : SqIt t1 h₃ i1 l1 (k1 + 1) := h1₂.at fun o e => hs₃.extBut _ _ D.i12 e
  refine wpAny_pure ⟨_, rfl, ?_⟩
  show Q (.ref h₃.objs.size) _
  have hp : IsPair (h₃.push { cls := .type "tuple", data := .seq #[x, y] }) h₃.objs.size x y := Heap.get?_push_size _ rfl
  have hz4 : (h₃.push { cls := .type "tuple", data := .seq #[x, y] }).objs.size = h₃.objs.size + 1 := Heap.size_push ..
  rw [hsz] at hp hz4 ⊢
  exact hQ _ (Heap.get?_push_of_some _ hz₃) (h1₃.at fun o e => Heap.get?_push_of_some _ e) (h2₃.at fun o e => Heap.get?_push_of_some _ e) hp hz4 fun c o c1 c2 c3 e => Heap.get?_push_of_some _ (hk c o c1 c2 c3 e)
theorem held_end {Th : Addr} {f : Bool} {oT : Obj} {Q : Fin → Shared → Prop} (hh : A.handled = none) (D : ZipApart z TI TO i1 i2 l1 l2) (hz : IsZipHeld s.heap z TI TO Th f) (hT : s.heap.get? Th = some oT) (hTI : IsPair s.heap TI (.ref i1) (.ref i2))
    (h1 : SqIt t1 s.heap i1 l1 k1) (h2 : SqIt t2 s.heap i2 l2 k2) (hl1 : SqAt t1 s.heap l1 xs) (hl2 : SqAt t2 s.heap l2 ys) (hend : xs[k1]? = none ∨ ys[k2]? = none)
    (hE : ∀ h' e, (∀ c o, c ≠ z → c ≠ TO → c ≠ i1 → c ≠ i2 → s.heap.get? c = some o → h'.get? c = some o) → (∃ o, h'.get? e = some o ∧ o.cls = .type "StopIteration") → E (.ref e) { s with heap := h' }) :
    wpAny (model prog w) A (Builtin.«zip.__next__» ⟨[.ref z], []⟩) Q E s := by
  show wpAny _ _ (field (.ref z) 2 >>= _) _ _ _
  refine wpAny_bind (wpAny_field hz rfl (x := .bool false) rfl ?_)
  show wpAny _ _ (field (.ref z) 3 >>= _) _ _ _
  refine wpAny_bind (wpAny_field hz rfl (x := .ref TI) rfl ?_)
  refine wpAny_bind (wpAny_seqItems hTI rfl ?_)
  show wpAny _ _ (Builtin.SmallTypes.ownedTupleIsFree (.ref z) >>= _) _ _ _
  refine wpAny_bind (wpAny_tupleHeld_zip hz hT fun h₁ hz₁ hs₁ => ?_)
  simp only [Bool.false_eq_true, if_false]
  refine wpAny_bind ?_
  rw [← Array.forIn_toList]
  simp only [List.forIn_cons, List.forIn_nil]
  refine wpAny_bind (wpAny_bind (wpAny_holding ?_))
  show wpAny _ _ (Builtin.SmallTypes.nextOf (.ref i1) >>= _) _ _ _
  cases hx : xs[k1]? with
  | none =>
    refine wpAny_bind (sq_end (s := { s with heap := h₁ }) hh (h1.at fun o e => hs₁.extBut _ _ D.i1z e) (hl1.at fun o e => hs₁.extBut _ _ D.l1z e) hx fun h₂ e hs₂ he => ?_)
    exact hE h₂ e (fun c o c1 _ c2 _ x => hs₂ _ _ c2 (hs₁.extBut _ _ c1 x)) he
  | some x =>
    have hy : ys[k2]? = none := by rcases hend with h | h; rw [hx] at h; cases h; exact h
    refine wpAny_bind (sq_item (s := { s with heap := h₁ }) (h1.at fun o e => hs₁.extBut _ _ D.i1z e) (hl1.at fun o e => hs₁.extBut _ _ D.l1z e) hx fun h₂ h1₂ hs₂ => wpAny_pure ?_)
    refine wpAny_pure ?_
    refine wpAny_bind (wpAny_bind (wpAny_holding ?_))
    show wpAny _ _ (Builtin.SmallTypes.nextOf (.ref i2) >>= _) _ _ _
    refine wpAny_bind (sq_end (s := { s with heap := h₂ }) hh (h2.at fun o e => hs₂.extBut _ _ D.i12.symm (hs₁.extBut _ _ D.i2z e)) (hl2.at fun o e => hs₂.extBut _ _ D.l2i1 (hs₁.extBut _ _ D.l2z e)) hy fun h₃ e hs₃ he => ?_)
    exact hE h₃ e (fun c o c1 _ c2 c3 x => hs₃ _ _ c3 (hs₂.extBut _ _ c2 (hs₁.extBut _ _ c1 x))) he
/-- how a zip stands that a list draws from -/
structure Zst (t1 t2 : Bool) (h : Heap) (z TI TO i1 i2 l1 l2 : Addr) (xs ys : Array Value) (k : Nat) (S : Addr) : Prop where
  ti : IsPair h TI (.ref i1) (.ref i2)
  a1 : SqIt t1 h i1 l1 k
  a2 : SqIt t2 h i2 l2 k
  b1 : SqAt t1 h l1 xs
  b2 : SqAt t2 h l2 ys
  zz : (IsZip h z TI TO .none ∧ ∃ a b, IsPair h TO a b) ∨ ∃ T f oT, IsZipHeld h z TI TO T f ∧ h.get? T = some oT ∧ T ≠ z ∧ T ≠ i1 ∧ T ≠ i2 ∧ T ≠ S
variable {S : Addr} {k : Nat}
/-- the list lies apart from all of it -/
structure Away (S z TI TO i1 i2 l1 l2 : Addr) : Prop where
  z : z < S
  TI : TI < S
  TO : TO < S
  i1 : i1 < S
  i2 : i2 < S
  l1 : l1 < S
  l2 : l2 < S
theorem Zst.keep {h h' : Heap} (W : Away S z TI TO i1 i2 l1 l2) (x : Zst t1 t2 h z TI TO i1 i2 l1 l2 xs ys k S) (hk : ∀ b o, b ≠ S → h.get? b = some o → h'.get? b = some o) : Zst t1 t2 h' z TI TO i1 i2 l1 l2 xs ys k S where
  ti := hk _ _ (Nat.ne_of_lt W.TI) x.ti
  a1 := x.a1.at fun o e => hk _ o (Nat.ne_of_lt W.i1) e
  a2 := x.a2.at fun o e => hk _ o (Nat.ne_of_lt W.i2) e
  b1 := x.b1.at fun o e => hk _ o (Nat.ne_of_lt W.l1) e
  b2 := x.b2.at fun o e => hk _ o (Nat.ne_of_lt W.l2) e
  zz := by
    rcases x.zz with ⟨hz, a, b, hp⟩ | ⟨T, f, oT, hz, hT, e1, e2, e3, e4⟩
    · exact .inl ⟨hk _ _ (Nat.ne_of_lt W.z) hz, a, b, hk _ _ (Nat.ne_of_lt W.TO) hp⟩
    · exact .inr ⟨T, f, oT, hk _ _ (Nat.ne_of_lt W.z) hz, hk _ _ e4 hT, e1, e2, e3, e4⟩
theorem zst_item {Q : Option Value → Shared → Prop} (D : ZipApart z TI TO i1 i2 l1 l2) (W : Away S z TI TO i1 i2 l1 l2) (hS : S < s.heap.objs.size) (st : Zst t1 t2 s.heap z TI TO i1 i2 l1 l2 xs ys k S) (hx : xs[k]? = some x) (hy : ys[k]? = some y)
    (hQ : ∀ h', Zst t1 t2 h' z TI TO i1 i2 l1 l2 xs ys (k + 1) S → IsPair h' s.heap.objs.size x y → h'.objs.size = s.heap.objs.size + 1 →
      (∀ c o, c ≠ z → c ≠ TO → c ≠ i1 → c ≠ i2 → s.heap.get? c = some o → h'.get? c = some o) → Q (some (.ref s.heap.objs.size)) { s with heap := h' }) :
    wpAny (model prog w) A (pyNext (.ref z)) Q E s := by
  have hzl : z < s.heap.objs.size := Nat.lt_trans W.z hS
  rcases st.zz with ⟨hz, a, b, hp⟩ | ⟨T, f, oT, hz, hT, e1, e2, e3, e4⟩
  · have hTy : s.TypeIs (.ref z) "zip" := ⟨_, hz, rfl⟩
    unfold pyNext
    refine wpAny_bind (wpAny_attempt (wpAny_callSpecial?_slot (name := Str.ofString "__next__") hTy F.slot_zip_next
      (wpAny_call_entry F.slot_zip_next hTy F.entry_zip_next
        (fresh_item D hz st.ti hp st.a1 st.a2 st.b1 st.b2 hx hy fun h' a1 a2 a3 a4 a5 a6 => wpAny_pure (hQ h' ⟨?_, a2, a3, ?_, ?_, .inr ⟨_, _, _, a1, a4, ?_, ?_, ?_, ?_⟩⟩ a4 a5 a6)) (F.args_zip_next_1 _))))
    · exact a6 _ _ D.TIz D.TITO D.TIi1 D.TIi2 st.ti
    · exact st.b1.at fun o e => a6 _ o D.l1z D.l1TO D.l1i1 D.l1i2 e
    · exact st.b2.at fun o e => a6 _ o D.l2z D.l2TO D.l2i1 D.l2i2 e
    · exact Nat.ne_of_gt hzl
    · exact Nat.ne_of_gt st.a1.lt
    · exact Nat.ne_of_gt st.a2.lt
    · exact Nat.ne_of_gt hS
  · have hTy : s.TypeIs (.ref z) "zip" := ⟨_, hz, rfl⟩
    unfold pyNext
    refine wpAny_bind (wpAny_attempt (wpAny_callSpecial?_slot (name := Str.ofString "__next__") hTy F.slot_zip_next
      (wpAny_call_entry F.slot_zip_next hTy F.entry_zip_next
        (held_item D hz hT st.ti st.a1 st.a2 st.b1 st.b2 hx hy fun h' a1 a2 a3 a4 a5 a6 => wpAny_pure (hQ h' ⟨?_, a2, a3, ?_, ?_, .inr ⟨T, _, oT, a1, ?_, e1, e2, e3, e4⟩⟩ a4 a5 fun c o c1 _ c3 c4 e => a6 c o c1 c3 c4 e)) (F.args_zip_next_1 _))))
    · exact a6 _ _ D.TIz D.TIi1 D.TIi2 st.ti
    · exact st.b1.at fun o e => a6 _ o D.l1z D.l1i1 D.l1i2 e
    · exact st.b2.at fun o e => a6 _ o D.l2z D.l2i1 D.l2i2 e
    · exact a6 _ _ e1 e2 e3 hT
theorem zst_done {Q : Option Value → Shared → Prop} (hh : A.handled = none) (D : ZipApart z TI TO i1 i2 l1 l2) (st : Zst t1 t2 s.heap z TI TO i1 i2 l1 l2 xs ys k S) (hend : xs[k]? = none ∨ ys[k]? = none)
    (hQ : ∀ h', (∀ c o, c ≠ z → c ≠ TO → c ≠ i1 → c ≠ i2 → s.heap.get? c = some o → h'.get? c = some o) → Q none { s with heap := h' }) : wpAny (model prog w) A (pyNext (.ref z)) Q E s := by
  rcases st.zz with ⟨hz, a, b, hp⟩ | ⟨T, f, oT, hz, hT, e1, e2, e3, e4⟩
  · have hTy : s.TypeIs (.ref z) "zip" := ⟨_, hz, rfl⟩
    unfold pyNext
    refine wpAny_bind (wpAny_attempt (wpAny_callSpecial?_slot (name := Str.ofString "__next__") hTy F.slot_zip_next
      (wpAny_call_entry F.slot_zip_next hTy F.entry_zip_next (fresh_end hh D hz st.ti hp st.a1 st.a2 st.b1 st.b2 hend fun h' e hk he => ?_) (F.args_zip_next_1 _))))
    obtain ⟨o, ho, hc⟩ := he
    refine wpAny_bind (wpAny_isInstance (T := "StopIteration") (b := true) ⟨o, ho, hc⟩ isSubtype_stop ?_)
    exact wpAny_pure (hQ _ hk)
  · have hTy : s.TypeIs (.ref z) "zip" := ⟨_, hz, rfl⟩
    unfold pyNext
    refine wpAny_bind (wpAny_attempt (wpAny_callSpecial?_slot (name := Str.ofString "__next__") hTy F.slot_zip_next
      (wpAny_call_entry F.slot_zip_next hTy F.entry_zip_next (held_end hh D hz hT st.ti st.a1 st.a2 st.b1 st.b2 hend fun h' e hk he => ?_) (F.args_zip_next_1 _))))
    obtain ⟨o, ho, hc⟩ := he
    refine wpAny_bind (wpAny_isInstance (T := "StopIteration") (b := true) ⟨o, ho, hc⟩ isSubtype_stop ?_)
    exact wpAny_pure (hQ _ hk)
end
/-- the pairs made so far -/
structure Zg (ps : List (Value × Value)) (lo : Addr) (h : Heap) (as : List Addr) : Prop where
  rise : as.Pairwise (· < ·)
  above : ∀ a ∈ as, lo < a
  pairs : ∀ (j : Nat) (a : Addr), as[j]? = some a → ∃ x y, ps[j]? = some (x, y) ∧ h.get? a = some { cls := .type "tuple", data := .seq #[x, y] }
theorem Zg.there {ps : List (Value × Value)} {lo : Addr} {h : Heap} {as : List Addr} (g : Zg ps lo h as) {a : Addr} (ha : a ∈ as) : a < h.objs.size := by
  obtain ⟨j, hj⟩ := List.mem_iff_getElem?.mp ha
  obtain ⟨_, _, _, e⟩ := g.pairs j a hj
  exact Heap.lt_size e
theorem zip_some {xs ys : Array Value} {i : Nat} {x y : Value} (h : (xs.toList.zip ys.toList)[i]? = some (x, y)) : xs[i]? = some x ∧ ys[i]? = some y := by
  obtain ⟨h1, h2⟩ := List.getElem?_zip_eq_some.mp h
  exact ⟨by rw [← h1, Array.getElem?_toList], by rw [← h2, Array.getElem?_toList]⟩
theorem zip_end {xs ys : Array Value} : xs[(xs.toList.zip ys.toList).length]? = none ∨ ys[(xs.toList.zip ys.toList).length]? = none := by
  rw [List.length_zip, Array.length_toList, Array.length_toList]
  rcases Nat.le_total xs.size ys.size with h | h
  · left; rw [Nat.min_eq_left h]; simp
  · right; rw [Nat.min_eq_right h]; simp
section
variable {prog : Program} {w : World} {A : Around} {s : Shared} {R : Result → Shared → Prop} {t1 t2 : Bool} {S z TI TO i1 i2 l1 l2 : Addr} {xs ys : Array Value}
theorem zl_loop (hh : A.handled = none) (D : ZipApart z TI TO i1 i2 l1 l2) (W : Away S z TI TO i1 i2 l1 l2) (ps : List (Value × Value)) (hps : ps = xs.toList.zip ys.toList) (hn : ps.length ≤ sizeLine) (res : Value) {h₁ : Heap}
    (hR : ∀ h' tk acc c as, (∀ b o, b ≠ S → b ≠ z → b ≠ TO → b ≠ i1 → b ≠ i2 → h₁.get? b = some o → h'.get? b = some o) → h'.get? S = some { cls := .type "list", dict := none, data := .seq acc c, slots := #[] } → as.length = ps.length → Zg ps S h' as →
      acc.toList = as.map Value.ref → R (.ok (.ret res)) { s with heap := h', toks := tk }) :
    ∀ (k i : Nat) (h : Heap) (tk c : Nat) (acc : Array Value) (as : List Addr), ps.length - i = k → i ≤ ps.length → Zst t1 t2 h z TI TO i1 i2 l1 l2 xs ys i S → (∀ b o, b ≠ S → b ≠ z → b ≠ TO → b ≠ i1 → b ≠ i2 → h₁.get? b = some o → h.get? b = some o) →
      h.get? S = some { cls := .type "list", dict := none, data := .seq acc c, slots := #[] } → acc.toList = as.map Value.ref → as.length = i → Zg ps S h as →
      codeAny (model prog w) A (.builtin "list.extend.loop" ⟨[.ref S, .ref z, res], []⟩) R { s with heap := h, toks := tk } := by
  have nz : S ≠ z := Nat.ne_of_gt W.z
  have nO : S ≠ TO := Nat.ne_of_gt W.TO
  have n1 : S ≠ i1 := Nat.ne_of_gt W.i1
  have n2 : S ≠ i2 := Nat.ne_of_gt W.i2
  have off : ∀ a, S < a → a ≠ z ∧ a ≠ TO ∧ a ≠ i1 ∧ a ≠ i2 := fun a h => ⟨Nat.ne_of_gt (Nat.lt_trans W.z h), Nat.ne_of_gt (Nat.lt_trans W.TO h), Nat.ne_of_gt (Nat.lt_trans W.i1 h), Nat.ne_of_gt (Nat.lt_trans W.i2 h)⟩
  intro k
  induction k with
  | zero =>
    intro i h tk c acc as hk hi hst hkeep hS hacc hal hG
    have hin : i = ps.length := by omega
    refine codeAny_builtin PySem.F.entry_extend_loop ?_
    rw [Around.under_plainId PySem.F.plain_extend_loop _]
    show wpAny _ A.in1 (pyNext (.ref z) >>= _) _ _ _
    refine wpAny_bind (zst_done (s := { s with heap := h, toks := tk }) (A := A.in1) hh D hst (by rw [hin, hps]; exact zip_end) fun h' he => ?_)
    refine wpAny_pure (hR h' tk acc c as (fun b o q1 q2 q3 q4 q5 e => he b o q2 q3 q4 q5 (hkeep b o q1 q2 q3 q4 q5 e)) (he S _ nz nO n1 n2 hS) (by omega) ⟨hG.rise, hG.above, fun j a hj => ?_⟩ hacc)
    obtain ⟨x, y, e1, e3⟩ := hG.pairs j a hj
    obtain ⟨q2, q3, q4, q5⟩ := off a (hG.above a (List.mem_of_getElem? hj))
    exact ⟨x, y, e1, he a _ q2 q3 q4 q5 e3⟩
  | succ k ih =>
    intro i h tk c acc as hk hi hst hkeep hS hacc hal hG
    have hlt : i < ps.length := by omega
    obtain ⟨⟨x, y⟩, hx⟩ : ∃ p, ps[i]? = some p := ⟨ps[i], List.getElem?_eq_getElem hlt⟩
    have hx' := hx
    rw [hps] at hx'
    obtain ⟨hx1, hy1⟩ := zip_some hx'
    have hsz : acc.size = i := by rw [← Array.length_toList, hacc, List.length_map, hal]
    refine codeAny_builtin PySem.F.entry_extend_loop ?_
    rw [Around.under_plainId PySem.F.plain_extend_loop _]
    show wpAny _ A.in1 (pyNext (.ref z) >>= _) _ _ _
    refine wpAny_bind (zst_item (s := { s with heap := h, toks := tk }) D W (Heap.lt_size hS) hst hx1 hy1 fun h' hst' ht hz hkp => ?_)
    dsimp only at ht hz hkp ⊢
    have hS' := hkp S _ nz nO n1 n2 hS
    have up : ∀ b o, b ≠ S → h'.get? b = some o → (h'.update S (Obj.mapSeq (·.push (Value.ref h.objs.size)))).get? b = some o := fun b o hb e => (Heap.get?_update_other _ _ (Ne.symm hb)).trans e
    have hSl : S < h.objs.size := Heap.lt_size hS
    show wpAny _ A.in1 (updateSeq S (·.push (Value.ref h.objs.size)) >>= _) _ _ _
    refine wpAny_bind ?_
    refine wpAny_updateSeq hS' rfl (wpAny_pure ⟨plainId_quiet PySem.F.plain_extend_loop _, ih (i + 1) _ tk _ (acc.push (Value.ref h.objs.size)) (as ++ [h.objs.size]) (by omega) hlt (hst'.keep W up)
      (fun b o q1 q2 q3 q4 q5 e => up b o q1 (hkp b o q2 q3 q4 q5 (hkeep b o q1 q2 q3 q4 q5 e))) (Heap.get?_update_self _ hS' rfl) (by rw [Array.toList_push, hacc, List.map_append]; rfl) (by rw [List.length_append, hal]; rfl) ⟨?_, ?_, ?_⟩⟩) (by rw [hsz]; omega) (by show (acc.push (Value.ref h.objs.size)).size ≤ sizeLine + 1; rw [Array.size_push, hsz]; omega)
    · refine List.pairwise_append.mpr ⟨hG.rise, List.pairwise_singleton _ _, fun a ha b hb => ?_⟩
      rw [List.mem_singleton.mp hb]
      exact hG.there ha
    · intro a ha
      rcases List.mem_append.mp ha with ha | ha
      · exact hG.above a ha
      · rw [List.mem_singleton.mp ha]; exact hSl
    · intro j b hj
      rcases Nat.lt_trichotomy j as.length with q | q | q
      · rw [List.getElem?_append_left q] at hj
        obtain ⟨x', y', e1, e3⟩ := hG.pairs j b hj
        have hb := hG.above b (List.mem_of_getElem? hj)
        obtain ⟨q2, q3, q4, q5⟩ := off b hb
        exact ⟨x', y', e1, up b _ (Nat.ne_of_gt hb) (hkp b _ q2 q3 q4 q5 e3)⟩
      · subst q
        have hb : h.objs.size = b := by simpa using hj
        subst hb
        exact ⟨x, y, by rw [hal]; exact hx, up _ _ (Nat.ne_of_gt hSl) ht⟩
      · have hnone : (as ++ [h.objs.size])[j]? = none := List.getElem?_eq_none (by rw [List.length_append, List.length_singleton]; omega)
        rw [hnone] at hj; cases hj
end
theorem zip_no_len : typeLookup (.type "zip") "__len__" = pure none := am_miss_of_fast (by decide +kernel)
theorem zip_no_hint : typeLookup (.type "zip") "__length_hint__" = pure none := am_miss_of_fast (by decide +kernel)
section
variable {prog : Program} {w : World} {A : Around} {E : Value → Shared → Prop} {s : Shared} {t1 t2 : Bool} {S z TI TO i1 i2 l1 l2 : Addr} {xs ys : Array Value}
theorem zl_hint (hT : s.TypeIs (.ref z) "zip") {Q : Bool → Shared → Prop} (h : Q true s) : wpAny (model prog w) A (Builtin.List.listLengthHint (.ref z)) Q E s := by
  unfold Builtin.List.listLengthHint
  refine wpAny_bind (wpAny_specialOf hT zip_no_len ?_)
  show wpAny _ A (specialOf (Value.ref z) (Str.ofString "__length_hint__") >>= _) _ _ _
  refine wpAny_bind (wpAny_specialOf hT zip_no_hint ?_)
  exact wpAny_pure h
theorem zl_extend {R : Result → Shared → Prop} (hh : A.handled = none) (D : ZipApart z TI TO i1 i2 l1 l2) (W : Away S z TI TO i1 i2 l1 l2) (hz : IsZip s.heap z TI TO .none) (st : Zst t1 t2 s.heap z TI TO i1 i2 l1 l2 xs ys 0 S) (res : Value) (c₀ : Nat) (hS : s.heap.get? S = some { cls := .type "list", data := .seq #[] c₀ })
    (hR : ∀ h' tk acc c as, (∀ b o, b ≠ S → b ≠ z → b ≠ TO → b ≠ i1 → b ≠ i2 → s.heap.get? b = some o → h'.get? b = some o) → h'.get? S = some { cls := .type "list", dict := none, data := .seq acc c, slots := #[] } → as.length = (xs.toList.zip ys.toList).length → Zg (xs.toList.zip ys.toList) S h' as →
      acc.toList = as.map Value.ref → R (.ok (.ret res)) { s with heap := h', toks := tk }) (hn : (xs.toList.zip ys.toList).length ≤ sizeLine) :
    wpAny (model prog w) A.in1 (Builtin.List.listExtendWith (.ref S) (.ref z) res)
      (fun fin s' => match fin with | .done f => R (.ok f) s' | .again c' => c'.quiet = true ∧ codeAny (model prog w) A c' R s') (fun e s' => R (.error e) s') s := by
  have hSz : S ≠ z := Nat.ne_of_gt W.z
  have hTy : s.TypeIs (.ref z) "zip" := ⟨_, hz, rfl⟩
  unfold Builtin.List.listExtendWith
  refine wpAny_bind (wpAny_typeOf hTy ?_)
  have h1 : Builtin.List.listSameRef (.ref S) (.ref z) = false := by simp [Builtin.List.listSameRef, hSz]
  have h2 : (Value.type "zip" == Value.type "list") = false := by decide
  have h3 : (Value.type "zip" == Value.type "tuple") = false := by decide
  simp only [h1, h2, h3, Bool.or_false, Bool.false_eq_true, if_false]
  refine wpAny_bind (wpAny_pyIter_zip hz ?_)
  refine wpAny_bind (wpAny_holding (zl_hint hTy ?_))
  show wpAny _ A.in1 (rule "list.extend.makes-room" >>= fun _ => Builtin.List.listTouch (.ref S) >>= fun _ =>
    again (.builtin "list.extend.loop" ⟨[.ref S, .ref z, res], []⟩)) _ _ _
  refine wpAny_bind (wpAny_rule ?_)
  refine wpAny_bind ?_
  show wpAny _ A.in1 (updateSeq S (·.push .none) >>= fun _ => updateSeq S (·.pop)) _ _ _
  refine wpAny_bind (wpAny_updateSeq hS rfl ?_)
  have hS₂ := Heap.get?_update_self (Obj.mapSeq (·.push Value.none)) hS rfl
  refine wpAny_updateSeq (hz := by seq_fits) hS₂ rfl ?_
  have hS₃ := Heap.get?_update_self (Obj.mapSeq (·.pop)) hS₂ rfl
  have oth : ∀ b o, b ≠ S → s.heap.get? b = some o → ((s.heap.update S (Obj.mapSeq (·.push Value.none))).update S (Obj.mapSeq (·.pop))).get? b = some o :=
    fun b o hb e => (Heap.get?_update_other _ _ (Ne.symm hb)).trans ((Heap.get?_update_other _ _ (Ne.symm hb)).trans e)
  refine wpAny_pure ⟨plainId_quiet PySem.F.plain_extend_loop _, zl_loop (h₁ := s.heap) hh D W _ rfl hn res hR _ 0 _ _ _ #[] [] (Nat.sub_zero _) (Nat.zero_le _) (st.keep W oth) (fun b o q1 _ _ _ _ e => oth b o q1 e) hS₃ rfl rfl
    ⟨List.Pairwise.nil, (fun _ ha => nomatch ha), (fun j a hj => by simp at hj)⟩⟩
theorem zl_init {R : Result → Shared → Prop} (hh : A.handled = none) (D : ZipApart z TI TO i1 i2 l1 l2) (W : Away S z TI TO i1 i2 l1 l2) (hz : IsZip s.heap z TI TO .none) (st : Zst t1 t2 s.heap z TI TO i1 i2 l1 l2 xs ys 0 S) (hS : s.heap.get? S = some { cls := .type "list", data := .seq #[] })
    (hR : ∀ h' tk acc c as, (∀ b o, b ≠ S → b ≠ z → b ≠ TO → b ≠ i1 → b ≠ i2 → s.heap.get? b = some o → h'.get? b = some o) → h'.get? S = some { cls := .type "list", dict := none, data := .seq acc c, slots := #[] } → as.length = (xs.toList.zip ys.toList).length → Zg (xs.toList.zip ys.toList) S h' as →
      acc.toList = as.map Value.ref → R (.ok (.ret .none)) { s with heap := h', toks := tk }) (hn : (xs.toList.zip ys.toList).length ≤ sizeLine) :
    wpAny (model prog w) A.in1 (Builtin.«list.__init__» ⟨[.ref S, .ref z], []⟩)
      (fun fin s' => match fin with | .done f => R (.ok f) s' | .again c' => c'.quiet = true ∧ codeAny (model prog w) A c' R s') (fun e s' => R (.error e) s') s := by
  show wpAny _ _ (do let old ← Builtin.List.listItems (.ref S); Builtin.List.listUpdate (.ref S) (fun _ => #[]); letGo old.toList.reverse; Builtin.List.listExtendWith (.ref S) (.ref z) .none) _ _ s
  refine wpAny_bind ?_
  unfold Builtin.List.listItems
  refine wpAny_bind (wpAny_seqItems hS rfl (wpAny_pure ?_))
  show wpAny _ _ (updateSeq S (fun _ => #[]) >>= fun _ => letGo (#[] : Array Value).toList.reverse >>= fun _ => Builtin.List.listExtendWith (.ref S) (.ref z) .none) _ _ s
  refine wpAny_bind (wpAny_updateSeq hS rfl ?_)
  have hS₂ := Heap.get?_update_self (Obj.mapSeq (fun _ => (#[] : Array Value))) hS rfl
  have oth : ∀ b o, b ≠ S → s.heap.get? b = some o → (s.heap.update S (Obj.mapSeq (fun _ => (#[] : Array Value)))).get? b = some o :=
    fun b o hb e => (Heap.get?_update_other _ _ (Ne.symm hb)).trans e
  refine wpAny_bind (wpAny_letGo ?_)
  refine zl_extend hh D W (oth _ _ (Nat.ne_of_lt W.z) hz) (st.keep W oth) .none _ hS₂ (fun h' tk acc c as hk hS' hl hG hacc => ?_) hn
  exact hR h' tk acc c as (fun b o q1 q2 q3 q4 q5 e => hk b o q1 q2 q3 q4 q5 (oth b o q1 e)) hS' hl hG hacc
theorem zl_call {Q : Value → Shared → Prop} (hh : A.handled = none) (D : ZipApart z TI TO i1 i2 l1 l2) (hz : IsZip s.heap z TI TO .none) (hp : ∃ a b, IsPair s.heap TO a b) (hTI : IsPair s.heap TI (.ref i1) (.ref i2)) (h1 : SqIt t1 s.heap i1 l1 0) (h2 : SqIt t2 s.heap i2 l2 0) (hl1 : SqAt t1 s.heap l1 xs) (hl2 : SqAt t2 s.heap l2 ys) (hn : (xs.toList.zip ys.toList).length ≤ sizeLine)
    (hQ : ∀ h' tk acc c as, (∀ b o, b ≠ z → b ≠ TO → b ≠ i1 → b ≠ i2 → s.heap.get? b = some o → h'.get? b = some o) → h'.get? s.heap.objs.size = some { cls := .type "list", dict := none, data := .seq acc c, slots := #[] } → as.length = (xs.toList.zip ys.toList).length → Zg (xs.toList.zip ys.toList) s.heap.objs.size h' as →
      acc.toList = as.map Value.ref → Q (.ref s.heap.objs.size) { s with heap := h', toks := tk }) :
    wpAny (model prog w) A (call (.type "list") [.ref z]) Q E s := by
  obtain ⟨a, b, hp⟩ := hp
  have W : Away s.heap.objs.size z TI TO i1 i2 l1 l2 := ⟨Heap.lt_size hz, Heap.lt_size hTI, Heap.lt_size hp, h1.lt, h2.lt, hl1.lt, hl2.lt⟩
  refine callType_codes (Q₁ := fun obj s₁ => obj = .ref s.heap.objs.size ∧ s₁ = { s with heap := s.heap.push { cls := .type "list", data := .seq #[] } }) PySem.F.called_list (PySem.F.typeCall_list_1 _) PySem.F.entry_list_init
    (code_list_new _ ⟨rfl, rfl⟩) fun obj s₁ h₁ => ?_
  obtain ⟨rfl, rfl⟩ := h₁
  have hS : (s.heap.push { cls := .type "list", data := .seq #[] }).get? s.heap.objs.size = some { cls := .type "list", data := .seq #[] } := Heap.get?_push_size _ rfl
  have up : ∀ b o, s.heap.get? b = some o → (s.heap.push { cls := .type "list", data := .seq #[] }).get? b = some o := fun b o e => Heap.get?_push_of_some _ e
  refine ⟨⟨_, hS, rfl⟩, PySem.F.args_list_init_2 _ _, zl_init (A := A.in1) hh D W (up _ _ hz) ⟨up _ _ hTI, h1.at fun o e => up _ o e, h2.at fun o e => up _ o e, hl1.at fun o e => up _ o e, hl2.at fun o e => up _ o e, .inl ⟨up _ _ hz, a, b, up _ _ hp⟩⟩ hS (fun h' tk acc c as hk hS' hl hG hacc => ?_) hn⟩
  exact ⟨rfl, hQ h' tk acc c as (fun b o q2 q3 q4 q5 e => hk b o (Nat.ne_of_lt (Heap.lt_size e)) q2 q3 q4 q5 (up b o e)) hS' hl hG hacc⟩
end
end ZpL
set_option linter.all false
set_option autoImplicit false
set_option maxRecDepth 100000
set_option maxHeartbeats 4000000
/-! list(zip(..)), by values. -/
namespace ZpL
open PySem PySem.Spec PyProof.Rows L2
open PySem.Sem (wp)
abbrev sqIter (t : Bool) (l : Addr) : Obj := { cls := .type (if t = true then "tuple_iterator" else "list_iterator"), data := .fields #[.ref l, .int 0 0] }
abbrev zH1 (t : Bool) (h : Heap) (l1 : Addr) : Heap := h.push (sqIter t l1)
abbrev zH2 (t t' : Bool) (h : Heap) (l1 l2 : Addr) : Heap := (zH1 t h l1).push (sqIter t' l2)
abbrev zH3 (t t' : Bool) (h : Heap) (l1 l2 : Addr) : Heap := (zH2 t t' h l1 l2).push { cls := .type "tuple", data := .seq #[.ref h.objs.size, .ref (zH1 t h l1).objs.size] }
abbrev zH4 (t t' : Bool) (h : Heap) (l1 l2 : Addr) : Heap := (zH3 t t' h l1 l2).push { cls := .type "tuple", data := .seq #[.none, .none] }
abbrev zH5 (t t' : Bool) (h : Heap) (l1 l2 : Addr) : Heap := (zH4 t t' h l1 l2).push { cls := .type "zip", data := .fields #[.none, .bool false, .bool false, .ref (zH2 t t' h l1 l2).objs.size, .ref (zH3 t t' h l1 l2).objs.size] }
theorem meets_zS (t t' : Bool) (l1 l2 : Addr) (xs ys : Array Value) :
    Meets (Builtin.«zip.__new__» ⟨[.type "zip", .ref l1, .ref l2], []⟩) (fun _ R s => SqAt t s.heap l1 xs ∧ SqAt t' s.heap l2 ys ∧
      R (.ok (.ret (.ref (zH4 t t' s.heap l1 l2).objs.size))) { s with heap := zH5 t t' s.heap l1 l2 }) :=
  .of_wp fun prog w A R s h => by
    obtain ⟨hp, g, d, tk, os⟩ := s; obtain ⟨hl1, hl2, h⟩ := h
    have hsub := sub_zip
    cases t <;> cases t'
    · have hL1 : Heap.IsList (Shared.heap ⟨hp, g, d, tk, os⟩) l1 xs := hl1
      have hL2 : Heap.IsList (Shared.heap ⟨hp.push { cls := .type "list_iterator", data := .fields #[.ref l1, .int 0 0] }, g, d, tk, os⟩) l2 ys := Heap.IsList.push hl2 _
      wp_walk using wpAny_pyIter_list hL1, wpAny_pyIter_list hL2
      exact ⟨_, rfl, h⟩
    · have hL1 : Heap.IsList (Shared.heap ⟨hp, g, d, tk, os⟩) l1 xs := hl1
      have hL2 : Heap.IsTuple (Shared.heap ⟨hp.push { cls := .type "list_iterator", data := .fields #[.ref l1, .int 0 0] }, g, d, tk, os⟩) l2 ys := Heap.IsTuple.push hl2 _
      wp_walk using wpAny_pyIter_list hL1, wpAny_pyIter_tuple hL2
      exact ⟨_, rfl, h⟩
    · have hL1 : Heap.IsTuple (Shared.heap ⟨hp, g, d, tk, os⟩) l1 xs := hl1
      have hL2 : Heap.IsList (Shared.heap ⟨hp.push { cls := .type "tuple_iterator", data := .fields #[.ref l1, .int 0 0] }, g, d, tk, os⟩) l2 ys := Heap.IsList.push hl2 _
      wp_walk using wpAny_pyIter_tuple hL1, wpAny_pyIter_list hL2
      exact ⟨_, rfl, h⟩
    · have hL1 : Heap.IsTuple (Shared.heap ⟨hp, g, d, tk, os⟩) l1 xs := hl1
      have hL2 : Heap.IsTuple (Shared.heap ⟨hp.push { cls := .type "tuple_iterator", data := .fields #[.ref l1, .int 0 0] }, g, d, tk, os⟩) l2 ys := Heap.IsTuple.push hl2 _
      wp_walk using wpAny_pyIter_tuple hL1, wpAny_pyIter_tuple hL2
      exact ⟨_, rfl, h⟩
theorem sqIt_of {t : Bool} {h : Heap} {i l : Addr} (e : h.get? i = some (sqIter t l)) : SqIt t h i l 0 := by
  cases t
  · exact ⟨_, e, rfl, rfl⟩
  · exact ⟨_, e, rfl, rfl⟩
section
variable {prog : Program} {w : World} {A : Around} {E : Value → Shared → Prop} {s : Shared}
theorem call_zS {t t' : Bool} {l1 l2 : Addr} {xs ys : Array Value} {Q : Value → Shared → Prop} (hl1 : SqAt t s.heap l1 xs) (hl2 : SqAt t' s.heap l2 ys)
    (h : ∀ h', IsZip h' (s.heap.objs.size + 4) (s.heap.objs.size + 2) (s.heap.objs.size + 3) .none → IsPair h' (s.heap.objs.size + 2) (.ref s.heap.objs.size) (.ref (s.heap.objs.size + 1)) →
      IsPair h' (s.heap.objs.size + 3) .none .none → SqIt t h' s.heap.objs.size l1 0 → SqIt t' h' (s.heap.objs.size + 1) l2 0 → h'.objs.size = s.heap.objs.size + 5 →
      (∀ c o, s.heap.get? c = some o → h'.get? c = some o) → Q (.ref (s.heap.objs.size + 4)) { s with heap := h' }) :
    wpAny (model prog w) A (call (.type "zip") [.ref l1, .ref l2]) Q E s := by
  refine callType_new F.called_zip (by decide) (F.typeCall_zip_2 _ _) (F.newCall_zip_2 _ _) (fun obj => F.args_object_init_3 obj _ _) F.entry_zip_new
    (meets_zS t t' l1 l2 xs ys) ⟨hl1, hl2, ?_⟩
  have z1 : (zH1 t s.heap l1).objs.size = s.heap.objs.size + 1 := Heap.size_push ..
  have z2 : (zH2 t t' s.heap l1 l2).objs.size = s.heap.objs.size + 2 := by rw [Heap.size_push, z1]
  have z3 : (zH3 t t' s.heap l1 l2).objs.size = s.heap.objs.size + 3 := by rw [Heap.size_push, z2]
  have z4 : (zH4 t t' s.heap l1 l2).objs.size = s.heap.objs.size + 4 := by rw [Heap.size_push, z3]
  have z5 : (zH5 t t' s.heap l1 l2).objs.size = s.heap.objs.size + 5 := by rw [Heap.size_push, z4]
  have g5 : (zH5 t t' s.heap l1 l2).get? (zH4 t t' s.heap l1 l2).objs.size = some _ := Heap.get?_push_size _ rfl
  have g4 : (zH5 t t' s.heap l1 l2).get? (zH3 t t' s.heap l1 l2).objs.size = some _ := Heap.get?_push_of_some _ (Heap.get?_push_size _ rfl)
  have g3 : (zH5 t t' s.heap l1 l2).get? (zH2 t t' s.heap l1 l2).objs.size = some _ := Heap.get?_push_of_some _ (Heap.get?_push_of_some _ (Heap.get?_push_size _ rfl))
  have g2 : (zH5 t t' s.heap l1 l2).get? (zH1 t s.heap l1).objs.size = some (sqIter t' l2) := Heap.get?_push_of_some _ (Heap.get?_push_of_some _ (Heap.get?_push_of_some _ (Heap.get?_push_size _ rfl)))
  have g1 : (zH5 t t' s.heap l1 l2).get? s.heap.objs.size = some (sqIter t l1) := Heap.get?_push_of_some _ (Heap.get?_push_of_some _ (Heap.get?_push_of_some _ (Heap.get?_push_of_some _ (Heap.get?_push_size _ rfl))))
  show _ ∧ _
  rw [z2, z3, z4] at g5
  rw [z1, z2] at g3
  rw [z3] at g4
  rw [z1] at g2
  rw [z4]
  exact ⟨⟨_, g5, rfl⟩, h _ g5 g3 g4 (sqIt_of g1) (sqIt_of g2) z5 fun c o x =>
    Heap.get?_push_of_some _ (Heap.get?_push_of_some _ (Heap.get?_push_of_some _ (Heap.get?_push_of_some _ (Heap.get?_push_of_some _ x))))⟩
theorem list_zip {t t' : Bool} {l1 l2 : Addr} {xs ys : Array Value} {Q : Value → Shared → Prop} (hh : A.handled = none) (hl1 : SqAt t s.heap l1 xs) (hl2 : SqAt t' s.heap l2 ys) (hn : (xs.toList.zip ys.toList).length ≤ sizeLine)
    (hQ : ∀ h' tk acc c as S, (∀ b o, s.heap.get? b = some o → h'.get? b = some o) → s.heap.objs.size ≤ S → h'.get? S = some { cls := .type "list", dict := none, data := .seq acc c, slots := #[] } → as.length = (xs.toList.zip ys.toList).length → Zg (xs.toList.zip ys.toList) S h' as →
      acc.toList = as.map Value.ref → Q (.ref S) { s with heap := h', toks := tk }) :
    wpAny (model prog w) A (call (.type "zip") [.ref l1, .ref l2]) (fun zv s1 => wpAny (model prog w) A (call (.type "list") [zv]) Q E s1) E s := by
  refine call_zS hl1 hl2 fun h' hz hTI hTO h1 h2 hsz hk => ?_
  have D := PySem.W.ktu_apart s.heap.objs.size l1 l2 hl1.lt hl2.lt
  refine zl_call (s := { s with heap := h' }) hh D hz ⟨_, _, hTO⟩ hTI h1 h2 (hl1.at fun o e => hk _ o e) (hl2.at fun o e => hk _ o e) hn fun h2' tk acc c as hk2 hS hl hG hacc => ?_
  refine hQ h2' tk acc c as _ (fun b o e => ?_) (by show s.heap.objs.size ≤ h'.objs.size; omega) hS hl hG hacc
  have hb := Heap.lt_size e
  exact hk2 b o (Nat.ne_of_lt (Nat.lt_of_lt_of_le hb (Nat.le_add_right _ _))) (Nat.ne_of_lt (Nat.lt_of_lt_of_le hb (Nat.le_add_right _ _))) (Nat.ne_of_lt hb) (Nat.ne_of_lt (Nat.lt_of_lt_of_le hb (Nat.le_add_right _ _))) (hk b o e)
end
/-! ### by values -/
def putP : Hp → List Addr → List (V × V) → Hp
  | H, a :: as, p :: ps => putP (upd H a (.tup [p.1, p.2])) as ps
  | H, _, _ => H
theorem putP_off {b : Addr} : ∀ (as : List Addr) (ps : List (V × V)) (H : Hp), b ∉ as → putP H as ps b = H b
  | [], _, _, _ => rfl
  | _ :: _, [], _, _ => rfl
  | a :: as, p :: ps, H, h => by
    show putP (upd H a (.tup [p.1, p.2])) as ps b = H b
    rw [putP_off as ps _ (fun z => h (List.mem_cons_of_mem _ z)), upd_ne (fun z => h (by rw [z]; exact List.mem_cons_self))]
theorem putP_at : ∀ (as : List Addr) (ps : List (V × V)) (H : Hp), as.length = ps.length → as.Nodup → ∀ (j : Nat) (a : Addr), as[j]? = some a → ∃ p, ps[j]? = some p ∧ putP H as ps a = some (.tup [p.1, p.2])
  | [], _, _, _, _, j, a, e => by simp at e
  | _ :: _, [], _, h, _, _, _, _ => by cases h
  | b :: as, p :: ps, H, h, hn, 0, a, e => by
    have hn' := List.nodup_cons.mp hn
    have e' : b = a := Option.some.inj e
    subst e'
    refine ⟨p, rfl, ?_⟩
    show putP (upd H b (.tup [p.1, p.2])) as ps b = some (.tup [p.1, p.2])
    rw [putP_off as ps _ hn'.1, upd_same]
  | b :: as, p :: ps, H, h, hn, j + 1, a, e => by
    have hn' := List.nodup_cons.mp hn
    exact putP_at as ps (upd H b (.tup [p.1, p.2])) (Nat.succ.inj h) hn'.2 j a e
section
variable {X : Cx} {e e2 : Expr} {ta : TA} {p p2 cpos pos : Pos}
theorem vals_zip : ∀ {xs ys : List V} {us vs : List Value}, Vals xs us → Vals ys vs → ∀ (j : Nat) (q : Value × Value), (us.zip vs)[j]? = some q → ∃ r, (xs.zip ys)[j]? = some r ∧ RelV r.1 q.1 ∧ RelV r.2 q.2
  | _, _, _, _, .nil, _, j, q, h => by simp at h
  | _, _, _, _, .cons _ _, .nil, j, q, h => by simp at h
  | _, _, _, _, .cons a r, .cons b t, 0, q, h => by
    have e := Option.some.inj (by simpa using h)
    subst e
    exact ⟨_, rfl, a, b⟩
  | _, _, _, _, .cons a r, .cons b t, j + 1, q, h => by
    exact vals_zip r t j q (by simpa using h)
theorem zips_laid {pins : List (Addr × Obj)} {σ : L2.St} {H : Hp} {s : Shared} {h' : Heap} {tk : Nat} {ps : List (V × V)} {vs : List (Value × Value)} {acc : Array Value} {c : Nat} {as : List Addr} {S : Addr} (I : L2.Inv X pins σ H s) (hz : ps.length ≤ sizeLine) (lk : ps.length = vs.length) (kv : ∀ (j : Nat) (q : Value × Value), vs[j]? = some q → ∃ r, ps[j]? = some r ∧ RelV r.1 q.1 ∧ RelV r.2 q.2)
    (hk : ∀ b o, s.heap.get? b = some o → h'.get? b = some o) (hSn : s.heap.objs.size ≤ S) (hS : h'.get? S = some { cls := .type "list", dict := none, data := .seq acc c, slots := #[] }) (hl : as.length = vs.length) (hG : Zg vs S h' as) (hacc : acc.toList = as.map Value.ref) :
    H S = none ∧ (∀ t ∈ as, H t = none) ∧ S ∉ as ∧ as.Nodup ∧ L2.Inv X pins σ (upd (putP H as ps) S (.lst (as.map V.ref))) { s with heap := h', toks := tk } := by
  have hSa : S ∉ as := fun z => Nat.lt_irrefl _ (hG.above _ z)
  have nd : as.Nodup := List.Pairwise.imp (fun {a b} (h : a < b) => Nat.ne_of_lt h) hG.rise
  have new : ∀ t ∈ as, H t = none := fun t ht => I.hok.fresh (Nat.le_of_lt (Nat.lt_of_le_of_lt hSn (hG.above t ht)))
  have newS : H S = none := I.hok.fresh hSn
  have atP := putP_at as ps H (by omega) nd
  have off : ∀ b, b ∉ as → b ≠ S → upd (putP H as ps) S (.lst (as.map V.ref)) b = H b := fun b h1 h2 => by rw [upd_ne h2, putP_off as ps _ h1]
  have low : ∀ b o, s.heap.get? b = some o → b ∉ as ∧ b ≠ S := fun b o e => ⟨fun z => absurd (Heap.lt_size e) (Nat.not_lt.mpr (Nat.le_of_lt (Nat.lt_of_le_of_lt hSn (hG.above b z)))), Nat.ne_of_lt (Nat.lt_of_lt_of_le (Heap.lt_size e) hSn)⟩
  have kp : ∀ b u, H b = some u → upd (putP H as ps) S (.lst (as.map V.ref)) b = some u := fun b u e => by
    rw [off b (fun z => by rw [new b z] at e; cases e) (fun z => by rw [z, newS] at e; cases e)]
    exact e
  refine ⟨newS, new, hSa, nd, ?_⟩
  refine I.call' (ch := []) rfl ⟨fun b o q _ _ _ => hk b o q, fun b o q _ _ _ => ⟨o.slots, hk b o q⟩, fun b o q n _ => ?_, fun b o q _ => ⟨o, hk b o q⟩, fun b xs q => kp b _ q, fun b o u q => kp b _ q, fun b ps q => ⟨#[], by rw [kp b _ q]; simp⟩⟩ (fun b u q => ?_) I.bare fun b z => by simp at z
  · obtain ⟨z1, z2⟩ := low b o q
    rw [off b z1 z2]
    exact n
  · by_cases hb2 : b = S
    · rw [hb2] at q ⊢
      rw [upd_same] at q
      cases q
      refine ⟨by rw [List.length_map]; omega, acc.toList, c, by rw [hacc]; exact LiI.vals_refs as, ?_⟩
      rw [Array.toArray_toList]
      exact hS
    · by_cases hb : b ∈ as
      · obtain ⟨j, e1⟩ := List.mem_iff_getElem?.mp hb
        obtain ⟨r, e2, e3⟩ := atP j b e1
        rw [upd_ne hb2, e3] at q
        cases q
        obtain ⟨u, v, f1, f3⟩ := hG.pairs j b e1
        obtain ⟨r', g1, g2, g3⟩ := kv j _ f1
        rw [e2] at g1
        cases g1
        exact ⟨by show 2 ≤ sizeLine; decide, [u, v], .cons g2 (.cons g3 .nil), ⟨_, f3, rfl, _, rfl⟩⟩
      · rw [off b hb hb2] at q
        exact (I.hok b u q).stay (fun d v _ y => hk d v y) (fun d y => kp d _ y) fun d xs y => kp d _ y
/-- a row: a tuple (t) or a list -/
def SqX (t : Bool) (K : PySem.W.Frag) (H : Hp) (a : Addr) (xs : List V) : Prop := if t = true then SqT K H a xs else SqL K H a xs
theorem sq_of {pins : List (Addr × Obj)} {σ : L2.St} {H : Hp} {s : Shared} {t : Bool} {a : Addr} {xs : List V} (I : L2.Inv X pins σ H s) (h : SqX t X.K H a xs) : ∃ its : List Value, Vals xs its ∧ SqAt t s.heap a its.toArray ∧ xs.length ≤ sizeLine := by
  cases t
  · obtain ⟨its, r, p, z⟩ := I.list h
    exact ⟨its, r, p.isList, z⟩
  · obtain ⟨its, r, p, z⟩ := I.tuple h
    exact ⟨its, r, p, z⟩
def tListZip (K : PySem.W.Frag) (ta : TA) : TE := fun σ H Q => ta σ H fun vs H1 => ∃ (t t' : Bool) (a b : Addr) (xs ys : List V), vs = [.ref a, .ref b] ∧ SqX t K H1 a xs ∧ SqX t' K H1 b ys ∧
  ∀ (S : Addr) (as : List Addr), as.length = (xs.zip ys).length → as.Nodup → H1 S = none → (∀ t ∈ as, H1 t = none) → S ∉ as → Q (.ref S) (upd (putP H1 as (xs.zip ys)) S (.lst (as.map V.ref)))
theorem pe_listZip (hc : X.calm = true) (ha : PA X [e, e2] ta) (hg : Gl X "list") (hm : X.mg "list" = none) (hg2 : Gl X "zip") (hm2 : X.mg "zip" = none)
    (hs : starEach [.Call (.Name "zip" p2) [e, e2] [] cpos] X.env = (false, eval (.Call (.Name "zip" p2) [e, e2] [] cpos) X.env) :: starEach [] X.env := by rfl)
    (hsz : starEach [e, e2] X.env = (false, eval e X.env) :: starEach [e2] X.env := by rfl) (hpl : (backTo cpos (starEach [e2] X.env)).any (·.1) = false := by rfl) :
    PE X (.Call (.Name "list" p) [.Call (.Name "zip" p2) [e, e2] [] cpos] [] pos) (tListZip X.K ta) := by
  refine ⟨fun pins s σ H Q I hq => ?_⟩
  have hv : bootBuiltins "list" = some (.type "list") := by decide +kernel
  refine wpAny_Call_Name_kw (ld_blt I hg hm hv ?_)
  refine PyProof.Rows.callWith_type1 ?_ hs rfl
  rw [hs]
  show wpAny _ _ (spliced ((false, eval (.Call (.Name "zip" p2) [e, e2] [] cpos) X.env) :: backTo pos (starEach [] X.env))) _ _ s
  refine Calls.spliced_cons ?_
  refine wpAny_Call_Name_kw (ld_blt I hg2 hm2 PyProof.Rows.boot_zip (PyProof.Rows.callWith_type1 (thn (ha.run cpos pins s σ H _ I hq) fun us s1 ⟨vs, H1, I1, r1, q1⟩ => ?_) hsz hpl))
  obtain ⟨t, t', a, b, xs, ys, ex, h1, h2, q1⟩ := q1
  subst ex
  cases r1 with
  | cons r rr =>
    cases rr with
    | cons r' rr =>
      cases rr
      cases r
      cases r'
      obtain ⟨its, rv, a1, z1⟩ := sq_of I1 h1
      obtain ⟨its2, rv2, a2, z2⟩ := sq_of I1 h2
      have lz : (xs.zip ys).length = (its.zip its2).length := by rw [List.length_zip, List.length_zip, rv.length, rv2.length]
      have hz : (xs.zip ys).length ≤ sizeLine := by rw [List.length_zip]; omega
      refine thn (list_zip (Q := EP X pins σ Q) (I1.ok.hd hc) a1 a2 (by show (its.zip its2).length ≤ sizeLine; omega) fun h' tk acc c as S hk hSn hS hl hG hacc => ?_) fun zv s2 h => ?_
      · obtain ⟨k1, k2, k3, k4, J⟩ := zips_laid (tk := tk) I1 hz lz (vals_zip rv rv2) hk hSn hS hl hG hacc
        exact ⟨.ref S, _, J, rfl, q1 S as (by rw [hl]; exact lz.symm) k4 k1 k2 k3⟩
      · exact Calls.spliced_nil h
end
end ZpL
set_option linter.all false
set_option autoImplicit false
set_option maxRecDepth 100000
set_option maxHeartbeats 4000000
/-! list(zip(..)), max, //=, reversed ranges. -/
namespace Bw
open PySem PySem.Spec PyProof.Rows L2
def rowD (st : Store) : D → Option (List D)
  | .tup ds => some ds
  | .lst ds => some ds
  | .ref n => match st[n]? with
    | some (.lst ds) => some ds
    | _ => none
  | _ => none
def fLZ : List D → Store → Option D := fun ds st => match ds with
  | [x, y] => (rowD st x).bind fun a => (rowD st y).map fun b => .lst (zipD a b)
  | _ => none
section
variable {c : Cc} {T : List (Addr × Str)} {z : Zw} {st : Store} {H : Hp}
theorem row_is {v : V} {d : D} {ds : List D} (w : Wf c T z st H) (r : Rp c z v d) (e : rowD st d = some ds) : ∃ t a vs, v = .ref a ∧ ZpL.SqX t c.K H a vs ∧ Rps c z vs ds := by
  cases d with
  | tup es =>
    cases e
    cases r with
    | tup s1 rs => exact ⟨true, _, _, rfl, w.tup s1, rs⟩
  | lst es =>
    cases e
    cases r with
    | lst s1 rs => exact ⟨false, _, _, rfl, .inl (.inl (w.sub _ _ s1)), rs⟩
  | ref n =>
    have e' : (match st[n]? with | some (.lst ds) => some ds | _ => none) = some ds := e
    split at e'
    · rename_i e2
      cases e'
      cases r with
      | ref e3 =>
        obtain ⟨_, vs, k1, k2⟩ := w.obj _ _ _ e3 e2
        exact ⟨false, _, _, rfl, .inl (.inl k1), k2⟩
    · cases e'
  | _ => cases e
theorem new_pairs : ∀ (as : List Addr) (xs ys : List V) (ds es : List D) (z : Zw) (H : Hp), as.length = (xs.zip ys).length → as.Nodup → (∀ t ∈ as, H t = none) → Wf c T z st H → Rps c z xs ds → Rps c z ys es →
    ∃ z', Le z z' ∧ Wf c T z' st (ZpL.putP H as (xs.zip ys)) ∧ Rps c z' (as.map V.ref) (zipD ds es)
  | [], xs, ys, ds, es, z, H, hl, _, _, w, r1, r2 => by
    refine ⟨z, Le.refl z, ?_, ?_⟩
    · cases xs.zip ys <;> exact w
    · have : zipD ds es = [] := List.eq_nil_of_length_eq_zero (by rw [zipD_len]; rw [List.length_zip] at hl; have := r1.len; have := r2.len; simp at hl; omega)
      rw [this]
      exact .nil
  | a :: as, [], ys, ds, es, z, H, hl, _, _, w, r1, r2 => by simp at hl
  | a :: as, x :: xs, [], ds, es, z, H, hl, _, _, w, r1, r2 => by simp at hl
  | a :: as, x :: xs, y :: ys, ds, es, z, H, hl, hn, hf, w, r1, r2 => by
    cases r1 with
    | cons ra rr =>
      cases r2 with
      | cons rb rt =>
        have hn' := List.nodup_cons.mp hn
        obtain ⟨l1, w1, q1⟩ := w.newTup (hf a List.mem_cons_self) (.cons ra (.cons rb .nil))
        obtain ⟨z', l2, w2, q2⟩ := new_pairs as xs ys _ _ _ _ (by simpa using hl) hn'.2 (fun t ht => by rw [upd_ne (show t ≠ a from fun h => hn'.1 (by rw [← h]; exact ht))]; exact hf t (List.mem_cons_of_mem _ ht)) w1 (rr.mono l1) (rt.mono l1)
        exact ⟨z', l1.trans l2, w2, .cons (q1.mono l2) q2⟩
end
section
variable {X : Cx} {c : Fc} {T : List (Addr × Str)} {W : WX} {e e2 : PySem.Expr} {mr : MA} {p p2 cpos pos : Pos}
theorem e_listZip (hK : X.K = c.K) (hc : X.calm = true) (hm : X.mg "list" = none) (hm2 : X.mg "zip" = none) (ha : PA X [e, e2] (LA c T W mr)) (hg : Gl X "list" := by rfl) (hg2 : Gl X "zip" := by rfl)
    (hs : starEach [.Call (.Name "zip" p2) [e, e2] [] cpos] X.env = (false, eval (.Call (.Name "zip" p2) [e, e2] [] cpos) X.env) :: starEach [] X.env := by rfl)
    (hsz : starEach [e, e2] X.env = (false, eval e X.env) :: starEach [e2] X.env := by rfl) (hpl : (backTo cpos (starEach [e2] X.env)).any (·.1) = false := by rfl) :
    PD X c T W (.Call (.Name "list" p) [.Call (.Name "zip" p2) [e, e2] [] cpos] [] pos) (mBlt fLZ mr) :=
  imp_PE (ZpL.pe_listZip hc ha hg hm hg2 hm2 hs hsz hpl) fun σ H Q ⟨z, ρ, st, w, r, q⟩ => ⟨z, ρ, st, w, r, (Pst.bnd q).imp fun xs H1 ⟨z1, st1, ds, l1, w1, rs, q1⟩ => by
    obtain ⟨dd, ed, q2⟩ := Pst.ofO q1
    unfold fLZ at ed
    split at ed
    · rename_i x y
      cases e1 : rowD st1 x with
      | none => rw [e1] at ed; cases ed
      | some a =>
        rw [e1] at ed
        cases e2' : rowD st1 y with
        | none => rw [e2'] at ed; cases ed
        | some b =>
          rw [e2'] at ed
          cases ed
          cases rs with
          | cons ra rr =>
            cases rr with
            | cons rb rr =>
              cases rr
              obtain ⟨t, p1, vs, ev, s1, r1⟩ := row_is w1 ra e1
              obtain ⟨t', p2', ws, ew, s2, r2⟩ := row_is w1 rb e2'
              subst ev ew
              refine ⟨t, t', p1, p2', vs, ws, rfl, by rw [hK]; exact s1, by rw [hK]; exact s2, fun S as hl hn hS hf hSa => ?_⟩
              obtain ⟨z2, l2, w2, q3⟩ := new_pairs as vs ws _ _ z1 H1 hl hn hf w1 r1 r2
              obtain ⟨l3, w3, q4⟩ := w2.newLst (by rw [ZpL.putP_off as _ _ hSa]; exact hS) q3
              exact q2 _ _ _ (l2.trans l3) w3 q4
    · cases ed⟩
end
/-! ### max -/
section
variable {prog : Program} {w : World} {A : Around} {E : Value → Shared → Prop} {s : Shared}
theorem args_max4 (a b c d : Value) : argsOk "max" ⟨[a, b, c, d], []⟩ := by unfold argsOk; kernel_rfl
theorem call_max_four {a b c d : Value} {Q : Value → Shared → Prop}
    (h : wpAny (model prog w) A.in1 (pyIter (.ref s.heap.objs.size)) (fun it s₂ => ∃ I fp wr n P St bt, it = .ref I ∧ Walks prog w A.in1 I fp wr n P St ∧ St 0 s₂.heap ∧ (∀ b ∈ fp, b < s₂.heap.objs.size) ∧ 0 < n ∧ CmpOf prog w A.in1 .Gt P bt ∧
      ∀ v h' tk, P (argBest bt (n - 1)) v → (∀ b o, b ∉ wr → s₂.heap.get? b = some o → h'.get? b = some o) → Q v { s₂ with heap := h', toks := tk }) E
      { s with heap := s.heap.push { cls := .type "tuple", data := .seq #[a, b, c, d] } }) :
    wpAny (model prog w) A (call (.builtin "max") [a, b, c, d]) Q E s := by
  have hname : (toString "max" ++ toString ".loop" : String) = "max.loop" := by decide
  refine call_function_tree F.kind_max F.plain_max F.entry_max (args_max4 _ _ _ _) ?_
  show wpAny _ A.in1 (Builtin.Builtins.bindParams "max" ["key", "default"] 0 ⟨[], []⟩ >>= _) _ _ s
  refine wpAny_bind (wpAny_of_eq (show Builtin.Builtins.bindParams "max" ["key", "default"] 0 ⟨[], []⟩ = pure [none, none] from rfl) ?_)
  show wpAny _ A.in1 (newTuple [a, b, c, d] >>= _) _ _ s
  refine wpAny_bind (wpAny_newObj_type ?_)
  refine wpAny_bind (wpAny_mono h (fun it s₂ h₂ => ?_) fun _ _ e => e)
  obtain ⟨I, fp, wr, n, P, St, bt, rfl, W, hst, hfp, hn, hcmp, hQ⟩ := h₂
  refine wpAny_bind (wpAny_newObj_type ?_)
  have hSf : s₂.heap.objs.size ∉ fp := fun hm => Nat.lt_irrefl _ (hfp _ hm)
  rw [hname]
  refine wpAny_pure ⟨plainId_quiet F.plain_max_loop _, codeAny_max_loop_first W bt hcmp s₂.heap.objs.size hSf hn (W.frame _ _ _ hst fun b _ o e => Heap.get?_push_of_some _ e) (Heap.get?_push_size _ rfl) fun v h' tk hP hk => ?_⟩
  exact hQ v h' tk hP fun b o hbw e => hk b o hbw (Nat.ne_of_lt (Heap.lt_size e)) (Heap.get?_push_of_some _ e)
/-- the walk over a tuple of ints, for its greatest -/
theorem max_walk {t : Addr} {xs : Array (Int × Tok)} {Q : Value → Shared → Prop} (hh : A.handled = none) (ht : s.heap.IsTuple t (intItems xs)) (hsz : 0 < xs.size)
    (h : ∀ m u h' tk, m ∈ (xs.toList.map (·.1)) → (∀ y, y ∈ xs.toList.map (·.1) → y ≤ m) → (∀ b o, s.heap.get? b = some o → h'.get? b = some o) → Q (.int m u) { s with heap := h', toks := tk }) :
    wpAny (model prog w) A.in1 (pyIter (.ref t)) (fun it s₂ => ∃ I fp wr n P St bt, it = .ref I ∧ Walks prog w A.in1 I fp wr n P St ∧ St 0 s₂.heap ∧ (∀ b ∈ fp, b < s₂.heap.objs.size) ∧ 0 < n ∧ CmpOf prog w A.in1 .Gt P bt ∧
      ∀ v h' tk, P (argBest bt (n - 1)) v → (∀ b o, b ∉ wr → s₂.heap.get? b = some o → h'.get? b = some o) → Q v { s₂ with heap := h', toks := tk }) E s := by
  have tl : t < s.heap.objs.size := let ⟨_, e, _⟩ := ht; Heap.lt_size e
  refine wpAny_pyIter_tuple ht ?_
  refine ⟨_, [_, t], [_], _, _, _, _, rfl, Walks.tuple (A := A.in1) hh _ t (Nat.ne_of_lt tl) (intItems xs),
    ⟨⟨_, Heap.get?_push_size _ rfl, rfl, rfl⟩, ht.push _⟩, fun d hd => ?_, by simpa [intItems] using hsz, CmpOf.ints_gt (numAt xs) (fun _ _ => intItems_at), fun v h' tk hP hk => ?_⟩
  · rw [Heap.size_push]
    rcases List.mem_cons.mp hd with rfl | hd
    · exact Nat.lt_succ_self _
    · rcases List.mem_cons.mp hd with rfl | hd
      · exact Nat.lt_succ_of_lt tl
      · cases hd
  · have hv : (intItems xs)[argBest (fun i j => decide (numAt xs i > numAt xs j)) (xs.size - 1)]? = some v := by
      have : (intItems xs).size = xs.size := by simp [intItems]
      rw [← this]; exact hP
    obtain ⟨u, rfl⟩ := intItems_at hv
    obtain ⟨h1, h2⟩ := argBest_gt (numAt xs) (xs.size - 1)
    refine h _ u h' tk ?_ (fun y hy => ?_) fun b o e => hk b o (fun hm => ?_) (Heap.get?_push_of_some _ e)
    · rw [numAt_eq]; exact PySem.getD_mem (by rw [List.length_map, Array.length_toList]; omega)
    · obtain ⟨j, hj, rfl⟩ := mem_getD hy
      rw [List.length_map, Array.length_toList] at hj
      rw [← numAt_eq]; exact h2 j (by omega)
    · rw [List.mem_singleton.mp hm] at e
      exact absurd (Heap.lt_size e) (Nat.lt_irrefl _)
end
section
variable {prog : Program} {w : World} {A : Around} {E : Value → Shared → Prop} {s : Shared} {its : List Value} {ns : List Int} {Q : Value → Shared → Prop}
theorem max_tupI {l : Addr} (hh : A.handled = none) (hl : s.heap.IsTuple l its.toArray) (hi : IntsAre its ns) (hne : 0 < ns.length)
    (h : ∀ h' tk M t', (∀ b o, s.heap.get? b = some o → h'.get? b = some o) → M ∈ ns → (∀ a, a ∈ ns → a ≤ M) → Q (.int M t') { s with heap := h', toks := tk }) : wpAny (model prog w) A (call (.builtin "max") [.ref l]) Q E s := by
  obtain ⟨xs, e⟩ := hi.allInts.items
  have hn : numsOf (intItems xs).toList = ns := by rw [← e]; exact hi.numsOf
  rw [nums_intItems] at hn
  subst hn
  rw [e] at hl
  have hsz : 0 < xs.size := by simpa using hne
  exact call_max_walk (max_walk hh hl hsz fun m u h' tk h1 h2 hk => h h' tk m u hk h1 h2)
theorem max_4I {a b c d : Int} {t u x y : Tok} (hh : A.handled = none)
    (h : ∀ h' tk M t', (∀ b o, s.heap.get? b = some o → h'.get? b = some o) → M ∈ [a, b, c, d] → (∀ k, k ∈ [a, b, c, d] → k ≤ M) → Q (.int M t') { s with heap := h', toks := tk }) : wpAny (model prog w) A (call (.builtin "max") [.int a t, .int b u, .int c x, .int d y]) Q E s := by
  have hT : (s.heap.push { cls := .type "tuple", data := .seq #[.int a t, .int b u, .int c x, .int d y] }).IsTuple s.heap.objs.size (intItems #[(a, t), (b, u), (c, x), (d, y)]) := ⟨_, Heap.get?_push_size _ rfl, rfl, 0, by simp [intItems]⟩
  refine call_max_four (max_walk (s := { s with heap := s.heap.push { cls := .type "tuple", data := .seq #[.int a t, .int b u, .int c x, .int d y] } }) hh hT (by simp) fun m v h' tk h1 h2 hk => ?_)
  exact h h' tk m v (fun b o e => hk b o (Heap.get?_push_of_some _ e)) h1 h2
end
def intsD : List D → Option (List Int)
  | [] => some []
  | .int i :: r => (intsD r).map (i :: ·)
  | _ => none
theorem intsD_of {c : Cc} {z : Zw} : ∀ {vs : List V} {ds : List D} {ns : List Int}, Rps c z vs ds → intsD ds = some ns → vs = ns.map V.int
  | _, _, _, .nil, e => by cases e; rfl
  | _, _, ns, .cons (d := d) (ds := ds) ra rr, e => by
    cases d with
    | int i =>
      unfold intsD at e
      cases h : intsD ds with
      | none => rw [h] at e; cases e
      | some cs =>
        rw [h] at e
        cases e
        cases ra
        rw [List.map_cons, intsD_of rr h]
    | _ => cases e
theorem max_of {ns : List Int} {m : Int} (h1 : m ∈ ns) (h2 : ∀ y, y ∈ ns → y ≤ m) : ns.max? = some m := List.max?_eq_some_iff.mpr ⟨h1, h2⟩
def maxO (ns : List Int) : Option D := ns.max?.map D.int
def fMax : List D → Store → Option D := fun ds st => match ds with
  | [x] => ((rowD st x).bind intsD).bind maxO
  | [.int a, .int b] => maxO [a, b]
  | [.int a, .int b, .int c, .int d] => maxO [a, b, c, d]
  | _ => none
theorem c_max {X : Cx} {c : Cc} {T : List (Addr × Str)} (hK : X.K = c.K) (hc : X.calm = true) : CallR X (.builtin "max") (rN c T fMax) := by
  obtain ⟨K, mg⟩ := c
  cases hK
  intro pins s σ H xs us Q I r h
  obtain ⟨z, st, ds, d, w, rs, e, q⟩ := h
  unfold fMax at e
  split at e
  · rename_i x
    cases rs with
    | cons ra rr =>
      cases rr
      cases e1 : rowD st x with
      | none => rw [e1] at e; cases e
      | some es =>
        rw [e1] at e
        cases e2 : intsD es with
        | none =>
          have e' : (intsD es).bind maxO = some d := e
          rw [e2] at e'
          cases e'
        | some ns =>
          have e' : (intsD es).bind maxO = some d := e
          rw [e2] at e'
          have e3 : ns.max?.map D.int = some d := e'
          have hne : 0 < ns.length := by
            cases ns with
            | nil => cases e3
            | cons _ _ => simp
          obtain ⟨t, a, vs, ev, sq, rv⟩ := row_is w ra e1
          subst ev
          have := intsD_of rv e2
          subst this
          have fin : ∀ m, m ∈ ns → (∀ y, y ∈ ns → y ≤ m) → Q (.int m) H := fun m h1 h2 => by
            rw [max_of h1 h2] at e3
            cases e3
            exact q z H _ (Le.refl z) w (.int _)
          cases t
          · exact cr_max hc pins s σ H _ us Q I r ⟨_, ns, rfl, sq, hne, fin⟩
          · obtain ⟨its, rvs, hl, _⟩ := I.tuple (show SqT X.K H a (ns.map V.int) from sq)
            rw [Vals.ref1 r]
            exact max_tupI (I.ok.hd hc) hl rvs.ints hne fun h' tk m t' hk h1 h2 => ⟨.int _, H, I.kept hk, ⟨_, rfl⟩, fin m h1 h2⟩
  · rename_i a b
    cases rs with
    | cons ra rr =>
      cases rr with
      | cons rb rr =>
        cases rr
        cases ra
        cases rb
        refine call_max2 hc pins s σ H _ us Q I r ⟨a, b, rfl, ?_⟩
        have : ([a, b] : List Int).max? = some (if b > a then b else a) := max_of (by split <;> simp) (by intro y hy; simp only [List.mem_cons, List.not_mem_nil, or_false] at hy; split <;> omega)
        unfold maxO at e
        rw [this] at e
        cases e
        exact q z H _ (Le.refl z) w (.int _)
  · rename_i i j k l
    cases rs with
    | cons ra rr =>
      cases rr with
      | cons rb rr =>
        cases rr with
        | cons rc rr =>
          cases rr with
          | cons rd rr =>
            cases rr
            cases ra
            cases rb
            cases rc
            cases rd
            cases r with
            | cons q1 r =>
              cases r with
              | cons q2 r =>
                cases r with
                | cons q3 r =>
                  cases r with
                  | cons q4 r =>
                    cases r
                    obtain ⟨_, rfl⟩ := q1
                    obtain ⟨_, rfl⟩ := q2
                    obtain ⟨_, rfl⟩ := q3
                    obtain ⟨_, rfl⟩ := q4
                    refine max_4I (I.ok.hd hc) fun h' tk m t' hk h1 h2 => ⟨.int _, H, I.kept hk, ⟨_, rfl⟩, ?_⟩
                    unfold maxO at e
                    rw [max_of h1 h2] at e
                    cases e
                    exact q z H _ (Le.refl z) w (.int _)
  · cases e
/-! ### x //= j -/
def fFdv : D → D → Store → Option D := fun a b _ => match a, b with
  | .int i, .int j => if 0 < j ∧ j.natAbs.log2 < 9000 then some (.int (i / j)) else none
  | _, _ => none
theorem i_fdv {X : Cx} {c : Cc} {T : List (Addr × Str)} : PIp X .FloorDiv (rIp c T fFdv) := fun pins s σ H x y v u Q I rx ry ⟨z, st, dx, dy, dd, w, h1, h2, e, q⟩ => by
  unfold fFdv at e
  cases h1 with
  | int i => cases h2 with
    | int j =>
      have e' : (if 0 < j ∧ j.natAbs.log2 < 9000 then some (D.int (i / j)) else none) = some dd := e
      split at e'
      · rename_i hc
        cases e'
        exact iop_fdivW pins s σ H _ _ v u Q I rx ry ⟨i, j, rfl, rfl, hc, q z H _ (Le.refl z) w (.int _)⟩
      · cases e'
    | _ => cases e
  | _ => cases e
/-! ### reversed(range(n)) -/
section
variable {X : Cx} {c : Fc} {T : List (Addr × Str)} {W : WX} {a tg : PySem.Expr} {me : ME} {pos : Pos}
def iRevN (a : ME) : MI := fun ρ st => (a ρ st).bind fun d st => match d with
  | .int j => if Rg j then .ok (still (rng (0 + ((j - 0).toNat : Int) - 1) (-1) (j - 0).toNat)) st else .no
  | _ => .no
theorem i_revN (hm : X.mg "range" = none) (hm2 : X.mg "reversed" = none) {p p2 pos2 : Pos} (ha : PD X c T W a me) (hg : Gl X "range" := by rfl) (hg2 : Gl X "reversed" := by rfl) (na : starEach [a] X.env = (false, eval a X.env) :: starEach [] X.env := by rfl)
    (hs2 : starEach [.Call (.Name "range" p) [a] [] pos2] X.env = (false, eval (.Call (.Name "range" p) [a] [] pos2) X.env) :: starEach [] X.env := by rfl) :
    PI X tg (.Call (.Name "reversed" p2) [.Call (.Name "range" p) [a] [] pos2] [] pos) (LI c T W (Bw.iRevN me)) :=
  imp_PI (pi_revR hg2 hm2 (prg_1 hg hm ha na) hs2) fun σ H R ⟨z, ρ, st, w, r, q⟩ => ⟨z, ρ, st, w, r, (Pst.bnd q).imp fun x H1 ⟨z1, st1, d, l1, w1, rx, q1⟩ => by
    split at q1
    · split at q1
      · rename_i j hr
        obtain ⟨h1, h2⟩ := rg_of hr
        cases rx
        exact ⟨_, rfl, by decide, by decide, h1, h2, q1 z1 H1 _ (Le.refl z1) w1 tells_rngC⟩
      · exact q1.elim
    · exact q1.elim⟩
end
end Bw
set_option Elab.async false
set_option linter.all false
set_option autoImplicit false
set_option maxRecDepth 100000
set_option maxHeartbeats 4000000
/-! int(text) and str(int) of many figures; partition. -/
namespace PySem
open PySem.Calls PySem.NumText PyProof.Rows
theorem bw_digits {M : Model} {A : Around} {E : Value → Shared → Prop} {s : Shared} {Q : Nat → Shared → Prop} (hd : s.heap.NoDigits) (h : Q 4300 s) : wpAny M A Builtin.intMaxStrDigits Q E s := by
  obtain ⟨mc, hns, hnone⟩ := hd
  unfold Builtin.intMaxStrDigits
  refine wpAny_bind (wpAny_nsGet hns ?_)
  rw [hnone]
  exact wpAny_pure h
theorem bw_fromText {M : Model} {A : Around} {E : Value → Shared → Prop} {s : Shared} {Q : Value → Shared → Prop} {v : Value} {text : List Nat} {n : Int} (hd : s.heap.NoDigits)
    (hs : ¬ (text.takeWhile (· != 0)).length ≤ 640) (hr : (int_private% "readNumeral") 4300 10 (text.takeWhile (· != 0)) = (int_private% "Numeral.value") n)
    (ha : ((text.takeWhile (· != 0)).length == text.length) = true) (h : Q (.int n s.toks) { s with toks := s.toks + 1 }) :
    wpAny M A ((int_private% "intFromText") v text 10) Q E s := by
  obtain ⟨hp, g, d, tk, os⟩ := s
  repeat (any_goals (first
    | assumption
    | (with_reducible refine wpAny_ite_false (decide_eq_false hs) ?_)
    | (with_reducible refine wpAny_ite_true (decide_eq_true ha) ?_)
    | (with_reducible refine bw_digits hd ?_)
    | wp_step))
  all_goals (try rw [hr])
  all_goals (try dsimp only)
  repeat (any_goals (first
    | assumption
    | (with_reducible refine wpAny_ite_true (decide_eq_true hs) ?_)
    | (with_reducible refine wpAny_ite_true (decide_eq_true ha) ?_)
    | wp_step))
set_option maxHeartbeats 8000000 in
theorem bw_int_text {x : PySem.Str} {u : Tok} {n : Int} (hl : x.length ≤ 4300) (hs : ¬ (numSeenOf x).length ≤ 640) (hn : PySem.intText? x = some n) :
    Meets (Builtin.«int.__new__» ⟨[.type "int", .str x u], []⟩) (fun _ R s => s.heap.NoDigits ∧ R (.ok (.ret (.int n s.toks))) { s with toks := s.toks + 1 }) :=
  .of_wp fun prog w A R s h => by
    obtain ⟨hp, g, d, tk, os⟩ := s
    obtain ⟨hd, h⟩ := h
    have f1 := F.conv_sub_int
    have f2 := F.madeHere_int
    have f3 := W.KIN.str_int
    have f4 := W.KIN.str_idx
    have f5 := W.KIN.str_trunc
    have f6 : typeOf (.str x u) = pure (.type "str") := rfl
    have hr : (int_private% "readNumeral") 4300 10 (numSeenOf x) = (int_private% "Numeral.value") n ∧ ((numSeenOf x).length == (numTextOf x).length) = true := by
      rcases read4300 x (Nat.le_trans hl (by rw [sizeLine_eq]; decide)) with ⟨m, h1, h2, h3⟩ | ⟨h1, _⟩
      · rw [hn] at h1
        injection h1 with h1
        subst h1
        exact ⟨h3, h2⟩
      · rw [hn] at h1
        cases h1
    have hk := W.KIN.Hid.mk (And.intro hs hr)
    clear hs hr hl hn
    repeat (any_goals (first
      | assumption
      | ((with_reducible show wpAny _ _ ((int_private% "intFromText") _ _ _) _ _ _); refine bw_fromText hd hk.out.1 hk.out.2.1 hk.out.2.2 ?_)
      | wp_step))
    all_goals first | exact ⟨_, rfl, h⟩ | skip
theorem bw_call_int {prog : Program} {w : World} {A : Around} {E : Value → Shared → Prop} {s : Shared} {Q : Value → Shared → Prop} {x : PySem.Str} {t : Tok} {n : Int} (hd : s.heap.NoDigits) (hl : x.length ≤ 4300) (hc : (numSeenOf x).length = x.length) (hn : PySem.intText? x = some n)
    (h : Q (.int n s.toks) { s with toks := s.toks + 1 }) : wpAny (model prog w) A (call (.type "int") [.str x t]) Q E s := by
  by_cases hs : (numSeenOf x).length ≤ 640
  · exact W.KIN.call_text hn (by rw [← hc]; exact hs) h
  · exact call_int_1 (bw_int_text hl hs hn) ⟨hd, typeIs_int _ _ _, h⟩
end PySem
namespace Bw
open PySem PySem.Spec PyProof.Rows L2
/-- the top bears no limit of its own for figures -/
def DigK (K : PySem.W.Frag) : Prop := PySem.W.nsOkIn K cStatics = true ∧ PySem.W.nsIn K cStatics "sys.int_max_str_digits" = some none
theorem DigK.heap {K : PySem.W.Frag} {h : Heap} (d : DigK K) (X : K.In h) : h.NoDigits :=
  ⟨_, .of_isNs (PySem.W.isNs_of_in X d.1), PySem.W.ns_none_of X (.of_isNs (PySem.W.isNs_of_in X d.1)) d.2⟩
def numCh (c : Nat) : Bool := decide (c = 45) || (decide (48 ≤ c) && decide (c ≤ 57))
def fIntB : List D → Store → Option D := fun ds _ => match ds with
  | [.int i] => some (.int i)
  | [.bl b] => some (.int (if b then 1 else 0))
  | [.str s] => if decide (s.length ≤ 4300) && s.all numCh then (PySem.intText? (strOf s)).map .int else none
  | _ => none
def Big (i : Int) : Bool := decide (i.natAbs < 10 ^ 4300)
def fStrB : List D → Store → Option D := fun ds _ => match ds with
  | [.int i] => if Big i then some (.str (decD i)) else none
  | _ => none
section
variable {X : Cx} {c : Cc} {T : List (Addr × Str)}
theorem c_intB (hd : DigK X.K) : CallR X (.type "int") (rN c T fIntB) := by
  intro pins s σ H xs us Q I r h
  obtain ⟨z, st, ds, d, w, rs, e, q⟩ := h
  unfold fIntB at e
  split at e
  · cases e
    cases rs with
    | cons ra rr =>
      cases rr
      cases ra
      exact call_int1 pins s σ H _ us Q I r (.inl ⟨_, rfl, q z H _ (Le.refl z) w (.int _)⟩)
  · cases e
    cases rs with
    | cons ra rr =>
      cases rr
      cases ra
      exact call_int1 pins s σ H _ us Q I r (.inr ⟨_, rfl, q z H _ (Le.refl z) w (.int _)⟩)
  · rename_i t
    split at e
    · rename_i hc
      rw [Bool.and_eq_true, decide_eq_true_eq, List.all_eq_true] at hc
      cases hn : PySem.intText? (strOf t) with
      | none => rw [hn] at e; cases e
      | some n =>
        rw [hn] at e
        cases e
        cases rs with
        | cons ra rr =>
          cases rr
          cases ra
          cases r with
          | cons r1 r =>
            cases r
            obtain ⟨tk, rfl⟩ := r1
            have hx : (strOf t).length ≤ 4300 := by rw [strOf_len]; exact hc.1
            have hs := numText_signs (x := strOf t) (fun a ha => by
              have h1 := hc.2 a (by simpa using ha)
              unfold numCh at h1
              simpa using h1)
            refine bw_call_int (hd.heap I.kIn) hx (by rw [hs.2]; exact Array.length_toList) hn ⟨.int n, H, I.tok _, ⟨_, rfl⟩, q z H _ (Le.refl z) w (.int _)⟩
    · cases e
  · cases e
theorem c_strB (hd : DigK X.K) (hc : X.calm = true) : CallR X (.type "str") (rN c T fStrB) := by
  intro pins s σ H xs us Q I r h
  obtain ⟨z, st, ds, d, w, rs, e, q⟩ := h
  unfold fStrB at e
  split at e
  · rename_i i
    split at e
    · rename_i hb
      cases e
      cases rs with
      | cons ra rr =>
        cases rr
        cases ra
        cases r with
        | cons r1 r =>
          cases r
          obtain ⟨tk, rfl⟩ := r1
          unfold Big at hb
          rw [decide_eq_true_eq] at hb
          exact str_of_int_or (I.ok.hd hc) (hd.heap I.kIn) (fun _ => ⟨.str _, H, I.tok _, ⟨_, rfl⟩, q z H _ (Le.refl z) w (.str (decD i))⟩) (fun hge => absurd hb (Nat.not_lt.mpr hge))
    · cases e
  · cases e
/-- x.partition(sep) -/
def fPart (s : List Nat) : List D → Store → Option D := fun ds _ => match ds with
  | [.str a] => if decide (a ≠ []) && Sz s.length then some (match TL.par a [] s with
    | some (p, q) => .tup [.str p, .str a, .str q]
    | none => .tup [.str s, .str [], .str []]) else none
  | _ => none
theorem m_part : MtR X "str.partition" (rS c T fPart) := by
  intro pins s σ H x xs v us Q I rx rs h
  obtain ⟨z, st, s0, ds, d, rfl, w, rd, e, q⟩ := h
  unfold fPart at e
  split at e
  · rename_i a
    split at e
    · rename_i hz
      cases e
      rw [Bool.and_eq_true, decide_eq_true_eq] at hz
      cases rd with
      | cons ra rr =>
        cases rr
        cases ra
        have h0 : ((strOf a).length == 0) = false := by
          rw [strOf_len]
          cases a with
          | nil => exact absurd rfl hz.1
          | cons _ _ => rfl
        refine mt_partition pins s σ H _ _ v us Q I rx rs ⟨_, _, rfl, rfl, h0, by rw [strOf_len]; exact sz_of hz.2, fun p hp => ?_⟩
        cases ep : TL.par a [] s0 with
        | none =>
          rw [ep] at q
          have e2 : Txt.partition (strOf s0) (strOf a) = (strOf s0, strOf [], strOf []) := SX.partition_none hz.1 ep
          rw [e2]
          obtain ⟨l2, w2, r2⟩ := w.newTup hp (.cons (.str s0) (.cons (.str []) (.cons (.str []) .nil)))
          exact q _ _ _ l2 w2 r2
        | some pq =>
          obtain ⟨p1, q1⟩ := pq
          rw [ep] at q
          have e2 : Txt.partition (strOf s0) (strOf a) = (strOf p1, strOf a, strOf q1) := SX.partition_some hz.1 ep
          rw [e2]
          obtain ⟨l2, w2, r2⟩ := w.newTup hp (.cons (.str p1) (.cons (.str a) (.cons (.str q1) .nil)))
          exact q _ _ _ l2 w2 r2
    · cases e
  · cases e
end
section
variable {X : Cx} {c : Fc} {T : List (Addr × Str)} {W : WX} {o e : PySem.Expr} {mo : ME} {mr : MA} {apos cpos : Pos}
theorem e_part (ho : PD X c T W o mo) (ha : PA X [e] (LA c T W mr)) (hbase : attributeBase o "partition" X.env (eval o X.env) = eval o X.env := by rfl)
    (hfew : ((backTo cpos (starEach [e] X.env)).all (fun x => !x.1) && (backToKw cpos (keywordEach [] X.env)).all (fun x => x.1.isSome) && decide ([e].length + ([] : List Keyword).length + (if ([] : List Keyword).isEmpty then 0 else 1) < 30)) = true := by rfl)
    (hline : (apos.endLine == cpos.line) = true := by rfl) (hs : starEach [e] X.env = (false, eval e X.env) :: starEach [] X.env := by rfl) (hplain : (backTo cpos (starEach [] X.env)).any (·.1) = false := by rfl) :
    PD X c T W (.Call (.Attribute o "partition" apos) [e] [] cpos) (mStr1 fPart mo mr) := e_mstr F.slot_str_partition F.type_str_partition m_part ho ha hbase hfew hline hs hplain
end
end Bw
set_option linter.all false
set_option autoImplicit false
set_option maxRecDepth 100000
set_option maxHeartbeats 2000000
/-! replace within a list that begins with a joined text: a token is out behind its first item. -/
namespace Bw
open PySem PySem.Spec PyProof.Rows L2
section
variable {X : Cx}
/-- a token is out behind it -/
def P1 (X : Cx) (e : PySem.Expr) (t : TE) : Prop :=
  ∀ (pins : List (Addr × Obj)) (s : Shared) (σ : L2.St) (H : Hp) (Q : VK), L2.Inv X pins σ H s → t σ H Q → wpAny (model X.prog X.w) X.A (eval e X.env) (fun v s' => 1 ≤ s'.toks ∧ EP X pins σ Q v s') X.xe s
theorem p1_strop {op : Operator} {r : R2} {f : PySem.Expr} {tf : TE} {x : Str} {j : Nat} {cp pos : Pos} (ho : OpR X (binaryOp op) r) (hb : PE X f tf) : P1 X (.BinOp (.Constant (.str x) j cp) op f pos) (tOp r (tC (.str x)) tf) := by
  intro pins s σ H Q I h
  refine wpAny_BinOp (Calls.Constant_str ?_)
  have I1 : L2.Inv X pins σ H { s with toks := s.toks + 1 } := I.tok (s.toks + 1)
  refine wpAny_mono (PySem.wpAny_toks (hb.run pins _ σ H _ I1 h)) (fun u s2 q => ?_) fun _ _ z => z.2
  obtain ⟨hk, y, H2, I2, r2, q2⟩ := q
  have hk' : s.toks + 1 ≤ s2.toks := hk
  refine wpAny_mono (PySem.wpAny_toks (ho pins s2 σ H2 (.str x) y (.str x s.toks) u Q I2 ⟨_, rfl⟩ r2 q2)) (fun v s3 q => ⟨?_, q.2⟩) fun _ _ z => z.2
  have := q.1
  omega
theorem pa1_cons {e : PySem.Expr} {es : List PySem.Expr} {te : TE} {ta : TA} (ha : P1 X e te) (hr : PAT X es ta) (hs : starEach (e :: es) X.env = (false, eval e X.env) :: starEach es X.env := by rfl) : PA X (e :: es) (tCons te ta) := by
  refine ⟨fun pos pins s σ H Q I h => ?_⟩
  rw [hs]
  show wpAny _ _ (spliced ((false, eval e X.env) :: backTo pos (starEach es X.env))) _ _ s
  refine Calls.spliced_cons (wpAny_mono (ha pins s σ H _ I h) (fun v s1 q => ?_) fun _ _ z => z)
  obtain ⟨hk, x, H1, I1, r1, q1⟩ := q
  exact thn (hr pos pins s1 σ H1 _ hk I1 q1) fun us s2 ⟨xs, H2, I2, r2, q2⟩ => ⟨x :: xs, H2, I2, .cons r1 r2, q2⟩
end
section
variable {X : Cx} {c : Fc} {T : List (Addr × Str)} {W : WX} {a b e : PySem.Expr} {es : List PySem.Expr} {ma mb : ME} {mr : MA} {pos : Pos}
theorem at_nil : PAT X [] (LA c T W aNil) := fun pos pins s σ H Q h0 I ⟨z, ρ, st, w, r, q⟩ => pat_nil pos pins s σ H Q h0 I (q z H [] (Le.refl z) w .nil)
theorem at_cons (he : PDT X c T W e ma) (hr : PAT X es (LA c T W mr)) (hs : starEach (e :: es) X.env = (false, eval e X.env) :: starEach es X.env := by rfl) : PAT X (e :: es) (LA c T W (aCons ma mr)) :=
  fun pos pins s σ H Q h0 I ⟨z, ρ, st, w, r, q⟩ => pat_cons he hr hs pos pins s σ H Q h0 I ⟨z, ρ, st, w, r, (Pst.bnd q).imp fun x H1 ⟨z1, st1, dx, l1, w1, rx, q1⟩ => ⟨z1, ρ, st1, w1, r.mono l1, (Pst.bnd (R' := Rps c.toCc) q1).imp fun xs H2 ⟨z2, st2, ds, l2, w2, rs, q2⟩ =>
    q2 z2 H2 _ (Le.refl z2) w2 (.cons (rx.mono l2) rs)⟩⟩
theorem e_opT {op : Operator} {f : D → D → Store → Option D} (ho : OpR X (binaryOp op) (r2 c.toCc T f)) (ha : PDT X c T W a ma) (hb : PDT X c T W b mb) : PDT X c T W (.BinOp a op b pos) (mOp f ma mb) :=
  fun pins s σ H Q h0 I ⟨z, ρ, st, w, r, q⟩ => CwR.pet_op ho ha hb pins s σ H Q h0 I ⟨z, ρ, st, w, r, (Pst.bnd q).imp fun x H1 ⟨z1, st1, dx, l1, w1, rx, q1⟩ => ⟨z1, ρ, st1, w1, r.mono l1, (Pst.bnd q1).imp fun y H2 ⟨z2, st2, dy, l2, w2, ry, q2⟩ =>
    let ⟨dd, e, q3⟩ := Pst.ofO q2
    ⟨z2, st2, dx, dy, dd, w2, rx.mono l2, ry, e, q3⟩⟩⟩
/-- a written text joined with another, first of a row -/
theorem a_cons1 {op : Operator} {f : D → D → Store → Option D} {t : List Nat} {x : Str} {j : Nat} {cp : Pos} (ho : OpR X (binaryOp op) (r2 c.toCc T f)) (hb : PD X c T W b mb) (hr : PAT X es (LA c T W mr)) (hx : x = strOf t := by first | rfl | decide)
    (hs : starEach (.BinOp (.Constant (.str x) j cp) op b pos :: es) X.env = (false, eval (.BinOp (.Constant (.str x) j cp) op b pos) X.env) :: starEach es X.env := by rfl) : PA X (.BinOp (.Constant (.str x) j cp) op b pos :: es) (LA c T W (aCons (mOp f (mLit (.str t)) mb) mr)) :=
  imp_PA (pa1_cons (p1_strop ho hb) hr hs) fun σ H Q ⟨z, ρ, st, w, r, q⟩ => by
    have q0 : Pst (Rps c.toCc) c T W z σ ((mOp f (mLit (.str t)) mb ρ st).bind fun d st => (mr ρ st).bind fun ds st => .ok (d :: ds) st) Q := q
    have q' := Pst.bnd (R := Rps c.toCc) (R' := Rp c.toCc) q0
    have q2 : Pst (Rp c.toCc) c T W z σ ((mb ρ st).bind fun y st => ofO (f (.str t) y st) st) (fun x H1 => ∃ z1 st1 dx, Le z z1 ∧ Wf c.toCc T z1 st1 H1 ∧ Rp c.toCc z1 x dx ∧ Pst (Rps c.toCc) c T W z1 σ ((mr ρ st1).bind fun ds st => .ok (dx :: ds) st) Q) := q'
    rw [hx]
    exact ⟨z, ρ, st, w, r, (Pst.bnd (R := Rp c.toCc) (R' := Rp c.toCc) q2).imp fun y H2 ⟨z2, st2, dy, l2, w2, ry, q3⟩ => by
      obtain ⟨dd, e, q4⟩ := Pst.ofO q3
      refine ⟨z2, st2, .str t, dy, dd, w2, .str t, ry, e, fun z3 H3 v l3 w3 r3 => ?_⟩
      obtain ⟨z4, st4, dx, l4, w4, r4, q5⟩ := q4 z3 H3 v l3 w3 r3
      exact ⟨z4, ρ, st4, w4, r.mono l4, (Pst.bnd (R' := Rps c.toCc) q5).imp fun xs H5 ⟨z5, st5, ds, l5, w5, rs, q6⟩ => q6 z5 H5 _ (Le.refl z5) w5 (.cons (r4.mono l5) rs)⟩⟩
end
end Bw
set_option Elab.async false
set_option linter.all false
set_option autoImplicit false
set_option maxRecDepth 100000
/-! Plain Lean about the mirrors: how they are worked out. -/
namespace Bw
/-! ### what comes next stays folded until it is reached -/
def Out.sq (o : Out) (n : MS) : Out := match o with
  | .nx ρ st => n ρ st
  | o => o
@[simp] theorem sq_nx (ρ : Env) (st : Store) (n : MS) : (Out.nx ρ st).sq n = n ρ st := rfl
@[simp] theorem sq_rt (d : D) (st : Store) (n : MS) : (Out.rt d st).sq n = .rt d st := rfl
@[simp] theorem sq_er (e : Er) (ρ : Env) (st : Store) (n : MS) : (Out.er e ρ st).sq n = .er e ρ st := rfl
@[simp] theorem sq_bk (ρ : Env) (st : Store) (n : MS) : (Out.bk ρ st).sq n = .bk ρ st := rfl
@[simp] theorem sq_ct (ρ : Env) (st : Store) (n : MS) : (Out.ct ρ st).sq n = .ct ρ st := rfl
def vOf (d : D) (st : Store) : Res D := match d with
  | .clo _ => .no
  | d => .ok d st
def isV : D → Bool
  | .clo _ => false
  | _ => true
@[simp] theorem vOf_non (st : Store) : vOf .non st = .ok .non st := rfl
@[simp] theorem vOf_bl (b : Bool) (st : Store) : vOf (.bl b) st = .ok (.bl b) st := rfl
@[simp] theorem vOf_int (b : Int) (st : Store) : vOf (.int b) st = .ok (.int b) st := rfl
@[simp] theorem vOf_str (b : List Nat) (st : Store) : vOf (.str b) st = .ok (.str b) st := rfl
@[simp] theorem vOf_tup (b : List D) (st : Store) : vOf (.tup b) st = .ok (.tup b) st := rfl
@[simp] theorem vOf_lst (b : List D) (st : Store) : vOf (.lst b) st = .ok (.lst b) st := rfl
@[simp] theorem vOf_ref (b : Nat) (st : Store) : vOf (.ref b) st = .ok (.ref b) st := rfl
@[simp] theorem vOf_scr (b : List Int) (st : Store) : vOf (.scr b) st = .ok (.scr b) st := rfl
theorem vOf_of {d : D} (h : isV d = true) (st : Store) : vOf d st = .ok d st := by cases d <;> first | rfl | cases h
section
variable (ρ : Env) (st : Store) (a b d : ME) (r : MA) (t u : MT) (m n : MS) (f g : D → D → Store → Option D)
theorem x_var (i : Nat) : mVar i ρ st = match ρ[i]? with
  | some (some d) => vOf d st
  | _ => .no := by
  unfold mVar
  generalize ρ[i]? = o
  cases o with
  | none => rfl
  | some o =>
    cases o with
    | none => rfl
    | some d => cases d <;> rfl
@[simp] theorem x_lit (e : D) : mLit e ρ st = .ok e st := rfl
def kOp (f : D → D → Store → Option D) (b : ME) (ρ : Env) (x : D) (st : Store) : Res D := (b ρ st).bind fun y st => ofO (f x y st) st
def kOp2 (f : D → D → Store → Option D) (x y : D) (st : Store) : Res D := ofO (f x y st) st
@[simp] theorem x_op : mOp f a b ρ st = (a ρ st).bind (kOp f b ρ) := rfl
@[simp] theorem x_op1 (x : D) : kOp f b ρ x st = (b ρ st).bind (kOp2 f x) := rfl
@[simp] theorem x_op2 (x y : D) : kOp2 f x y st = ofO (f x y st) st := rfl
def kUn (f : D → Store → Option D) (x : D) (st : Store) : Res D := ofO (f x st) st
@[simp] theorem x_un (f : D → Store → Option D) : mUn f a ρ st = (a ρ st).bind (kUn f) := rfl
@[simp] theorem x_un1 (f : D → Store → Option D) (x : D) : kUn f x st = ofO (f x st) st := rfl
def selE (o : Option Bool) (p q : Res D) : Res D := match o with
  | some true => p
  | some false => q
  | none => .no
def kAnd (b : ME) (ρ : Env) (x : D) (st : Store) : Res D := match truD st x with
  | some true => b ρ st
  | some false => .ok x st
  | none => .no
def kAnd2 (b : ME) (ρ : Env) (x : D) (st : Store) (o : Option Bool) : Res D := match o with
  | some true => b ρ st
  | some false => .ok x st
  | none => .no
@[simp] theorem x_and : mAnd a b ρ st = (a ρ st).bind (kAnd b ρ) := rfl
@[simp] theorem x_and1 (x : D) : kAnd b ρ x st = kAnd2 b ρ x st (truD st x) := rfl
@[simp] theorem x_andT (x : D) : kAnd2 b ρ x st (some true) = b ρ st := rfl
@[simp] theorem x_andF (x : D) : kAnd2 b ρ x st (some false) = .ok x st := rfl
def kOr (b : ME) (ρ : Env) (x : D) (st : Store) : Res D := match truD st x with
  | some true => .ok x st
  | some false => b ρ st
  | none => .no
def kOr2 (b : ME) (ρ : Env) (x : D) (st : Store) (o : Option Bool) : Res D := match o with
  | some true => .ok x st
  | some false => b ρ st
  | none => .no
@[simp] theorem x_or : mOr a b ρ st = (a ρ st).bind (kOr b ρ) := rfl
@[simp] theorem x_or1 (x : D) : kOr b ρ x st = kOr2 b ρ x st (truD st x) := rfl
@[simp] theorem x_orT (x : D) : kOr2 b ρ x st (some true) = .ok x st := rfl
@[simp] theorem x_orF (x : D) : kOr2 b ρ x st (some false) = b ρ st := rfl
def kNot (x : D) (st : Store) : Res D := match truD st x with
  | some k => .ok (.bl (!k)) st
  | none => .no
@[simp] theorem x_not : mNot a ρ st = (a ρ st).bind kNot := rfl
@[simp] theorem x_not1 (x : D) : kNot x st = match truD st x with
  | some k => .ok (.bl (!k)) st
  | none => .no := rfl
def kIf (a b : ME) (ρ : Env) (k : Bool) (st : Store) : Res D := if k then a ρ st else b ρ st
@[simp] theorem x_if : mIf t a b ρ st = (t ρ st).bind (kIf a b ρ) := rfl
@[simp] theorem x_ifT : kIf a b ρ true st = a ρ st := rfl
@[simp] theorem x_ifF : kIf a b ρ false st = b ρ st := rfl
def kTv (x : D) (st : Store) : Res Bool := ofO (truD st x) st
@[simp] theorem x_tVal : tVal a ρ st = (a ρ st).bind kTv := rfl
@[simp] theorem x_tVal1 (x : D) : kTv x st = ofO (truD st x) st := rfl
def kTa (u : MT) (ρ : Env) (k : Bool) (st : Store) : Res Bool := if k then u ρ st else .ok false st
@[simp] theorem x_tAnd : tAnd t u ρ st = (t ρ st).bind (kTa u ρ) := rfl
@[simp] theorem x_tAndT : kTa u ρ true st = u ρ st := rfl
@[simp] theorem x_tAndF : kTa u ρ false st = .ok false st := rfl
def kTo (u : MT) (ρ : Env) (k : Bool) (st : Store) : Res Bool := if k then .ok true st else u ρ st
@[simp] theorem x_tOr : tOr t u ρ st = (t ρ st).bind (kTo u ρ) := rfl
@[simp] theorem x_tOrT : kTo u ρ true st = .ok true st := rfl
@[simp] theorem x_tOrF : kTo u ρ false st = u ρ st := rfl
def kTn (k : Bool) (st : Store) : Res Bool := .ok (!k) st
@[simp] theorem x_tNot : tNot t ρ st = (t ρ st).bind kTn := rfl
@[simp] theorem x_tNot1 (k : Bool) : kTn k st = .ok (!k) st := rfl
def kTc (x : D) (st : Store) : Res Bool := match x with
  | .bl k => .ok k st
  | _ => .no
@[simp] theorem x_tCmp : tCmp a ρ st = (a ρ st).bind kTc := rfl
@[simp] theorem x_tCmp1 (k : Bool) : kTc (.bl k) st = .ok k st := rfl
def kCh (f g : D → D → Store → Option D) (b d : ME) (ρ : Env) (x : D) (st : Store) : Res D := (b ρ st).bind fun y st => match f x y st with
  | some (.bl true) => (d ρ st).bind fun w st => ofO (g y w st) st
  | some (.bl false) => .ok (.bl false) st
  | _ => .no
def kCh2 (g : D → D → Store → Option D) (d : ME) (ρ : Env) (y : D) (st : Store) (o : Option D) : Res D := match o with
  | some (.bl true) => (d ρ st).bind fun w st => ofO (g y w st) st
  | some (.bl false) => .ok (.bl false) st
  | _ => .no
@[simp] theorem x_chain : mChain f g a b d ρ st = (a ρ st).bind (kCh f g b d ρ) := rfl
@[simp] theorem x_chain1 (x : D) : kCh f g b d ρ x st = (b ρ st).bind fun y st => kCh2 g d ρ y st (f x y st) := rfl
@[simp] theorem x_chain2 (y : D) : kCh2 g d ρ y st (some (.bl true)) = (d ρ st).bind (kOp2 g y) := rfl
@[simp] theorem x_chain3 (y : D) : kCh2 g d ρ y st (some (.bl false)) = .ok (.bl false) st := rfl
def kCons (r : MA) (ρ : Env) (x : D) (st : Store) : Res (List D) := (r ρ st).bind fun xs st => .ok (x :: xs) st
def kCons2 (x : D) (xs : List D) (st : Store) : Res (List D) := .ok (x :: xs) st
@[simp] theorem x_nil : aNil ρ st = .ok [] st := rfl
@[simp] theorem x_cons : aCons a r ρ st = (a ρ st).bind (kCons r ρ) := rfl
@[simp] theorem x_cons1 (x : D) : kCons r ρ x st = (r ρ st).bind (kCons2 x) := rfl
@[simp] theorem x_cons2 (x : D) (xs : List D) : kCons2 x xs st = .ok (x :: xs) st := rfl
@[simp] theorem x_tup : mTup r ρ st = (r ρ st).bind fun xs st => if Sz xs.length then .ok (.tup xs) st else .no := rfl
@[simp] theorem x_lst : mLst r ρ st = (r ρ st).bind fun xs st => if Sz xs.length then .ok (.lst xs) st else .no := rfl
@[simp] theorem x_new : mNew r ρ st = (r ρ st).bind fun xs st => if Sz xs.length then .ok (.ref st.length) (st ++ [.lst xs]) else .no := rfl
def kSl (lo hi : Env → Store → Res (Option Int)) (ρ : Env) (x : D) (st : Store) : Res D := (lo ρ st).bind fun l st => (hi ρ st).bind fun h st => ofO (sliD x l h st) st
def kSl2 (hi : Env → Store → Res (Option Int)) (ρ : Env) (x : D) (l : Option Int) (st : Store) : Res D := (hi ρ st).bind fun h st => ofO (sliD x l h st) st
@[simp] theorem x_sli (lo hi : Env → Store → Res (Option Int)) : mSli a lo hi ρ st = (a ρ st).bind (kSl lo hi ρ) := rfl
@[simp] theorem x_sli1 (lo hi : Env → Store → Res (Option Int)) (x : D) : kSl lo hi ρ x st = (lo ρ st).bind (kSl2 hi ρ x) := rfl
@[simp] theorem x_sli2 (hi : Env → Store → Res (Option Int)) (x : D) (l : Option Int) : kSl2 hi ρ x l st = (hi ρ st).bind fun h st => ofO (sliD x l h st) st := rfl
@[simp] theorem x_oN : oNone ρ st = .ok none st := rfl
@[simp] theorem x_oS : oSome a ρ st = (a ρ st).bind fun x st => match x with
  | .int i => .ok (some i) st
  | _ => .no := rfl
@[simp] theorem x_blt (f : List D → Store → Option D) : mBlt f r ρ st = (r ρ st).bind fun xs st => ofO (f xs st) st := rfl
@[simp] theorem x_call (g : List D → Store → Res D) : mCall g r ρ st = (r ρ st).bind g := rfl
def kS1 (f : List Nat → List D → Store → Option D) (r : MA) (ρ : Env) (x : D) (st : Store) : Res D := match x with
  | .str s => (r ρ st).bind fun ds st => ofO (f s ds st) st
  | _ => .no
@[simp] theorem x_str1 (f : List Nat → List D → Store → Option D) : mStr1 f a r ρ st = (a ρ st).bind (kS1 f r ρ) := rfl
@[simp] theorem x_str11 (f : List Nat → List D → Store → Option D) (s : List Nat) : kS1 f r ρ (.str s) st = (r ρ st).bind fun ds st => ofO (f s ds st) st := rfl
@[simp] theorem x_ofS {α : Type} (x : α) : ofO (some x) st = .ok x st := rfl
@[simp] theorem x_ofN {α : Type} : (ofO (none : Option α) st) = .no := rfl
@[simp] theorem x_next : sNext ρ st = .nx ρ st := rfl
@[simp] theorem x_seq : sSeq m n ρ st = (m ρ st).sq n := rfl
@[simp] theorem x_drop : sDrop a ρ st = sBind (a ρ st) ρ fun _ st => .nx ρ st := rfl
@[simp] theorem x_ret : sRet a ρ st = sBind (a ρ st) ρ fun d st => .rt d st := rfl
@[simp] theorem x_retN : sRetN ρ st = .rt .non st := rfl
def kSi (m n : MS) (ρ : Env) (k : Bool) (st : Store) : Out := if k then m ρ st else n ρ st
@[simp] theorem x_sif : sIf t m n ρ st = sBind (t ρ st) ρ (kSi m n ρ) := rfl
@[simp] theorem x_sifT : kSi m n ρ true st = m ρ st := rfl
@[simp] theorem x_sifF : kSi m n ρ false st = n ρ st := rfl
@[simp] theorem x_gN (i : Nat) (e : D) : gN i e ρ = some (ρ.set i (some e)) := rfl
def kG (o : Option Env) (st : Store) : Out := match o with
  | some ρ' => .nx ρ' st
  | none => .no
@[simp] theorem x_asg (g : MG) : sAsg a g ρ st = sBind (a ρ st) ρ fun d st => kG (g d ρ) st := rfl
@[simp] theorem x_asg1 (ρ' : Env) : kG (some ρ') st = .nx ρ' st := rfl
@[simp] theorem x_par (i j : Nat) : sPar i j r ρ st = sBind (r ρ st) ρ fun ds st => match ds with
  | [x, y] => .nx ((ρ.set i (some x)).set j (some y)) st
  | _ => .no := rfl
@[simp] theorem x_gT (gs : List MG) (ds : List D) : gT gs (.tup ds) ρ = gL gs ds ρ := rfl
@[simp] theorem x_gL0 : gL [] [] ρ = some ρ := rfl
@[simp] theorem x_gL1 (g : MG) (gs : List MG) (e : D) (ds : List D) : gL (g :: gs) (e :: ds) ρ = match g e ρ with
  | some ρ' => gL gs ds ρ'
  | none => none := rfl
def kPu (o i : ME) (ρ : Env) (v : D) (st : Store) : Out := sBind (o ρ st) ρ fun x st => sBind (i ρ st) ρ fun k st => match putD x k v st with
  | some st' => .nx ρ st'
  | none => .no
def kPu2 (i : ME) (ρ : Env) (v x : D) (st : Store) : Out := sBind (i ρ st) ρ fun k st => match putD x k v st with
  | some st' => .nx ρ st'
  | none => .no
@[simp] theorem x_put (o i : ME) : sPut o i a ρ st = sBind (a ρ st) ρ (kPu o i ρ) := rfl
@[simp] theorem x_put1 (o i : ME) (v : D) : kPu o i ρ v st = sBind (o ρ st) ρ (kPu2 i ρ v) := rfl
@[simp] theorem x_put2 (i : ME) (v x : D) : kPu2 i ρ v x st = sBind (i ρ st) ρ fun k st => match putD x k v st with
  | some st' => .nx ρ st'
  | none => .no := rfl
@[simp] theorem x_for (it : MI) (g : MG) : sFor it g m ρ st = sBind (it ρ st) ρ fun I st => loopF I.chk g m I.ds ρ st := rfl
@[simp] theorem x_iVal : iVal a ρ st = (a ρ st).bind fun d st => ofO (itemsD st d) st := rfl
@[simp] theorem x_iEnum : iEnum r ρ st = (r ρ st).bind fun ds st => match ds with
  | [d] => ofO ((itemsD st d).map numbI) st
  | _ => .no := rfl
@[simp] theorem x_iRng1 : iRng1 r ρ st = (r ρ st).bind fun ds st => match ds with
  | [.int j] => if Rg j then .ok (still (rng 0 1 j.toNat)) st else .no
  | _ => .no := rfl
@[simp] theorem x_iRng2 : iRng2 r ρ st = (r ρ st).bind fun ds st => match ds with
  | [.int i, .int j] => if Rg i && Rg j then .ok (still (rng i 1 (j - i).toNat)) st else .no
  | _ => .no := rfl
@[simp] theorem x_iRng3 : iRng3 r ρ st = (r ρ st).bind fun ds st => match ds with
  | [.int i, .int j, .int k] => if Rg i && Rg j && decide (k = -1) then .ok (still (rng i (-1) (i - j).toNat)) st else .no
  | _ => .no := rfl
@[simp] theorem x_iZip : iZip r ρ st = (r ρ st).bind fun ds st => match ds with
  | [x, y] => ofO (zipI st x y) st
  | _ => .no := rfl
def kAp (r : ME) (ρ : Env) (x : D) (st : Store) : Res D := match x with
  | .ref n => match st[n]? with
    | some (.lst _) => (r ρ st).bind fun d st => match st[n]? with
      | some (.lst ds) => if Sz (ds.length + 1) then .ok .non (st.set n (.lst (ds ++ [d]))) else .no
      | _ => .no
    | _ => .no
  | _ => .no
@[simp] theorem x_app : mApp a b ρ st = (a ρ st).bind (kAp b ρ) := rfl
def kAp1 (n : Nat) (r : ME) (ρ : Env) (st : Store) (o : Option MO) : Res D := match o with
  | some (.lst _) => (r ρ st).bind fun d st => match st[n]? with
    | some (.lst ds) => if Sz (ds.length + 1) then .ok .non (st.set n (.lst (ds ++ [d]))) else .no
    | _ => .no
  | _ => .no
@[simp] theorem x_app1 (n : Nat) : kAp b ρ (.ref n) st = kAp1 n b ρ st st[n]? := rfl
@[simp] theorem x_app2 (n : Nat) (ds : List D) : kAp1 n b ρ st (some (.lst ds)) = (b ρ st).bind fun d st => match st[n]? with
    | some (.lst ds) => if Sz (ds.length + 1) then .ok .non (st.set n (.lst (ds ++ [d]))) else .no
    | _ => .no := rfl
@[simp] theorem x_aug (i : Nat) : sAug i f a ρ st = match ρ[i]? with
  | some (some x) => sBind (a ρ st) ρ fun y st => match f x y st with
    | some d => .nx (ρ.set i (some d)) st
    | none => .no
  | _ => .no := rfl
@[simp] theorem x_raise (cls : String) (as : List String) : sRaise cls as r ρ st = sBind (r ρ st) ρ fun ds st => if ds.length = as.length then .er ⟨cls, as.zip ds⟩ ρ st else .no := rfl
@[simp] theorem bodyR_rt (e : D) : bodyR (.rt e st) = .ok e st := rfl
@[simp] theorem bodyR_nx : bodyR (.nx ρ st) = .ok .non st := rfl
@[simp] theorem bodyR_er (e : Er) : bodyR (.er e ρ st) = .er e st := rfl
end
section
variable (a b : D) (st : Store)
@[simp] theorem w_add : fAdd a b st = addD a b := rfl
@[simp] theorem w_sub : fSub a b st = subD a b := rfl
@[simp] theorem w_mul : fMul a b st = mulD a b := rfl
@[simp] theorem w_div : fDiv a b st = divD a b := rfl
@[simp] theorem w_mod : fMod a b st = modD a b := rfl
@[simp] theorem w_pow : fPow a b st = powD a b := rfl
@[simp] theorem w_shl : fShl a b st = shlD a b := rfl
@[simp] theorem w_eq : fEq a b st = (eqv st a b).map D.bl := rfl
@[simp] theorem w_ne : fNe a b st = (eqv st a b).map fun k => D.bl (!k) := rfl
@[simp] theorem w_lt : fLt a b st = (ltD a b).map D.bl := rfl
@[simp] theorem w_le : fLe a b st = (leD a b).map D.bl := rfl
@[simp] theorem w_gt : fGt a b st = (gtD a b).map D.bl := rfl
@[simp] theorem w_ge : fGe a b st = (geD a b).map D.bl := rfl
@[simp] theorem w_isN : fIsN a .non st = (isNone a).map D.bl := rfl
@[simp] theorem w_notN : fNotN a .non st = (isNone a).map fun k => D.bl (!k) := rfl
@[simp] theorem w_isB (k : Bool) : fIsB a (.bl k) st = (isBool k a).map D.bl := rfl
@[simp] theorem w_notB (k : Bool) : fNotB a (.bl k) st = (isBool k a).map fun k => D.bl (!k) := rfl
@[simp] theorem w_in : fIn a b st = (inD st a b).map D.bl := rfl
@[simp] theorem w_notin : fNotIn a b st = (inD st a b).map fun k => D.bl (!k) := rfl
@[simp] theorem w_inc (i j : Int) : fInc (.int i) (.int j) st = some (.int (i + j)) := rfl
@[simp] theorem w_lti (i j : Int) : ltD (.int i) (.int j) = some (decide (i < j)) := rfl
@[simp] theorem w_lei (i j : Int) : leD (.int i) (.int j) = some (decide (i ≤ j)) := rfl
@[simp] theorem w_gti (i j : Int) : gtD (.int i) (.int j) = some (decide (j < i)) := rfl
@[simp] theorem w_gei (i j : Int) : geD (.int i) (.int j) = some (decide (j ≤ i)) := rfl
@[simp] theorem w_addi (i j : Int) : addD (.int i) (.int j) = some (.int (i + j)) := rfl
@[simp] theorem w_subi (i j : Int) : subD (.int i) (.int j) = some (.int (i - j)) := rfl
@[simp] theorem w_eqi (i j : Int) : eqv st (.int i) (.int j) = some (decide (i = j)) := rfl
@[simp] theorem w_eqs (i j : List Nat) : eqv st (.str i) (.str j) = some (decide (i = j)) := rfl
end
/-! ### loops -/
section
variable {chk : Store → Prop} {g : MG} {body : MS} {d : D} {ds : List D} {ρ ρ' ρ'' : Env} {st st' : Store} {t : MT}
theorem loop_nil (h : chk st) : loopF chk g body [] ρ st = .nx ρ st := by unfold loopF; rw [if_pos h]
theorem loop_nx (h : chk st) (hg : g d ρ = some ρ') (hb : body ρ' st = .nx ρ'' st') : loopF chk g body (d :: ds) ρ st = loopF chk g body ds ρ'' st' := by
  conv => lhs; unfold loopF
  rw [if_pos h, hg]
  dsimp only
  rw [hb]
theorem loop_rt {e : D} (h : chk st) (hg : g d ρ = some ρ') (hb : body ρ' st = .rt e st') : loopF chk g body (d :: ds) ρ st = .rt e st' := by
  conv => lhs; unfold loopF
  rw [if_pos h, hg]
  dsimp only
  rw [hb]
theorem loop_er {e : Er} (h : chk st) (hg : g d ρ = some ρ') (hb : body ρ' st = .er e ρ'' st') : loopF chk g body (d :: ds) ρ st = .er e ρ'' st' := by
  conv => lhs; unfold loopF
  rw [if_pos h, hg]
  dsimp only
  rw [hb]
/-- a loop under an invariant, of which no turn leaves -/
theorem loop_inv (I : Env → Store → Prop) (hc : ∀ ρ st, I ρ st → chk st) : ∀ (ds : List D), (∀ d ∈ ds, ∀ ρ st, I ρ st → ∃ ρ' ρ'' st', g d ρ = some ρ' ∧ body ρ' st = .nx ρ'' st' ∧ I ρ'' st') → ∀ ρ st, I ρ st → ∃ ρ' st', loopF chk g body ds ρ st = .nx ρ' st' ∧ I ρ' st'
  | [], _, ρ, st, h => ⟨ρ, st, loop_nil (hc ρ st h), h⟩
  | d :: ds, hs, ρ, st, h => by
    obtain ⟨ρ1, ρ2, st1, e1, e2, h2⟩ := hs d List.mem_cons_self ρ st h
    rw [loop_nx (hc ρ st h) e1 e2]
    exact loop_inv I hc ds (fun e he => hs e (List.mem_cons_of_mem _ he)) ρ2 st1 h2
theorem while_nx {st1 : Store} (ht : t ρ st = .ok true st1) (hb : body ρ st1 = .nx ρ' st') : sWhile t body ρ st = sWhile t body ρ' st' := by
  have e : ∀ n, whileF t body (n + 1) ρ st = whileF t body n ρ' st' := fun n => by
    conv => lhs; unfold whileF
    rw [ht]
    simp only [sBind_ok, if_true]
    rw [hb]
  by_cases h : ∃ n, whileF t body n ρ' st' ≠ .no
  · obtain ⟨n, hn⟩ := h
    rw [sWhile_of n rfl hn, sWhile_of (n + 1) (e n) hn]
  · have h2 : ¬ ∃ n, whileF t body n ρ st ≠ .no := fun ⟨n, hn⟩ => by
      cases n with
      | zero => exact hn rfl
      | succ n => exact h ⟨n, by rw [← e]; exact hn⟩
    unfold sWhile
    rw [dif_neg h, dif_neg h2]
theorem while_end {st1 : Store} (ht : t ρ st = .ok false st1) : sWhile t body ρ st = .nx ρ st1 := by
  refine sWhile_of 1 ?_ (by simp)
  unfold whileF
  rw [ht]
  rfl
theorem while_rt {st1 : Store} {e : D} (ht : t ρ st = .ok true st1) (hb : body ρ st1 = .rt e st') : sWhile t body ρ st = .rt e st' := by
  refine sWhile_of 1 ?_ (by simp)
  unfold whileF
  rw [ht]
  simp only [sBind_ok, if_true]
  rw [hb]
end
end Bw
set_option Elab.async false
set_option linter.all false
set_option autoImplicit false
set_option maxRecDepth 100000
/-! The box that draws come from. -/
namespace Bw
/-- the box: at 1, its cells either the list at 0 or its own; at most so many cells -/
def BxT (j st : Store) : Prop := ∃ (cs ds : List Int) (s : Int) (x : D), st = .lst (ds.map .int) :: .lst [x, .int s] :: j ∧ (x = .lst (cs.map .int) ∧ cs.length ≤ 63 ∨ x = .ref 0 ∧ cs = ds ∧ ds.length ≤ 63)
abbrev Bx : Store → Prop := BxT []
theorem shps_ints (n : Nat) : ∀ cs : List Int, shps n (cs.map .int) = true
  | [] => by simp [shps]
  | c :: cs => by
    rw [List.map_cons, shps, shps_ints n cs]
    cases n <;> simp [shp]
theorem Sz_of {n : Nat} (h : n ≤ 16777216) : Sz n = true := decide_eq_true h
def gTake (a b c d e : Int) : MS :=
  (sSeq (sIf (tCmp (mOp fNe (mOp idxD (mVar 0) (mLit (.int 0))) (mLst aNil))) (sSeq (sAsg (mOp idxD (mOp idxD (mVar 0) (mLit (.int 0))) (mLit (.int 0))) (gN 2))
    (sSeq (sPut (mVar 0) (mLit (.int 0)) (mOp fAdd (mIf (tCmp (mOp fGe (mVar 2) (mVar 1))) (mLst (aCons (mOp fDiv (mVar 2) (mVar 1)) aNil)) (mLst aNil)) (mSli (mOp idxD (mVar 0) (mLit (.int 0))) (oSome (mLit (.int 1))) oNone)))
    (sRet (mOp fMod (mBlt fInt (aCons (mVar 2) aNil)) (mVar 1))))) sNext)
    (sSeq (sPut (mVar 0) (mLit (.int 1)) (mOp fMod (mBlt fInt (aCons (mOp fMul (mOp idxD (mVar 0) (mLit (.int 1))) (mLit (.int a))) aNil)) (mLit (.int b))))
    (sRet (mOp fMod (mBlt fInt (aCons (mOp fDiv (mOp fAdd (mOp fMul (mOp idxD (mVar 0) (mLit (.int 1))) (mLit (.int c))) (mLit (.int d))) (mLit (.int e))) aNil)) (mVar 1)))))
theorem mulOk_r {i j : Int} (h : j.natAbs < 18446744073709551616) : mulOk i j = true := by simp [mulOk, h]
theorem divOk_s {i j : Int} (h0 : j ≠ 0) (h : bits j < 9000) : divOk i j = true := by simp [divOk, h0, h]
theorem bits_lt {j : Int} (h : j.natAbs < 2 ^ 60) : bits j < 9000 := by
  unfold bits
  by_cases h0 : j.natAbs = 0
  · rw [h0]; simp
  · have := (Nat.log2_lt h0).mpr h
    omega
theorem fmod_range {i j : Int} (h : 0 < j) : 0 ≤ i.fmod j ∧ i.fmod j < j := ⟨Int.fmod_nonneg_of_pos i h, Int.fmod_lt_of_pos i h⟩
theorem eqDs_nil (cs : List Int) : eqDs (cs.map .int) [] = cs.isEmpty := by cases cs <;> simp [eqDs]
theorem take_okB {a b c d e many : Int} {j st : Store} (B : BxT j st) (hm : 0 < many) (hm2 : bits many < 9000) (ha : a.natAbs < 18446744073709551616) (hb : b ≠ 0) (hc : c.natAbs < 18446744073709551616) (he : e ≠ 0) (he2 : e.natAbs < 2 ^ 60) :
    ∃ v st', bodyR (gTake a b c d e (envE 3 ([.ref 1, .int many].map some)) st) = .ok (.int v) st' ∧ BxT j st' ∧ 0 ≤ v ∧ v < many := by
  obtain ⟨cs, ds, s, x, rfl, hx⟩ := B
  have hmn : many ≠ 0 := by omega
  have e0 : envE 3 ([D.ref 1, D.int many].map some) = [some (.ref 1), some (.int many), none] := rfl
  rw [e0]
  have i0 : idxD (.ref 1) (.int 0) (.lst (ds.map .int) :: .lst [x, .int s] :: j) = some x := rfl
  have i1 : idxD (.ref 1) (.int 1) (.lst (ds.map .int) :: .lst [x, .int s] :: j) = some (.int s) := rfl
  have vx : vOf x (.lst (ds.map .int) :: .lst [x, .int s] :: j) = .ok x (.lst (ds.map .int) :: .lst [x, .int s] :: j) := by rcases hx with ⟨rfl, _⟩ | ⟨rfl, _⟩ <;> rfl
  have rdx : rd (.lst (ds.map .int) :: .lst [x, .int s] :: j) x = .lst (cs.map .int) := by rcases hx with ⟨rfl, _⟩ | ⟨rfl, rfl, _⟩ <;> rfl
  have f2 : flat2 x (.lst []) = none := by rcases hx with ⟨rfl, _⟩ | ⟨rfl, rfl, _⟩ <;> rfl
  have ev : eqv (.lst (ds.map .int) :: .lst [x, .int s] :: j) x (.lst []) = some cs.isEmpty := by
    unfold eqv
    rw [f2]
    dsimp only
    rw [rdx]
    have : shp 60 (.lst (cs.map .int)) = true := by rw [shp]; exact shps_ints 59 cs
    rw [this]
    simp [rd, shp, shps, eqD, eqDs_nil]
  cases hcs : cs with
  | nil =>
    rw [hcs] at ev
    refine ⟨(Int.fdiv ((s * a).fmod b * c + d) e).fmod many, (.lst (ds.map .int) :: .lst [x, .int ((s * a).fmod b)] :: j), ?_, ⟨cs, ds, _, x, rfl, hx⟩, fmod_range hm⟩
    simp [gTake, x_var, i0, i1, ev, Sz, fInt, mulD, mulOk_r ha, mulOk_r hc, modD, hb, putD, atN, addD, divD, divOk_s he (bits_lt he2), hmn, idxD, atD, vx]
  | cons c0 cr =>
    rw [hcs] at ev
    have len : cs.length ≤ 63 := by rcases hx with ⟨_, h⟩ | ⟨_, h1, h2⟩; exact h; rw [h1]; exact h2
    have lr : cr.length ≤ 62 := by rw [hcs] at len; simpa using len
    have j0 : ∀ st, (x = .lst (cs.map .int) ∨ st[0]? = some (.lst (ds.map .int)) ∧ x = .ref 0 ∧ cs = ds) → idxD x (.int 0) st = some (.int c0) := fun st h => by
      rcases h with rfl | ⟨h1, rfl, rfl⟩
      · simp [idxD, atD, atN, hcs]
      · simp [idxD, h1, atD, atN, hcs]
    have hj : ∀ st : Store, st[0]? = some (.lst (ds.map .int)) → (x = .lst (cs.map .int) ∨ st[0]? = some (.lst (ds.map .int)) ∧ x = .ref 0 ∧ cs = ds) := fun st h => by
      rcases hx with ⟨h1, _⟩ | ⟨h1, h2, _⟩
      · exact .inl h1
      · exact .inr ⟨h, h1, h2⟩
    have sl : sliD x (some 1) none (.lst (ds.map .int) :: .lst [x, .int s] :: j) = some (.lst (cr.map .int)) := by
      rcases hx with ⟨rfl, _⟩ | ⟨rfl, rfl, _⟩
      · simp [sliD, cut, clip, hcs, List.take_of_length_le]
      · simp [sliD, cut, clip, hcs, List.take_of_length_le]
    have k0 := j0 (.lst (ds.map .int) :: .lst [x, .int s] :: j) (hj _ rfl)
    have z1 : 1 + cr.length ≤ 16777216 := by omega
    have z2 : cr.length ≤ 16777216 := by omega
    have z3 : cr.length + 1 ≤ 16777216 := by omega
    by_cases hc0 : many ≤ c0
    · refine ⟨c0.fmod many, (.lst (ds.map .int) :: .lst [.lst ((c0.fdiv many :: cr).map .int), .int s] :: j), ?_, ⟨c0.fdiv many :: cr, ds, s, _, rfl, .inl ⟨rfl, by simp; omega⟩⟩, fmod_range hm⟩
      simp [gTake, x_var, i0, i1, ev, Sz, fInt, modD, putD, atN, addD, divD, divOk_s hmn hm2, hmn, vx, k0, hc0, sl, z1, z2, z3]
    · refine ⟨c0.fmod many, (.lst (ds.map .int) :: .lst [.lst (cr.map .int), .int s] :: j), ?_, ⟨cr, ds, s, _, rfl, .inl ⟨rfl, by omega⟩⟩, fmod_range hm⟩
      simp [gTake, x_var, i0, i1, ev, Sz, fInt, modD, putD, atN, addD, divD, divOk_s hmn hm2, hmn, vx, k0, hc0, sl, z1, z2, z3]
theorem take_ok {a b c d e many : Int} {j st : Store} (B : BxT j st) (hm : 0 < many) (hm2 : many.natAbs < 2 ^ 60) (ha : a.natAbs < 18446744073709551616) (hb : b ≠ 0) (hc : c.natAbs < 18446744073709551616) (he : e ≠ 0) (he2 : e.natAbs < 2 ^ 60) :
    ∃ v st', bodyR (gTake a b c d e (envE 3 ([.ref 1, .int many].map some)) st) = .ok (.int v) st' ∧ BxT j st' ∧ 0 ≤ v ∧ v < many := take_okB B hm (bits_lt hm2) ha hb hc he he2
theorem mulOk_l {i j : Int} (h : i.natAbs < 18446744073709551616) : mulOk i j = true := by simp [mulOk, h]
def gBoxB (a b c d : Int) : MS :=
  (sSeq (sAsg (mOp fAdd (mOp fMul (mBlt fAbs (aCons (mVar 4) aNil)) (mLit (.int 2))) (mBlt fInt (aCons (mOp fLt (mVar 4) (mLit (.int 0))) aNil))) (gN 5))
    (sSeq (sIf (tCmp (mOp fGe (mBlt fAbs (aCons (mVar 4) aNil)) (mOp fPow (mLit (.int 10)) (mLit (.int 18))))) (sDrop (mApp (mVar 1) (mBlt fAbs (aCons (mVar 4) aNil)))) sNext)
    (sAsg (mOp fAdd (mOp fMod (mBlt fInt (aCons (mOp fAdd (mOp fAdd (mOp fMul (mVar 2) (mLit (.int a))) (mOp fMul (mOp fMod (mBlt fInt (aCons (mVar 5) aNil)) (mLit (.int b))) (mOp fAdd (mOp fMul (mLit (.int 2)) (mVar 3)) (mLit (.int c))))) (mLit (.int d))) aNil)) (mLit (.int b))) (mLit (.int 1))) (gN 2))))
noncomputable def gBox (s0 a b c d : Int) : MS :=
  (sSeq (sPar 1 2 (aCons (mNew aNil) (aCons (mLit (.int s0)) aNil)))
    (sSeq (sFor (iEnum (aCons (mSli (mVar 0) oNone (oSome (mLit (.int 63)))) aNil)) (gT [(gN 3), (gN 4)]) (gBoxB a b c d))
    (sRet (mNew (aCons (mVar 1) (aCons (mVar 2) aNil))))))
theorem box_loop {a b c d : Int} (ha : a.natAbs < 18446744073709551616) (hb : 0 < b) (hb2 : b ≤ 4294967296) (x0 : Option D) : ∀ (ns : List Int) (k : Nat) (cs : List Int) (s : Int) (x3 x4 x5 : Option D), cs.length + ns.length ≤ 63 →
    ∃ (cs' : List Int) (s' : Int) (x3' x4' x5' : Option D), loopF (fun _ => True) (gT [gN 3, gN 4]) (gBoxB a b c d) (numb k (ns.map .int)) [x0, some (.ref 0), some (.int s), x3, x4, x5] [.lst (cs.map .int)] = .nx [x0, some (.ref 0), some (.int s'), x3', x4', x5'] [.lst (cs'.map .int)] ∧ cs'.length ≤ 63
  | [], k, cs, s, x3, x4, x5, h => ⟨cs, s, x3, x4, x5, loop_nil trivial, by simpa using h⟩
  | n :: ns, k, cs, s, x3, x4, x5, h => by
    have hb0 : b ≠ 0 := by omega
    have m2 : ∀ i : Int, mulOk i 2 = true := fun i => mulOk_r (by decide)
    have m3 : ∀ i : Int, mulOk 2 i = true := fun i => mulOk_l (by decide)
    have m4 : ∀ i j : Int, mulOk (i.fmod b) j = true := fun i j => mulOk_l (by have := fmod_range (i := i) hb; omega)
    have p1 : powOk 10 18 = true := by decide
    have l1 : cs.length ≤ 16777215 := by simp at h; omega
    rw [List.map_cons, numb]
    by_cases hn : n < 0
    · by_cases hc : (1000000000000000000 : Int) ≤ -n
      · have st1 : gBoxB a b c d [x0, some (.ref 0), some (.int s), some (.int k), some (.int n), x5] [.lst (cs.map .int)] = .nx [x0, some (.ref 0), some (.int (((s * a) + ((-n * 2 + 1).fmod b) * (2 * k + c) + d).fmod b + 1)), some (.int k), some (.int n), some (.int (-n * 2 + 1))] [.lst ((cs ++ [-n]).map .int)] := by
          simp [gBoxB, x_var, fAbs, fInt, hn, mulD, m2, m3, m4, powD, p1, hc, mulOk_r ha, modD, hb0, Sz, l1]
        rw [loop_nx trivial rfl st1]
        exact box_loop ha hb hb2 x0 ns (k + 1) (cs ++ [-n]) _ _ _ _ (by simp at h ⊢; omega)
      · have st1 : gBoxB a b c d [x0, some (.ref 0), some (.int s), some (.int k), some (.int n), x5] [.lst (cs.map .int)] = .nx [x0, some (.ref 0), some (.int (((s * a) + ((-n * 2 + 1).fmod b) * (2 * k + c) + d).fmod b + 1)), some (.int k), some (.int n), some (.int (-n * 2 + 1))] [.lst (cs.map .int)] := by
          simp [gBoxB, x_var, fAbs, fInt, hn, mulD, m2, m3, m4, powD, p1, hc, mulOk_r ha, modD, hb0, Sz, l1]
        rw [loop_nx trivial rfl st1]
        exact box_loop ha hb hb2 x0 ns (k + 1) cs _ _ _ _ (by simp at h ⊢; omega)
    · by_cases hc : (1000000000000000000 : Int) ≤ n
      · have st1 : gBoxB a b c d [x0, some (.ref 0), some (.int s), some (.int k), some (.int n), x5] [.lst (cs.map .int)] = .nx [x0, some (.ref 0), some (.int (((s * a) + ((n * 2 + 0).fmod b) * (2 * k + c) + d).fmod b + 1)), some (.int k), some (.int n), some (.int (n * 2 + 0))] [.lst ((cs ++ [n]).map .int)] := by
          simp [gBoxB, x_var, fAbs, fInt, hn, mulD, m2, m3, m4, powD, p1, hc, mulOk_r ha, modD, hb0, Sz, l1]
        rw [loop_nx trivial rfl st1]
        exact box_loop ha hb hb2 x0 ns (k + 1) (cs ++ [n]) _ _ _ _ (by simp at h ⊢; omega)
      · have st1 : gBoxB a b c d [x0, some (.ref 0), some (.int s), some (.int k), some (.int n), x5] [.lst (cs.map .int)] = .nx [x0, some (.ref 0), some (.int (((s * a) + ((n * 2 + 0).fmod b) * (2 * k + c) + d).fmod b + 1)), some (.int k), some (.int n), some (.int (n * 2 + 0))] [.lst (cs.map .int)] := by
          simp [gBoxB, x_var, fAbs, fInt, hn, mulD, m2, m3, m4, powD, p1, hc, mulOk_r ha, modD, hb0, Sz, l1]
        rw [loop_nx trivial rfl st1]
        exact box_loop ha hb hb2 x0 ns (k + 1) cs _ _ _ _ (by simp at h ⊢; omega)
theorem box_ok {s0 a b c d : Int} (ha : a.natAbs < 18446744073709551616) (hb : 0 < b) (hb2 : b ≤ 4294967296) (ns : List Int) :
    ∃ st, bodyR (gBox s0 a b c d (envE 6 ([.scr ns].map some)) []) = .ok (.ref 1) st ∧ Bx st := by
  have e0 : envE 6 ([D.scr ns].map some) = [some (.scr ns), none, none, none, none, none] := rfl
  rw [e0]
  obtain ⟨cs, s, x3, x4, x5, h1, h2⟩ := box_loop (c := c) (d := d) ha hb hb2 (some (.scr ns)) (ns.take 63) 0 [] s0 none none none (by simp; omega)
  have e1 : (ns.map D.int).take 63 = (ns.take 63).map .int := (List.map_take).symm
  refine ⟨[.lst (cs.map .int), .lst [.ref 0, .int s]], ?_, ⟨cs, cs, s, _, rfl, .inr ⟨rfl, rfl, h2⟩⟩⟩
  have e2 : cut (ns.map D.int) none (some 63) = (ns.take 63).map .int := by
    unfold cut clip
    simp
  simp only [List.map_nil] at h1
  rw [← e1] at h1 e2
  simp [gBox, x_var, Sz, sliD, e2, itemsD, numbI, h1]
end Bw
set_option Elab.async false
set_option linter.all false
set_option autoImplicit false
set_option maxRecDepth 100000
/-! Comprehensions; the law's judge of data. -/
namespace Bw
section
variable {chk : Store → Prop} {g : MG} {t : MT} {e : ME} {d : D} {ds acc : List D} {ρ ρ' : Env} {st st' st2 : Store}
theorem lc_nil (h : chk st) : lcF chk g t e [] acc ρ st = .ok acc st := by unfold lcF; rw [if_pos h]
theorem lc_skip (h : chk st) (hg : g d ρ = some ρ') (ht : t ρ' st = .ok false st') : lcF chk g t e (d :: ds) acc ρ st = lcF chk g t e ds acc ρ st' := by
  conv => lhs; unfold lcF
  rw [if_pos h, hg]
  dsimp only
  rw [ht]
theorem lc_put {y : D} (h : chk st) (hg : g d ρ = some ρ') (ht : t ρ' st = .ok true st') (he : e ρ' st' = .ok y st2) (hz : Sz (acc.length + 1) = true) : lcF chk g t e (d :: ds) acc ρ st = lcF chk g t e ds (acc ++ [y]) ρ st2 := by
  conv => lhs; unfold lcF
  rw [if_pos h, hg]
  dsimp only
  rw [ht]
  dsimp only
  rw [he]
  dsimp only
  rw [if_pos hz]
end
def kLc (r : Res (List D)) : Res D := match r with
  | .ok acc st' => .ok (.lst acc) st'
  | _ => .no
@[simp] theorem x_lc (own : List Nat) (it : MI) (g : MG) (t : MT) (e : ME) (ρ : Env) (st : Store) : mLc own it g t e ρ st = (it ρ st).bind fun I st => kLc (lcF I.chk g t e I.ds [] (wipeE ρ own) st) := rfl
@[simp] theorem x_lc1 (acc : List D) (st : Store) : kLc (.ok acc st) = .ok (.lst acc) st := rfl
/-- a comprehension without a test, each item worked out without a trace -/
theorem lc_map {chk : Store → Prop} {g : MG} {e : ME} {ρ : Env} {st : Store} (hc : chk st) (f : D → D) : ∀ (ds acc : List D), (∀ d ∈ ds, ∃ ρ', g d ρ = some ρ' ∧ e ρ' st = .ok (f d) st) → acc.length + ds.length ≤ 16777216 → lcF chk g tYesM e ds acc ρ st = .ok (acc ++ ds.map f) st
  | [], acc, _, _ => by rw [lc_nil hc]; simp
  | d :: ds, acc, h, hl => by
    obtain ⟨ρ', h1, h2⟩ := h d List.mem_cons_self
    rw [List.length_cons] at hl
    rw [lc_put hc h1 rfl h2 (Sz_of (by omega)), lc_map hc f ds (acc ++ [f d]) (fun x hx => h x (List.mem_cons_of_mem _ hx)) (by simp; omega)]
    simp
/-- item by item -/
inductive All2 (P : D → D → Prop) : List D → List D → Prop
  | nil : All2 P [] []
  | cons {x y : D} {xs ys : List D} : P x y → All2 P xs ys → All2 P (x :: xs) (y :: ys)
/-- .. one that draws on the way: an invariant of the store holds on -/
theorem lc_draw {chk : Store → Prop} {g : MG} {e : ME} {ρ : Env} (I : Store → Prop) (P : D → D → Prop) (hc : ∀ st, I st → chk st) : ∀ (ds acc : List D) (st : Store), I st → (∀ d ∈ ds, ∀ st, I st → ∃ ρ' y st', g d ρ = some ρ' ∧ e ρ' st = .ok y st' ∧ I st' ∧ P d y) → acc.length + ds.length ≤ 16777216 →
    ∃ ys st', lcF chk g tYesM e ds acc ρ st = .ok (acc ++ ys) st' ∧ I st' ∧ All2 P ds ys
  | [], acc, st, hi, _, _ => ⟨[], st, by rw [lc_nil (hc st hi)]; simp, hi, .nil⟩
  | d :: ds, acc, st, hi, h, hl => by
    obtain ⟨ρ', y, st1, h1, h2, h3, h4⟩ := h d List.mem_cons_self st hi
    rw [List.length_cons] at hl
    rw [lc_put (hc st hi) h1 rfl h2 (Sz_of (by omega))]
    obtain ⟨ys, st2, k1, k2, k3⟩ := lc_draw I P hc ds (acc ++ [y]) st1 h3 (fun x hx => h x (List.mem_cons_of_mem _ hx)) (by simp; omega)
    exact ⟨y :: ys, st2, by rw [k1]; simp, k2, .cons h4 k3⟩
/-! ### the judge -/
@[simp] theorem kit_NoneType_tuple : L2.kitB "NoneType" "tuple" = some false := by decide +kernel
@[simp] theorem kit_NoneType_int : L2.kitB "NoneType" "int" = some false := by decide +kernel
@[simp] theorem kit_NoneType_bool : L2.kitB "NoneType" "bool" = some false := by decide +kernel
@[simp] theorem kit_NoneType_str : L2.kitB "NoneType" "str" = some false := by decide +kernel
@[simp] theorem kit_NoneType_list : L2.kitB "NoneType" "list" = some false := by decide +kernel
@[simp] theorem kit_bool_tuple : L2.kitB "bool" "tuple" = some false := by decide +kernel
@[simp] theorem kit_bool_int : L2.kitB "bool" "int" = some true := by decide +kernel
@[simp] theorem kit_bool_bool : L2.kitB "bool" "bool" = some true := by decide +kernel
@[simp] theorem kit_bool_str : L2.kitB "bool" "str" = some false := by decide +kernel
@[simp] theorem kit_bool_list : L2.kitB "bool" "list" = some false := by decide +kernel
@[simp] theorem kit_int_tuple : L2.kitB "int" "tuple" = some false := by decide +kernel
@[simp] theorem kit_int_int : L2.kitB "int" "int" = some true := by decide +kernel
@[simp] theorem kit_int_bool : L2.kitB "int" "bool" = some false := by decide +kernel
@[simp] theorem kit_int_str : L2.kitB "int" "str" = some false := by decide +kernel
@[simp] theorem kit_int_list : L2.kitB "int" "list" = some false := by decide +kernel
@[simp] theorem kit_str_tuple : L2.kitB "str" "tuple" = some false := by decide +kernel
@[simp] theorem kit_str_int : L2.kitB "str" "int" = some false := by decide +kernel
@[simp] theorem kit_str_bool : L2.kitB "str" "bool" = some false := by decide +kernel
@[simp] theorem kit_str_str : L2.kitB "str" "str" = some true := by decide +kernel
@[simp] theorem kit_str_list : L2.kitB "str" "list" = some false := by decide +kernel
@[simp] theorem kit_tuple_tuple : L2.kitB "tuple" "tuple" = some true := by decide +kernel
@[simp] theorem kit_tuple_int : L2.kitB "tuple" "int" = some false := by decide +kernel
@[simp] theorem kit_tuple_bool : L2.kitB "tuple" "bool" = some false := by decide +kernel
@[simp] theorem kit_tuple_str : L2.kitB "tuple" "str" = some false := by decide +kernel
@[simp] theorem kit_tuple_list : L2.kitB "tuple" "list" = some false := by decide +kernel
@[simp] theorem kit_list_tuple : L2.kitB "list" "tuple" = some false := by decide +kernel
@[simp] theorem kit_list_int : L2.kitB "list" "int" = some false := by decide +kernel
@[simp] theorem kit_list_bool : L2.kitB "list" "bool" = some false := by decide +kernel
@[simp] theorem kit_list_str : L2.kitB "list" "str" = some false := by decide +kernel
@[simp] theorem kit_list_list : L2.kitB "list" "list" = some true := by decide +kernel

noncomputable def gIs (g : List D → Store → Res D) : MS :=
  (sSeq (sIf (tVal (mBlt fIsi (aCons (mVar 1) (aCons (mLit (.ty "tuple")) aNil)))) (sSeq (sIf (tOr (tNot (tVal (mBlt fIsi (aCons (mVar 0) (aCons (mLit (.ty "tuple")) aNil))))) (tCmp (mOp fNe (mBlt fLen (aCons (mVar 0) aNil)) (mBlt fLen (aCons (mVar 1) aNil))))) (sRet (mLit (.bl false))) sNext)
    (sRet (mOp fEq (mLc [2, 3] (iZip (aCons (mVar 0) (aCons (mVar 1) aNil))) (gT [(gN 2), (gN 3)]) (tNot (tVal (mCall (fun ds st => if ds.length = 2 then g ds st else .no) (aCons (mVar 2) (aCons (mVar 3) aNil))))) (mLit (.int 1))) (mLst aNil)))) sNext)
    (sSeq (sIf (tOr (tCmp (mOp fIsN (mVar 1) (mLit .non))) (tOr (tCmp (mOp fIsB (mVar 1) (mLit (.bl true)))) (tCmp (mOp fIsB (mVar 1) (mLit (.bl false)))))) (sRet (mIf (tCmp (mOp fIsN (mVar 1) (mLit .non))) (mOp fIsN (mVar 0) (mLit .non)) (mIf (tCmp (mOp fIsB (mVar 1) (mLit (.bl true)))) (mOp fIsB (mVar 0) (mLit (.bl true))) (mOp fIsB (mVar 0) (mLit (.bl false)))))) sNext)
    (sSeq (sIf (tVal (mBlt fIsi (aCons (mVar 1) (aCons (mLit (.ty "int")) aNil)))) (sRet (mAnd (mBlt fIsi (aCons (mVar 0) (aCons (mLit (.ty "int")) aNil))) (mAnd (mNot (mBlt fIsi (aCons (mVar 0) (aCons (mLit (.ty "bool")) aNil)))) (mOp fEq (mVar 0) (mVar 1))))) sNext)
    (sRet (mAnd (mBlt fIsi (aCons (mVar 1) (aCons (mLit (.ty "str")) aNil))) (mAnd (mBlt fIsi (aCons (mVar 0) (aCons (mLit (.ty "str")) aNil))) (mOp fEq (mVar 0) (mVar 1))))))))
noncomputable def rIs : Nat → List D → Store → Res D
  | 0 => fun _ _ => .no
  | k + 1 => fun ds st => bodyR (gIs (rIs k) (envE 4 (ds.map some)) st)
mutual
def isP : Nat → D → Bool
  | 0, _ => false
  | _ + 1, .non => true
  | _ + 1, .bl _ => true
  | _ + 1, .int _ => true
  | _ + 1, .str _ => true
  | k + 1, .tup ds => isPs k ds
  | _ + 1, _ => false
def isPs : Nat → List D → Bool
  | _, [] => true
  | k, d :: ds => isP k d && isPs k ds
end
theorem isP_v {k : Nat} {d : D} (h : isP k d = true) : isV d = true := by
  cases k with
  | zero => simp [isP] at h
  | succ k => cases d <;> first | rfl | simp [isP] at h
theorem is_refl : ∀ (k : Nat) (d : D) (st : Store), isP k d = true → rIs k [d, d] st = .ok (.bl true) st
  | 0, d, st, h => by simp [isP] at h
  | k + 1, d, st, h => by
    have e0 : envE 4 ([d, d].map some) = [some d, some d, none, none] := rfl
    show bodyR (gIs (rIs k) (envE 4 ([d, d].map some)) st) = _
    rw [e0]
    cases d with
    | non => simp [gIs, x_var, fIsi, tyD, isNone, isBool, truD, fIsN, fIsB]
    | bl b => cases b <;> simp [gIs, x_var, fIsi, tyD, isNone, isBool, truD, fIsN, fIsB]
    | int i => simp [gIs, x_var, fIsi, tyD, isNone, isBool, truD, fIsN, fIsB]
    | str s => simp [gIs, x_var, fIsi, tyD, isNone, isBool, truD, fIsN, fIsB]
    | tup ds =>
      have hp : isPs k ds = true := by simpa [isP] using h
      have lp : ∀ (es : List D) (ρ : Env) (st : Store), isPs k es = true → lcF (fun _ => True) (gT [gN 2, gN 3]) (tNot (tVal (mCall (fun ds st => if ds.length = 2 then rIs k ds st else .no) (aCons (mVar 2) (aCons (mVar 3) aNil))))) (mLit (.int 1)) (zipD es es) [] [some (.tup ds), some (.tup ds), none, none] st = .ok [] st := by
        intro es
        induction es with
        | nil => intro ρ st _; exact lc_nil trivial
        | cons x xs ih =>
          intro ρ st hx
          have h1 : isP k x = true ∧ isPs k xs = true := by simpa [isPs] using hx
          have hv := isP_v h1.1
          show lcF _ _ _ _ (.tup [x, x] :: zipD xs xs) [] _ st = _
          rw [lc_skip trivial (ρ' := [some (.tup ds), some (.tup ds), some x, some x]) (st' := st) rfl (by simp [x_var, vOf_of hv, is_refl k x st h1.1, truD])]
          exact ih ρ st h1.2
      have zi : zipI st (.tup ds) (.tup ds) = some ⟨zipD ds ds, fun st => True ∧ True⟩ := rfl
      have w2 : wipeE [some (.tup ds), some (.tup ds), none, none] [2, 3] = [some (.tup ds), some (.tup ds), none, none] := rfl
      have q := lp ds [] st hp
      simp [gIs, x_var, fIsi, tyD, truD, fLen, lenD, zi, w2, q, eqv, flat2, rd, shp, shps, eqD, eqDs, Sz]
    | _ => simp [isP] at h
end Bw
set_option Elab.async false
set_option linter.all false
set_option autoImplicit false
set_option maxRecDepth 100000
/-! What is laid on the way is forgotten. -/
namespace Bw
def lowS (n : Nat) (s : Store) : Bool := s.all fun o => lowO n o
def forget (g : List D → Store → Res D) : List D → Store → Res D := fun ds st => match g ds st with
  | .ok d s => if decide (st.length ≤ s.length) && lowS st.length (s.take st.length) && lowD st.length d then .ok d (s.take st.length) else .ok d s
  | .er e s => if decide (st.length ≤ s.length) && lowS st.length (s.take st.length) && lowF st.length e.fs then .er e (s.take st.length) else .er e s
  | .no => .no
theorem keeps_of {st s : Store} (h1 : st.length ≤ s.length) (h2 : lowS st.length (s.take st.length) = true) : ∃ j, s = s.take st.length ++ j ∧ Keeps st (s.take st.length) j := by
  refine ⟨s.drop st.length, (List.take_append_drop _ _).symm, .inr ⟨by rw [List.length_take]; omega, fun n o e => .inr ?_⟩⟩
  unfold lowS at h2
  rw [List.all_eq_true] at h2
  exact h2 o (List.mem_of_getElem? e)
theorem forget_sub (g : List D → Store → Res D) (ds : List D) (st : Store) : SubR st (g ds st) (forget g ds st) := by
  unfold forget
  cases e : g ds st with
  | no => trivial
  | ok d s =>
    dsimp only
    split
    · rename_i h
      simp only [Bool.and_eq_true, decide_eq_true_eq] at h
      obtain ⟨⟨h1, h2⟩, h3⟩ := h
      obtain ⟨j, k1, k2⟩ := keeps_of h1 h2
      exact ⟨rfl, j, k1, k2, .inr h3⟩
    · exact SubR.refl _
  | er er s =>
    dsimp only
    split
    · rename_i h
      simp only [Bool.and_eq_true, decide_eq_true_eq] at h
      obtain ⟨⟨h1, h2⟩, h3⟩ := h
      obtain ⟨j, k1, k2⟩ := keeps_of h1 h2
      exact ⟨rfl, j, k1, k2, .inr h3⟩
    · exact SubR.refl _
theorem forget_ok {g : List D → Store → Res D} {ds : List D} {st st' j : Store} {d : D} (h : g ds st = .ok d (st' ++ j)) (hl : st'.length = st.length) (hs : lowS st.length st' = true) (hd : lowD st.length d = true) : forget g ds st = .ok d st' := by
  unfold forget
  rw [h]
  dsimp only
  have e : (st' ++ j).take st.length = st' := by rw [← hl, List.take_left]
  rw [e, if_pos]
  simp [hl, hs, hd]
theorem forget_er {g : List D → Store → Res D} {ds : List D} {st st' j : Store} {e : Er} (h : g ds st = .er e (st' ++ j)) (hl : st'.length = st.length) (hs : lowS st.length st' = true) (hd : lowF st.length e.fs = true) : forget g ds st = .er e st' := by
  unfold forget
  rw [h]
  dsimp only
  have e : (st' ++ j).take st.length = st' := by rw [← hl, List.take_left]
  rw [e, if_pos]
  simp [hl, hs, hd]
theorem lowDs_ints (n : Nat) : ∀ cs : List Int, lowDs n (cs.map .int) = true
  | [] => rfl
  | c :: cs => by rw [List.map_cons, lowDs, lowDs_ints n cs]; rfl
theorem Bx.low {st : Store} (B : Bx st) : lowS st.length st = true ∧ st.length = 2 := by
  obtain ⟨cs, ds, s, x, rfl, hx⟩ := B
  refine ⟨?_, rfl⟩
  have hx' : lowD 2 x = true := by
    rcases hx with ⟨rfl, _⟩ | ⟨rfl, _⟩
    · rw [lowD]; exact lowDs_ints 2 cs
    · rfl
  show ([MO.lst (ds.map .int), MO.lst [x, .int s]] : Store).all (lowO 2) = true
  simp [lowO, lowDs, lowDs_ints, hx', lowD]
theorem lowDs_strs (n : Nat) : ∀ cs : List (List Nat), lowDs n (cs.map .str) = true
  | [] => rfl
  | c :: cs => by rw [List.map_cons, lowDs, lowDs_strs n cs]; rfl
end Bw
set_option Elab.async false
set_option linter.all false
set_option autoImplicit false
set_option maxRecDepth 100000
set_option maxHeartbeats 4000000
/-! Fractions by data: the package's way and the law's own. -/
namespace Bw
/-- a fraction in lowest terms -/
def fd (q : Rat) : D := .tup [.int q.num, .int q.den]
def sg (u l : Int) : Int := if l < 0 then -((Nat.gcd u.natAbs l.natAbs : Nat) : Int) else ((Nat.gcd u.natAbs l.natAbs : Nat) : Int)
theorem gcd_pos {u l : Int} (hl : l ≠ 0) : 0 < ((Nat.gcd u.natAbs l.natAbs : Nat) : Int) := by
  have : 0 < Nat.gcd u.natAbs l.natAbs := Nat.gcd_pos_of_pos_right _ (by omega)
  omega
theorem sg_ne {u l : Int} (hl : l ≠ 0) : sg u l ≠ 0 := by
  have := gcd_pos (u := u) hl
  unfold sg
  split <;> omega
theorem fr_parts {u l : Int} (hl : l ≠ 0) : u.fdiv (sg u l) = (Rat.divInt u l).num ∧ l.fdiv (sg u l) = ((Rat.divInt u l).den : Int) := by
  have hg := gcd_pos (u := u) hl
  have hc : ((l.gcd u : Nat) : Int) = ((Nat.gcd u.natAbs l.natAbs : Nat) : Int) := by
    rw [Nat.gcd_comm]; rfl
  rw [Rat.num_divInt, Rat.den_divInt, if_neg hl, hc]
  unfold sg
  have hc2 : l.gcd u = Nat.gcd u.natAbs l.natAbs := by rw [Nat.gcd_comm]; rfl
  rw [hc2]
  generalize hgg : Nat.gcd u.natAbs l.natAbs = g at hg ⊢
  have h0 : (0 : Int) ≤ (g : Int) := by omega
  by_cases hn : l < 0
  · rw [if_pos hn, Int.sign_eq_neg_one_of_neg hn]
    have e1 : ∀ x : Int, x.fdiv (-(g : Int)) = (-x) / (g : Int) := fun x => by
      have := Int.neg_fdiv_neg (-x) (g : Int)
      rw [Int.neg_neg] at this
      rw [this, Int.fdiv_eq_ediv_of_nonneg _ h0]
    rw [e1, e1]
    refine ⟨by rw [Int.neg_one_mul], ?_⟩
    have : (-l) = ((l.natAbs : Nat) : Int) := by omega
    rw [this]
    rfl
  · rw [if_neg hn, Int.sign_eq_one_of_pos (by omega), Int.one_mul, Int.fdiv_eq_ediv_of_nonneg _ h0, Int.fdiv_eq_ediv_of_nonneg _ h0]
    refine ⟨rfl, ?_⟩
    have : l = ((l.natAbs : Nat) : Int) := by omega
    rw [this]
    rfl
/-! ### sizes -/
theorem bits_of {i : Int} {n : Nat} (h : i.natAbs < 2 ^ n) (hn : 0 < n) : bits i < n := by
  unfold bits
  by_cases h0 : i.natAbs = 0
  · rw [h0]; simpa using hn
  · exact (Nat.log2_lt h0).mpr h
theorem sg_small {u l : Int} {n : Nat} (hl : l ≠ 0) (h : l.natAbs < 2 ^ n) : (sg u l).natAbs < 2 ^ n := by
  have : Nat.gcd u.natAbs l.natAbs ≤ l.natAbs := Nat.gcd_le_right _ (by omega)
  unfold sg
  split <;> omega
theorem div_sg {u l i : Int} (hl : l ≠ 0) (h : l.natAbs < 2 ^ 9000) : divOk i (sg u l) = true := divOk_s (sg_ne hl) (bits_of (sg_small hl h) (by decide))
def Fz (n : Nat) (q : Rat) : Prop := q.num.natAbs < 2 ^ n ∧ q.den < 2 ^ n
theorem fz_divInt {u l : Int} {n : Nat} (hl : l ≠ 0) (h1 : u.natAbs < 2 ^ n) (h2 : l.natAbs < 2 ^ n) : Fz n (Rat.divInt u l) := by
  have hg : 0 < l.gcd u := by
    have := gcd_pos (u := u) hl
    have hc2 : l.gcd u = Nat.gcd u.natAbs l.natAbs := by rw [Nat.gcd_comm]; rfl
    omega
  refine ⟨?_, ?_⟩
  · rw [Rat.num_divInt]
    have : (l.sign * u / ((l.gcd u : Nat) : Int)).natAbs ≤ u.natAbs := by
      have h3 : (l.sign * u).natAbs = u.natAbs := by
        rw [Int.natAbs_mul, Int.natAbs_sign_of_ne_zero hl, Nat.one_mul]
      have h4 : (l.sign * u / ((l.gcd u : Nat) : Int)).natAbs ≤ (l.sign * u).natAbs := Int.natAbs_ediv_le_natAbs _ _
      omega
    omega
  · rw [Rat.den_divInt, if_neg hl]
    have := Nat.div_le_self l.natAbs (l.gcd u)
    omega
theorem Fz.mono {n m : Nat} {q : Rat} (h : Fz n q) (k : n ≤ m) : Fz m q := by
  have : 2 ^ n ≤ 2 ^ m := Nat.pow_le_pow_right (by decide) k
  exact ⟨Nat.lt_of_lt_of_le h.1 this, Nat.lt_of_lt_of_le h.2 this⟩
theorem mul_lt2 {a b : Int} {n m : Nat} (ha : a.natAbs < 2 ^ n) (hb : b.natAbs < 2 ^ m) : (a * b).natAbs < 2 ^ (n + m) := by
  rw [Int.natAbs_mul, Nat.pow_add]
  exact Nat.mul_lt_mul'' ha hb
theorem add_lt2 {a b : Int} {n : Nat} (ha : a.natAbs < 2 ^ n) (hb : b.natAbs < 2 ^ n) : (a + b).natAbs < 2 ^ (n + 1) := by
  rw [Nat.pow_succ]
  omega
theorem sub_lt2 {a b : Int} {n : Nat} (ha : a.natAbs < 2 ^ n) (hb : b.natAbs < 2 ^ n) : (a - b).natAbs < 2 ^ (n + 1) := by
  rw [Nat.pow_succ]
  omega
theorem up_lt2 {a : Int} {n m : Nat} (ha : a.natAbs < 2 ^ n) (k : n ≤ m) : a.natAbs < 2 ^ m := Nat.lt_of_lt_of_le ha (Nat.pow_le_pow_right (by decide) k)
theorem den_ne (q : Rat) : ((q.den : Nat) : Int) ≠ 0 := by have := q.den_pos; omega
theorem den_lt {q : Rat} {n : Nat} (h : Fz n q) : ((q.den : Nat) : Int).natAbs < 2 ^ n := by rw [Int.natAbs_natCast]; exact h.2
theorem mul_ne2 {a b : Int} (ha : a ≠ 0) (hb : b ≠ 0) : a * b ≠ 0 := Int.mul_ne_zero ha hb
/-! ### the four operations, as fractions of integers -/
theorem add_eq (p q : Rat) : p + q = Rat.divInt (p.num * q.den + q.num * p.den) (p.den * q.den) := by
  conv => lhs; rw [← Rat.num_divInt_den p, ← Rat.num_divInt_den q]
  exact Rat.divInt_add_divInt _ _ (den_ne p) (den_ne q)
theorem sub_eq (p q : Rat) : p - q = Rat.divInt (p.num * q.den - q.num * p.den) (p.den * q.den) := by
  conv => lhs; rw [← Rat.num_divInt_den p, ← Rat.num_divInt_den q]
  exact Rat.divInt_sub_divInt _ _ (den_ne p) (den_ne q)
theorem mul_eq (p q : Rat) : p * q = Rat.divInt (p.num * q.num) (p.den * q.den) := by
  conv => lhs; rw [← Rat.num_divInt_den p, ← Rat.num_divInt_den q]
  exact Rat.divInt_mul_divInt _ _
theorem div_eq (p q : Rat) : p / q = Rat.divInt (p.num * q.den) (p.den * q.num) := by
  rw [Rat.div_def, Rat.inv_def]
  conv => lhs; rw [← Rat.num_divInt_den p]
  exact Rat.divInt_mul_divInt _ _
theorem num_ne {q : Rat} (h : q ≠ 0) : q.num ≠ 0 := fun e => h (Rat.num_eq_zero.mp e)
theorem fz_add {p q : Rat} {n m : Nat} (hp : Fz n p) (hq : Fz m q) : Fz (n + m + 1) (p + q) := by
  rw [add_eq]
  refine fz_divInt (mul_ne2 (den_ne p) (den_ne q)) (add_lt2 (mul_lt2 hp.1 (den_lt hq)) ?_) (up_lt2 (mul_lt2 (den_lt hp) (den_lt hq)) (by omega))
  rw [Nat.add_comm]
  exact mul_lt2 hq.1 (den_lt hp)
theorem fz_sub {p q : Rat} {n m : Nat} (hp : Fz n p) (hq : Fz m q) : Fz (n + m + 1) (p - q) := by
  rw [sub_eq]
  refine fz_divInt (mul_ne2 (den_ne p) (den_ne q)) (sub_lt2 (mul_lt2 hp.1 (den_lt hq)) ?_) (up_lt2 (mul_lt2 (den_lt hp) (den_lt hq)) (by omega))
  rw [Nat.add_comm]
  exact mul_lt2 hq.1 (den_lt hp)
theorem fz_mul {p q : Rat} {n m : Nat} (hp : Fz n p) (hq : Fz m q) : Fz (n + m) (p * q) := by
  rw [mul_eq]
  exact fz_divInt (mul_ne2 (den_ne p) (den_ne q)) (mul_lt2 hp.1 hq.1) (mul_lt2 (den_lt hp) (den_lt hq))
theorem fz_div {p q : Rat} {n m : Nat} (hp : Fz n p) (hq : Fz m q) (h0 : q ≠ 0) : Fz (n + m) (p / q) := by
  rw [div_eq]
  exact fz_divInt (mul_ne2 (den_ne p) (num_ne h0)) (mul_lt2 hp.1 (den_lt hq)) (mul_lt2 (den_lt hp) hq.1)
theorem fz_neg {p : Rat} {n : Nat} (hp : Fz n p) : Fz n (-p) := ⟨by
  show (-p.num).natAbs < _
  rw [Int.natAbs_neg]
  exact hp.1, hp.2⟩
theorem mulOk_z {a b : Int} {n m : Nat} (ha : a.natAbs < 2 ^ n) (hb : b.natAbs < 2 ^ m) (h : n + m < 500000) : mulOk a b = true := by
  have h1 := bits_of (up_lt2 ha (Nat.le_succ n)) (Nat.succ_pos n)
  have h2 := bits_of (up_lt2 hb (Nat.le_succ m)) (Nat.succ_pos m)
  unfold mulOk
  have : bits a + bits b < 1000000 := by omega
  simp [this]
/-! ### fr -/
def gFr (B : Int) : MS :=
    (sSeq (sAsg (mBlt fGcd (aCons (mVar 0) (aCons (mVar 1) aNil))) (gN 2))
    (sSeq (sIf (tCmp (mOp fLt (mVar 1) (mLit (.int 0)))) (sAsg (mUn (fun x _ => negD x) (mVar 2)) (gN 2)) sNext)
    (sSeq (sAsg (mTup (aCons (mOp fDiv (mVar 0) (mVar 2)) (aCons (mOp fDiv (mVar 1) (mVar 2)) aNil))) (gN 3))
    (sSeq (sIf (tOr (tCmp (mOp fGe (mBlt fAbs (aCons (mOp idxD (mVar 3) (mLit (.int 0))) aNil)) (mLit (.int B)))) (tCmp (mOp fGe (mOp idxD (mVar 3) (mLit (.int 1))) (mLit (.int B))))) (sRaise "InvalidSize" ["word"] (aCons (mLit (.str [102, 105, 103, 117, 114, 101, 115])) aNil)) sNext)
    (sRet (mVar 3))))))
theorem gFr_head {B u l : Int} {st : Store} (hl : l ≠ 0) (h1 : divOk u (sg u l) = true) (h2 : divOk l (sg u l) = true) : gFr B (envE 4 ([D.int u, D.int l].map some)) st = (sSeq (sIf (tOr (tCmp (mOp fGe (mBlt fAbs (aCons (mOp idxD (mVar 3) (mLit (.int 0))) aNil)) (mLit (.int B)))) (tCmp (mOp fGe (mOp idxD (mVar 3) (mLit (.int 1))) (mLit (.int B))))) (sRaise "InvalidSize" ["word"] (aCons (mLit (.str [102, 105, 103, 117, 114, 101, 115])) aNil)) sNext)
    (sRet (mVar 3))) [some (.int u), some (.int l), some (.int (sg u l)), some (fd (Rat.divInt u l))] st := by
  have e0 : envE 4 ([D.int u, D.int l].map some) = [some (.int u), some (.int l), none, none] := rfl
  obtain ⟨p1, p2⟩ := fr_parts (u := u) hl
  have s2 : Sz 2 = true := by decide
  have a1 : sAsg (mBlt fGcd (aCons (mVar 0) (aCons (mVar 1) aNil))) (gN 2) [some (.int u), some (.int l), none, none] st = .nx [some (.int u), some (.int l), some (.int ((Nat.gcd u.natAbs l.natAbs : Nat) : Int)), none] st := by
    simp [x_var, fGcd]
  have a2 : sIf (tCmp (mOp fLt (mVar 1) (mLit (.int 0)))) (sAsg (mUn (fun x _ => negD x) (mVar 2)) (gN 2)) sNext [some (.int u), some (.int l), some (.int ((Nat.gcd u.natAbs l.natAbs : Nat) : Int)), none] st = .nx [some (.int u), some (.int l), some (.int (sg u l)), none] st := by
    unfold sg
    by_cases hn : l < 0
    · simp [x_var, hn, negD]
    · simp [x_var, hn]
  have a3 : sAsg (mTup (aCons (mOp fDiv (mVar 0) (mVar 2)) (aCons (mOp fDiv (mVar 1) (mVar 2)) aNil))) (gN 3) [some (.int u), some (.int l), some (.int (sg u l)), none] st = .nx [some (.int u), some (.int l), some (.int (sg u l)), some (fd (Rat.divInt u l))] st := by
    simp [x_var, divD, h1, h2, p1, p2, s2, fd]
  rw [e0]
  unfold gFr
  rw [x_seq, a1, sq_nx, x_seq, a2, sq_nx, x_seq, a3, sq_nx]
theorem fr_ok {B u l : Int} {st : Store} (hl : l ≠ 0) (h1 : divOk u (sg u l) = true) (h2 : divOk l (sg u l) = true) (b1 : ((Rat.divInt u l).num.natAbs : Int) < B) (b2 : ((Rat.divInt u l).den : Int) < B) : bodyR (gFr B (envE 4 ([D.int u, D.int l].map some)) st) = .ok (fd (Rat.divInt u l)) st := by
  rw [gFr_head hl h1 h2]
  generalize Rat.divInt u l = q at b1 b2 ⊢
  have i0 : idxD (fd q) (.int 0) st = some (.int q.num) := rfl
  have i1 : idxD (fd q) (.int 1) st = some (.int q.den) := rfl
  have v : vOf (fd q) st = .ok (fd q) st := rfl
  have c2 : ¬ B ≤ (q.den : Int) := by omega
  by_cases hn : q.num < 0
  · have c1 : ¬ B ≤ -q.num := by omega
    simp [x_var, v, i0, i1, fAbs, hn, c1, c2]
  · have c1 : ¬ B ≤ q.num := by omega
    simp [x_var, v, i0, i1, fAbs, hn, c1, c2]
theorem fr_big {B u l : Int} {st : Store} (hl : l ≠ 0) (h1 : divOk u (sg u l) = true) (h2 : divOk l (sg u l) = true) (b : ¬ (((Rat.divInt u l).num.natAbs : Int) < B ∧ ((Rat.divInt u l).den : Int) < B)) : bodyR (gFr B (envE 4 ([D.int u, D.int l].map some)) st) = .er ⟨"InvalidSize", [("word", .str [102, 105, 103, 117, 114, 101, 115])]⟩ st := by
  rw [gFr_head hl h1 h2]
  generalize Rat.divInt u l = q at b ⊢
  have i0 : idxD (fd q) (.int 0) st = some (.int q.num) := rfl
  have i1 : idxD (fd q) (.int 1) st = some (.int q.den) := rfl
  have v : vOf (fd q) st = .ok (fd q) st := rfl
  by_cases hn : q.num < 0
  · by_cases c1 : B ≤ -q.num
    · simp [x_var, v, i0, i1, fAbs, hn, c1]
    · have c2 : B ≤ (q.den : Int) := by omega
      simp [x_var, v, i0, i1, fAbs, hn, c1, c2]
  · by_cases c1 : B ≤ q.num
    · simp [x_var, v, i0, i1, fAbs, hn, c1]
    · have c2 : B ≤ (q.den : Int) := by omega
      simp [x_var, v, i0, i1, fAbs, hn, c1, c2]
/-- fractions of integers of some bits come out right -/
def FrOk (n : Nat) (fr : List D → Store → Res D) : Prop := ∀ (u l : Int) (st : Store), l ≠ 0 → u.natAbs < 2 ^ n → l.natAbs < 2 ^ n → fr [.int u, .int l] st = .ok (fd (Rat.divInt u l)) st
theorem frOk_fr {B : Int} (hB : (2 : Int) ^ 9000 ≤ B) : FrOk 9000 fun ds st => bodyR (gFr B (envE 4 (ds.map some)) st) := fun u l st hl h1 h2 => by
  have z := fz_divInt hl h1 h2
  have e : ((2 ^ 9000 : Nat) : Int) = (2 : Int) ^ 9000 := by rw [Int.natCast_pow]; rfl
  refine fr_ok hl (div_sg hl h2) (div_sg hl h2) ?_ ?_
  · have := z.1; omega
  · have := z.2; omega
/-! ### the law's own: by dividing on and on -/
def eu : Nat → Nat → Nat → Option Nat
  | 0, _, _ => none
  | k + 1, a, b => if b = 0 then some a else eu k b (a % b)
theorem eu_ok : ∀ (m a b k : Nat), b < 2 ^ m → 2 * m + 1 ≤ k → eu k a b = some (Nat.gcd a b)
  | m, a, b, 0, _, hk => by omega
  | 0, a, b, k + 1, hb, _ => by
    have : b = 0 := by simp at hb; exact hb
    subst this
    simp [eu]
  | m + 1, a, b, k + 1, hb, hk => by
    unfold eu
    by_cases h0 : b = 0
    · subst h0; simp
    · rw [if_neg h0]
      obtain ⟨k2, rfl⟩ : ∃ k2, k = k2 + 1 := ⟨k - 1, by omega⟩
      have hg : Nat.gcd a b = Nat.gcd b (a % b) := by rw [Nat.gcd_comm a b, Nat.gcd_rec b a, Nat.gcd_comm]
      unfold eu
      by_cases h1 : a % b = 0
      · rw [if_pos h1, hg, h1, Nat.gcd_zero_right]
      · rw [if_neg h1, hg]
        have hr : a % b < b := Nat.mod_lt _ (by omega)
        have hs : 2 * (b % (a % b)) < b := by
          generalize hrr : a % b = r at hr h1 ⊢
          have m1 : b % r < r := Nat.mod_lt _ (by omega)
          by_cases h2 : 2 * r ≤ b
          · omega
          · have : b % r = b - r := by
              rw [Nat.mod_eq_sub_mod (by omega), Nat.mod_eq_of_lt (by omega)]
            omega
        have hg2 : Nat.gcd b (a % b) = Nat.gcd (a % b) (b % (a % b)) := by rw [Nat.gcd_comm b (a % b), Nat.gcd_rec (a % b) b, Nat.gcd_comm]
        rw [hg2]
        refine eu_ok m (a % b) (b % (a % b)) k2 ?_ (by omega)
        have : 2 ^ (m + 1) = 2 * 2 ^ m := by rw [Nat.pow_succ, Nat.mul_comm]
        omega
def gSharedB : MS := (sSeq (sIf (tCmp (mOp fEq (mVar 1) (mLit (.int 0)))) (sRet (mVar 0)) sNext)
    (sPar 0 1 (aCons (mVar 1) (aCons (mOp fMod (mBlt fInt (aCons (mVar 0) aNil)) (mVar 1)) aNil))))
noncomputable def gShared : MS :=
    (sSeq (sFor (iRng1 (aCons (mLit (.int 30000)) aNil)) (gN 2) gSharedB)
    (sRet (mLit (.int 1))))
theorem shared_loop (st : Store) : ∀ (ds : List D) (a b g : Nat) (x : Option D), eu ds.length a b = some g → loopF (fun _ => True) (gN 2) gSharedB ds [some (.int (a : Int)), some (.int (b : Int)), x] st = .rt (.int (g : Int)) st
  | [], a, b, g, x, h => by simp [eu] at h
  | d :: ds, a, b, g, x, h => by
    rw [List.length_cons, eu] at h
    by_cases h0 : b = 0
    · subst h0
      rw [if_pos rfl] at h
      cases h
      exact loop_rt (chk := fun _ => True) trivial rfl (by simp [gSharedB, x_var])
    · rw [if_neg h0] at h
      have hb : ¬ (b : Int) = 0 := by omega
      have hm : (a : Int).fmod (b : Int) = ((a % b : Nat) : Int) := by
        rw [Int.fmod_eq_emod_of_nonneg _ (by omega)]
        rfl
      have t1 : gSharedB [some (.int (a : Int)), some (.int (b : Int)), some d] st = .nx [some (.int (b : Int)), some (.int ((a % b : Nat) : Int)), some d] st := by
        simp only [gSharedB, x_seq, x_sif, x_tCmp, x_op, x_var, List.getElem?_cons_zero, List.getElem?_cons_succ, vOf_int, bind_ok, x_lit, x_op1, x_op2, w_eq, w_eqi, hb, decide_false, Option.map_some, x_ofS, x_tCmp1, sBind_ok, x_sifF, x_next, sq_nx]
        simp [x_var, fInt, modD, h0, hm]
      rw [loop_nx (chk := fun _ => True) trivial (ρ' := [some (.int (a : Int)), some (.int (b : Int)), some d]) rfl t1]
      exact shared_loop st ds b (a % b) g _ h
theorem shared_ok {a b : Nat} {st : Store} (hb : b < 2 ^ 9000) : bodyR (gShared (envE 3 ([D.int (a : Int), D.int (b : Int)].map some)) st) = .ok (.int ((Nat.gcd a b : Nat) : Int)) st := by
  have e0 : envE 3 ([D.int (a : Int), D.int (b : Int)].map some) = [some (.int (a : Int)), some (.int (b : Int)), none] := rfl
  have ln : (rng 0 1 30000).length = 30000 := by unfold rng; rw [List.length_map, List.length_range]
  have l := shared_loop st (rng 0 1 30000) a b (Nat.gcd a b) none (by rw [ln]; exact eu_ok 9000 a b 30000 hb (by decide))
  have it : iRng1 (aCons (mLit (.int 30000)) aNil) [some (.int (a : Int)), some (.int (b : Int)), none] st = .ok (still (rng 0 1 30000)) st := by
    have : Rg 30000 = true := by decide
    simp only [x_iRng1, x_cons, x_lit, bind_ok, x_cons1, x_nil, x_cons2, this, if_true]
    rfl
  rw [e0]
  unfold gShared
  rw [x_seq, x_for, it, sBind_ok]
  show bodyR (Out.sq (loopF (fun _ => True) (gN 2) gSharedB (rng 0 1 30000) _ st) _) = _
  rw [l]
  rfl
def gLfr (sh : List D → Store → Res D) : MS :=
    (sSeq (sAsg (mCall (fun ds st => if ds.length = 2 then sh ds st else .no) (aCons (mBlt fAbs (aCons (mVar 0) aNil)) (aCons (mBlt fAbs (aCons (mVar 1) aNil)) aNil))) (gN 2))
    (sSeq (sAsg (mIf (tCmp (mOp fLt (mVar 1) (mLit (.int 0)))) (mOp fSub (mLit (.int 0)) (mVar 2)) (mVar 2)) (gN 2))
    (sRet (mTup (aCons (mOp fDiv (mVar 0) (mVar 2)) (aCons (mOp fDiv (mVar 1) (mVar 2)) aNil))))))
theorem frOk_lfr {sh : List D → Store → Res D} (hs : ∀ (a b : Nat) (st : Store), b < 2 ^ 9000 → sh [.int (a : Int), .int (b : Int)] st = .ok (.int ((Nat.gcd a b : Nat) : Int)) st) : FrOk 9000 fun ds st => bodyR (gLfr sh (envE 3 (ds.map some)) st) := fun u l st hl h1 h2 => by
  show bodyR (gLfr sh (envE 3 ([D.int u, D.int l].map some)) st) = _
  have e0 : envE 3 ([D.int u, D.int l].map some) = [some (.int u), some (.int l), none] := rfl
  obtain ⟨p1, p2⟩ := fr_parts (u := u) hl
  have d1 := div_sg (u := u) (i := u) hl h2
  have d2 := div_sg (u := u) (i := l) hl h2
  have s2 : Sz 2 = true := by decide
  have ab : ∀ i : Int, fAbs [.int i] st = some (.int ((i.natAbs : Nat) : Int)) := fun i => by
    unfold fAbs
    dsimp only
    congr 2
    split <;> omega
  have a1 : sAsg (mCall (fun ds st => if ds.length = 2 then sh ds st else .no) (aCons (mBlt fAbs (aCons (mVar 0) aNil)) (aCons (mBlt fAbs (aCons (mVar 1) aNil)) aNil))) (gN 2) [some (.int u), some (.int l), none] st = .nx [some (.int u), some (.int l), some (.int ((Nat.gcd u.natAbs l.natAbs : Nat) : Int))] st := by
    simp [x_var, ab, hs _ _ _ h2]
  have a2 : sAsg (mIf (tCmp (mOp fLt (mVar 1) (mLit (.int 0)))) (mOp fSub (mLit (.int 0)) (mVar 2)) (mVar 2)) (gN 2) [some (.int u), some (.int l), some (.int ((Nat.gcd u.natAbs l.natAbs : Nat) : Int))] st = .nx [some (.int u), some (.int l), some (.int (sg u l))] st := by
    unfold sg
    by_cases hn : l < 0
    · simp [x_var, hn]
    · simp [x_var, hn]
  rw [e0]
  unfold gLfr
  rw [x_seq, a1, sq_nx, x_seq, a2, sq_nx]
  simp [x_var, divD, d1, d2, p1, p2, s2, fd]
end Bw
set_option Elab.async false
set_option linter.all false
set_option autoImplicit false
set_option maxRecDepth 100000
set_option maxHeartbeats 4000000
/-! Fractions by data: sums, differences, products, quotients, order; which values are fractions, which are shares. -/
namespace Bw
noncomputable def gIsInt : MS :=
    (sRet (mAnd (mBlt fIsi (aCons (mVar 0) (aCons (mLit (.ty "int")) aNil))) (mNot (mBlt fIsi (aCons (mVar 0) (aCons (mLit (.ty "bool")) aNil))))))
noncomputable def gIsPap : MS :=
    (sRet (mAnd (mBlt fIsi (aCons (mVar 0) (aCons (mLit (.ty "tuple")) aNil))) (mOp fEq (mBlt fLen (aCons (mVar 0) aNil)) (mVar 1))))
noncomputable def gAdd (fr : List D → Store → Res D) : MS :=
    (sRet (mCall (fun ds st => if ds.length = 2 then fr ds st else .no) (aCons (mOp fAdd (mOp fMul (mOp idxD (mVar 0) (mLit (.int 0))) (mOp idxD (mVar 1) (mLit (.int 1)))) (mOp fMul (mOp idxD (mVar 1) (mLit (.int 0))) (mOp idxD (mVar 0) (mLit (.int 1))))) (aCons (mOp fMul (mOp idxD (mVar 0) (mLit (.int 1))) (mOp idxD (mVar 1) (mLit (.int 1)))) aNil))))
noncomputable def gSub (fr : List D → Store → Res D) : MS :=
    (sRet (mCall (fun ds st => if ds.length = 2 then fr ds st else .no) (aCons (mOp fSub (mOp fMul (mOp idxD (mVar 0) (mLit (.int 0))) (mOp idxD (mVar 1) (mLit (.int 1)))) (mOp fMul (mOp idxD (mVar 1) (mLit (.int 0))) (mOp idxD (mVar 0) (mLit (.int 1))))) (aCons (mOp fMul (mOp idxD (mVar 0) (mLit (.int 1))) (mOp idxD (mVar 1) (mLit (.int 1)))) aNil))))
noncomputable def gMul (fr : List D → Store → Res D) : MS :=
    (sRet (mCall (fun ds st => if ds.length = 2 then fr ds st else .no) (aCons (mOp fMul (mOp idxD (mVar 0) (mLit (.int 0))) (mOp idxD (mVar 1) (mLit (.int 0)))) (aCons (mOp fMul (mOp idxD (mVar 0) (mLit (.int 1))) (mOp idxD (mVar 1) (mLit (.int 1)))) aNil))))
noncomputable def gDiv (fr : List D → Store → Res D) : MS :=
    (sRet (mCall (fun ds st => if ds.length = 2 then fr ds st else .no) (aCons (mOp fMul (mOp idxD (mVar 0) (mLit (.int 0))) (mOp idxD (mVar 1) (mLit (.int 1)))) (aCons (mOp fMul (mOp idxD (mVar 0) (mLit (.int 1))) (mOp idxD (mVar 1) (mLit (.int 0)))) aNil))))
noncomputable def gLess : MS :=
    (sRet (mOp fLt (mOp fMul (mOp idxD (mVar 0) (mLit (.int 0))) (mOp idxD (mVar 1) (mLit (.int 1)))) (mOp fMul (mOp idxD (mVar 1) (mLit (.int 0))) (mOp idxD (mVar 0) (mLit (.int 1))))))
noncomputable def gDiff (sm : List D → Store → Res D) : MS :=
    (sRet (mCall (fun ds st => if ds.length = 2 then sm ds st else .no) (aCons (mVar 0) (aCons (mTup (aCons (mOp fSub (mLit (.int 0)) (mOp idxD (mVar 1) (mLit (.int 0)))) (aCons (mOp idxD (mVar 1) (mLit (.int 1))) aNil))) aNil))))
noncomputable def gIsFrac (B : Int) (pap int : List D → Store → Res D) : MS :=
    (sSeq (sIf (tOr (tNot (tVal (mCall (fun ds st => if ds.length = 2 then pap ds st else .no) (aCons (mVar 0) (aCons (mLit (.int 2)) aNil))))) (tOr (tNot (tVal (mCall (fun ds st => if ds.length = 1 then int ds st else .no) (aCons (mOp idxD (mVar 0) (mLit (.int 0))) aNil)))) (tNot (tVal (mCall (fun ds st => if ds.length = 1 then int ds st else .no) (aCons (mOp idxD (mVar 0) (mLit (.int 1))) aNil)))))) (sRet (mLit (.bl false))) sNext)
    (sRet (mAnd (mChain fLt fLt (mLit (.int 0)) (mOp idxD (mVar 0) (mLit (.int 1))) (mLit (.int B))) (mAnd (mOp fLt (mBlt fAbs (aCons (mOp idxD (mVar 0) (mLit (.int 0))) aNil)) (mLit (.int B))) (mOp fEq (mBlt fGcd (aCons (mOp idxD (mVar 0) (mLit (.int 0))) (aCons (mOp idxD (mVar 0) (mLit (.int 1))) aNil))) (mLit (.int 1)))))))
noncomputable def gIsShare (isf : List D → Store → Res D) : MS :=
    (sRet (mAnd (mCall (fun ds st => if ds.length = 1 then isf ds st else .no) (aCons (mVar 0) aNil)) (mChain fLt fLt (mLit (.int 0)) (mOp idxD (mVar 0) (mLit (.int 0))) (mOp idxD (mVar 0) (mLit (.int 1))))))
noncomputable def gIsSmall (B : Int) (ish : List D → Store → Res D) : MS :=
    (sRet (mAnd (mCall (fun ds st => if ds.length = 1 then ish ds st else .no) (aCons (mVar 0) aNil)) (mOp fLt (mOp idxD (mVar 0) (mLit (.int 1))) (mLit (.int B)))))
noncomputable def gNeedShare (iss : List D → Store → Res D) : MS :=
    (sSeq (sIf (tNot (tVal (mCall (fun ds st => if ds.length = 1 then iss ds st else .no) (aCons (mVar 0) aNil)))) (sRaise "InvalidShare" ["at"] (aCons (mVar 1) aNil)) sNext)
    (sRet (mVar 0)))
@[simp] theorem fd_0 (q : Rat) (st : Store) : idxD (fd q) (.int 0) st = some (.int q.num) := rfl
@[simp] theorem fd_1 (q : Rat) (st : Store) : idxD (fd q) (.int 1) st = some (.int q.den) := rfl
@[simp] theorem fd_v (q : Rat) (st : Store) : vOf (fd q) st = .ok (fd q) st := rfl
theorem e2 (a b : D) : envE 2 ([a, b].map some) = [some a, some b] := rfl
theorem e1 (a : D) : envE 1 ([a].map some) = [some a] := rfl
section
variable {N : Nat} {fr : List D → Store → Res D} {p q : Rat} {n m : Nat}
theorem add_ok (F : FrOk N fr) (hN : N ≤ 9000) (hp : Fz n p) (hq : Fz m q) (h : n + m + 1 ≤ N) (st : Store) : bodyR (gAdd fr (envE 2 ([fd p, fd q].map some)) st) = .ok (fd (p + q)) st := by
  have f := F (p.num * q.den + q.num * p.den) (p.den * q.den) st (mul_ne2 (den_ne p) (den_ne q)) (up_lt2 (add_lt2 (mul_lt2 hp.1 (den_lt hq)) (by rw [Nat.add_comm]; exact mul_lt2 hq.1 (den_lt hp))) h) (up_lt2 (mul_lt2 (den_lt hp) (den_lt hq)) (by omega))
  rw [← add_eq] at f
  have m1 := mulOk_z hp.1 (den_lt hq) (by omega)
  have m2 := mulOk_z hq.1 (den_lt hp) (by omega)
  have m3 := mulOk_z (den_lt hp) (den_lt hq) (by omega)
  rw [e2]
  simp [gAdd, x_var, mulD, m1, m2, m3, f]
theorem sub_ok (F : FrOk N fr) (hN : N ≤ 9000) (hp : Fz n p) (hq : Fz m q) (h : n + m + 1 ≤ N) (st : Store) : bodyR (gSub fr (envE 2 ([fd p, fd q].map some)) st) = .ok (fd (p - q)) st := by
  have f := F (p.num * q.den - q.num * p.den) (p.den * q.den) st (mul_ne2 (den_ne p) (den_ne q)) (up_lt2 (sub_lt2 (mul_lt2 hp.1 (den_lt hq)) (by rw [Nat.add_comm]; exact mul_lt2 hq.1 (den_lt hp))) h) (up_lt2 (mul_lt2 (den_lt hp) (den_lt hq)) (by omega))
  rw [← sub_eq] at f
  have m1 := mulOk_z hp.1 (den_lt hq) (by omega)
  have m2 := mulOk_z hq.1 (den_lt hp) (by omega)
  have m3 := mulOk_z (den_lt hp) (den_lt hq) (by omega)
  rw [e2]
  simp [gSub, x_var, mulD, m1, m2, m3, f]
theorem mul_ok (F : FrOk N fr) (hN : N ≤ 9000) (hp : Fz n p) (hq : Fz m q) (h : n + m ≤ N) (st : Store) : bodyR (gMul fr (envE 2 ([fd p, fd q].map some)) st) = .ok (fd (p * q)) st := by
  have f := F (p.num * q.num) (p.den * q.den) st (mul_ne2 (den_ne p) (den_ne q)) (up_lt2 (mul_lt2 hp.1 hq.1) h) (up_lt2 (mul_lt2 (den_lt hp) (den_lt hq)) h)
  rw [← mul_eq] at f
  have m1 := mulOk_z hp.1 hq.1 (by omega)
  have m3 := mulOk_z (den_lt hp) (den_lt hq) (by omega)
  rw [e2]
  simp [gMul, x_var, mulD, m1, m3, f]
theorem div_ok (F : FrOk N fr) (hN : N ≤ 9000) (hp : Fz n p) (hq : Fz m q) (h0 : q ≠ 0) (h : n + m ≤ N) (st : Store) : bodyR (gDiv fr (envE 2 ([fd p, fd q].map some)) st) = .ok (fd (p / q)) st := by
  have f := F (p.num * q.den) (p.den * q.num) st (mul_ne2 (den_ne p) (num_ne h0)) (up_lt2 (mul_lt2 hp.1 (den_lt hq)) h) (up_lt2 (mul_lt2 (den_lt hp) hq.1) h)
  rw [← div_eq] at f
  have m1 := mulOk_z hp.1 (den_lt hq) (by omega)
  have m3 := mulOk_z (den_lt hp) hq.1 (by omega)
  rw [e2]
  simp [gDiv, x_var, mulD, m1, m3, f]
theorem less_ok (hp : Fz n p) (hq : Fz m q) (h : n + m ≤ 100000) (st : Store) : bodyR (gLess (envE 2 ([fd p, fd q].map some)) st) = .ok (.bl (decide (p < q))) st := by
  have m1 := mulOk_z hp.1 (den_lt hq) (by omega)
  have m2 := mulOk_z hq.1 (den_lt hp) (by omega)
  have e : decide (p.num * ↑q.den < q.num * ↑p.den) = decide (p < q) := by simp only [Rat.lt_iff]
  rw [e2]
  simp [gLess, x_var, mulD, m1, m2, e]
/-- the law's difference: the sum with the other one turned round -/
theorem diff_ok {sm : List D → Store → Res D} {st s : Store} {d : D} (h : sm [fd p, fd (-q)] st = .ok d s) : bodyR (gDiff sm (envE 2 ([fd p, fd q].map some)) st) = .ok d s := by
  have e : D.tup [.int (-q.num), .int q.den] = fd (-q) := rfl
  have s2 : Sz 2 = true := by decide
  rw [e2]
  simp [gDiff, x_var, s2, e, h]
end
/-! ### which values -/
/-- any plain value -/
def plD : D → Bool
  | .non => true
  | .bl _ => true
  | .int _ => true
  | .str _ => true
  | .tup _ => true
  | .lst _ => true
  | _ => false
def intD : D → Bool
  | .int _ => true
  | _ => false
theorem plD_v {d : D} (h : plD d = true) (st : Store) : vOf d st = .ok d st := by cases d <;> first | rfl | (simp [plD] at h)
theorem isint_ok {d : D} (h : plD d = true) (st : Store) : bodyR (gIsInt (envE 1 ([d].map some)) st) = .ok (.bl (intD d)) st := by
  rw [e1]
  cases d <;> simp [plD] at h <;> simp [gIsInt, x_var, fIsi, tyD, truD, intD]
def papD (n : Int) : D → Bool
  | .tup ds => decide ((ds.length : Int) = n)
  | _ => false
theorem ispap_ok {d : D} {n : Int} (h : plD d = true) (st : Store) : bodyR (gIsPap (envE 2 ([d, .int n].map some)) st) = .ok (.bl (papD n d)) st := by
  rw [e2]
  cases d <;> simp [plD] at h <;> simp [gIsPap, x_var, fIsi, tyD, truD, papD, fLen, lenD]
/-- whether a value is a fraction -/
def frD (B : Int) : D → Bool
  | .tup [.int u, .int l] => decide (0 < l ∧ l < B) && decide ((u.natAbs : Int) < B) && decide (Nat.gcd u.natAbs l.natAbs = 1)
  | _ => false
theorem isfrac_ok {B : Int} {pap int : List D → Store → Res D} (hpap : ∀ (d : D) (st : Store), plD d = true → pap [d, .int 2] st = .ok (.bl (papD 2 d)) st) (hint : ∀ (d : D) (st : Store), plD d = true → int [d] st = .ok (.bl (intD d)) st)
    {d : D} (h : plD d = true) (h2 : ∀ a b, d = .tup [a, b] → plD a = true ∧ plD b = true) (st : Store) : bodyR (gIsFrac B pap int (envE 1 ([d].map some)) st) = .ok (.bl (frD B d)) st := by
  rw [e1]
  have v := plD_v h st
  by_cases hp : papD 2 d = true
  · obtain ⟨a, b, rfl⟩ : ∃ a b, d = .tup [a, b] := by
      cases d with
      | tup ds =>
        have : (ds.length : Int) = 2 := of_decide_eq_true hp
        match ds, this with
        | [a, b], _ => exact ⟨a, b, rfl⟩
      | _ => cases hp
    obtain ⟨pa, pb⟩ := h2 a b rfl
    have q1 : pap [.tup [a, b], .int 2] st = .ok (.bl true) st := hpap (.tup [a, b]) st rfl
    have q2 := hint a st pa
    have q3 := hint b st pb
    have i0 : idxD (.tup [a, b]) (.int 0) st = some a := rfl
    have i1 : idxD (.tup [a, b]) (.int 1) st = some b := rfl
    by_cases ha : intD a = true
    · by_cases hb : intD b = true
      · obtain ⟨u, rfl⟩ : ∃ u, a = .int u := by cases a <;> first | exact ⟨_, rfl⟩ | simp [intD] at ha
        obtain ⟨l, rfl⟩ : ∃ l, b = .int l := by cases b <;> first | exact ⟨_, rfl⟩ | simp [intD] at hb
        have hpp : papD 2 (.tup [.int u, .int l]) = true := rfl
        have ab : fAbs [.int u] st = some (.int ((u.natAbs : Nat) : Int)) := by
          unfold fAbs
          dsimp only
          congr 2
          split <;> omega
        have gc : eqv st (.int ((Nat.gcd u.natAbs l.natAbs : Nat) : Int)) (.int 1) = some (decide (Nat.gcd u.natAbs l.natAbs = 1)) := by
          rw [w_eqi]
          congr 1
          exact decide_eq_decide.mpr (by omega)
        by_cases c1 : 0 < l
        · by_cases c2 : l < B
          · by_cases c3 : (u.natAbs : Int) < B
            · simp [gIsFrac, x_var, q1, q2, q3, intD, i0, i1, truD, c1, c2, c3, ab, fGcd, frD, gc]
            · simp [gIsFrac, x_var, q1, q2, q3, intD, i0, i1, truD, c1, c2, c3, ab, fGcd, frD, gc]
          · simp [gIsFrac, x_var, q1, q2, q3, intD, i0, i1, truD, c1, c2, ab, fGcd, frD, gc]
        · simp [gIsFrac, x_var, q1, q2, q3, intD, i0, i1, truD, c1, ab, fGcd, frD, gc]
      · have e : frD B (.tup [a, b]) = false := by
          unfold frD
          split
          · rename_i h; cases h; exact absurd rfl hb
          · rfl
        simp [gIsFrac, x_var, q1, q2, q3, ha, hb, i0, i1, truD, e]
    · have e : frD B (.tup [a, b]) = false := by
        unfold frD
        split
        · rename_i h; cases h; exact absurd rfl ha
        · rfl
      simp [gIsFrac, x_var, q1, q2, q3, ha, i0, i1, truD, e]
  · have e : frD B d = false := by
      unfold frD
      split
      · exact absurd rfl hp
      · rfl
    simp [gIsFrac, x_var, v, hpap d st h, hp, truD, e]
theorem frD_fd {B : Int} {q : Rat} {n : Nat} (h : Fz n q) (hB : ((2 ^ n : Nat) : Int) ≤ B) : frD B (fd q) = true := by
  have h1 := h.1
  have h2 := h.2
  have h3 := q.den_pos
  have h4 : Nat.gcd q.num.natAbs ((q.den : Nat) : Int).natAbs = 1 := q.reduced
  have a1 : (0 < (q.den : Int) ∧ (q.den : Int) < B) := by omega
  have a2 : ((q.num.natAbs : Int) < B) := by omega
  show (_ && _ && _) = true
  rw [Bool.and_eq_true, Bool.and_eq_true]
  exact ⟨⟨decide_eq_true a1, decide_eq_true a2⟩, decide_eq_true h4⟩
end Bw
set_option Elab.async false
set_option linter.all false
set_option autoImplicit false
set_option maxRecDepth 100000
set_option maxHeartbeats 4000000
/-! printed by wip/gen.py: what each def does, by data, and its walk -/
namespace K02
open PySem PySem.Spec PyProof.Rows L2 Bw LamX
def top (i : Nat) : Stmt := PySem.Challenge.pw_blownalong_k02_whole_fractions.main.body.getD i (.Pass ⟨0, 0, 0, 0⟩)
def k_BEYOND : Int := 1000000000000000000000000000000000000000000000000000000000000000000000000000000000000000000000000000000000000000000000000000000000000000000000000000000000000000000000000000000000000000000000000000000000000000000000000000000000000000000000000000000000000000000000000000000000000000000000000000000000000000000000000000000000000000000000000000000000000000000000000000000000000000000000000000000000000000000000000000000000000000000000000000000000000000000000000000000000000000000000000000000000000000000000000000000000000000000000000000000000000000000000000000000000000000000000000000000000000000000000000000000000000000000000000000000000000000000000000000000000000000000000000000000000000000000000000000000000000000000000000000000000000000000000000000000000000000000000000000000000000000000000000000000000000000000000000000000000000000000000000000000000000000000000000000000000000000000000000000000000000000000000000000000000000000000000000000000000000000000000000000000000000000000000000000000000000000000000000000000000000000000000000000000000000000000000000000000000000000000000000000000000000000000000000000000000000000000000000000000000000000000000000000000000000000000000000000000000000000000000000000000000000000000000000000000000000000000000000000000000000000000000000000000000000000000000000000000000000000000000000000000000000000000000000000000000000000000000000000000000000000000000000000000000000000000000000000000000000000000000000000000000000000000000000000000000000000000000000000000000000000000000000000000000000000000000000000000000000000000000000000000000000000000000000000000000000000000000000000000000000000000000000000000000000000000000000000000000000000000000000000000000000000000000000000000000000000000000000000000000000000000000000000000000000000000000000000000000000000000000000000000000000000000000000000000000000000000000000000000000000000000000000000000000000000000000000000000000000000000000000000000000000000000000000000000000000000000000000000000000000000000000000000000000000000000000000000000000000000000000000000000000000000000000000000000000000000000000000000000000000000000000000000000000000000000000000000000000000000000000000000000000000000000000000000000000000000000000000000000000000000000000000000000000000000000000000000000000000000000000000000000000000000000000000000000000000000000000000000000000000000000000000000000000000000000000000000000000000000000000000000000000000000000000000000000000000000000000000000000000000000000000000000000000000000000000000000000000000000000000000000000000000000000000000000000000000000000000000000000000000000000000000000000000000000000000000000000000000000000000000000000000000000000000000000000000000000000000000000000000000000000000000000000000000000000000000000000000000000000000000000000000000000000000000000000000000000000000000000000000000000000000000000000000000000000000000000000000000000000000000000000000000000000000000000000000000000000000000000000000000000000000000000000000000000000000000000000000000000000000000
abbrev s_is_integer : Stmt := (top 8)
abbrev s_is_paper_of : Stmt := (top 9)
abbrev s_fr : Stmt := (top 14)
abbrev s_added : Stmt := (top 15)
abbrev s_lessened : Stmt := (top 16)
abbrev s_multiplied : Stmt := (top 17)
abbrev s_divided : Stmt := (top 18)
abbrev s_lesser : Stmt := (top 19)
abbrev s_is_frac : Stmt := (top 20)
abbrev s_need_frac : Stmt := (top 21)
abbrev s_frac : Stmt := (top 22)
abbrev s_plus : Stmt := (top 23)
abbrev s_less : Stmt := (top 24)
abbrev s_times : Stmt := (top 25)
abbrev s_over : Stmt := (top 26)
abbrev s_is_less : Stmt := (top 27)
abbrev s_text_of_frac : Stmt := (top 28)
abbrev s_frac_text : Stmt := (top 29)
abbrev s_is_tens : Stmt := (top 30)
abbrev s_read_frac : Stmt := (top 31)
abbrev s__law_box : Stmt := (top 33)
abbrev s__law_take : Stmt := (top 34)
abbrev s__law_pick : Stmt := (top 35)
abbrev s__law_is : Stmt := (top 36)
abbrev s__law_all : Stmt := (top 37)
abbrev s__law_shared : Stmt := (top 38)
abbrev s__law_error : Stmt := (top 39)
abbrev s__law_fr : Stmt := (top 40)
abbrev s__law_sum : Stmt := (top 41)
abbrev s__law_drawn : Stmt := (top 42)
abbrev s__law_words : Stmt := (top 43)
abbrev s_law : Stmt := (top 44)
structure Ad where
  a_is_integer : Addr
  d_is_integer : FuncData
  a_is_paper_of : Addr
  d_is_paper_of : FuncData
  a_fr : Addr
  d_fr : FuncData
  a_added : Addr
  d_added : FuncData
  a_lessened : Addr
  d_lessened : FuncData
  a_multiplied : Addr
  d_multiplied : FuncData
  a_divided : Addr
  d_divided : FuncData
  a_lesser : Addr
  d_lesser : FuncData
  a_is_frac : Addr
  d_is_frac : FuncData
  a_need_frac : Addr
  d_need_frac : FuncData
  a_frac : Addr
  d_frac : FuncData
  a_plus : Addr
  d_plus : FuncData
  a_less : Addr
  d_less : FuncData
  a_times : Addr
  d_times : FuncData
  a_over : Addr
  d_over : FuncData
  a_is_less : Addr
  d_is_less : FuncData
  a_text_of_frac : Addr
  d_text_of_frac : FuncData
  a_frac_text : Addr
  d_frac_text : FuncData
  a_is_tens : Addr
  d_is_tens : FuncData
  a_read_frac : Addr
  d_read_frac : FuncData
  a__law_box : Addr
  d__law_box : FuncData
  a__law_take : Addr
  d__law_take : FuncData
  a__law_pick : Addr
  d__law_pick : FuncData
  a__law_is : Addr
  d__law_is : FuncData
  a__law_all : Addr
  d__law_all : FuncData
  a__law_shared : Addr
  d__law_shared : FuncData
  a__law_error : Addr
  d__law_error : FuncData
  a__law_fr : Addr
  d__law_fr : FuncData
  a__law_sum : Addr
  d__law_sum : FuncData
  a__law_drawn : Addr
  d__law_drawn : FuncData
  a__law_words : Addr
  d__law_words : FuncData
  a_law : Addr
  d_law : FuncData
  ca__law_all : Addr
  ct__law_all : Addr
  ca_law : Addr
  ct_law : Addr
  x_InvalidSize : Addr
  x_InvalidFraction : Addr
  x_Refused : Addr
  x_InvalidWords : Addr
/-- which clause takes which class -/
def exm : String → String → Option Bool
  | "InvalidSize", "InvalidSize" => some true
  | "InvalidSize", "InvalidFraction" => some false
  | "InvalidSize", "Refused" => some false
  | "InvalidSize", "InvalidWords" => some false
  | "InvalidFraction", "InvalidSize" => some false
  | "InvalidFraction", "InvalidFraction" => some true
  | "InvalidFraction", "Refused" => some false
  | "InvalidFraction", "InvalidWords" => some false
  | "Refused", "InvalidSize" => some false
  | "Refused", "InvalidFraction" => some false
  | "Refused", "Refused" => some true
  | "Refused", "InvalidWords" => some false
  | "InvalidWords", "InvalidSize" => some false
  | "InvalidWords", "InvalidFraction" => some false
  | "InvalidWords", "Refused" => some false
  | "InvalidWords", "InvalidWords" => some true
  | _, _ => none
structure Kn (P : Program) (w : World) (K : PySem.W.Frag) (mg : Str → Option Value) (A : Ad) : Prop where
  dig : DigK K
  b_isinstance : mg "isinstance" = none
  b_int : mg "int" = none
  b_bool : mg "bool" = none
  b_tuple : mg "tuple" = none
  b_len : mg "len" = none
  m_gcd : mg "gcd" = some (.builtin "math.gcd")
  b_abs : mg "abs" = none
  c_BEYOND : ∃ t, mg "BEYOND" = some (.int k_BEYOND t)
  b_str : mg "str" = none
  c_MOST_FIGURES : ∃ t, mg "MOST_FIGURES" = some (.int 3000 t)
  b_all : mg "all" = none
  c_TENS : ∃ t, mg "TENS" = some (.str (strOf [48, 49, 50, 51, 52, 53, 54, 55, 56, 57]) t)
  b_enumerate : mg "enumerate" = none
  b_zip : mg "zip" = none
  b_range : mg "range" = none
  g_InvalidFraction_at : ∀ C, mg (Str.ofString "InvalidFraction") = some (.ref C) → Gets K C (Str.ofString "at")
  g_InvalidWords_at : ∀ C, mg (Str.ofString "InvalidWords") = some (.ref C) → Gets K C (Str.ofString "at")
  g_InvalidSize_word : ∀ C, mg (Str.ofString "InvalidSize") = some (.ref C) → Gets K C (Str.ofString "word")
  g_Refused_at : ∀ C, mg (Str.ofString "Refused") = some (.ref C) → Gets K C (Str.ofString "at")
  f_is_integer : At K mg "is_integer" s_is_integer ["value"] A.a_is_integer A.d_is_integer
  f_is_paper_of : At K mg "is_paper_of" s_is_paper_of ["value", "many"] A.a_is_paper_of A.d_is_paper_of
  f_fr : At K mg "fr" s_fr ["upper", "lower"] A.a_fr A.d_fr
  f_added : At K mg "added" s_added ["one", "other"] A.a_added A.d_added
  f_lessened : At K mg "lessened" s_lessened ["one", "other"] A.a_lessened A.d_lessened
  f_multiplied : At K mg "multiplied" s_multiplied ["one", "other"] A.a_multiplied A.d_multiplied
  f_divided : At K mg "divided" s_divided ["one", "other"] A.a_divided A.d_divided
  f_lesser : At K mg "lesser" s_lesser ["one", "other"] A.a_lesser A.d_lesser
  f_is_frac : At K mg "is_frac" s_is_frac ["value"] A.a_is_frac A.d_is_frac
  f_need_frac : AtD K mg "need_frac" s_need_frac ["value", "at"] A.a_need_frac A.d_need_frac (-1)
  f_frac : At K mg "frac" s_frac ["upper", "lower"] A.a_frac A.d_frac
  f_plus : At K mg "plus" s_plus ["one", "other"] A.a_plus A.d_plus
  f_less : At K mg "less" s_less ["one", "other"] A.a_less A.d_less
  f_times : At K mg "times" s_times ["one", "other"] A.a_times A.d_times
  f_over : At K mg "over" s_over ["one", "other"] A.a_over A.d_over
  f_is_less : At K mg "is_less" s_is_less ["one", "other"] A.a_is_less A.d_is_less
  f_text_of_frac : At K mg "text_of_frac" s_text_of_frac ["one"] A.a_text_of_frac A.d_text_of_frac
  f_frac_text : At K mg "frac_text" s_frac_text ["one"] A.a_frac_text A.d_frac_text
  f_is_tens : At K mg "is_tens" s_is_tens ["text"] A.a_is_tens A.d_is_tens
  f_read_frac : At K mg "read_frac" s_read_frac ["text"] A.a_read_frac A.d_read_frac
  f__law_box : At K mg "_law_box" s__law_box ["script"] A.a__law_box A.d__law_box
  f__law_take : At K mg "_law_take" s__law_take ["box", "many"] A.a__law_take A.d__law_take
  f__law_pick : At K mg "_law_pick" s__law_pick ["box", "some"] A.a__law_pick A.d__law_pick
  f__law_is : At K mg "_law_is" s__law_is ["told", "due"] A.a__law_is A.d__law_is
  f__law_all : AtC K mg "_law_all" s__law_all ["ask", "some", "due"] A.a__law_all A.d__law_all A.ca__law_all
  f__law_shared : At K mg "_law_shared" s__law_shared ["one", "other"] A.a__law_shared A.d__law_shared
  f__law_error : At K mg "_law_error" s__law_error ["call"] A.a__law_error A.d__law_error
  f__law_fr : At K mg "_law_fr" s__law_fr ["upper", "lower"] A.a__law_fr A.d__law_fr
  f__law_sum : At K mg "_law_sum" s__law_sum ["one", "other"] A.a__law_sum A.d__law_sum
  f__law_drawn : At K mg "_law_drawn" s__law_drawn ["box"] A.a__law_drawn A.d__law_drawn
  f__law_words : At K mg "_law_words" s__law_words ["one"] A.a__law_words A.d__law_words
  f_law : AtC K mg "law" s_law ["script"] A.a_law A.d_law A.ca_law
  x_InvalidSize : XAt P w K mg "InvalidSize" A.x_InvalidSize ["word"]
  x_InvalidFraction : XAt P w K mg "InvalidFraction" A.x_InvalidFraction ["at"]
  x_Refused : XAt P w K mg "Refused" A.x_Refused ["at"]
  x_InvalidWords : XAt P w K mg "InvalidWords" A.x_InvalidWords ["at"]
  exm : ExmOk K mg exm
section
variable {P : Program} {w : World} {K : PySem.W.Frag} {mg : Str → Option Value} {base : Heap} {A : Ad} {T : List (Addr × Str)}
theorem sc_is_integer : FnScope ["value"] ["value"] (defScope s_is_integer) := ⟨rfl, rfl, rfl, by decide +kernel, rfl, by decide +kernel, by decide +kernel⟩
noncomputable def m_is_integer : MS :=
    (sRet (mAnd (mBlt fIsi (aCons (mVar 0) (aCons (mLit (.ty "int")) aNil))) (mNot (mBlt fIsi (aCons (mVar 0) (aCons (mLit (.ty "bool")) aNil))))))
theorem ok_is_integer (Y : Kn P w K mg A) : FnOk P w K mg base (L2.CX P w) (0 + 1) A.a_is_integer A.d_is_integer ["value"] (spB ⟨K, mg⟩ T 1 fun ds st => bodyR ((m_is_integer) (envE 1 (ds.map some)) st)) :=
  bwB Y.f_is_integer.fn sc_is_integer (m_is_integer) fun cdv AA S1 s H E z hr => by
    have tk := takes_of (X := cxOf (L2.CX P w) P w K mg base ["value"] "is_integer" (defScope s_is_integer) A.a_is_integer cdv AA S1 s H E) rfl rfl rfl rfl
    have hp := passes_of (X := cxOf (L2.CX P w) P w K mg base ["value"] "is_integer" (defScope s_is_integer) A.a_is_integer cdv AA S1 s H E) rfl
    unfold m_is_integer
    exact (ss_one (s_ret (e_and rfl (e_blt (c_isi rfl) Y.b_isinstance (by rfl) (a_cons (e_var 0) (a_cons (e_ty "int" Y.b_int rfl) a_nil))) (e_one (e_not rfl (e_blt (c_isi rfl) Y.b_isinstance (by rfl) (a_cons (e_var 0) (a_cons (e_ty "bool" Y.b_bool rfl) a_nil))))))))
theorem sc_is_paper_of : FnScope ["value", "many"] ["value", "many"] (defScope s_is_paper_of) := ⟨rfl, rfl, rfl, by decide +kernel, rfl, by decide +kernel, by decide +kernel⟩
noncomputable def m_is_paper_of : MS :=
    (sRet (mAnd (mBlt fIsi (aCons (mVar 0) (aCons (mLit (.ty "tuple")) aNil))) (mOp fEq (mBlt fLen (aCons (mVar 0) aNil)) (mVar 1))))
theorem ok_is_paper_of (Y : Kn P w K mg A) : FnOk P w K mg base (L2.CX P w) (0 + 1) A.a_is_paper_of A.d_is_paper_of ["value", "many"] (spB ⟨K, mg⟩ T 2 fun ds st => bodyR ((m_is_paper_of) (envE 2 (ds.map some)) st)) :=
  bwB Y.f_is_paper_of.fn sc_is_paper_of (m_is_paper_of) fun cdv AA S1 s H E z hr => by
    have tk := takes_of (X := cxOf (L2.CX P w) P w K mg base ["value", "many"] "is_paper_of" (defScope s_is_paper_of) A.a_is_paper_of cdv AA S1 s H E) rfl rfl rfl rfl
    have hp := passes_of (X := cxOf (L2.CX P w) P w K mg base ["value", "many"] "is_paper_of" (defScope s_is_paper_of) A.a_is_paper_of cdv AA S1 s H E) rfl
    unfold m_is_paper_of
    exact (ss_one (s_ret (e_and rfl (e_blt (c_isi rfl) Y.b_isinstance (by rfl) (a_cons (e_var 0) (a_cons (e_ty "tuple" Y.b_tuple rfl) a_nil))) (e_one (e_cmp (o_eq rfl (u64 hr)) (e_blt (c_len rfl) Y.b_len (by rfl) (a_cons (e_var 0) a_nil)) (e_var 1))))))
theorem sc_fr : FnScope ["upper", "lower", "shared", "told"] ["upper", "lower"] (defScope s_fr) := ⟨rfl, rfl, rfl, by decide +kernel, rfl, by decide +kernel, by decide +kernel⟩
noncomputable def m_fr : MS :=
    (sSeq (sAsg (mBlt fGcd (aCons (mVar 0) (aCons (mVar 1) aNil))) (gN 2))
    (sSeq (sIf (tCmp (mOp fLt (mVar 1) (mLit (.int 0)))) (sAsg (mUn (fun x _ => negD x) (mVar 2)) (gN 2)) sNext)
    (sSeq (sAsg (mTup (aCons (mOp fDiv (mVar 0) (mVar 2)) (aCons (mOp fDiv (mVar 1) (mVar 2)) aNil))) (gN 3))
    (sSeq (sIf (tOr (tCmp (mOp fGe (mBlt fAbs (aCons (mOp idxD (mVar 3) (mLit (.int 0))) aNil)) (mLit (.int k_BEYOND)))) (tCmp (mOp fGe (mOp idxD (mVar 3) (mLit (.int 1))) (mLit (.int k_BEYOND))))) (sRaise "InvalidSize" ["word"] (aCons (mLit (.str [102, 105, 103, 117, 114, 101, 115])) aNil)) sNext)
    (sRet (mVar 3))))))
theorem ok_fr (Y : Kn P w K mg A) : FnOk P w K mg base (L2.CX P w) (0 + 1) A.a_fr A.d_fr ["upper", "lower"] (spB ⟨K, mg⟩ T 2 fun ds st => bodyR ((m_fr) (envE 4 (ds.map some)) st)) :=
  bwB Y.f_fr.fn sc_fr (m_fr) fun cdv AA S1 s H E z hr => by
    have tk := takes_of (X := cxOf (L2.CX P w) P w K mg base ["upper", "lower", "shared", "told"] "fr" (defScope s_fr) A.a_fr cdv AA S1 s H E) rfl rfl rfl rfl
    have hp := passes_of (X := cxOf (L2.CX P w) P w K mg base ["upper", "lower", "shared", "told"] "fr" (defScope s_fr) A.a_fr cdv AA S1 s H E) rfl
    unfold m_fr
    exact (by refine ss_cons (s_set 2 (e_bfn (c_gcd) Y.m_gcd (a_cons (e_var 0) (a_cons (e_var 1) a_nil))) sc_fr.nd) ?_; refine ss_cons (s_if (t_cmp o_lt (e_var 1) e_int) (ss_one (s_set 2 (e_neg (e_var 2)) sc_fr.nd)) ss_nil) ?_; refine ss_cons (s_set 3 (e_tup (a_cons (e_op o_div (e_var 0) (e_var 2)) (a_cons (e_op o_div (e_var 1) (e_var 2)) a_nil))) sc_fr.nd) ?_; refine ss_cons (s_if (PW.pt (t_or (t_cmp o_ge (e_blt (c_abs) Y.b_abs (by rfl) (a_cons (e_idx rfl (e_var 3) e_int) a_nil)) (e_gintx k_BEYOND Y.c_BEYOND)) (t_or1 (t_cmp o_ge (e_idx rfl (e_var 3) e_int) (e_gintx k_BEYOND Y.c_BEYOND))))) (ss_one (s_raise "InvalidSize" (as := ["word"]) rfl tk rfl Y.x_InvalidSize.mkx Y.x_InvalidSize.kp Y.x_InvalidSize.bs Y.x_InvalidSize.ty hr Y.x_InvalidSize.mg (a_cons (e_str [102, 105, 103, 117, 114, 101, 115]) a_nil))) ss_nil) ?_; exact (ss_one (s_ret (e_var 3))))
theorem sc_added : FnScope ["one", "other"] ["one", "other"] (defScope s_added) := ⟨rfl, rfl, rfl, by decide +kernel, rfl, by decide +kernel, by decide +kernel⟩
noncomputable def m_added (g_fr : List D → Store → Res D) : MS :=
    (sRet (mCall (fun ds st => if ds.length = 2 then g_fr ds st else .no) (aCons (mOp fAdd (mOp fMul (mOp idxD (mVar 0) (mLit (.int 0))) (mOp idxD (mVar 1) (mLit (.int 1)))) (mOp fMul (mOp idxD (mVar 1) (mLit (.int 0))) (mOp idxD (mVar 0) (mLit (.int 1))))) (aCons (mOp fMul (mOp idxD (mVar 0) (mLit (.int 1))) (mOp idxD (mVar 1) (mLit (.int 1)))) aNil))))
theorem ok_added {g_fr : List D → Store → Res D} (Y : Kn P w K mg A) (G_fr : FnOk P w K mg base (L2.CX P w) 1 A.a_fr A.d_fr ["upper", "lower"] (spB ⟨K, mg⟩ T 2 g_fr)) : FnOk P w K mg base (L2.CX P w) (1 + 1) A.a_added A.d_added ["one", "other"] (spB ⟨K, mg⟩ T 2 fun ds st => bodyR ((m_added g_fr) (envE 2 (ds.map some)) st)) :=
  bwB Y.f_added.fn sc_added (m_added g_fr) fun cdv AA S1 s H E z hr => by
    have tk := takes_of (X := cxOf (L2.CX P w) P w K mg base ["one", "other"] "added" (defScope s_added) A.a_added cdv AA S1 s H E) rfl rfl rfl rfl
    have hp := passes_of (X := cxOf (L2.CX P w) P w K mg base ["one", "other"] "added" (defScope s_added) A.a_added cdv AA S1 s H E) rfl
    unfold m_added
    exact (ss_one (s_ret (e_callM G_fr (hr.mono (by omega)) Y.f_fr.mg Y.f_fr.kp Y.f_fr.bd tk (a_cons (e_op (o_add rfl) (e_op (o_mul rfl) (e_idx rfl (e_var 0) e_int) (e_idx rfl (e_var 1) e_int)) (e_op (o_mul rfl) (e_idx rfl (e_var 1) e_int) (e_idx rfl (e_var 0) e_int))) (a_cons (e_op (o_mul rfl) (e_idx rfl (e_var 0) e_int) (e_idx rfl (e_var 1) e_int)) a_nil)))))
theorem sc_lessened : FnScope ["one", "other"] ["one", "other"] (defScope s_lessened) := ⟨rfl, rfl, rfl, by decide +kernel, rfl, by decide +kernel, by decide +kernel⟩
noncomputable def m_lessened (g_fr : List D → Store → Res D) : MS :=
    (sRet (mCall (fun ds st => if ds.length = 2 then g_fr ds st else .no) (aCons (mOp fSub (mOp fMul (mOp idxD (mVar 0) (mLit (.int 0))) (mOp idxD (mVar 1) (mLit (.int 1)))) (mOp fMul (mOp idxD (mVar 1) (mLit (.int 0))) (mOp idxD (mVar 0) (mLit (.int 1))))) (aCons (mOp fMul (mOp idxD (mVar 0) (mLit (.int 1))) (mOp idxD (mVar 1) (mLit (.int 1)))) aNil))))
theorem ok_lessened {g_fr : List D → Store → Res D} (Y : Kn P w K mg A) (G_fr : FnOk P w K mg base (L2.CX P w) 1 A.a_fr A.d_fr ["upper", "lower"] (spB ⟨K, mg⟩ T 2 g_fr)) : FnOk P w K mg base (L2.CX P w) (1 + 1) A.a_lessened A.d_lessened ["one", "other"] (spB ⟨K, mg⟩ T 2 fun ds st => bodyR ((m_lessened g_fr) (envE 2 (ds.map some)) st)) :=
  bwB Y.f_lessened.fn sc_lessened (m_lessened g_fr) fun cdv AA S1 s H E z hr => by
    have tk := takes_of (X := cxOf (L2.CX P w) P w K mg base ["one", "other"] "lessened" (defScope s_lessened) A.a_lessened cdv AA S1 s H E) rfl rfl rfl rfl
    have hp := passes_of (X := cxOf (L2.CX P w) P w K mg base ["one", "other"] "lessened" (defScope s_lessened) A.a_lessened cdv AA S1 s H E) rfl
    unfold m_lessened
    exact (ss_one (s_ret (e_callM G_fr (hr.mono (by omega)) Y.f_fr.mg Y.f_fr.kp Y.f_fr.bd tk (a_cons (e_op o_sub (e_op (o_mul rfl) (e_idx rfl (e_var 0) e_int) (e_idx rfl (e_var 1) e_int)) (e_op (o_mul rfl) (e_idx rfl (e_var 1) e_int) (e_idx rfl (e_var 0) e_int))) (a_cons (e_op (o_mul rfl) (e_idx rfl (e_var 0) e_int) (e_idx rfl (e_var 1) e_int)) a_nil)))))
theorem sc_multiplied : FnScope ["one", "other"] ["one", "other"] (defScope s_multiplied) := ⟨rfl, rfl, rfl, by decide +kernel, rfl, by decide +kernel, by decide +kernel⟩
noncomputable def m_multiplied (g_fr : List D → Store → Res D) : MS :=
    (sRet (mCall (fun ds st => if ds.length = 2 then g_fr ds st else .no) (aCons (mOp fMul (mOp idxD (mVar 0) (mLit (.int 0))) (mOp idxD (mVar 1) (mLit (.int 0)))) (aCons (mOp fMul (mOp idxD (mVar 0) (mLit (.int 1))) (mOp idxD (mVar 1) (mLit (.int 1)))) aNil))))
theorem ok_multiplied {g_fr : List D → Store → Res D} (Y : Kn P w K mg A) (G_fr : FnOk P w K mg base (L2.CX P w) 1 A.a_fr A.d_fr ["upper", "lower"] (spB ⟨K, mg⟩ T 2 g_fr)) : FnOk P w K mg base (L2.CX P w) (1 + 1) A.a_multiplied A.d_multiplied ["one", "other"] (spB ⟨K, mg⟩ T 2 fun ds st => bodyR ((m_multiplied g_fr) (envE 2 (ds.map some)) st)) :=
  bwB Y.f_multiplied.fn sc_multiplied (m_multiplied g_fr) fun cdv AA S1 s H E z hr => by
    have tk := takes_of (X := cxOf (L2.CX P w) P w K mg base ["one", "other"] "multiplied" (defScope s_multiplied) A.a_multiplied cdv AA S1 s H E) rfl rfl rfl rfl
    have hp := passes_of (X := cxOf (L2.CX P w) P w K mg base ["one", "other"] "multiplied" (defScope s_multiplied) A.a_multiplied cdv AA S1 s H E) rfl
    unfold m_multiplied
    exact (ss_one (s_ret (e_callM G_fr (hr.mono (by omega)) Y.f_fr.mg Y.f_fr.kp Y.f_fr.bd tk (a_cons (e_op (o_mul rfl) (e_idx rfl (e_var 0) e_int) (e_idx rfl (e_var 1) e_int)) (a_cons (e_op (o_mul rfl) (e_idx rfl (e_var 0) e_int) (e_idx rfl (e_var 1) e_int)) a_nil)))))
theorem sc_divided : FnScope ["one", "other"] ["one", "other"] (defScope s_divided) := ⟨rfl, rfl, rfl, by decide +kernel, rfl, by decide +kernel, by decide +kernel⟩
noncomputable def m_divided (g_fr : List D → Store → Res D) : MS :=
    (sRet (mCall (fun ds st => if ds.length = 2 then g_fr ds st else .no) (aCons (mOp fMul (mOp idxD (mVar 0) (mLit (.int 0))) (mOp idxD (mVar 1) (mLit (.int 1)))) (aCons (mOp fMul (mOp idxD (mVar 0) (mLit (.int 1))) (mOp idxD (mVar 1) (mLit (.int 0)))) aNil))))
theorem ok_divided {g_fr : List D → Store → Res D} (Y : Kn P w K mg A) (G_fr : FnOk P w K mg base (L2.CX P w) 1 A.a_fr A.d_fr ["upper", "lower"] (spB ⟨K, mg⟩ T 2 g_fr)) : FnOk P w K mg base (L2.CX P w) (1 + 1) A.a_divided A.d_divided ["one", "other"] (spB ⟨K, mg⟩ T 2 fun ds st => bodyR ((m_divided g_fr) (envE 2 (ds.map some)) st)) :=
  bwB Y.f_divided.fn sc_divided (m_divided g_fr) fun cdv AA S1 s H E z hr => by
    have tk := takes_of (X := cxOf (L2.CX P w) P w K mg base ["one", "other"] "divided" (defScope s_divided) A.a_divided cdv AA S1 s H E) rfl rfl rfl rfl
    have hp := passes_of (X := cxOf (L2.CX P w) P w K mg base ["one", "other"] "divided" (defScope s_divided) A.a_divided cdv AA S1 s H E) rfl
    unfold m_divided
    exact (ss_one (s_ret (e_callM G_fr (hr.mono (by omega)) Y.f_fr.mg Y.f_fr.kp Y.f_fr.bd tk (a_cons (e_op (o_mul rfl) (e_idx rfl (e_var 0) e_int) (e_idx rfl (e_var 1) e_int)) (a_cons (e_op (o_mul rfl) (e_idx rfl (e_var 0) e_int) (e_idx rfl (e_var 1) e_int)) a_nil)))))
theorem sc_lesser : FnScope ["one", "other"] ["one", "other"] (defScope s_lesser) := ⟨rfl, rfl, rfl, by decide +kernel, rfl, by decide +kernel, by decide +kernel⟩
noncomputable def m_lesser : MS :=
    (sRet (mOp fLt (mOp fMul (mOp idxD (mVar 0) (mLit (.int 0))) (mOp idxD (mVar 1) (mLit (.int 1)))) (mOp fMul (mOp idxD (mVar 1) (mLit (.int 0))) (mOp idxD (mVar 0) (mLit (.int 1))))))
theorem ok_lesser (Y : Kn P w K mg A) : FnOk P w K mg base (L2.CX P w) (0 + 1) A.a_lesser A.d_lesser ["one", "other"] (spB ⟨K, mg⟩ T 2 fun ds st => bodyR ((m_lesser) (envE 2 (ds.map some)) st)) :=
  bwB Y.f_lesser.fn sc_lesser (m_lesser) fun cdv AA S1 s H E z hr => by
    have tk := takes_of (X := cxOf (L2.CX P w) P w K mg base ["one", "other"] "lesser" (defScope s_lesser) A.a_lesser cdv AA S1 s H E) rfl rfl rfl rfl
    have hp := passes_of (X := cxOf (L2.CX P w) P w K mg base ["one", "other"] "lesser" (defScope s_lesser) A.a_lesser cdv AA S1 s H E) rfl
    unfold m_lesser
    exact (ss_one (s_ret (e_cmp o_lt (e_op (o_mul rfl) (e_idx rfl (e_var 0) e_int) (e_idx rfl (e_var 1) e_int)) (e_op (o_mul rfl) (e_idx rfl (e_var 1) e_int) (e_idx rfl (e_var 0) e_int)))))
theorem sc_is_frac : FnScope ["value"] ["value"] (defScope s_is_frac) := ⟨rfl, rfl, rfl, by decide +kernel, rfl, by decide +kernel, by decide +kernel⟩
noncomputable def m_is_frac (g_is_paper_of : List D → Store → Res D) (g_is_integer : List D → Store → Res D) : MS :=
    (sSeq (sIf (tOr (tNot (tVal (mCall (fun ds st => if ds.length = 2 then g_is_paper_of ds st else .no) (aCons (mVar 0) (aCons (mLit (.int 2)) aNil))))) (tOr (tNot (tVal (mCall (fun ds st => if ds.length = 1 then g_is_integer ds st else .no) (aCons (mOp idxD (mVar 0) (mLit (.int 0))) aNil)))) (tNot (tVal (mCall (fun ds st => if ds.length = 1 then g_is_integer ds st else .no) (aCons (mOp idxD (mVar 0) (mLit (.int 1))) aNil)))))) (sRet (mLit (.bl false))) sNext)
    (sRet (mAnd (mChain fLt fLt (mLit (.int 0)) (mOp idxD (mVar 0) (mLit (.int 1))) (mLit (.int k_BEYOND))) (mAnd (mOp fLt (mBlt fAbs (aCons (mOp idxD (mVar 0) (mLit (.int 0))) aNil)) (mLit (.int k_BEYOND))) (mOp fEq (mBlt fGcd (aCons (mOp idxD (mVar 0) (mLit (.int 0))) (aCons (mOp idxD (mVar 0) (mLit (.int 1))) aNil))) (mLit (.int 1)))))))
theorem ok_is_frac {g_is_paper_of : List D → Store → Res D} {g_is_integer : List D → Store → Res D} (Y : Kn P w K mg A) (G_is_paper_of : FnOk P w K mg base (L2.CX P w) 1 A.a_is_paper_of A.d_is_paper_of ["value", "many"] (spB ⟨K, mg⟩ T 2 g_is_paper_of)) (G_is_integer : FnOk P w K mg base (L2.CX P w) 1 A.a_is_integer A.d_is_integer ["value"] (spB ⟨K, mg⟩ T 1 g_is_integer)) : FnOk P w K mg base (L2.CX P w) (1 + 1) A.a_is_frac A.d_is_frac ["value"] (spB ⟨K, mg⟩ T 1 fun ds st => bodyR ((m_is_frac g_is_paper_of g_is_integer) (envE 1 (ds.map some)) st)) :=
  bwB Y.f_is_frac.fn sc_is_frac (m_is_frac g_is_paper_of g_is_integer) fun cdv AA S1 s H E z hr => by
    have tk := takes_of (X := cxOf (L2.CX P w) P w K mg base ["value"] "is_frac" (defScope s_is_frac) A.a_is_frac cdv AA S1 s H E) rfl rfl rfl rfl
    have hp := passes_of (X := cxOf (L2.CX P w) P w K mg base ["value"] "is_frac" (defScope s_is_frac) A.a_is_frac cdv AA S1 s H E) rfl
    unfold m_is_frac
    exact (by refine ss_cons (s_if (PW.pt (t_or (t_not (t_val rfl (e_callM G_is_paper_of (hr.mono (by omega)) Y.f_is_paper_of.mg Y.f_is_paper_of.kp Y.f_is_paper_of.bd tk (a_cons (e_var 0) (a_cons e_int a_nil))))) (t_or (t_not (t_val rfl (e_callM G_is_integer (hr.mono (by omega)) Y.f_is_integer.mg Y.f_is_integer.kp Y.f_is_integer.bd tk (a_cons (e_idx rfl (e_var 0) e_int) a_nil)))) (t_or1 (t_not (t_val rfl (e_callM G_is_integer (hr.mono (by omega)) Y.f_is_integer.mg Y.f_is_integer.kp Y.f_is_integer.bd tk (a_cons (e_idx rfl (e_var 0) e_int) a_nil)))))))) (ss_one (s_ret e_bl)) ss_nil) ?_; exact (ss_one (s_ret (e_and rfl (e_chain o_lt o_lt e_int (e_idx rfl (e_var 0) e_int) (e_gintx k_BEYOND Y.c_BEYOND)) (e_and rfl (e_cmp o_lt (e_blt (c_abs) Y.b_abs (by rfl) (a_cons (e_idx rfl (e_var 0) e_int) a_nil)) (e_gintx k_BEYOND Y.c_BEYOND)) (e_one (e_cmp (o_eq rfl (u64 hr)) (e_bfn (c_gcd) Y.m_gcd (a_cons (e_idx rfl (e_var 0) e_int) (a_cons (e_idx rfl (e_var 0) e_int) a_nil))) e_int)))))))
theorem sc_need_frac : FnScope ["value", "at"] ["value", "at"] (defScope s_need_frac) := ⟨rfl, rfl, rfl, by decide +kernel, rfl, by decide +kernel, by decide +kernel⟩
noncomputable def m_need_frac (g_is_frac : List D → Store → Res D) : MS :=
    (sSeq (sIf (tNot (tVal (mCall (fun ds st => if ds.length = 1 then g_is_frac ds st else .no) (aCons (mVar 0) aNil)))) (sRaise "InvalidFraction" ["at"] (aCons (mVar 1) aNil)) sNext)
    (sRet (mVar 0)))
theorem ok_need_frac {g_is_frac : List D → Store → Res D} (Y : Kn P w K mg A) (G_is_frac : FnOk P w K mg base (L2.CX P w) 2 A.a_is_frac A.d_is_frac ["value"] (spB ⟨K, mg⟩ T 1 g_is_frac)) : FnOk P w K mg base (L2.CX P w) (2 + 1) A.a_need_frac A.d_need_frac ["value", "at"] (spB ⟨K, mg⟩ T 2 fun ds st => bodyR ((m_need_frac g_is_frac) (envE 2 (ds.map some)) st)) :=
  bwD Y.f_need_frac sc_need_frac (m_need_frac g_is_frac) fun cdv AA S1 s H E z hr => by
    have tk := takes_of (X := cxOf (L2.CX P w) P w K mg base ["value", "at"] "need_frac" (defScope s_need_frac) A.a_need_frac cdv AA S1 s H E) rfl rfl rfl rfl
    have hp := passes_of (X := cxOf (L2.CX P w) P w K mg base ["value", "at"] "need_frac" (defScope s_need_frac) A.a_need_frac cdv AA S1 s H E) rfl
    unfold m_need_frac
    exact (by refine ss_cons (s_if (t_not (t_val rfl (e_callM G_is_frac (hr.mono (by omega)) Y.f_is_frac.mg Y.f_is_frac.kp Y.f_is_frac.bd tk (a_cons (e_var 0) a_nil)))) (ss_one (s_raise "InvalidFraction" (as := ["at"]) rfl tk rfl Y.x_InvalidFraction.mkx Y.x_InvalidFraction.kp Y.x_InvalidFraction.bs Y.x_InvalidFraction.ty hr Y.x_InvalidFraction.mg (a_cons (e_var 1) a_nil))) ss_nil) ?_; exact (ss_one (s_ret (e_var 0))))
theorem sc_frac : FnScope ["upper", "lower"] ["upper", "lower"] (defScope s_frac) := ⟨rfl, rfl, rfl, by decide +kernel, rfl, by decide +kernel, by decide +kernel⟩
noncomputable def m_frac (g_is_integer : List D → Store → Res D) (g_fr : List D → Store → Res D) : MS :=
    (sSeq (sIf (tOr (tNot (tVal (mCall (fun ds st => if ds.length = 1 then g_is_integer ds st else .no) (aCons (mVar 0) aNil)))) (tCmp (mOp fGe (mBlt fAbs (aCons (mVar 0) aNil)) (mLit (.int k_BEYOND))))) (sRaise "InvalidFraction" ["at"] (aCons (mLit (.int 0)) aNil)) sNext)
    (sSeq (sIf (tOr (tNot (tVal (mCall (fun ds st => if ds.length = 1 then g_is_integer ds st else .no) (aCons (mVar 1) aNil)))) (tOr (tCmp (mOp fGe (mBlt fAbs (aCons (mVar 1) aNil)) (mLit (.int k_BEYOND)))) (tCmp (mOp fEq (mVar 1) (mLit (.int 0)))))) (sRaise "InvalidFraction" ["at"] (aCons (mLit (.int 1)) aNil)) sNext)
    (sRet (mCall (fun ds st => if ds.length = 2 then g_fr ds st else .no) (aCons (mVar 0) (aCons (mVar 1) aNil))))))
theorem ok_frac {g_is_integer : List D → Store → Res D} {g_fr : List D → Store → Res D} (Y : Kn P w K mg A) (G_is_integer : FnOk P w K mg base (L2.CX P w) 1 A.a_is_integer A.d_is_integer ["value"] (spB ⟨K, mg⟩ T 1 g_is_integer)) (G_fr : FnOk P w K mg base (L2.CX P w) 1 A.a_fr A.d_fr ["upper", "lower"] (spB ⟨K, mg⟩ T 2 g_fr)) : FnOk P w K mg base (L2.CX P w) (1 + 1) A.a_frac A.d_frac ["upper", "lower"] (spB ⟨K, mg⟩ T 2 fun ds st => bodyR ((m_frac g_is_integer g_fr) (envE 2 (ds.map some)) st)) :=
  bwB Y.f_frac.fn sc_frac (m_frac g_is_integer g_fr) fun cdv AA S1 s H E z hr => by
    have tk := takes_of (X := cxOf (L2.CX P w) P w K mg base ["upper", "lower"] "frac" (defScope s_frac) A.a_frac cdv AA S1 s H E) rfl rfl rfl rfl
    have hp := passes_of (X := cxOf (L2.CX P w) P w K mg base ["upper", "lower"] "frac" (defScope s_frac) A.a_frac cdv AA S1 s H E) rfl
    unfold m_frac
    exact (by refine ss_cons (s_if (PW.pt (t_or (t_not (t_val rfl (e_callM G_is_integer (hr.mono (by omega)) Y.f_is_integer.mg Y.f_is_integer.kp Y.f_is_integer.bd tk (a_cons (e_var 0) a_nil)))) (t_or1 (t_cmp o_ge (e_blt (c_abs) Y.b_abs (by rfl) (a_cons (e_var 0) a_nil)) (e_gintx k_BEYOND Y.c_BEYOND))))) (ss_one (s_raise "InvalidFraction" (as := ["at"]) rfl tk rfl Y.x_InvalidFraction.mkx Y.x_InvalidFraction.kp Y.x_InvalidFraction.bs Y.x_InvalidFraction.ty hr Y.x_InvalidFraction.mg (a_cons e_int a_nil))) ss_nil) ?_; refine ss_cons (s_if (PW.pt (t_or (t_not (t_val rfl (e_callM G_is_integer (hr.mono (by omega)) Y.f_is_integer.mg Y.f_is_integer.kp Y.f_is_integer.bd tk (a_cons (e_var 1) a_nil)))) (t_or (t_cmp o_ge (e_blt (c_abs) Y.b_abs (by rfl) (a_cons (e_var 1) a_nil)) (e_gintx k_BEYOND Y.c_BEYOND)) (t_or1 (t_cmp (o_eq rfl (u64 hr)) (e_var 1) e_int))))) (ss_one (s_raise "InvalidFraction" (as := ["at"]) rfl tk rfl Y.x_InvalidFraction.mkx Y.x_InvalidFraction.kp Y.x_InvalidFraction.bs Y.x_InvalidFraction.ty hr Y.x_InvalidFraction.mg (a_cons e_int a_nil))) ss_nil) ?_; exact (ss_one (s_ret (e_callM G_fr (hr.mono (by omega)) Y.f_fr.mg Y.f_fr.kp Y.f_fr.bd tk (a_cons (e_var 0) (a_cons (e_var 1) a_nil))))))
theorem sc_plus : FnScope ["one", "other"] ["one", "other"] (defScope s_plus) := ⟨rfl, rfl, rfl, by decide +kernel, rfl, by decide +kernel, by decide +kernel⟩
noncomputable def m_plus (g_added : List D → Store → Res D) (g_need_frac : List D → Store → Res D) : MS :=
    (sRet (mCall (fun ds st => if ds.length = 2 then g_added ds st else .no) (aCons (mCall (fun ds st => if ds.length = 2 then g_need_frac ds st else .no) (aCons (mVar 0) (aCons (mLit (.int 0)) aNil))) (aCons (mCall (fun ds st => if ds.length = 2 then g_need_frac ds st else .no) (aCons (mVar 1) (aCons (mLit (.int 1)) aNil))) aNil))))
theorem ok_plus {g_added : List D → Store → Res D} {g_need_frac : List D → Store → Res D} (Y : Kn P w K mg A) (G_added : FnOk P w K mg base (L2.CX P w) 2 A.a_added A.d_added ["one", "other"] (spB ⟨K, mg⟩ T 2 g_added)) (G_need_frac : FnOk P w K mg base (L2.CX P w) 3 A.a_need_frac A.d_need_frac ["value", "at"] (spB ⟨K, mg⟩ T 2 g_need_frac)) : FnOk P w K mg base (L2.CX P w) (3 + 1) A.a_plus A.d_plus ["one", "other"] (spB ⟨K, mg⟩ T 2 fun ds st => bodyR ((m_plus g_added g_need_frac) (envE 2 (ds.map some)) st)) :=
  bwB Y.f_plus.fn sc_plus (m_plus g_added g_need_frac) fun cdv AA S1 s H E z hr => by
    have tk := takes_of (X := cxOf (L2.CX P w) P w K mg base ["one", "other"] "plus" (defScope s_plus) A.a_plus cdv AA S1 s H E) rfl rfl rfl rfl
    have hp := passes_of (X := cxOf (L2.CX P w) P w K mg base ["one", "other"] "plus" (defScope s_plus) A.a_plus cdv AA S1 s H E) rfl
    unfold m_plus
    exact (ss_one (s_ret (e_callM G_added (hr.mono (by omega)) Y.f_added.mg Y.f_added.kp Y.f_added.bd tk (a_cons (e_callM G_need_frac (hr.mono (by omega)) Y.f_need_frac.mg Y.f_need_frac.kp Y.f_need_frac.bd tk (a_cons (e_var 0) (a_cons e_int a_nil))) (a_cons (e_callM G_need_frac (hr.mono (by omega)) Y.f_need_frac.mg Y.f_need_frac.kp Y.f_need_frac.bd tk (a_cons (e_var 1) (a_cons e_int a_nil))) a_nil)))))
theorem sc_less : FnScope ["one", "other"] ["one", "other"] (defScope s_less) := ⟨rfl, rfl, rfl, by decide +kernel, rfl, by decide +kernel, by decide +kernel⟩
noncomputable def m_less (g_lessened : List D → Store → Res D) (g_need_frac : List D → Store → Res D) : MS :=
    (sRet (mCall (fun ds st => if ds.length = 2 then g_lessened ds st else .no) (aCons (mCall (fun ds st => if ds.length = 2 then g_need_frac ds st else .no) (aCons (mVar 0) (aCons (mLit (.int 0)) aNil))) (aCons (mCall (fun ds st => if ds.length = 2 then g_need_frac ds st else .no) (aCons (mVar 1) (aCons (mLit (.int 1)) aNil))) aNil))))
theorem ok_less {g_lessened : List D → Store → Res D} {g_need_frac : List D → Store → Res D} (Y : Kn P w K mg A) (G_lessened : FnOk P w K mg base (L2.CX P w) 2 A.a_lessened A.d_lessened ["one", "other"] (spB ⟨K, mg⟩ T 2 g_lessened)) (G_need_frac : FnOk P w K mg base (L2.CX P w) 3 A.a_need_frac A.d_need_frac ["value", "at"] (spB ⟨K, mg⟩ T 2 g_need_frac)) : FnOk P w K mg base (L2.CX P w) (3 + 1) A.a_less A.d_less ["one", "other"] (spB ⟨K, mg⟩ T 2 fun ds st => bodyR ((m_less g_lessened g_need_frac) (envE 2 (ds.map some)) st)) :=
  bwB Y.f_less.fn sc_less (m_less g_lessened g_need_frac) fun cdv AA S1 s H E z hr => by
    have tk := takes_of (X := cxOf (L2.CX P w) P w K mg base ["one", "other"] "less" (defScope s_less) A.a_less cdv AA S1 s H E) rfl rfl rfl rfl
    have hp := passes_of (X := cxOf (L2.CX P w) P w K mg base ["one", "other"] "less" (defScope s_less) A.a_less cdv AA S1 s H E) rfl
    unfold m_less
    exact (ss_one (s_ret (e_callM G_lessened (hr.mono (by omega)) Y.f_lessened.mg Y.f_lessened.kp Y.f_lessened.bd tk (a_cons (e_callM G_need_frac (hr.mono (by omega)) Y.f_need_frac.mg Y.f_need_frac.kp Y.f_need_frac.bd tk (a_cons (e_var 0) (a_cons e_int a_nil))) (a_cons (e_callM G_need_frac (hr.mono (by omega)) Y.f_need_frac.mg Y.f_need_frac.kp Y.f_need_frac.bd tk (a_cons (e_var 1) (a_cons e_int a_nil))) a_nil)))))
theorem sc_times : FnScope ["one", "other"] ["one", "other"] (defScope s_times) := ⟨rfl, rfl, rfl, by decide +kernel, rfl, by decide +kernel, by decide +kernel⟩
noncomputable def m_times (g_multiplied : List D → Store → Res D) (g_need_frac : List D → Store → Res D) : MS :=
    (sRet (mCall (fun ds st => if ds.length = 2 then g_multiplied ds st else .no) (aCons (mCall (fun ds st => if ds.length = 2 then g_need_frac ds st else .no) (aCons (mVar 0) (aCons (mLit (.int 0)) aNil))) (aCons (mCall (fun ds st => if ds.length = 2 then g_need_frac ds st else .no) (aCons (mVar 1) (aCons (mLit (.int 1)) aNil))) aNil))))
theorem ok_times {g_multiplied : List D → Store → Res D} {g_need_frac : List D → Store → Res D} (Y : Kn P w K mg A) (G_multiplied : FnOk P w K mg base (L2.CX P w) 2 A.a_multiplied A.d_multiplied ["one", "other"] (spB ⟨K, mg⟩ T 2 g_multiplied)) (G_need_frac : FnOk P w K mg base (L2.CX P w) 3 A.a_need_frac A.d_need_frac ["value", "at"] (spB ⟨K, mg⟩ T 2 g_need_frac)) : FnOk P w K mg base (L2.CX P w) (3 + 1) A.a_times A.d_times ["one", "other"] (spB ⟨K, mg⟩ T 2 fun ds st => bodyR ((m_times g_multiplied g_need_frac) (envE 2 (ds.map some)) st)) :=
  bwB Y.f_times.fn sc_times (m_times g_multiplied g_need_frac) fun cdv AA S1 s H E z hr => by
    have tk := takes_of (X := cxOf (L2.CX P w) P w K mg base ["one", "other"] "times" (defScope s_times) A.a_times cdv AA S1 s H E) rfl rfl rfl rfl
    have hp := passes_of (X := cxOf (L2.CX P w) P w K mg base ["one", "other"] "times" (defScope s_times) A.a_times cdv AA S1 s H E) rfl
    unfold m_times
    exact (ss_one (s_ret (e_callM G_multiplied (hr.mono (by omega)) Y.f_multiplied.mg Y.f_multiplied.kp Y.f_multiplied.bd tk (a_cons (e_callM G_need_frac (hr.mono (by omega)) Y.f_need_frac.mg Y.f_need_frac.kp Y.f_need_frac.bd tk (a_cons (e_var 0) (a_cons e_int a_nil))) (a_cons (e_callM G_need_frac (hr.mono (by omega)) Y.f_need_frac.mg Y.f_need_frac.kp Y.f_need_frac.bd tk (a_cons (e_var 1) (a_cons e_int a_nil))) a_nil)))))
theorem sc_over : FnScope ["one", "other"] ["one", "other"] (defScope s_over) := ⟨rfl, rfl, rfl, by decide +kernel, rfl, by decide +kernel, by decide +kernel⟩
noncomputable def m_over (g_need_frac : List D → Store → Res D) (g_divided : List D → Store → Res D) : MS :=
    (sSeq (sDrop (mCall (fun ds st => if ds.length = 2 then g_need_frac ds st else .no) (aCons (mVar 0) (aCons (mLit (.int 0)) aNil))))
    (sSeq (sIf (tCmp (mOp fEq (mOp idxD (mCall (fun ds st => if ds.length = 2 then g_need_frac ds st else .no) (aCons (mVar 1) (aCons (mLit (.int 1)) aNil))) (mLit (.int 0))) (mLit (.int 0)))) (sRaise "Refused" ["at"] (aCons (mUn (fun x _ => negD x) (mLit (.int 1))) aNil)) sNext)
    (sRet (mCall (fun ds st => if ds.length = 2 then g_divided ds st else .no) (aCons (mVar 0) (aCons (mVar 1) aNil))))))
theorem ok_over {g_need_frac : List D → Store → Res D} {g_divided : List D → Store → Res D} (Y : Kn P w K mg A) (G_need_frac : FnOk P w K mg base (L2.CX P w) 3 A.a_need_frac A.d_need_frac ["value", "at"] (spB ⟨K, mg⟩ T 2 g_need_frac)) (G_divided : FnOk P w K mg base (L2.CX P w) 2 A.a_divided A.d_divided ["one", "other"] (spB ⟨K, mg⟩ T 2 g_divided)) : FnOk P w K mg base (L2.CX P w) (3 + 1) A.a_over A.d_over ["one", "other"] (spB ⟨K, mg⟩ T 2 fun ds st => bodyR ((m_over g_need_frac g_divided) (envE 2 (ds.map some)) st)) :=
  bwB Y.f_over.fn sc_over (m_over g_need_frac g_divided) fun cdv AA S1 s H E z hr => by
    have tk := takes_of (X := cxOf (L2.CX P w) P w K mg base ["one", "other"] "over" (defScope s_over) A.a_over cdv AA S1 s H E) rfl rfl rfl rfl
    have hp := passes_of (X := cxOf (L2.CX P w) P w K mg base ["one", "other"] "over" (defScope s_over) A.a_over cdv AA S1 s H E) rfl
    unfold m_over
    exact (by refine ss_cons (s_drop (e_callM G_need_frac (hr.mono (by omega)) Y.f_need_frac.mg Y.f_need_frac.kp Y.f_need_frac.bd tk (a_cons (e_var 0) (a_cons e_int a_nil)))) ?_; refine ss_cons (s_if (t_cmp (o_eq rfl (u64 hr)) (e_idx rfl (e_callM G_need_frac (hr.mono (by omega)) Y.f_need_frac.mg Y.f_need_frac.kp Y.f_need_frac.bd tk (a_cons (e_var 1) (a_cons e_int a_nil))) e_int) e_int) (ss_one (s_raise "Refused" (as := ["at"]) rfl tk rfl Y.x_Refused.mkx Y.x_Refused.kp Y.x_Refused.bs Y.x_Refused.ty hr Y.x_Refused.mg (a_cons (e_neg e_int) a_nil))) ss_nil) ?_; exact (ss_one (s_ret (e_callM G_divided (hr.mono (by omega)) Y.f_divided.mg Y.f_divided.kp Y.f_divided.bd tk (a_cons (e_var 0) (a_cons (e_var 1) a_nil))))))
theorem sc_is_less : FnScope ["one", "other"] ["one", "other"] (defScope s_is_less) := ⟨rfl, rfl, rfl, by decide +kernel, rfl, by decide +kernel, by decide +kernel⟩
noncomputable def m_is_less (g_lesser : List D → Store → Res D) (g_need_frac : List D → Store → Res D) : MS :=
    (sRet (mCall (fun ds st => if ds.length = 2 then g_lesser ds st else .no) (aCons (mCall (fun ds st => if ds.length = 2 then g_need_frac ds st else .no) (aCons (mVar 0) (aCons (mLit (.int 0)) aNil))) (aCons (mCall (fun ds st => if ds.length = 2 then g_need_frac ds st else .no) (aCons (mVar 1) (aCons (mLit (.int 1)) aNil))) aNil))))
theorem ok_is_less {g_lesser : List D → Store → Res D} {g_need_frac : List D → Store → Res D} (Y : Kn P w K mg A) (G_lesser : FnOk P w K mg base (L2.CX P w) 1 A.a_lesser A.d_lesser ["one", "other"] (spB ⟨K, mg⟩ T 2 g_lesser)) (G_need_frac : FnOk P w K mg base (L2.CX P w) 3 A.a_need_frac A.d_need_frac ["value", "at"] (spB ⟨K, mg⟩ T 2 g_need_frac)) : FnOk P w K mg base (L2.CX P w) (3 + 1) A.a_is_less A.d_is_less ["one", "other"] (spB ⟨K, mg⟩ T 2 fun ds st => bodyR ((m_is_less g_lesser g_need_frac) (envE 2 (ds.map some)) st)) :=
  bwB Y.f_is_less.fn sc_is_less (m_is_less g_lesser g_need_frac) fun cdv AA S1 s H E z hr => by
    have tk := takes_of (X := cxOf (L2.CX P w) P w K mg base ["one", "other"] "is_less" (defScope s_is_less) A.a_is_less cdv AA S1 s H E) rfl rfl rfl rfl
    have hp := passes_of (X := cxOf (L2.CX P w) P w K mg base ["one", "other"] "is_less" (defScope s_is_less) A.a_is_less cdv AA S1 s H E) rfl
    unfold m_is_less
    exact (ss_one (s_ret (e_callM G_lesser (hr.mono (by omega)) Y.f_lesser.mg Y.f_lesser.kp Y.f_lesser.bd tk (a_cons (e_callM G_need_frac (hr.mono (by omega)) Y.f_need_frac.mg Y.f_need_frac.kp Y.f_need_frac.bd tk (a_cons (e_var 0) (a_cons e_int a_nil))) (a_cons (e_callM G_need_frac (hr.mono (by omega)) Y.f_need_frac.mg Y.f_need_frac.kp Y.f_need_frac.bd tk (a_cons (e_var 1) (a_cons e_int a_nil))) a_nil)))))
theorem sc_text_of_frac : FnScope ["one"] ["one"] (defScope s_text_of_frac) := ⟨rfl, rfl, rfl, by decide +kernel, rfl, by decide +kernel, by decide +kernel⟩
noncomputable def m_text_of_frac : MS :=
    (sRet (mOp fAdd (mBlt fStrB (aCons (mOp idxD (mVar 0) (mLit (.int 0))) aNil)) (mIf (tCmp (mOp fEq (mOp idxD (mVar 0) (mLit (.int 1))) (mLit (.int 1)))) (mLit (.str [])) (mOp fAdd (mLit (.str [47])) (mBlt fStrB (aCons (mOp idxD (mVar 0) (mLit (.int 1))) aNil))))))
theorem ok_text_of_frac (Y : Kn P w K mg A) : FnOk P w K mg base (L2.CX P w) (0 + 1) A.a_text_of_frac A.d_text_of_frac ["one"] (spB ⟨K, mg⟩ T 1 fun ds st => bodyR ((m_text_of_frac) (envE 1 (ds.map some)) st)) :=
  bwB Y.f_text_of_frac.fn sc_text_of_frac (m_text_of_frac) fun cdv AA S1 s H E z hr => by
    have tk := takes_of (X := cxOf (L2.CX P w) P w K mg base ["one"] "text_of_frac" (defScope s_text_of_frac) A.a_text_of_frac cdv AA S1 s H E) rfl rfl rfl rfl
    have hp := passes_of (X := cxOf (L2.CX P w) P w K mg base ["one"] "text_of_frac" (defScope s_text_of_frac) A.a_text_of_frac cdv AA S1 s H E) rfl
    unfold m_text_of_frac
    exact (ss_one (s_ret (e_op (o_add rfl) (e_bty (c_strB Y.dig rfl) Y.b_str (by rfl) (a_cons (e_idx rfl (e_var 0) e_int) a_nil)) (e_if (t_cmp (o_eq rfl (u64 hr)) (e_idx rfl (e_var 0) e_int) e_int) (e_str []) (e_op (o_add rfl) (e_str [47]) (e_bty (c_strB Y.dig rfl) Y.b_str (by rfl) (a_cons (e_idx rfl (e_var 0) e_int) a_nil)))))))
theorem sc_frac_text : FnScope ["one"] ["one"] (defScope s_frac_text) := ⟨rfl, rfl, rfl, by decide +kernel, rfl, by decide +kernel, by decide +kernel⟩
noncomputable def m_frac_text (g_text_of_frac : List D → Store → Res D) (g_need_frac : List D → Store → Res D) : MS :=
    (sRet (mCall (fun ds st => if ds.length = 1 then g_text_of_frac ds st else .no) (aCons (mCall (fun ds st => if ds.length = 1 then g_need_frac (ds ++ [.int (-1)]) st else .no) (aCons (mVar 0) aNil)) aNil)))
theorem ok_frac_text {g_text_of_frac : List D → Store → Res D} {g_need_frac : List D → Store → Res D} (Y : Kn P w K mg A) (G_text_of_frac : FnOk P w K mg base (L2.CX P w) 1 A.a_text_of_frac A.d_text_of_frac ["one"] (spB ⟨K, mg⟩ T 1 g_text_of_frac)) (G_need_frac : FnOk P w K mg base (L2.CX P w) 3 A.a_need_frac A.d_need_frac ["value", "at"] (spB ⟨K, mg⟩ T 2 g_need_frac)) : FnOk P w K mg base (L2.CX P w) (3 + 1) A.a_frac_text A.d_frac_text ["one"] (spB ⟨K, mg⟩ T 1 fun ds st => bodyR ((m_frac_text g_text_of_frac g_need_frac) (envE 1 (ds.map some)) st)) :=
  bwB Y.f_frac_text.fn sc_frac_text (m_frac_text g_text_of_frac g_need_frac) fun cdv AA S1 s H E z hr => by
    have tk := takes_of (X := cxOf (L2.CX P w) P w K mg base ["one"] "frac_text" (defScope s_frac_text) A.a_frac_text cdv AA S1 s H E) rfl rfl rfl rfl
    have hp := passes_of (X := cxOf (L2.CX P w) P w K mg base ["one"] "frac_text" (defScope s_frac_text) A.a_frac_text cdv AA S1 s H E) rfl
    unfold m_frac_text
    exact (ss_one (s_ret (e_callM G_text_of_frac (hr.mono (by omega)) Y.f_text_of_frac.mg Y.f_text_of_frac.kp Y.f_text_of_frac.bd tk (a_cons (e_callD G_need_frac (hr.mono (by omega)) Y.f_need_frac.mg Y.f_need_frac.kp Y.f_need_frac.bd1 tk (a_cons (e_var 0) a_nil)) a_nil))))
theorem sc_is_tens : FnScope ["text", "sign"] ["text"] (defScope s_is_tens) := ⟨rfl, rfl, rfl, by decide +kernel, rfl, by decide +kernel, by decide +kernel⟩
noncomputable def m_is_tens : MS :=
    (sSeq (sIf (tOr (tNot (tCmp (mChain fLe fLe (mLit (.int 1)) (mBlt fLen (aCons (mVar 0) aNil)) (mLit (.int 3000))))) (tNot (tVal (mBlt fAll (aCons (mLc [1] (iVal (mVar 0)) (gN 1) tYesM (mOp fIn (mVar 1) (mLit (.str [48, 49, 50, 51, 52, 53, 54, 55, 56, 57])))) aNil))))) (sRet (mLit (.bl false))) sNext)
    (sRet (mOr (mOp fEq (mVar 0) (mLit (.str [48]))) (mOp fNe (mOp idxD (mVar 0) (mLit (.int 0))) (mLit (.str [48]))))))
theorem ok_is_tens (Y : Kn P w K mg A) : FnOk P w K mg base (L2.CX P w) (0 + 1) A.a_is_tens A.d_is_tens ["text"] (spB ⟨K, mg⟩ T 1 fun ds st => bodyR ((m_is_tens) (envE 2 (ds.map some)) st)) :=
  bwB Y.f_is_tens.fn sc_is_tens (m_is_tens) fun cdv AA S1 s H E z hr => by
    have tk := takes_of (X := cxOf (L2.CX P w) P w K mg base ["text", "sign"] "is_tens" (defScope s_is_tens) A.a_is_tens cdv AA S1 s H E) rfl rfl rfl rfl
    have hp := passes_of (X := cxOf (L2.CX P w) P w K mg base ["text", "sign"] "is_tens" (defScope s_is_tens) A.a_is_tens cdv AA S1 s H E) rfl
    unfold m_is_tens
    exact (by refine ss_cons (s_if (PW.pt (t_or (t_not (t_chain o_le o_le e_int (e_blt (c_len rfl) Y.b_len (by rfl) (a_cons (e_var 0) a_nil)) (e_gintx 3000 Y.c_MOST_FIGURES))) (t_or1 (t_not (t_val rfl (e_blt (c_all rfl rfl) Y.b_all (by rfl) (a_cons (e_lc (own := [("sign", 1)]) rfl sc_is_tens.nd (i_val rfl (e_var 0)) (blkOk_by (N := ["text", "sign"]) (sc := defScope s_is_tens) (by decide +kernel)) (fun _ _ _ _ _ => (g_name 1 sc_is_tens.nd)) (fun _ _ _ _ _ => p_yes) (fun _ _ _ _ _ => (e_cmp (o_in rfl (u65 hr)) (e_var 1) (e_gstrx [48, 49, 50, 51, 52, 53, 54, 55, 56, 57] Y.c_TENS)))) a_nil))))))) (ss_one (s_ret e_bl)) ss_nil) ?_; exact (ss_one (s_ret (e_or rfl (e_cmp (o_eq rfl (u64 hr)) (e_var 0) (e_str [48])) (e_one (e_cmp (o_ne rfl (u64 hr)) (e_idx rfl (e_var 0) e_int) (e_str [48])))))))
theorem sc_read_frac : FnScope ["text", "upper", "slash", "lower", "bare", "told"] ["text"] (defScope s_read_frac) := ⟨rfl, rfl, rfl, by decide +kernel, rfl, by decide +kernel, by decide +kernel⟩
noncomputable def m_read_frac (g_is_tens : List D → Store → Res D) (g_is_frac : List D → Store → Res D) (g_text_of_frac : List D → Store → Res D) : MS :=
    (sSeq (sIf (tNot (tVal (mBlt fIsi (aCons (mVar 0) (aCons (mLit (.ty "str")) aNil))))) (sRaise "InvalidWords" ["at"] (aCons (mUn (fun x _ => negD x) (mLit (.int 1))) aNil)) sNext)
    (sSeq (sAsg (mStr1 fPart (mVar 0) (aCons (mLit (.str [47])) aNil)) (gT [(gN 1), (gN 2), (gN 3)]))
    (sSeq (sAsg (mIf (tCmp (mOp fEq (mSli (mVar 1) oNone (oSome (mLit (.int 1)))) (mLit (.str [45])))) (mSli (mVar 1) (oSome (mLit (.int 1))) oNone) (mVar 1)) (gN 4))
    (sSeq (sIf (tOr (tNot (tVal (mCall (fun ds st => if ds.length = 1 then g_is_tens ds st else .no) (aCons (mVar 4) aNil)))) (tAnd (tCmp (mOp fEq (mVar 2) (mLit (.str [47])))) (tNot (tVal (mCall (fun ds st => if ds.length = 1 then g_is_tens ds st else .no) (aCons (mVar 3) aNil)))))) (sRaise "InvalidWords" ["at"] (aCons (mUn (fun x _ => negD x) (mLit (.int 1))) aNil)) sNext)
    (sSeq (sAsg (mTup (aCons (mBlt fIntB (aCons (mVar 1) aNil)) (aCons (mIf (tCmp (mOp fEq (mVar 2) (mLit (.str [47])))) (mBlt fIntB (aCons (mVar 3) aNil)) (mLit (.int 1))) aNil))) (gN 5))
    (sSeq (sIf (tOr (tNot (tVal (mCall (fun ds st => if ds.length = 1 then g_is_frac ds st else .no) (aCons (mVar 5) aNil)))) (tCmp (mOp fNe (mCall (fun ds st => if ds.length = 1 then g_text_of_frac ds st else .no) (aCons (mVar 5) aNil)) (mVar 0)))) (sRaise "InvalidWords" ["at"] (aCons (mUn (fun x _ => negD x) (mLit (.int 1))) aNil)) sNext)
    (sRet (mVar 5))))))))
theorem ok_read_frac {g_is_tens : List D → Store → Res D} {g_is_frac : List D → Store → Res D} {g_text_of_frac : List D → Store → Res D} (Y : Kn P w K mg A) (G_is_tens : FnOk P w K mg base (L2.CX P w) 1 A.a_is_tens A.d_is_tens ["text"] (spB ⟨K, mg⟩ T 1 g_is_tens)) (G_is_frac : FnOk P w K mg base (L2.CX P w) 2 A.a_is_frac A.d_is_frac ["value"] (spB ⟨K, mg⟩ T 1 g_is_frac)) (G_text_of_frac : FnOk P w K mg base (L2.CX P w) 1 A.a_text_of_frac A.d_text_of_frac ["one"] (spB ⟨K, mg⟩ T 1 g_text_of_frac)) : FnOk P w K mg base (L2.CX P w) (2 + 1) A.a_read_frac A.d_read_frac ["text"] (spB ⟨K, mg⟩ T 1 fun ds st => bodyR ((m_read_frac g_is_tens g_is_frac g_text_of_frac) (envE 6 (ds.map some)) st)) :=
  bwB Y.f_read_frac.fn sc_read_frac (m_read_frac g_is_tens g_is_frac g_text_of_frac) fun cdv AA S1 s H E z hr => by
    have tk := takes_of (X := cxOf (L2.CX P w) P w K mg base ["text", "upper", "slash", "lower", "bare", "told"] "read_frac" (defScope s_read_frac) A.a_read_frac cdv AA S1 s H E) rfl rfl rfl rfl
    have hp := passes_of (X := cxOf (L2.CX P w) P w K mg base ["text", "upper", "slash", "lower", "bare", "told"] "read_frac" (defScope s_read_frac) A.a_read_frac cdv AA S1 s H E) rfl
    unfold m_read_frac
    exact (by refine ss_cons (s_if (t_not (t_val rfl (e_blt (c_isi rfl) Y.b_isinstance (by rfl) (a_cons (e_var 0) (a_cons (e_ty "str" Y.b_str rfl) a_nil))))) (ss_one (s_raise "InvalidWords" (as := ["at"]) rfl tk rfl Y.x_InvalidWords.mkx Y.x_InvalidWords.kp Y.x_InvalidWords.bs Y.x_InvalidWords.ty hr Y.x_InvalidWords.mg (a_cons (e_neg e_int) a_nil))) ss_nil) ?_; refine ss_cons (s_asg (e_part (e_var 0) (a_cons (e_str [47]) a_nil)) (g_tup rfl rfl (gs_cons (g_name 1 sc_read_frac.nd) (gs_cons (g_name 2 sc_read_frac.nd) (gs_cons (g_name 3 sc_read_frac.nd) gs_nil))))) ?_; refine ss_cons (s_set 4 (e_if (t_cmp (o_eq rfl (u64 hr)) (e_sli rfl (e_var 1) p_none (p_some e_int)) (e_str [45])) (e_sli rfl (e_var 1) (p_some e_int) p_none) (e_var 1)) sc_read_frac.nd) ?_; refine ss_cons (s_if (PW.pt (t_or (t_not (t_val rfl (e_callM G_is_tens (hr.mono (by omega)) Y.f_is_tens.mg Y.f_is_tens.kp Y.f_is_tens.bd tk (a_cons (e_var 4) a_nil)))) (t_or1 (PW.pt (t_and (t_cmp (o_eq rfl (u64 hr)) (e_var 2) (e_str [47])) (t_and1 (t_not (t_val rfl (e_callM G_is_tens (hr.mono (by omega)) Y.f_is_tens.mg Y.f_is_tens.kp Y.f_is_tens.bd tk (a_cons (e_var 3) a_nil)))))))))) (ss_one (s_raise "InvalidWords" (as := ["at"]) rfl tk rfl Y.x_InvalidWords.mkx Y.x_InvalidWords.kp Y.x_InvalidWords.bs Y.x_InvalidWords.ty hr Y.x_InvalidWords.mg (a_cons (e_neg e_int) a_nil))) ss_nil) ?_; refine ss_cons (s_set 5 (e_tup (a_cons (e_bty (c_intB Y.dig) Y.b_int (by rfl) (a_cons (e_var 1) a_nil)) (a_cons (e_if (t_cmp (o_eq rfl (u64 hr)) (e_var 2) (e_str [47])) (e_bty (c_intB Y.dig) Y.b_int (by rfl) (a_cons (e_var 3) a_nil)) e_int) a_nil))) sc_read_frac.nd) ?_; refine ss_cons (s_if (PW.pt (t_or (t_not (t_val rfl (e_callM G_is_frac (hr.mono (by omega)) Y.f_is_frac.mg Y.f_is_frac.kp Y.f_is_frac.bd tk (a_cons (e_var 5) a_nil)))) (t_or1 (t_cmp (o_ne rfl (u64 hr)) (e_callM G_text_of_frac (hr.mono (by omega)) Y.f_text_of_frac.mg Y.f_text_of_frac.kp Y.f_text_of_frac.bd tk (a_cons (e_var 5) a_nil)) (e_var 0))))) (ss_one (s_raise "InvalidWords" (as := ["at"]) rfl tk rfl Y.x_InvalidWords.mkx Y.x_InvalidWords.kp Y.x_InvalidWords.bs Y.x_InvalidWords.ty hr Y.x_InvalidWords.mg (a_cons (e_neg e_int) a_nil))) ss_nil) ?_; exact (ss_one (s_ret (e_var 5))))
theorem sc__law_box : FnScope ["script", "rest", "state", "k", "cell", "size"] ["script"] (defScope s__law_box) := ⟨rfl, rfl, rfl, by decide +kernel, rfl, by decide +kernel, by decide +kernel⟩
noncomputable def m__law_box : MS :=
    (sSeq (sPar 1 2 (aCons (mNew aNil) (aCons (mLit (.int 53881)) aNil)))
    (sSeq (sFor (iEnum (aCons (mSli (mVar 0) oNone (oSome (mLit (.int 63)))) aNil)) (gT [(gN 3), (gN 4)]) (sSeq (sAsg (mOp fAdd (mOp fMul (mBlt fAbs (aCons (mVar 4) aNil)) (mLit (.int 2))) (mBlt fInt (aCons (mOp fLt (mVar 4) (mLit (.int 0))) aNil))) (gN 5))
    (sSeq (sIf (tCmp (mOp fGe (mBlt fAbs (aCons (mVar 4) aNil)) (mOp fPow (mLit (.int 10)) (mLit (.int 18))))) (sDrop (mApp (mVar 1) (mBlt fAbs (aCons (mVar 4) aNil)))) sNext)
    (sAsg (mOp fAdd (mOp fMod (mBlt fInt (aCons (mOp fAdd (mOp fAdd (mOp fMul (mVar 2) (mLit (.int 48271))) (mOp fMul (mOp fMod (mBlt fInt (aCons (mVar 5) aNil)) (mLit (.int 2147483629))) (mOp fAdd (mOp fMul (mLit (.int 2)) (mVar 3)) (mLit (.int 50021))))) (mLit (.int 17))) aNil)) (mLit (.int 2147483629))) (mLit (.int 1))) (gN 2)))))
    (sRet (mNew (aCons (mVar 1) (aCons (mVar 2) aNil))))))
theorem ok__law_box (Y : Kn P w K mg A) : FnOk P w K mg base (L2.CX P w) (0 + 1) A.a__law_box A.d__law_box ["script"] (spB ⟨K, mg⟩ T 1 fun ds st => bodyR ((m__law_box) (envE 6 (ds.map some)) st)) :=
  bwB Y.f__law_box.fn sc__law_box (m__law_box) fun cdv AA S1 s H E z hr => by
    have tk := takes_of (X := cxOf (L2.CX P w) P w K mg base ["script", "rest", "state", "k", "cell", "size"] "_law_box" (defScope s__law_box) A.a__law_box cdv AA S1 s H E) rfl rfl rfl rfl
    have hp := passes_of (X := cxOf (L2.CX P w) P w K mg base ["script", "rest", "state", "k", "cell", "size"] "_law_box" (defScope s__law_box) A.a__law_box cdv AA S1 s H E) rfl
    unfold m__law_box
    exact (by refine ss_cons (s_par 1 2 rfl (a_cons (e_new a_nil) (a_cons e_int a_nil)) sc__law_box.nd) ?_; refine ss_cons (s_for hp rfl (i_enum rfl Y.b_enumerate (a_cons (e_sli rfl (e_var 0) p_none (p_some e_int)) a_nil)) (g_tup rfl rfl (gs_cons (g_name 3 sc__law_box.nd) (gs_cons (g_name 4 sc__law_box.nd) gs_nil))) (by refine ss_cons (s_set 5 (e_op (o_add rfl) (e_op (o_mul rfl) (e_blt (c_abs) Y.b_abs (by rfl) (a_cons (e_var 4) a_nil)) e_int) (e_bty (c_int) Y.b_int (by rfl) (a_cons (e_cmp o_lt (e_var 4) e_int) a_nil))) sc__law_box.nd) ?_; refine ss_cons (s_if (t_cmp o_ge (e_blt (c_abs) Y.b_abs (by rfl) (a_cons (e_var 4) a_nil)) (e_op o_pow e_int e_int)) (ss_one (s_drop (e_app rfl (e_var 1) (e_blt (c_abs) Y.b_abs (by rfl) (a_cons (e_var 4) a_nil))))) ss_nil) ?_; exact (ss_one (s_set 2 (e_op (o_add rfl) (e_op o_mod (e_bty (c_int) Y.b_int (by rfl) (a_cons (e_op (o_add rfl) (e_op (o_add rfl) (e_op (o_mul rfl) (e_var 2) e_int) (e_op (o_mul rfl) (e_op o_mod (e_bty (c_int) Y.b_int (by rfl) (a_cons (e_var 5) a_nil)) e_int) (e_op (o_add rfl) (e_op (o_mul rfl) e_int (e_var 3)) e_int))) e_int) a_nil)) e_int) e_int) sc__law_box.nd)))) ?_; exact (ss_one (s_ret (e_new (a_cons (e_var 1) (a_cons (e_var 2) a_nil))))))
theorem sc__law_take : FnScope ["box", "many", "cell"] ["box", "many"] (defScope s__law_take) := ⟨rfl, rfl, rfl, by decide +kernel, rfl, by decide +kernel, by decide +kernel⟩
noncomputable def m__law_take : MS :=
    (sSeq (sIf (tCmp (mOp fNe (mOp idxD (mVar 0) (mLit (.int 0))) (mLst aNil))) (sSeq (sAsg (mOp idxD (mOp idxD (mVar 0) (mLit (.int 0))) (mLit (.int 0))) (gN 2))
    (sSeq (sPut (mVar 0) (mLit (.int 0)) (mOp fAdd (mIf (tCmp (mOp fGe (mVar 2) (mVar 1))) (mLst (aCons (mOp fDiv (mVar 2) (mVar 1)) aNil)) (mLst aNil)) (mSli (mOp idxD (mVar 0) (mLit (.int 0))) (oSome (mLit (.int 1))) oNone)))
    (sRet (mOp fMod (mBlt fInt (aCons (mVar 2) aNil)) (mVar 1))))) sNext)
    (sSeq (sPut (mVar 0) (mLit (.int 1)) (mOp fMod (mBlt fInt (aCons (mOp fMul (mOp idxD (mVar 0) (mLit (.int 1))) (mLit (.int 48271))) aNil)) (mLit (.int 2147483647))))
    (sRet (mOp fMod (mBlt fInt (aCons (mOp fDiv (mOp fAdd (mOp fMul (mOp idxD (mVar 0) (mLit (.int 1))) (mLit (.int 69621))) (mLit (.int 7))) (mLit (.int 1013))) aNil)) (mVar 1)))))
theorem ok__law_take (Y : Kn P w K mg A) : FnOk P w K mg base (L2.CX P w) (0 + 1) A.a__law_take A.d__law_take ["box", "many"] (spB ⟨K, mg⟩ T 2 fun ds st => bodyR ((m__law_take) (envE 3 (ds.map some)) st)) :=
  bwB Y.f__law_take.fn sc__law_take (m__law_take) fun cdv AA S1 s H E z hr => by
    have tk := takes_of (X := cxOf (L2.CX P w) P w K mg base ["box", "many", "cell"] "_law_take" (defScope s__law_take) A.a__law_take cdv AA S1 s H E) rfl rfl rfl rfl
    have hp := passes_of (X := cxOf (L2.CX P w) P w K mg base ["box", "many", "cell"] "_law_take" (defScope s__law_take) A.a__law_take cdv AA S1 s H E) rfl
    unfold m__law_take
    exact (by refine ss_cons (s_if (t_cmp (o_ne rfl (u64 hr)) (e_idx rfl (e_var 0) e_int) (e_lst a_nil)) (by refine ss_cons (s_set 2 (e_idx rfl (e_idx rfl (e_var 0) e_int) e_int) sc__law_take.nd) ?_; refine ss_cons (s_put rfl (e_op (o_add rfl) (e_if (t_cmp o_ge (e_var 2) (e_var 1)) (e_lst (a_cons (e_op o_div (e_var 2) (e_var 1)) a_nil)) (e_lst a_nil)) (e_sli rfl (e_idx rfl (e_var 0) e_int) (p_some e_int) p_none)) (e_var 0) e_int) ?_; exact (ss_one (s_ret (e_op o_mod (e_bty (c_int) Y.b_int (by rfl) (a_cons (e_var 2) a_nil)) (e_var 1))))) ss_nil) ?_; refine ss_cons (s_put rfl (e_op o_mod (e_bty (c_int) Y.b_int (by rfl) (a_cons (e_op (o_mul rfl) (e_idx rfl (e_var 0) e_int) e_int) a_nil)) e_int) (e_var 0) e_int) ?_; exact (ss_one (s_ret (e_op o_mod (e_bty (c_int) Y.b_int (by rfl) (a_cons (e_op o_div (e_op (o_add rfl) (e_op (o_mul rfl) (e_idx rfl (e_var 0) e_int) e_int) e_int) e_int) a_nil)) (e_var 1)))))
theorem sc__law_pick : FnScope ["box", "some"] ["box", "some"] (defScope s__law_pick) := ⟨rfl, rfl, rfl, by decide +kernel, rfl, by decide +kernel, by decide +kernel⟩
noncomputable def m__law_pick (g__law_take : List D → Store → Res D) : MS :=
    (sRet (mOp idxD (mVar 1) (mCall (fun ds st => if ds.length = 2 then g__law_take ds st else .no) (aCons (mVar 0) (aCons (mBlt fLen (aCons (mVar 1) aNil)) aNil)))))
theorem ok__law_pick {g__law_take : List D → Store → Res D} (Y : Kn P w K mg A) (G__law_take : FnOk P w K mg base (L2.CX P w) 1 A.a__law_take A.d__law_take ["box", "many"] (spB ⟨K, mg⟩ T 2 g__law_take)) : FnOk P w K mg base (L2.CX P w) (1 + 1) A.a__law_pick A.d__law_pick ["box", "some"] (spB ⟨K, mg⟩ T 2 fun ds st => bodyR ((m__law_pick g__law_take) (envE 2 (ds.map some)) st)) :=
  bwB Y.f__law_pick.fn sc__law_pick (m__law_pick g__law_take) fun cdv AA S1 s H E z hr => by
    have tk := takes_of (X := cxOf (L2.CX P w) P w K mg base ["box", "some"] "_law_pick" (defScope s__law_pick) A.a__law_pick cdv AA S1 s H E) rfl rfl rfl rfl
    have hp := passes_of (X := cxOf (L2.CX P w) P w K mg base ["box", "some"] "_law_pick" (defScope s__law_pick) A.a__law_pick cdv AA S1 s H E) rfl
    unfold m__law_pick
    exact (ss_one (s_ret (e_idx rfl (e_var 1) (e_callM G__law_take (hr.mono (by omega)) Y.f__law_take.mg Y.f__law_take.kp Y.f__law_take.bd tk (a_cons (e_var 0) (a_cons (e_blt (c_len rfl) Y.b_len (by rfl) (a_cons (e_var 1) a_nil)) a_nil))))))
theorem sc__law_is : FnScope ["told", "due", "one", "other"] ["told", "due"] (defScope s__law_is) := ⟨rfl, rfl, rfl, by decide +kernel, rfl, by decide +kernel, by decide +kernel⟩
noncomputable def m__law_is (g__law_is : List D → Store → Res D) : MS :=
    (sSeq (sIf (tVal (mBlt fIsi (aCons (mVar 1) (aCons (mLit (.ty "tuple")) aNil)))) (sSeq (sIf (tOr (tNot (tVal (mBlt fIsi (aCons (mVar 0) (aCons (mLit (.ty "tuple")) aNil))))) (tCmp (mOp fNe (mBlt fLen (aCons (mVar 0) aNil)) (mBlt fLen (aCons (mVar 1) aNil))))) (sRet (mLit (.bl false))) sNext)
    (sRet (mOp fEq (mLc [2, 3] (iZip (aCons (mVar 0) (aCons (mVar 1) aNil))) (gT [(gN 2), (gN 3)]) (tNot (tVal (mCall (fun ds st => if ds.length = 2 then g__law_is ds st else .no) (aCons (mVar 2) (aCons (mVar 3) aNil))))) (mLit (.int 1))) (mLst aNil)))) sNext)
    (sSeq (sIf (tOr (tCmp (mOp fIsN (mVar 1) (mLit .non))) (tOr (tCmp (mOp fIsB (mVar 1) (mLit (.bl true)))) (tCmp (mOp fIsB (mVar 1) (mLit (.bl false)))))) (sRet (mIf (tCmp (mOp fIsN (mVar 1) (mLit .non))) (mOp fIsN (mVar 0) (mLit .non)) (mIf (tCmp (mOp fIsB (mVar 1) (mLit (.bl true)))) (mOp fIsB (mVar 0) (mLit (.bl true))) (mOp fIsB (mVar 0) (mLit (.bl false)))))) sNext)
    (sSeq (sIf (tVal (mBlt fIsi (aCons (mVar 1) (aCons (mLit (.ty "int")) aNil)))) (sRet (mAnd (mBlt fIsi (aCons (mVar 0) (aCons (mLit (.ty "int")) aNil))) (mAnd (mNot (mBlt fIsi (aCons (mVar 0) (aCons (mLit (.ty "bool")) aNil)))) (mOp fEq (mVar 0) (mVar 1))))) sNext)
    (sRet (mAnd (mBlt fIsi (aCons (mVar 1) (aCons (mLit (.ty "str")) aNil))) (mAnd (mBlt fIsi (aCons (mVar 0) (aCons (mLit (.ty "str")) aNil))) (mOp fEq (mVar 0) (mVar 1))))))))
theorem ok__law_is {j : Nat} {g__law_is : List D → Store → Res D} (Y : Kn P w K mg A) (G__law_is : FnOk P w K mg base (L2.CX P w) j A.a__law_is A.d__law_is ["told", "due"] (spB ⟨K, mg⟩ T 2 g__law_is)) : FnOk P w K mg base (L2.CX P w) (j + 1) A.a__law_is A.d__law_is ["told", "due"] (spB ⟨K, mg⟩ T 2 fun ds st => bodyR ((m__law_is g__law_is) (envE 4 (ds.map some)) st)) :=
  bwB Y.f__law_is.fn sc__law_is (m__law_is g__law_is) fun cdv AA S1 s H E z hr => by
    have tk := takes_of (X := cxOf (L2.CX P w) P w K mg base ["told", "due", "one", "other"] "_law_is" (defScope s__law_is) A.a__law_is cdv AA S1 s H E) rfl rfl rfl rfl
    have hp := passes_of (X := cxOf (L2.CX P w) P w K mg base ["told", "due", "one", "other"] "_law_is" (defScope s__law_is) A.a__law_is cdv AA S1 s H E) rfl
    unfold m__law_is
    exact (by refine ss_cons (s_if (t_val rfl (e_blt (c_isi rfl) Y.b_isinstance (by rfl) (a_cons (e_var 1) (a_cons (e_ty "tuple" Y.b_tuple rfl) a_nil)))) (by refine ss_cons (s_if (PW.pt (t_or (t_not (t_val rfl (e_blt (c_isi rfl) Y.b_isinstance (by rfl) (a_cons (e_var 0) (a_cons (e_ty "tuple" Y.b_tuple rfl) a_nil))))) (t_or1 (t_cmp (o_ne rfl (u64 hr)) (e_blt (c_len rfl) Y.b_len (by rfl) (a_cons (e_var 0) a_nil)) (e_blt (c_len rfl) Y.b_len (by rfl) (a_cons (e_var 1) a_nil)))))) (ss_one (s_ret e_bl)) ss_nil) ?_; exact (ss_one (s_ret (e_cmp (o_eq rfl (u64 hr)) (e_lc (own := [("one", 2), ("other", 3)]) rfl sc__law_is.nd (i_zip rfl Y.b_zip (a_cons (e_var 0) (a_cons (e_var 1) a_nil))) (blkOk_by (N := ["told", "due", "one", "other"]) (sc := defScope s__law_is) (by decide +kernel)) (fun _ _ _ _ _ => (g_tup rfl rfl (gs_cons (g_name 2 sc__law_is.nd) (gs_cons (g_name 3 sc__law_is.nd) gs_nil)))) (fun _ _ _ _ _ => (p_if (t_not (t_val rfl (e_callM G__law_is (hr.mono (by omega)) Y.f__law_is.mg Y.f__law_is.kp Y.f__law_is.bd L2.takes0 (a_cons (e_var 2) (a_cons (e_var 3) a_nil))))))) (fun _ _ _ _ _ => e_int)) (e_lst a_nil))))) ss_nil) ?_; refine ss_cons (s_if (PW.pt (t_or (t_cmp o_isN (e_var 1) e_non) (t_or (t_cmp o_isB (e_var 1) e_bl) (t_or1 (t_cmp o_isB (e_var 1) e_bl))))) (ss_one (s_ret (e_if (t_cmp o_isN (e_var 1) e_non) (e_cmp o_isN (e_var 0) e_non) (e_if (t_cmp o_isB (e_var 1) e_bl) (e_cmp o_isB (e_var 0) e_bl) (e_cmp o_isB (e_var 0) e_bl))))) ss_nil) ?_; refine ss_cons (s_if (t_val rfl (e_blt (c_isi rfl) Y.b_isinstance (by rfl) (a_cons (e_var 1) (a_cons (e_ty "int" Y.b_int rfl) a_nil)))) (ss_one (s_ret (e_and rfl (e_blt (c_isi rfl) Y.b_isinstance (by rfl) (a_cons (e_var 0) (a_cons (e_ty "int" Y.b_int rfl) a_nil))) (e_and rfl (e_not rfl (e_blt (c_isi rfl) Y.b_isinstance (by rfl) (a_cons (e_var 0) (a_cons (e_ty "bool" Y.b_bool rfl) a_nil)))) (e_one (e_cmp (o_eq rfl (u64 hr)) (e_var 0) (e_var 1))))))) ss_nil) ?_; exact (ss_one (s_ret (e_and rfl (e_blt (c_isi rfl) Y.b_isinstance (by rfl) (a_cons (e_var 1) (a_cons (e_ty "str" Y.b_str rfl) a_nil))) (e_and rfl (e_blt (c_isi rfl) Y.b_isinstance (by rfl) (a_cons (e_var 0) (a_cons (e_ty "str" Y.b_str rfl) a_nil))) (e_one (e_cmp (o_eq rfl (u64 hr)) (e_var 0) (e_var 1))))))))
theorem sc__law_error : FnScope ["call", "e"] ["call"] (defScope s__law_error) := ⟨rfl, rfl, rfl, by decide +kernel, rfl, by decide +kernel, by decide +kernel⟩
noncomputable def m__law_error (gc : Clo) : MS :=
    (sSeq (sTry exm (sDrop (mAct 0 gc aNil)) [("InvalidFraction", 1, fun er => (sRet (mTup (aCons (mLit (.str [102, 114, 97, 99, 116, 105, 111, 110])) (aCons (mFld ["InvalidFraction"] 1 "at" er) aNil))))), ("InvalidWords", 1, fun er => (sRet (mTup (aCons (mLit (.str [119, 111, 114, 100, 115])) (aCons (mFld ["InvalidWords"] 1 "at" er) aNil))))), ("InvalidSize", 1, fun er => (sRet (mTup (aCons (mLit (.str [115, 105, 122, 101])) (aCons (mFld ["InvalidSize"] 1 "word" er) aNil))))), ("Refused", 1, fun er => (sRet (mTup (aCons (mLit (.str [114, 101, 102, 117, 115, 101, 100])) (aCons (mFld ["Refused"] 1 "at" er) aNil)))))])
    (sRet (mTup (aCons (mLit (.str [116, 111, 108, 100])) aNil))))
theorem ok__law_error (Y : Kn P w K mg A) : FnC P w K mg base ⟨K, mg⟩ T (0 + 1) A.a__law_error A.d__law_error ["call"] (fun gc ds st => bodyR ((m__law_error) gc (envE 2 (some (.clo 0) :: ds.map some)) st)) :=
  bwC Y.f__law_error.fn sc__law_error (m__law_error) fun cdv kc AA S1 s H E z a gc hr ho => by
    have tk := takes_of (X := cxOf (L2.CX P w) P w K mg base ["call", "e"] "_law_error" (defScope s__law_error) A.a__law_error cdv AA S1 s H E) rfl rfl rfl rfl
    have hp := passes_of (X := cxOf (L2.CX P w) P w K mg base ["call", "e"] "_law_error" (defScope s__law_error) A.a__law_error cdv AA S1 s H E) rfl
    unfold m__law_error
    exact (by refine ss_cons (s_try rfl rfl rfl rfl sc__law_error.nd tk Y.exm (fun W1 pn1 xe1 tk1 hp1 => (ss_one (s_drop (e_act0 0 rfl ho (hr.mono (by omega)) tk1)))) (HdsD.cons Y.x_InvalidFraction.mg ⟨rfl, by decide, Or.inl Y.x_InvalidFraction.mg⟩ rfl rfl (fun a oe cls dd pn er z0 hz hf eo => (ss_one (s_ret (e_tup (a_cons (e_str [102, 114, 97, 99, 116, 105, 111, 110]) (a_cons (e_fld ["InvalidFraction"] 1 "at" rfl rfl hz hf eo (List.forall_mem_singleton.mpr Y.g_InvalidFraction_at)) a_nil)))))) (HdsD.cons Y.x_InvalidWords.mg ⟨rfl, by decide, Or.inl Y.x_InvalidWords.mg⟩ rfl rfl (fun a oe cls dd pn er z0 hz hf eo => (ss_one (s_ret (e_tup (a_cons (e_str [119, 111, 114, 100, 115]) (a_cons (e_fld ["InvalidWords"] 1 "at" rfl rfl hz hf eo (List.forall_mem_singleton.mpr Y.g_InvalidWords_at)) a_nil)))))) (HdsD.cons Y.x_InvalidSize.mg ⟨rfl, by decide, Or.inl Y.x_InvalidSize.mg⟩ rfl rfl (fun a oe cls dd pn er z0 hz hf eo => (ss_one (s_ret (e_tup (a_cons (e_str [115, 105, 122, 101]) (a_cons (e_fld ["InvalidSize"] 1 "word" rfl rfl hz hf eo (List.forall_mem_singleton.mpr Y.g_InvalidSize_word)) a_nil)))))) (HdsD.cons Y.x_Refused.mg ⟨rfl, by decide, Or.inl Y.x_Refused.mg⟩ rfl rfl (fun a oe cls dd pn er z0 hz hf eo => (ss_one (s_ret (e_tup (a_cons (e_str [114, 101, 102, 117, 115, 101, 100]) (a_cons (e_fld ["Refused"] 1 "at" rfl rfl hz hf eo (List.forall_mem_singleton.mpr Y.g_Refused_at)) a_nil)))))) HdsD.nil))))) ?_; exact (ss_one (s_ret (e_tup (a_cons (e_str [116, 111, 108, 100]) a_nil)))))
theorem sc__law_all : FnScope ["ask", "some", "due", "one"] ["ask", "some", "due"] (defScope s__law_all) := ⟨rfl, rfl, rfl, by decide +kernel, rfl, by decide +kernel, by decide +kernel⟩
noncomputable def m__law_all (g__law_is : List D → Store → Res D) (h__law_error : Clo → List D → Store → Res D) (gc : Clo) : MS :=
    (sSeq (sFor (iVal (mVar 1)) (gN 3) (sIf (tNot (tVal (mCall (fun ds st => if ds.length = 2 then g__law_is ds st else .no) (aCons (mLam (fun gc ds st => if ds.length + 1 = 1 then h__law_error gc ds st else .no) false 0 [true, false, false, true] (mAct 0 gc (aCons (mVar 3) aNil)) aNil) (aCons (mVar 2) aNil))))) (sRet (mLit (.bl false))) sNext))
    (sRet (mLit (.bl true))))
theorem ok__law_all {g__law_is : List D → Store → Res D} {h__law_error : Clo → List D → Store → Res D} (Y : Kn P w K mg A) (G__law_is : FnOk P w K mg base (L2.CX P w) 8 A.a__law_is A.d__law_is ["told", "due"] (spB ⟨K, mg⟩ T 2 g__law_is)) (H__law_error : FnC P w K mg base ⟨K, mg⟩ T 1 A.a__law_error A.d__law_error ["call"] h__law_error) (TB : TabB base mg A.ca__law_all A.ct__law_all) (hmT : (A.ct__law_all, lq "_law_all") ∈ T) (huT : ∀ p ∈ T, p.1 = A.ct__law_all → p.2 = lq "_law_all") : FnC P w K mg base ⟨K, mg⟩ T (8 + 1) A.a__law_all A.d__law_all ["ask", "some", "due"] (fun gc ds st => bodyR ((m__law_all g__law_is h__law_error) gc (envE 4 (some (.clo 0) :: ds.map some)) st)) :=
  bwCC Y.f__law_all.fn sc__law_all (m__law_all g__law_is h__law_error) fun kc AA S1 s H E z a gc hr ho => by
    have tk := takes_of (X := cxOf (L2.CX P w) P w K mg base ["ask", "some", "due", "one"] "_law_all" (defScope s__law_all) A.a__law_all (.ref A.ca__law_all) AA S1 s H E) rfl rfl rfl rfl
    have hp := passes_of (X := cxOf (L2.CX P w) P w K mg base ["ask", "some", "due", "one"] "_law_all" (defScope s__law_all) A.a__law_all (.ref A.ca__law_all) AA S1 s H E) rfl
    unfold m__law_all
    exact (by refine ss_cons (s_for hp rfl (i_val rfl (e_var 1)) (g_name 3 sc__law_all.nd) (ss_one (s_if (t_not (t_val rfl (e_callM G__law_is (hr.mono (by omega)) Y.f__law_is.mg Y.f__law_is.kp Y.f__law_is.bd tk (a_cons (e_lamB (kb := kc) H__law_error (hr.mono (by omega)) Y.f__law_error.mg Y.f__law_error.kp Y.f__law_error.bd tk TB rfl hmT huT (lamP_by (as := []) (sc := defScope s__law_all) (by decide +kernel)) lamB0f rfl rfl (show capt ["ask", "some", "due", "one"] _ = _ by decide +kernel) (fun A1 outer1 s1 H1 E1 f1 c1 z1 hr hrc => (e_act 0 rfl (hrc _ _ _ (at_start rfl ho)) (hr.mono (by omega)) (takes_of rfl rfl rfl rfl) (a_cons (e_var 3) a_nil))) a_nil) (a_cons (e_var 2) a_nil))))) (ss_one (s_ret e_bl)) ss_nil))) ?_; exact (ss_one (s_ret e_bl)))
theorem sc__law_shared : FnScope ["one", "other", "turn"] ["one", "other"] (defScope s__law_shared) := ⟨rfl, rfl, rfl, by decide +kernel, rfl, by decide +kernel, by decide +kernel⟩
noncomputable def m__law_shared : MS :=
    (sSeq (sFor (iRng1 (aCons (mLit (.int 30000)) aNil)) (gN 2) (sSeq (sIf (tCmp (mOp fEq (mVar 1) (mLit (.int 0)))) (sRet (mVar 0)) sNext)
    (sPar 0 1 (aCons (mVar 1) (aCons (mOp fMod (mBlt fInt (aCons (mVar 0) aNil)) (mVar 1)) aNil)))))
    (sRet (mLit (.int 1))))
theorem ok__law_shared (Y : Kn P w K mg A) : FnOk P w K mg base (L2.CX P w) (0 + 1) A.a__law_shared A.d__law_shared ["one", "other"] (spB ⟨K, mg⟩ T 2 fun ds st => bodyR ((m__law_shared) (envE 3 (ds.map some)) st)) :=
  bwB Y.f__law_shared.fn sc__law_shared (m__law_shared) fun cdv AA S1 s H E z hr => by
    have tk := takes_of (X := cxOf (L2.CX P w) P w K mg base ["one", "other", "turn"] "_law_shared" (defScope s__law_shared) A.a__law_shared cdv AA S1 s H E) rfl rfl rfl rfl
    have hp := passes_of (X := cxOf (L2.CX P w) P w K mg base ["one", "other", "turn"] "_law_shared" (defScope s__law_shared) A.a__law_shared cdv AA S1 s H E) rfl
    unfold m__law_shared
    exact (by refine ss_cons (s_for hp rfl (i_rng1 Y.b_range (a_cons e_int a_nil)) (g_name 2 sc__law_shared.nd) (by refine ss_cons (s_if (t_cmp (o_eq rfl (u64 hr)) (e_var 1) e_int) (ss_one (s_ret (e_var 0))) ss_nil) ?_; exact (ss_one (s_par 0 1 rfl (a_cons (e_var 1) (a_cons (e_op o_mod (e_bty (c_int) Y.b_int (by rfl) (a_cons (e_var 0) a_nil)) (e_var 1)) a_nil)) sc__law_shared.nd)))) ?_; exact (ss_one (s_ret e_int)))
theorem sc__law_fr : FnScope ["upper", "lower", "shared"] ["upper", "lower"] (defScope s__law_fr) := ⟨rfl, rfl, rfl, by decide +kernel, rfl, by decide +kernel, by decide +kernel⟩
noncomputable def m__law_fr (g__law_shared : List D → Store → Res D) : MS :=
    (sSeq (sAsg (mCall (fun ds st => if ds.length = 2 then g__law_shared ds st else .no) (aCons (mBlt fAbs (aCons (mVar 0) aNil)) (aCons (mBlt fAbs (aCons (mVar 1) aNil)) aNil))) (gN 2))
    (sSeq (sAsg (mIf (tCmp (mOp fLt (mVar 1) (mLit (.int 0)))) (mOp fSub (mLit (.int 0)) (mVar 2)) (mVar 2)) (gN 2))
    (sRet (mTup (aCons (mOp fDiv (mVar 0) (mVar 2)) (aCons (mOp fDiv (mVar 1) (mVar 2)) aNil))))))
theorem ok__law_fr {g__law_shared : List D → Store → Res D} (Y : Kn P w K mg A) (G__law_shared : FnOk P w K mg base (L2.CX P w) 1 A.a__law_shared A.d__law_shared ["one", "other"] (spB ⟨K, mg⟩ T 2 g__law_shared)) : FnOk P w K mg base (L2.CX P w) (1 + 1) A.a__law_fr A.d__law_fr ["upper", "lower"] (spB ⟨K, mg⟩ T 2 fun ds st => bodyR ((m__law_fr g__law_shared) (envE 3 (ds.map some)) st)) :=
  bwB Y.f__law_fr.fn sc__law_fr (m__law_fr g__law_shared) fun cdv AA S1 s H E z hr => by
    have tk := takes_of (X := cxOf (L2.CX P w) P w K mg base ["upper", "lower", "shared"] "_law_fr" (defScope s__law_fr) A.a__law_fr cdv AA S1 s H E) rfl rfl rfl rfl
    have hp := passes_of (X := cxOf (L2.CX P w) P w K mg base ["upper", "lower", "shared"] "_law_fr" (defScope s__law_fr) A.a__law_fr cdv AA S1 s H E) rfl
    unfold m__law_fr
    exact (by refine ss_cons (s_set 2 (e_callM G__law_shared (hr.mono (by omega)) Y.f__law_shared.mg Y.f__law_shared.kp Y.f__law_shared.bd tk (a_cons (e_blt (c_abs) Y.b_abs (by rfl) (a_cons (e_var 0) a_nil)) (a_cons (e_blt (c_abs) Y.b_abs (by rfl) (a_cons (e_var 1) a_nil)) a_nil))) sc__law_fr.nd) ?_; refine ss_cons (s_set 2 (e_if (t_cmp o_lt (e_var 1) e_int) (e_op o_sub e_int (e_var 2)) (e_var 2)) sc__law_fr.nd) ?_; exact (ss_one (s_ret (e_tup (a_cons (e_op o_div (e_var 0) (e_var 2)) (a_cons (e_op o_div (e_var 1) (e_var 2)) a_nil))))))
theorem sc__law_sum : FnScope ["one", "other"] ["one", "other"] (defScope s__law_sum) := ⟨rfl, rfl, rfl, by decide +kernel, rfl, by decide +kernel, by decide +kernel⟩
noncomputable def m__law_sum (g__law_fr : List D → Store → Res D) : MS :=
    (sRet (mCall (fun ds st => if ds.length = 2 then g__law_fr ds st else .no) (aCons (mOp fAdd (mOp fMul (mOp idxD (mVar 0) (mLit (.int 0))) (mOp idxD (mVar 1) (mLit (.int 1)))) (mOp fMul (mOp idxD (mVar 1) (mLit (.int 0))) (mOp idxD (mVar 0) (mLit (.int 1))))) (aCons (mOp fMul (mOp idxD (mVar 0) (mLit (.int 1))) (mOp idxD (mVar 1) (mLit (.int 1)))) aNil))))
theorem ok__law_sum {g__law_fr : List D → Store → Res D} (Y : Kn P w K mg A) (G__law_fr : FnOk P w K mg base (L2.CX P w) 2 A.a__law_fr A.d__law_fr ["upper", "lower"] (spB ⟨K, mg⟩ T 2 g__law_fr)) : FnOk P w K mg base (L2.CX P w) (2 + 1) A.a__law_sum A.d__law_sum ["one", "other"] (spB ⟨K, mg⟩ T 2 fun ds st => bodyR ((m__law_sum g__law_fr) (envE 2 (ds.map some)) st)) :=
  bwB Y.f__law_sum.fn sc__law_sum (m__law_sum g__law_fr) fun cdv AA S1 s H E z hr => by
    have tk := takes_of (X := cxOf (L2.CX P w) P w K mg base ["one", "other"] "_law_sum" (defScope s__law_sum) A.a__law_sum cdv AA S1 s H E) rfl rfl rfl rfl
    have hp := passes_of (X := cxOf (L2.CX P w) P w K mg base ["one", "other"] "_law_sum" (defScope s__law_sum) A.a__law_sum cdv AA S1 s H E) rfl
    unfold m__law_sum
    exact (ss_one (s_ret (e_callM G__law_fr (hr.mono (by omega)) Y.f__law_fr.mg Y.f__law_fr.kp Y.f__law_fr.bd tk (a_cons (e_op (o_add rfl) (e_op (o_mul rfl) (e_idx rfl (e_var 0) e_int) (e_idx rfl (e_var 1) e_int)) (e_op (o_mul rfl) (e_idx rfl (e_var 1) e_int) (e_idx rfl (e_var 0) e_int))) (a_cons (e_op (o_mul rfl) (e_idx rfl (e_var 0) e_int) (e_idx rfl (e_var 1) e_int)) a_nil)))))
theorem sc__law_drawn : FnScope ["box", "most"] ["box"] (defScope s__law_drawn) := ⟨rfl, rfl, rfl, by decide +kernel, rfl, by decide +kernel, by decide +kernel⟩
noncomputable def m__law_drawn (g__law_pick : List D → Store → Res D) (g__law_fr : List D → Store → Res D) (g__law_take : List D → Store → Res D) : MS :=
    (sSeq (sAsg (mCall (fun ds st => if ds.length = 2 then g__law_pick ds st else .no) (aCons (mVar 0) (aCons (mLst (aCons (mLit (.int 4)) (aCons (mLit (.int 50)) (aCons (mOp fPow (mLit (.int 10)) (mLit (.int 30))) (aCons (mOp fPow (mLit (.int 10)) (mLit (.int 60))) aNil))))) aNil))) (gN 1))
    (sRet (mCall (fun ds st => if ds.length = 2 then g__law_fr ds st else .no) (aCons (mOp fSub (mCall (fun ds st => if ds.length = 2 then g__law_take ds st else .no) (aCons (mVar 0) (aCons (mOp fAdd (mOp fMul (mLit (.int 2)) (mVar 1)) (mLit (.int 1))) aNil))) (mVar 1)) (aCons (mOp fAdd (mLit (.int 1)) (mCall (fun ds st => if ds.length = 2 then g__law_take ds st else .no) (aCons (mVar 0) (aCons (mVar 1) aNil)))) aNil)))))
theorem ok__law_drawn {g__law_pick : List D → Store → Res D} {g__law_fr : List D → Store → Res D} {g__law_take : List D → Store → Res D} (Y : Kn P w K mg A) (G__law_pick : FnOk P w K mg base (L2.CX P w) 2 A.a__law_pick A.d__law_pick ["box", "some"] (spB ⟨K, mg⟩ T 2 g__law_pick)) (G__law_fr : FnOk P w K mg base (L2.CX P w) 2 A.a__law_fr A.d__law_fr ["upper", "lower"] (spB ⟨K, mg⟩ T 2 g__law_fr)) (G__law_take : FnOk P w K mg base (L2.CX P w) 1 A.a__law_take A.d__law_take ["box", "many"] (spB ⟨K, mg⟩ T 2 g__law_take)) : FnOk P w K mg base (L2.CX P w) (2 + 1) A.a__law_drawn A.d__law_drawn ["box"] (spB ⟨K, mg⟩ T 1 fun ds st => bodyR ((m__law_drawn g__law_pick g__law_fr g__law_take) (envE 2 (ds.map some)) st)) :=
  bwB Y.f__law_drawn.fn sc__law_drawn (m__law_drawn g__law_pick g__law_fr g__law_take) fun cdv AA S1 s H E z hr => by
    have tk := takes_of (X := cxOf (L2.CX P w) P w K mg base ["box", "most"] "_law_drawn" (defScope s__law_drawn) A.a__law_drawn cdv AA S1 s H E) rfl rfl rfl rfl
    have hp := passes_of (X := cxOf (L2.CX P w) P w K mg base ["box", "most"] "_law_drawn" (defScope s__law_drawn) A.a__law_drawn cdv AA S1 s H E) rfl
    unfold m__law_drawn
    exact (by refine ss_cons (s_set 1 (e_callM G__law_pick (hr.mono (by omega)) Y.f__law_pick.mg Y.f__law_pick.kp Y.f__law_pick.bd tk (a_cons (e_var 0) (a_cons (e_lst (a_cons e_int (a_cons e_int (a_cons (e_op o_pow e_int e_int) (a_cons (e_op o_pow e_int e_int) a_nil))))) a_nil))) sc__law_drawn.nd) ?_; exact (ss_one (s_ret (e_callM G__law_fr (hr.mono (by omega)) Y.f__law_fr.mg Y.f__law_fr.kp Y.f__law_fr.bd tk (a_cons (e_op o_sub (e_callM G__law_take (hr.mono (by omega)) Y.f__law_take.mg Y.f__law_take.kp Y.f__law_take.bd tk (a_cons (e_var 0) (a_cons (e_op (o_add rfl) (e_op (o_mul rfl) e_int (e_var 1)) e_int) a_nil))) (e_var 1)) (a_cons (e_op (o_add rfl) e_int (e_callM G__law_take (hr.mono (by omega)) Y.f__law_take.mg Y.f__law_take.kp Y.f__law_take.bd tk (a_cons (e_var 0) (a_cons (e_var 1) a_nil)))) a_nil))))))
theorem sc__law_words : FnScope ["one"] ["one"] (defScope s__law_words) := ⟨rfl, rfl, rfl, by decide +kernel, rfl, by decide +kernel, by decide +kernel⟩
noncomputable def m__law_words : MS :=
    (sRet (mOp fAdd (mBlt fStr (aCons (mOp idxD (mVar 0) (mLit (.int 0))) aNil)) (mIf (tCmp (mOp fGt (mOp idxD (mVar 0) (mLit (.int 1))) (mLit (.int 1)))) (mOp fAdd (mLit (.str [47])) (mBlt fStr (aCons (mOp idxD (mVar 0) (mLit (.int 1))) aNil))) (mLit (.str [])))))
theorem ok__law_words (Y : Kn P w K mg A) : FnOk P w K mg base (L2.CX P w) (0 + 1) A.a__law_words A.d__law_words ["one"] (spB ⟨K, mg⟩ T 1 fun ds st => bodyR ((m__law_words) (envE 1 (ds.map some)) st)) :=
  bwB Y.f__law_words.fn sc__law_words (m__law_words) fun cdv AA S1 s H E z hr => by
    have tk := takes_of (X := cxOf (L2.CX P w) P w K mg base ["one"] "_law_words" (defScope s__law_words) A.a__law_words cdv AA S1 s H E) rfl rfl rfl rfl
    have hp := passes_of (X := cxOf (L2.CX P w) P w K mg base ["one"] "_law_words" (defScope s__law_words) A.a__law_words cdv AA S1 s H E) rfl
    unfold m__law_words
    exact (ss_one (s_ret (e_op (o_add rfl) (e_bty (c_str) Y.b_str (by rfl) (a_cons (e_idx rfl (e_var 0) e_int) a_nil)) (e_if (t_cmp o_gt (e_idx rfl (e_var 0) e_int) e_int) (e_op (o_add rfl) (e_str [47]) (e_bty (c_str) Y.b_str (by rfl) (a_cons (e_idx rfl (e_var 0) e_int) a_nil))) (e_str [])))))
theorem sc_law : FnScope ["script", "box", "beyond", "turn", "one", "other", "factor", "due", "text", "bad", "bads", "ask", "great"] ["script"] (defScope s_law) := ⟨rfl, rfl, rfl, by decide +kernel, rfl, by decide +kernel, by decide +kernel⟩
noncomputable def m_law (g__law_box : List D → Store → Res D) (g__law_take : List D → Store → Res D) (g__law_drawn : List D → Store → Res D) (g__law_sum : List D → Store → Res D) (g__law_is : List D → Store → Res D) (g_less : List D → Store → Res D) (g_plus : List D → Store → Res D) (g__law_fr : List D → Store → Res D) (g_times : List D → Store → Res D) (g_over : List D → Store → Res D) (g_is_less : List D → Store → Res D) (g_frac : List D → Store → Res D) (g__law_words : List D → Store → Res D) (g_read_frac : List D → Store → Res D) (g_frac_text : List D → Store → Res D) (h__law_error : Clo → List D → Store → Res D) (h__law_all : Clo → List D → Store → Res D) : MS :=
    (sSeq (sPar 1 2 (aCons (mCall (fun ds st => if ds.length = 1 then g__law_box ds st else .no) (aCons (mVar 0) aNil)) (aCons (mOp fPow (mOp fPow (mLit (.int 10)) (mLit (.int 50))) (mLit (.int 60))) aNil)))
    (sSeq (sFor (iRng1 (aCons (mLit (.int 12)) aNil)) (gN 3) (sSeq (sPar3 4 5 6 (aCons (mCall (fun ds st => if ds.length = 1 then g__law_drawn ds st else .no) (aCons (mVar 1) aNil)) (aCons (mCall (fun ds st => if ds.length = 1 then g__law_drawn ds st else .no) (aCons (mVar 1) aNil)) (aCons (mOp fAdd (mLit (.int 1)) (mCall (fun ds st => if ds.length = 2 then g__law_take ds st else .no) (aCons (mVar 1) (aCons (mLit (.int 50)) aNil)))) aNil))))
    (sSeq (sAsg (mCall (fun ds st => if ds.length = 2 then g__law_sum ds st else .no) (aCons (mVar 4) (aCons (mVar 5) aNil))) (gN 7))
    (sSeq (sIf (tNot (tVal (mCall (fun ds st => if ds.length = 2 then g__law_is ds st else .no) (aCons (mTup (aCons (mCall (fun ds st => if ds.length = 2 then g_plus ds st else .no) (aCons (mVar 4) (aCons (mVar 5) aNil))) (aCons (mCall (fun ds st => if ds.length = 2 then g_plus ds st else .no) (aCons (mVar 5) (aCons (mVar 4) aNil))) (aCons (mCall (fun ds st => if ds.length = 2 then g_less ds st else .no) (aCons (mVar 7) (aCons (mVar 5) aNil))) (aCons (mCall (fun ds st => if ds.length = 2 then g_less ds st else .no) (aCons (mVar 7) (aCons (mVar 4) aNil))) aNil))))) (aCons (mTup (aCons (mVar 7) (aCons (mVar 7) (aCons (mVar 4) (aCons (mVar 5) aNil))))) aNil))))) (sRet (mLit (.bl false))) sNext)
    (sSeq (sAsg (mCall (fun ds st => if ds.length = 2 then g__law_fr ds st else .no) (aCons (mOp fMul (mOp idxD (mVar 4) (mLit (.int 0))) (mOp idxD (mVar 5) (mLit (.int 0)))) (aCons (mOp fMul (mOp idxD (mVar 4) (mLit (.int 1))) (mOp idxD (mVar 5) (mLit (.int 1)))) aNil))) (gN 7))
    (sSeq (sIf (tNot (tVal (mCall (fun ds st => if ds.length = 2 then g__law_is ds st else .no) (aCons (mTup (aCons (mCall (fun ds st => if ds.length = 2 then g_times ds st else .no) (aCons (mVar 4) (aCons (mVar 5) aNil))) (aCons (mCall (fun ds st => if ds.length = 2 then g_times ds st else .no) (aCons (mVar 5) (aCons (mVar 4) aNil))) aNil))) (aCons (mTup (aCons (mVar 7) (aCons (mVar 7) aNil))) aNil))))) (sRet (mLit (.bl false))) sNext)
    (sSeq (sIf (tAnd (tCmp (mOp fNe (mOp idxD (mVar 5) (mLit (.int 0))) (mLit (.int 0)))) (tNot (tVal (mCall (fun ds st => if ds.length = 2 then g__law_is ds st else .no) (aCons (mTup (aCons (mCall (fun ds st => if ds.length = 2 then g_over ds st else .no) (aCons (mVar 7) (aCons (mVar 5) aNil))) (aCons (mCall (fun ds st => if ds.length = 2 then g_over ds st else .no) (aCons (mVar 4) (aCons (mVar 5) aNil))) aNil))) (aCons (mTup (aCons (mVar 4) (aCons (mCall (fun ds st => if ds.length = 2 then g__law_fr ds st else .no) (aCons (mOp fMul (mOp idxD (mVar 4) (mLit (.int 0))) (mOp idxD (mVar 5) (mLit (.int 1)))) (aCons (mOp fMul (mOp idxD (mVar 4) (mLit (.int 1))) (mOp idxD (mVar 5) (mLit (.int 0)))) aNil))) aNil))) aNil)))))) (sRet (mLit (.bl false))) sNext)
    (sSeq (sIf (tNot (tVal (mCall (fun ds st => if ds.length = 2 then g__law_is ds st else .no) (aCons (mTup (aCons (mCall (fun ds st => if ds.length = 2 then g_is_less ds st else .no) (aCons (mVar 4) (aCons (mVar 5) aNil))) (aCons (mCall (fun ds st => if ds.length = 2 then g_is_less ds st else .no) (aCons (mVar 5) (aCons (mVar 4) aNil))) aNil))) (aCons (mTup (aCons (mOp fLt (mOp fMul (mOp idxD (mVar 4) (mLit (.int 0))) (mOp idxD (mVar 5) (mLit (.int 1)))) (mOp fMul (mOp idxD (mVar 5) (mLit (.int 0))) (mOp idxD (mVar 4) (mLit (.int 1))))) (aCons (mOp fLt (mOp fMul (mOp idxD (mVar 5) (mLit (.int 0))) (mOp idxD (mVar 4) (mLit (.int 1)))) (mOp fMul (mOp idxD (mVar 4) (mLit (.int 0))) (mOp idxD (mVar 5) (mLit (.int 1))))) aNil))) aNil))))) (sRet (mLit (.bl false))) sNext)
    (sSeq (sIf (tNot (tVal (mCall (fun ds st => if ds.length = 2 then g__law_is ds st else .no) (aCons (mTup (aCons (mCall (fun ds st => if ds.length = 2 then g_frac ds st else .no) (aCons (mOp fMul (mOp idxD (mVar 4) (mLit (.int 0))) (mVar 6)) (aCons (mOp fMul (mOp idxD (mVar 4) (mLit (.int 1))) (mVar 6)) aNil))) (aCons (mCall (fun ds st => if ds.length = 2 then g_frac ds st else .no) (aCons (mOp fMul (mUn (fun x _ => negD x) (mOp idxD (mVar 4) (mLit (.int 0)))) (mVar 6)) (aCons (mUn (fun x _ => negD x) (mOp idxD (mVar 4) (mLit (.int 1)))) aNil))) aNil))) (aCons (mTup (aCons (mVar 4) (aCons (mCall (fun ds st => if ds.length = 2 then g__law_fr ds st else .no) (aCons (mOp fMul (mOp idxD (mVar 4) (mLit (.int 0))) (mVar 6)) (aCons (mOp idxD (mVar 4) (mLit (.int 1))) aNil))) aNil))) aNil))))) (sRet (mLit (.bl false))) sNext)
    (sSeq (sAsg (mCall (fun ds st => if ds.length = 1 then g__law_words ds st else .no) (aCons (mVar 4) aNil)) (gN 8))
    (sSeq (sIf (tNot (tVal (mCall (fun ds st => if ds.length = 2 then g__law_is ds st else .no) (aCons (mTup (aCons (mCall (fun ds st => if ds.length = 1 then g_frac_text ds st else .no) (aCons (mVar 4) aNil)) (aCons (mCall (fun ds st => if ds.length = 1 then g_frac_text ds st else .no) (aCons (mVar 4) aNil)) (aCons (mCall (fun ds st => if ds.length = 1 then g_read_frac ds st else .no) (aCons (mVar 8) aNil)) (aCons (mCall (fun ds st => if ds.length = 1 then g_read_frac ds st else .no) (aCons (mVar 8) aNil)) aNil))))) (aCons (mTup (aCons (mVar 8) (aCons (mVar 8) (aCons (mVar 4) (aCons (mVar 4) aNil))))) aNil))))) (sRet (mLit (.bl false))) sNext)
    (sFor (iVal (mLst (aCons (mOp fAdd (mLit (.str [43])) (mVar 8)) (aCons (mOp fAdd (mLit (.str [32])) (mVar 8)) (aCons (mOp fAdd (mVar 8) (mLit (.str [32]))) (aCons (mOp fAdd (mLit (.str [48])) (mVar 8)) (aCons (mOp fAdd (mVar 8) (mLit (.str [47, 49]))) (aCons (mOp fAdd (mVar 8) (mLit (.str [47]))) (aCons (mOp fAdd (mLit (.str [47])) (mVar 8)) (aCons (mOp fAdd (mLit (.str [45, 45])) (mVar 8)) (aCons (mOp fAdd (mRep 45 [] (mVar 8)) (mLit (.str [47, 48]))) (aCons (mOp fAdd (mCall (fun ds st => if ds.length = 1 then g__law_words ds st else .no) (aCons (mTup (aCons (mLit (.int 2)) (aCons (mLit (.int 4)) aNil))) aNil)) (mLit (.str []))) aNil)))))))))))) (gN 9) (sIf (tAnd (tCmp (mOp fNe (mVar 9) (mVar 8))) (tNot (tVal (mCall (fun ds st => if ds.length = 2 then g__law_is ds st else .no) (aCons (mLam (fun gc ds st => if ds.length + 1 = 1 then h__law_error gc ds st else .no) false 0 [false, false, false, false, false, false, false, false, false, true, false, false, false] (mCall (fun ds st => if ds.length = 1 then g_read_frac ds st else .no) (aCons (mVar 9) aNil)) aNil) (aCons (mTup (aCons (mLit (.str [119, 111, 114, 100, 115])) (aCons (mUn (fun x _ => negD x) (mLit (.int 1))) aNil))) aNil)))))) (sRet (mLit (.bl false))) sNext)))))))))))))
    (sSeq (sAsg (mLst (aCons (mLit .non) (aCons (mLit (.int 3)) (aCons (mTup (aCons (mLit (.int 1)) aNil)) (aCons (mTup (aCons (mLit (.int 1)) (aCons (mLit (.int 0)) aNil))) (aCons (mTup (aCons (mLit (.int 2)) (aCons (mLit (.int 4)) aNil))) (aCons (mTup (aCons (mLit (.int 1)) (aCons (mUn (fun x _ => negD x) (mLit (.int 2))) aNil))) (aCons (mLst (aCons (mLit (.int 1)) (aCons (mLit (.int 2)) aNil))) (aCons (mTup (aCons (mLit (.bl true)) (aCons (mLit (.int 2)) aNil))) (aCons (mTup (aCons (mLit (.int 1)) (aCons (mLit (.bl true)) aNil))) (aCons (mTup (aCons (mLit (.int 0)) (aCons (mLit (.int 2)) aNil))) (aCons (mTup (aCons (mLit (.str [49])) (aCons (mLit (.int 2)) aNil))) (aCons (mTup (aCons (mLit (.int 1)) (aCons (mLit (.int 2)) (aCons (mLit (.int 3)) aNil)))) (aCons (mTup (aCons (mVar 2) (aCons (mLit (.int 1)) aNil))) (aCons (mTup (aCons (mLit (.int 1)) (aCons (mVar 2) aNil))) aNil))))))))))))))) (gN 10))
    (sSeq (sForL 11 [(sIf (tOr (tNot (tVal (mLam (fun gc ds st => if ds.length + 1 = 3 then h__law_all gc ds st else .no) false 1 [false, false, false, false, false, false, false, false, false, false, false, true, false] (mAct 12 (fun ds st => if ds.length = 2 then g_plus ds st else .no) (aCons (mVar 0) (aCons (mLit .non) aNil))) (aCons (mVar 10) (aCons (mTup (aCons (mLit (.str [102, 114, 97, 99, 116, 105, 111, 110])) (aCons (mLit (.int 0)) aNil))) aNil))))) (tNot (tVal (mLam (fun gc ds st => if ds.length + 1 = 3 then h__law_all gc ds st else .no) false 1 [false, false, false, false, false, false, false, false, false, false, false, true, false] (mAct 12 (fun ds st => if ds.length = 2 then g_plus ds st else .no) (aCons (mTup (aCons (mLit (.int 0)) (aCons (mLit (.int 1)) aNil))) (aCons (mVar 0) aNil))) (aCons (mVar 10) (aCons (mTup (aCons (mLit (.str [102, 114, 97, 99, 116, 105, 111, 110])) (aCons (mLit (.int 1)) aNil))) aNil)))))) (sRet (mLit (.bl false))) sNext), (sIf (tOr (tNot (tVal (mLam (fun gc ds st => if ds.length + 1 = 3 then h__law_all gc ds st else .no) false 1 [false, false, false, false, false, false, false, false, false, false, false, true, false] (mAct 12 (fun ds st => if ds.length = 2 then g_less ds st else .no) (aCons (mVar 0) (aCons (mLit .non) aNil))) (aCons (mVar 10) (aCons (mTup (aCons (mLit (.str [102, 114, 97, 99, 116, 105, 111, 110])) (aCons (mLit (.int 0)) aNil))) aNil))))) (tNot (tVal (mLam (fun gc ds st => if ds.length + 1 = 3 then h__law_all gc ds st else .no) false 1 [false, false, false, false, false, false, false, false, false, false, false, true, false] (mAct 12 (fun ds st => if ds.length = 2 then g_less ds st else .no) (aCons (mTup (aCons (mLit (.int 0)) (aCons (mLit (.int 1)) aNil))) (aCons (mVar 0) aNil))) (aCons (mVar 10) (aCons (mTup (aCons (mLit (.str [102, 114, 97, 99, 116, 105, 111, 110])) (aCons (mLit (.int 1)) aNil))) aNil)))))) (sRet (mLit (.bl false))) sNext), (sIf (tOr (tNot (tVal (mLam (fun gc ds st => if ds.length + 1 = 3 then h__law_all gc ds st else .no) false 1 [false, false, false, false, false, false, false, false, false, false, false, true, false] (mAct 12 (fun ds st => if ds.length = 2 then g_times ds st else .no) (aCons (mVar 0) (aCons (mLit .non) aNil))) (aCons (mVar 10) (aCons (mTup (aCons (mLit (.str [102, 114, 97, 99, 116, 105, 111, 110])) (aCons (mLit (.int 0)) aNil))) aNil))))) (tNot (tVal (mLam (fun gc ds st => if ds.length + 1 = 3 then h__law_all gc ds st else .no) false 1 [false, false, false, false, false, false, false, false, false, false, false, true, false] (mAct 12 (fun ds st => if ds.length = 2 then g_times ds st else .no) (aCons (mTup (aCons (mLit (.int 0)) (aCons (mLit (.int 1)) aNil))) (aCons (mVar 0) aNil))) (aCons (mVar 10) (aCons (mTup (aCons (mLit (.str [102, 114, 97, 99, 116, 105, 111, 110])) (aCons (mLit (.int 1)) aNil))) aNil)))))) (sRet (mLit (.bl false))) sNext), (sIf (tOr (tNot (tVal (mLam (fun gc ds st => if ds.length + 1 = 3 then h__law_all gc ds st else .no) false 1 [false, false, false, false, false, false, false, false, false, false, false, true, false] (mAct 12 (fun ds st => if ds.length = 2 then g_over ds st else .no) (aCons (mVar 0) (aCons (mLit .non) aNil))) (aCons (mVar 10) (aCons (mTup (aCons (mLit (.str [102, 114, 97, 99, 116, 105, 111, 110])) (aCons (mLit (.int 0)) aNil))) aNil))))) (tNot (tVal (mLam (fun gc ds st => if ds.length + 1 = 3 then h__law_all gc ds st else .no) false 1 [false, false, false, false, false, false, false, false, false, false, false, true, false] (mAct 12 (fun ds st => if ds.length = 2 then g_over ds st else .no) (aCons (mTup (aCons (mLit (.int 0)) (aCons (mLit (.int 1)) aNil))) (aCons (mVar 0) aNil))) (aCons (mVar 10) (aCons (mTup (aCons (mLit (.str [102, 114, 97, 99, 116, 105, 111, 110])) (aCons (mLit (.int 1)) aNil))) aNil)))))) (sRet (mLit (.bl false))) sNext), (sIf (tOr (tNot (tVal (mLam (fun gc ds st => if ds.length + 1 = 3 then h__law_all gc ds st else .no) false 1 [false, false, false, false, false, false, false, false, false, false, false, true, false] (mAct 12 (fun ds st => if ds.length = 2 then g_is_less ds st else .no) (aCons (mVar 0) (aCons (mLit .non) aNil))) (aCons (mVar 10) (aCons (mTup (aCons (mLit (.str [102, 114, 97, 99, 116, 105, 111, 110])) (aCons (mLit (.int 0)) aNil))) aNil))))) (tNot (tVal (mLam (fun gc ds st => if ds.length + 1 = 3 then h__law_all gc ds st else .no) false 1 [false, false, false, false, false, false, false, false, false, false, false, true, false] (mAct 12 (fun ds st => if ds.length = 2 then g_is_less ds st else .no) (aCons (mTup (aCons (mLit (.int 0)) (aCons (mLit (.int 1)) aNil))) (aCons (mVar 0) aNil))) (aCons (mVar 10) (aCons (mTup (aCons (mLit (.str [102, 114, 97, 99, 116, 105, 111, 110])) (aCons (mLit (.int 1)) aNil))) aNil)))))) (sRet (mLit (.bl false))) sNext)])
    (sSeq (sIf (tOr (tNot (tVal (mLam (fun gc ds st => if ds.length + 1 = 3 then h__law_all gc ds st else .no) false 1 [false, false, false, false, false, false, false, false, false, false, false, false, false] (mCall (fun ds st => if ds.length = 1 then g_frac_text ds st else .no) (aCons (mVar 0) aNil)) (aCons (mVar 10) (aCons (mTup (aCons (mLit (.str [102, 114, 97, 99, 116, 105, 111, 110])) (aCons (mUn (fun x _ => negD x) (mLit (.int 1))) aNil))) aNil))))) (tNot (tVal (mCall (fun ds st => if ds.length = 2 then g__law_is ds st else .no) (aCons (mLam (fun gc ds st => if ds.length + 1 = 1 then h__law_error gc ds st else .no) false 0 [false, false, false, false, false, false, false, false, false, false, false, false, false] (mCall (fun ds st => if ds.length = 2 then g_over ds st else .no) (aCons (mTup (aCons (mLit (.int 1)) (aCons (mLit (.int 2)) aNil))) (aCons (mTup (aCons (mLit (.int 0)) (aCons (mLit (.int 1)) aNil))) aNil))) aNil) (aCons (mTup (aCons (mLit (.str [114, 101, 102, 117, 115, 101, 100])) (aCons (mUn (fun x _ => negD x) (mLit (.int 1))) aNil))) aNil)))))) (sRet (mLit (.bl false))) sNext)
    (sSeq (sIf (tNot (tVal (mLam (fun gc ds st => if ds.length + 1 = 3 then h__law_all gc ds st else .no) false 1 [false, false, false, false, false, false, false, false, false, false, false, false, false] (mCall (fun ds st => if ds.length = 2 then g_frac ds st else .no) (aCons (mVar 0) (aCons (mLit .non) aNil))) (aCons (mLst (aCons (mLit .non) (aCons (mLit (.bl true)) (aCons (mLit (.str [49])) (aCons (mVar 2) (aCons (mUn (fun x _ => negD x) (mVar 2)) aNil)))))) (aCons (mTup (aCons (mLit (.str [102, 114, 97, 99, 116, 105, 111, 110])) (aCons (mLit (.int 0)) aNil))) aNil))))) (sRet (mLit (.bl false))) sNext)
    (sSeq (sIf (tNot (tVal (mLam (fun gc ds st => if ds.length + 1 = 3 then h__law_all gc ds st else .no) false 1 [false, false, false, false, false, false, false, false, false, false, false, false, false] (mCall (fun ds st => if ds.length = 2 then g_frac ds st else .no) (aCons (mLit (.int 1)) (aCons (mVar 0) aNil))) (aCons (mLst (aCons (mLit .non) (aCons (mLit (.bl true)) (aCons (mLit (.int 0)) (aCons (mVar 2) (aCons (mUn (fun x _ => negD x) (mVar 2)) aNil)))))) (aCons (mTup (aCons (mLit (.str [102, 114, 97, 99, 116, 105, 111, 110])) (aCons (mLit (.int 1)) aNil))) aNil))))) (sRet (mLit (.bl false))) sNext)
    (sSeq (sAsg (mOp fSub (mVar 2) (mLit (.int 1))) (gN 12))
    (sSeq (sIf (tNot (tVal (mCall (fun ds st => if ds.length = 2 then g__law_is ds st else .no) (aCons (mTup (aCons (mCall (fun ds st => if ds.length = 2 then g_plus ds st else .no) (aCons (mTup (aCons (mOp fSub (mVar 12) (mLit (.int 1))) (aCons (mLit (.int 1)) aNil))) (aCons (mTup (aCons (mLit (.int 1)) (aCons (mLit (.int 1)) aNil))) aNil))) (aCons (mCall (fun ds st => if ds.length = 2 then g_less ds st else .no) (aCons (mTup (aCons (mUn (fun x _ => negD x) (mVar 12)) (aCons (mLit (.int 1)) aNil))) (aCons (mTup (aCons (mUn (fun x _ => negD x) (mLit (.int 1))) (aCons (mLit (.int 1)) aNil))) aNil))) (aCons (mCall (fun ds st => if ds.length = 2 then g_times ds st else .no) (aCons (mTup (aCons (mVar 12) (aCons (mLit (.int 1)) aNil))) (aCons (mTup (aCons (mLit (.int 1)) (aCons (mVar 12) aNil))) aNil))) aNil)))) (aCons (mTup (aCons (mTup (aCons (mVar 12) (aCons (mLit (.int 1)) aNil))) (aCons (mTup (aCons (mOp fSub (mLit (.int 1)) (mVar 12)) (aCons (mLit (.int 1)) aNil))) (aCons (mTup (aCons (mLit (.int 1)) (aCons (mLit (.int 1)) aNil))) aNil)))) aNil))))) (sRet (mLit (.bl false))) sNext)
    (sSeq (sForL 11 [(sIf (tNot (tVal (mCall (fun ds st => if ds.length = 2 then g__law_is ds st else .no) (aCons (mPass 11 (fun gc ds st => if ds.length + 1 = 1 then h__law_error gc ds st else .no) (fun ρ => (lamD false 0 [false, false, false, false, false, false, false, false, false, false, false, false, true] (mCall (fun ds st => if ds.length = 2 then g_plus ds st else .no) (aCons (mTup (aCons (mVar 12) (aCons (mLit (.int 1)) aNil))) (aCons (mTup (aCons (mLit (.int 1)) (aCons (mLit (.int 1)) aNil))) aNil)))) ρ) aNil) (aCons (mTup (aCons (mLit (.str [115, 105, 122, 101])) (aCons (mLit (.str [102, 105, 103, 117, 114, 101, 115])) aNil))) aNil))))) (sRet (mLit (.bl false))) sNext), (sIf (tNot (tVal (mCall (fun ds st => if ds.length = 2 then g__law_is ds st else .no) (aCons (mPass 11 (fun gc ds st => if ds.length + 1 = 1 then h__law_error gc ds st else .no) (fun ρ => (lamD true 0 [false, false, false, false, false, false, false, false, false, false, false, false, true] (mCall (fun ds st => if ds.length = 2 then g_times ds st else .no) (aCons (mTup (aCons (mLit (.int 1)) (aCons (mVar 13) aNil))) (aCons (mTup (aCons (mLit (.int 1)) (aCons (mLit (.int 2)) aNil))) aNil)))) ρ) aNil) (aCons (mTup (aCons (mLit (.str [115, 105, 122, 101])) (aCons (mLit (.str [102, 105, 103, 117, 114, 101, 115])) aNil))) aNil))))) (sRet (mLit (.bl false))) sNext), (sIf (tNot (tVal (mCall (fun ds st => if ds.length = 2 then g__law_is ds st else .no) (aCons (mPass 11 (fun gc ds st => if ds.length + 1 = 1 then h__law_error gc ds st else .no) (fun ρ => (lamD true 0 [false, false, false, false, false, false, false, false, false, false, false, false, true] (mCall (fun ds st => if ds.length = 2 then g_over ds st else .no) (aCons (mTup (aCons (mVar 13) (aCons (mLit (.int 1)) aNil))) (aCons (mTup (aCons (mLit (.int 1)) (aCons (mLit (.int 2)) aNil))) aNil)))) ρ) aNil) (aCons (mTup (aCons (mLit (.str [115, 105, 122, 101])) (aCons (mLit (.str [102, 105, 103, 117, 114, 101, 115])) aNil))) aNil))))) (sRet (mLit (.bl false))) sNext), (sIf (tNot (tVal (mCall (fun ds st => if ds.length = 2 then g__law_is ds st else .no) (aCons (mPass 11 (fun gc ds st => if ds.length + 1 = 1 then h__law_error gc ds st else .no) (fun ρ => (lamD true 0 [false, false, false, false, false, false, false, false, false, false, false, false, true] (mCall (fun ds st => if ds.length = 2 then g_less ds st else .no) (aCons (mTup (aCons (mLit (.int 1)) (aCons (mVar 13) aNil))) (aCons (mTup (aCons (mLit (.int 1)) (aCons (mOp fSub (mVar 13) (mLit (.int 1))) aNil))) aNil)))) ρ) aNil) (aCons (mTup (aCons (mLit (.str [115, 105, 122, 101])) (aCons (mLit (.str [102, 105, 103, 117, 114, 101, 115])) aNil))) aNil))))) (sRet (mLit (.bl false))) sNext)])
    (sSeq (sIf (tOr (tNot (tVal (mCall (fun ds st => if ds.length = 2 then g__law_is ds st else .no) (aCons (mTup (aCons (mCall (fun ds st => if ds.length = 1 then g_read_frac ds st else .no) (aCons (mOp fMul (mLit (.str [57])) (mLit (.int 3000))) aNil)) (aCons (mCall (fun ds st => if ds.length = 1 then g_read_frac ds st else .no) (aCons (mOp fAdd (mLit (.str [45, 49, 47])) (mOp fMul (mLit (.str [57])) (mLit (.int 3000)))) aNil)) aNil))) (aCons (mTup (aCons (mTup (aCons (mVar 12) (aCons (mLit (.int 1)) aNil))) (aCons (mTup (aCons (mUn (fun x _ => negD x) (mLit (.int 1))) (aCons (mVar 12) aNil))) aNil))) aNil))))) (tNot (tVal (mLam (fun gc ds st => if ds.length + 1 = 3 then h__law_all gc ds st else .no) false 1 [false, false, false, false, false, false, false, false, false, false, false, false, false] (mCall (fun ds st => if ds.length = 1 then g_read_frac ds st else .no) (aCons (mVar 0) aNil)) (aCons (mLst (aCons (mOp fMul (mLit (.str [49])) (mLit (.int 3001))) (aCons (mOp fAdd (mLit (.str [49, 47])) (mOp fMul (mLit (.str [55])) (mLit (.int 5000)))) aNil))) (aCons (mTup (aCons (mLit (.str [119, 111, 114, 100, 115])) (aCons (mUn (fun x _ => negD x) (mLit (.int 1))) aNil))) aNil)))))) (sRet (mLit (.bl false))) sNext)
    (sRet (mLam (fun gc ds st => if ds.length + 1 = 3 then h__law_all gc ds st else .no) false 1 [false, false, false, false, false, false, false, false, false, false, false, false, false] (mCall (fun ds st => if ds.length = 1 then g_read_frac ds st else .no) (aCons (mVar 0) aNil)) (aCons (mLst (aCons (mLit .non) (aCons (mLit (.int 1)) (aCons (mLit (.str [])) (aCons (mLit (.str [45])) (aCons (mLit (.str [49, 47, 50, 47, 51])) (aCons (mLit (.str [49, 47, 45, 50])) (aCons (mLit (.str [45, 48])) (aCons (mLit (.str [97])) (aCons (mTup (aCons (mLit (.int 1)) (aCons (mLit (.int 2)) aNil))) (aCons (mLit (.str [50, 47, 52])) (aCons (mLit (.str [48, 47, 53])) aNil)))))))))))) (aCons (mTup (aCons (mLit (.str [119, 111, 114, 100, 115])) (aCons (mUn (fun x _ => negD x) (mLit (.int 1))) aNil))) aNil)))))))))))))))
theorem ok_law {g__law_box : List D → Store → Res D} {g__law_take : List D → Store → Res D} {g__law_drawn : List D → Store → Res D} {g__law_sum : List D → Store → Res D} {g__law_is : List D → Store → Res D} {g_less : List D → Store → Res D} {g_plus : List D → Store → Res D} {g__law_fr : List D → Store → Res D} {g_times : List D → Store → Res D} {g_over : List D → Store → Res D} {g_is_less : List D → Store → Res D} {g_frac : List D → Store → Res D} {g__law_words : List D → Store → Res D} {g_read_frac : List D → Store → Res D} {g_frac_text : List D → Store → Res D} {h__law_error : Clo → List D → Store → Res D} {h__law_all : Clo → List D → Store → Res D} (Y : Kn P w K mg A) (G__law_box : FnOk P w K mg base (L2.CX P w) 1 A.a__law_box A.d__law_box ["script"] (spB ⟨K, mg⟩ T 1 g__law_box)) (G__law_take : FnOk P w K mg base (L2.CX P w) 1 A.a__law_take A.d__law_take ["box", "many"] (spB ⟨K, mg⟩ T 2 g__law_take)) (G__law_drawn : FnOk P w K mg base (L2.CX P w) 3 A.a__law_drawn A.d__law_drawn ["box"] (spB ⟨K, mg⟩ T 1 g__law_drawn)) (G__law_sum : FnOk P w K mg base (L2.CX P w) 3 A.a__law_sum A.d__law_sum ["one", "other"] (spB ⟨K, mg⟩ T 2 g__law_sum)) (G__law_is : FnOk P w K mg base (L2.CX P w) 8 A.a__law_is A.d__law_is ["told", "due"] (spB ⟨K, mg⟩ T 2 g__law_is)) (G_less : FnOk P w K mg base (L2.CX P w) 4 A.a_less A.d_less ["one", "other"] (spB ⟨K, mg⟩ T 2 g_less)) (G_plus : FnOk P w K mg base (L2.CX P w) 4 A.a_plus A.d_plus ["one", "other"] (spB ⟨K, mg⟩ T 2 g_plus)) (G__law_fr : FnOk P w K mg base (L2.CX P w) 2 A.a__law_fr A.d__law_fr ["upper", "lower"] (spB ⟨K, mg⟩ T 2 g__law_fr)) (G_times : FnOk P w K mg base (L2.CX P w) 4 A.a_times A.d_times ["one", "other"] (spB ⟨K, mg⟩ T 2 g_times)) (G_over : FnOk P w K mg base (L2.CX P w) 4 A.a_over A.d_over ["one", "other"] (spB ⟨K, mg⟩ T 2 g_over)) (G_is_less : FnOk P w K mg base (L2.CX P w) 4 A.a_is_less A.d_is_less ["one", "other"] (spB ⟨K, mg⟩ T 2 g_is_less)) (G_frac : FnOk P w K mg base (L2.CX P w) 2 A.a_frac A.d_frac ["upper", "lower"] (spB ⟨K, mg⟩ T 2 g_frac)) (G__law_words : FnOk P w K mg base (L2.CX P w) 1 A.a__law_words A.d__law_words ["one"] (spB ⟨K, mg⟩ T 1 g__law_words)) (G_read_frac : FnOk P w K mg base (L2.CX P w) 3 A.a_read_frac A.d_read_frac ["text"] (spB ⟨K, mg⟩ T 1 g_read_frac)) (G_frac_text : FnOk P w K mg base (L2.CX P w) 4 A.a_frac_text A.d_frac_text ["one"] (spB ⟨K, mg⟩ T 1 g_frac_text)) (H__law_error : FnC P w K mg base ⟨K, mg⟩ T 1 A.a__law_error A.d__law_error ["call"] h__law_error) (H__law_all : FnC P w K mg base ⟨K, mg⟩ T 9 A.a__law_all A.d__law_all ["ask", "some", "due"] h__law_all) (TB : TabB base mg A.ca_law A.ct_law) (hmT : (A.ct_law, lq "law") ∈ T) (huT : ∀ p ∈ T, p.1 = A.ct_law → p.2 = lq "law") : FnOk P w K mg base (L2.CX P w) (15 + 1) A.a_law A.d_law ["script"] (spB ⟨K, mg⟩ T 1 fun ds st => bodyR ((m_law g__law_box g__law_take g__law_drawn g__law_sum g__law_is g_less g_plus g__law_fr g_times g_over g_is_less g_frac g__law_words g_read_frac g_frac_text h__law_error h__law_all) (envE 13 (ds.map some)) st)) :=
  bwBC Y.f_law.fn sc_law (m_law g__law_box g__law_take g__law_drawn g__law_sum g__law_is g_less g_plus g__law_fr g_times g_over g_is_less g_frac g__law_words g_read_frac g_frac_text h__law_error h__law_all) fun AA S1 s H E z hr => by
    have tk := takes_of (X := cxOf (L2.CX P w) P w K mg base ["script", "box", "beyond", "turn", "one", "other", "factor", "due", "text", "bad", "bads", "ask", "great"] "law" (defScope s_law) A.a_law (.ref A.ca_law) AA S1 s H E) rfl rfl rfl rfl
    have hp := passes_of (X := cxOf (L2.CX P w) P w K mg base ["script", "box", "beyond", "turn", "one", "other", "factor", "due", "text", "bad", "bads", "ask", "great"] "law" (defScope s_law) A.a_law (.ref A.ca_law) AA S1 s H E) rfl
    unfold m_law
    exact (by refine ss_cons (s_par 1 2 rfl (a_cons (e_callM G__law_box (hr.mono (by omega)) Y.f__law_box.mg Y.f__law_box.kp Y.f__law_box.bd tk (a_cons (e_var 0) a_nil)) (a_cons (e_op o_pow (e_op o_pow e_int e_int) e_int) a_nil)) sc_law.nd) ?_; refine ss_cons (s_for hp rfl (i_rng1 Y.b_range (a_cons e_int a_nil)) (g_name 3 sc_law.nd) (by refine ss_cons (s_par3 4 5 6 rfl (a_cons (e_callM G__law_drawn (hr.mono (by omega)) Y.f__law_drawn.mg Y.f__law_drawn.kp Y.f__law_drawn.bd tk (a_cons (e_var 1) a_nil)) (a_cons (e_callM G__law_drawn (hr.mono (by omega)) Y.f__law_drawn.mg Y.f__law_drawn.kp Y.f__law_drawn.bd tk (a_cons (e_var 1) a_nil)) (a_cons (e_op (o_add rfl) e_int (e_callM G__law_take (hr.mono (by omega)) Y.f__law_take.mg Y.f__law_take.kp Y.f__law_take.bd tk (a_cons (e_var 1) (a_cons e_int a_nil)))) a_nil))) sc_law.nd) ?_; refine ss_cons (s_set 7 (e_callM G__law_sum (hr.mono (by omega)) Y.f__law_sum.mg Y.f__law_sum.kp Y.f__law_sum.bd tk (a_cons (e_var 4) (a_cons (e_var 5) a_nil))) sc_law.nd) ?_; refine ss_cons (s_if (t_not (t_val rfl (e_callM G__law_is (hr.mono (by omega)) Y.f__law_is.mg Y.f__law_is.kp Y.f__law_is.bd tk (a_cons (e_tup (a_cons (e_callM G_plus (hr.mono (by omega)) Y.f_plus.mg Y.f_plus.kp Y.f_plus.bd tk (a_cons (e_var 4) (a_cons (e_var 5) a_nil))) (a_cons (e_callW G_plus (hr.mono (by omega)) Y.f_plus.mg Y.f_plus.kp (Y.f_plus.kwAll fun _ _ _ _ _ _ us hl => match us, hl with | [_, _], _ => rfl) tk (kw_cons (e_var 5) (kw_cons (e_var 4) kw_nil))) (a_cons (e_callM G_less (hr.mono (by omega)) Y.f_less.mg Y.f_less.kp Y.f_less.bd tk (a_cons (e_var 7) (a_cons (e_var 5) a_nil))) (a_cons (e_callW G_less (hr.mono (by omega)) Y.f_less.mg Y.f_less.kp (Y.f_less.kwAll fun _ _ _ _ _ _ us hl => match us, hl with | [_, _], _ => rfl) tk (kw_cons (e_var 7) (kw_cons (e_var 4) kw_nil))) a_nil))))) (a_cons (e_tup (a_cons (e_var 7) (a_cons (e_var 7) (a_cons (e_var 4) (a_cons (e_var 5) a_nil))))) a_nil))))) (ss_one (s_ret e_bl)) ss_nil) ?_; refine ss_cons (s_set 7 (e_callM G__law_fr (hr.mono (by omega)) Y.f__law_fr.mg Y.f__law_fr.kp Y.f__law_fr.bd tk (a_cons (e_op (o_mul rfl) (e_idx rfl (e_var 4) e_int) (e_idx rfl (e_var 5) e_int)) (a_cons (e_op (o_mul rfl) (e_idx rfl (e_var 4) e_int) (e_idx rfl (e_var 5) e_int)) a_nil))) sc_law.nd) ?_; refine ss_cons (s_if (t_not (t_val rfl (e_callM G__law_is (hr.mono (by omega)) Y.f__law_is.mg Y.f__law_is.kp Y.f__law_is.bd tk (a_cons (e_tup (a_cons (e_callM G_times (hr.mono (by omega)) Y.f_times.mg Y.f_times.kp Y.f_times.bd tk (a_cons (e_var 4) (a_cons (e_var 5) a_nil))) (a_cons (e_callW G_times (hr.mono (by omega)) Y.f_times.mg Y.f_times.kp (Y.f_times.kwAll fun _ _ _ _ _ _ us hl => match us, hl with | [_, _], _ => rfl) tk (kw_cons (e_var 5) (kw_cons (e_var 4) kw_nil))) a_nil))) (a_cons (e_tup (a_cons (e_var 7) (a_cons (e_var 7) a_nil))) a_nil))))) (ss_one (s_ret e_bl)) ss_nil) ?_; refine ss_cons (s_if (PW.pt (t_and (t_cmp (o_ne rfl (u64 hr)) (e_idx rfl (e_var 5) e_int) e_int) (t_and1 (t_not (t_val rfl (e_callM G__law_is (hr.mono (by omega)) Y.f__law_is.mg Y.f__law_is.kp Y.f__law_is.bd tk (a_cons (e_tup (a_cons (e_callM G_over (hr.mono (by omega)) Y.f_over.mg Y.f_over.kp Y.f_over.bd tk (a_cons (e_var 7) (a_cons (e_var 5) a_nil))) (a_cons (e_callW G_over (hr.mono (by omega)) Y.f_over.mg Y.f_over.kp (Y.f_over.kwAll fun _ _ _ _ _ _ us hl => match us, hl with | [_, _], _ => rfl) tk (kw_cons (e_var 4) (kw_cons (e_var 5) kw_nil))) a_nil))) (a_cons (e_tup (a_cons (e_var 4) (a_cons (e_callM G__law_fr (hr.mono (by omega)) Y.f__law_fr.mg Y.f__law_fr.kp Y.f__law_fr.bd tk (a_cons (e_op (o_mul rfl) (e_idx rfl (e_var 4) e_int) (e_idx rfl (e_var 5) e_int)) (a_cons (e_op (o_mul rfl) (e_idx rfl (e_var 4) e_int) (e_idx rfl (e_var 5) e_int)) a_nil))) a_nil))) a_nil)))))))) (ss_one (s_ret e_bl)) ss_nil) ?_; refine ss_cons (s_if (t_not (t_val rfl (e_callM G__law_is (hr.mono (by omega)) Y.f__law_is.mg Y.f__law_is.kp Y.f__law_is.bd tk (a_cons (e_tup (a_cons (e_callM G_is_less (hr.mono (by omega)) Y.f_is_less.mg Y.f_is_less.kp Y.f_is_less.bd tk (a_cons (e_var 4) (a_cons (e_var 5) a_nil))) (a_cons (e_callW G_is_less (hr.mono (by omega)) Y.f_is_less.mg Y.f_is_less.kp (Y.f_is_less.kwAll fun _ _ _ _ _ _ us hl => match us, hl with | [_, _], _ => rfl) tk (kw_cons (e_var 5) (kw_cons (e_var 4) kw_nil))) a_nil))) (a_cons (e_tup (a_cons (e_cmp o_lt (e_op (o_mul rfl) (e_idx rfl (e_var 4) e_int) (e_idx rfl (e_var 5) e_int)) (e_op (o_mul rfl) (e_idx rfl (e_var 5) e_int) (e_idx rfl (e_var 4) e_int))) (a_cons (e_cmp o_lt (e_op (o_mul rfl) (e_idx rfl (e_var 5) e_int) (e_idx rfl (e_var 4) e_int)) (e_op (o_mul rfl) (e_idx rfl (e_var 4) e_int) (e_idx rfl (e_var 5) e_int))) a_nil))) a_nil))))) (ss_one (s_ret e_bl)) ss_nil) ?_; refine ss_cons (s_if (t_not (t_val rfl (e_callM G__law_is (hr.mono (by omega)) Y.f__law_is.mg Y.f__law_is.kp Y.f__law_is.bd tk (a_cons (e_tup (a_cons (e_callM G_frac (hr.mono (by omega)) Y.f_frac.mg Y.f_frac.kp Y.f_frac.bd tk (a_cons (e_op (o_mul rfl) (e_idx rfl (e_var 4) e_int) (e_var 6)) (a_cons (e_op (o_mul rfl) (e_idx rfl (e_var 4) e_int) (e_var 6)) a_nil))) (a_cons (e_callW G_frac (hr.mono (by omega)) Y.f_frac.mg Y.f_frac.kp (Y.f_frac.kwAll fun _ _ _ _ _ _ us hl => match us, hl with | [_, _], _ => rfl) tk (kw_cons (e_op (o_mul rfl) (e_neg (e_idx rfl (e_var 4) e_int)) (e_var 6)) (kw_cons (e_neg (e_idx rfl (e_var 4) e_int)) kw_nil))) a_nil))) (a_cons (e_tup (a_cons (e_var 4) (a_cons (e_callM G__law_fr (hr.mono (by omega)) Y.f__law_fr.mg Y.f__law_fr.kp Y.f__law_fr.bd tk (a_cons (e_op (o_mul rfl) (e_idx rfl (e_var 4) e_int) (e_var 6)) (a_cons (e_idx rfl (e_var 4) e_int) a_nil))) a_nil))) a_nil))))) (ss_one (s_ret e_bl)) ss_nil) ?_; refine ss_cons (s_set 8 (e_callM G__law_words (hr.mono (by omega)) Y.f__law_words.mg Y.f__law_words.kp Y.f__law_words.bd tk (a_cons (e_var 4) a_nil)) sc_law.nd) ?_; refine ss_cons (s_if (t_not (t_val rfl (e_callM G__law_is (hr.mono (by omega)) Y.f__law_is.mg Y.f__law_is.kp Y.f__law_is.bd tk (a_cons (e_tup (a_cons (e_callM G_frac_text (hr.mono (by omega)) Y.f_frac_text.mg Y.f_frac_text.kp Y.f_frac_text.bd tk (a_cons (e_var 4) a_nil)) (a_cons (e_callW G_frac_text (hr.mono (by omega)) Y.f_frac_text.mg Y.f_frac_text.kp (Y.f_frac_text.kwAll fun _ _ _ _ _ _ us hl => match us, hl with | [_], _ => rfl) tk (kw_cons (e_var 4) kw_nil)) (a_cons (e_callM G_read_frac (hr.mono (by omega)) Y.f_read_frac.mg Y.f_read_frac.kp Y.f_read_frac.bd tk (a_cons (e_var 8) a_nil)) (a_cons (e_callW G_read_frac (hr.mono (by omega)) Y.f_read_frac.mg Y.f_read_frac.kp (Y.f_read_frac.kwAll fun _ _ _ _ _ _ us hl => match us, hl with | [_], _ => rfl) tk (kw_cons (e_var 8) kw_nil)) a_nil))))) (a_cons (e_tup (a_cons (e_var 8) (a_cons (e_var 8) (a_cons (e_var 4) (a_cons (e_var 4) a_nil))))) a_nil))))) (ss_one (s_ret e_bl)) ss_nil) ?_; exact (ss_one (s_for hp rfl (i_val rfl (e_lst (a_cons1 (t := [43]) (o_add rfl) (e_var 8) (at_cons (pdt (e_op (o_add rfl) (e_str [32]) (e_var 8))) (at_cons (pdt (e_op (o_add rfl) (e_var 8) (e_str [32]))) (at_cons (pdt (e_op (o_add rfl) (e_str [48]) (e_var 8))) (at_cons (pdt (e_op (o_add rfl) (e_var 8) (e_str [47, 49]))) (at_cons (pdt (e_op (o_add rfl) (e_var 8) (e_str [47]))) (at_cons (pdt (e_op (o_add rfl) (e_str [47]) (e_var 8))) (at_cons (pdt (e_op (o_add rfl) (e_str [45, 45]) (e_var 8))) (at_cons (e_opT (o_add rfl) (e_rep 45 [] (pdt (e_var 8))) (pdt (e_str [47, 48]))) (at_cons (pdt (e_op (o_add rfl) (e_callM G__law_words (hr.mono (by omega)) Y.f__law_words.mg Y.f__law_words.kp Y.f__law_words.bd tk (a_cons (e_tup (a_cons e_int (a_cons e_int a_nil))) a_nil)) (e_str []))) at_nil)))))))))))) (g_name 9 sc_law.nd) (ss_one (s_if (PW.pt (t_and (t_cmp (o_ne rfl (u64 hr)) (e_var 9) (e_var 8)) (t_and1 (t_not (t_val rfl (e_callM G__law_is (hr.mono (by omega)) Y.f__law_is.mg Y.f__law_is.kp Y.f__law_is.bd tk (a_cons (e_lamB (kb := 5) H__law_error (hr.mono (by omega)) Y.f__law_error.mg Y.f__law_error.kp Y.f__law_error.bd tk TB rfl hmT huT (lamP_by (as := []) (sc := defScope s_law) (by decide +kernel)) lamB0f rfl rfl (show capt ["script", "box", "beyond", "turn", "one", "other", "factor", "due", "text", "bad", "bads", "ask", "great"] _ = _ by decide +kernel) (fun A1 outer1 s1 H1 E1 f1 c1 z1 hr hrc => (e_callM G_read_frac (hr.mono (by omega)) Y.f_read_frac.mg Y.f_read_frac.kp Y.f_read_frac.bd (takes_of rfl rfl rfl rfl) (a_cons (e_var 9) a_nil))) a_nil) (a_cons (e_tup (a_cons (e_str [119, 111, 114, 100, 115]) (a_cons (e_neg e_int) a_nil))) a_nil)))))))) (ss_one (s_ret e_bl)) ss_nil)))))) ?_; refine ss_cons (s_set 10 (e_lst (a_cons e_non (a_cons e_int (a_cons (e_tup (a_cons e_int a_nil)) (a_cons (e_tup (a_cons e_int (a_cons e_int a_nil))) (a_cons (e_tup (a_cons e_int (a_cons e_int a_nil))) (a_cons (e_tup (a_cons e_int (a_cons (e_neg e_int) a_nil))) (a_cons (e_lst (a_cons e_int (a_cons e_int a_nil))) (a_cons (e_tup (a_cons e_bl (a_cons e_int a_nil))) (a_cons (e_tup (a_cons e_int (a_cons e_bl a_nil))) (a_cons (e_tup (a_cons e_int (a_cons e_int a_nil))) (a_cons (e_tup (a_cons (e_str [49]) (a_cons e_int a_nil))) (a_cons (e_tup (a_cons e_int (a_cons e_int (a_cons e_int a_nil)))) (a_cons (e_tup (a_cons (e_var 2) (a_cons e_int a_nil))) (a_cons (e_tup (a_cons e_int (a_cons (e_var 2) a_nil))) a_nil))))))))))))))) sc_law.nd) ?_; refine ss_cons (s_forLL 11 hp rfl rfl (k_cons kfn_mon (pe_fnV Y.f_plus.mg) (k_cons kfn_mon (pe_fnV Y.f_less.mg) (k_cons kfn_mon (pe_fnV Y.f_times.mg) (k_cons kfn_mon (pe_fnV Y.f_over.mg) (k_cons kfn_mon (pe_fnV Y.f_is_less.mg) k_nil))))) sc_law.nd (HbL.cons kfn_mon (fun z1 f1 kn l1 => with_at (at_fn kn (fn_atF Y.f_plus.fn Y.f_plus.bd G_plus)) fun ho => (ss_one (s_if (PW.pt (t_or (t_not (t_val rfl (e_lamB (kb := 5) H__law_all (hr.mono (by omega)) Y.f__law_all.mg Y.f__law_all.kp Y.f__law_all.bd tk TB rfl hmT huT (lamP_by (as := ["bad"]) (sc := defScope s_law) (by decide +kernel)) lamB1f rfl rfl (show capt ["script", "box", "beyond", "turn", "one", "other", "factor", "due", "text", "bad", "bads", "ask", "great"] _ = _ by decide +kernel) (fun A1 outer1 s1 H1 E1 f1 c1 z1 hr hrc => (e_act 12 rfl (hrc _ _ _ ho) (hr.mono (by omega)) (takes_of rfl rfl rfl rfl) (a_cons (e_var 0) (a_cons e_non a_nil)))) (a_cons (e_var 10) (a_cons (e_tup (a_cons (e_str [102, 114, 97, 99, 116, 105, 111, 110]) (a_cons e_int a_nil))) a_nil))))) (t_or1 (t_not (t_val rfl (e_lamB (kb := 5) H__law_all (hr.mono (by omega)) Y.f__law_all.mg Y.f__law_all.kp Y.f__law_all.bd tk TB rfl hmT huT (lamP_by (as := ["other"]) (sc := defScope s_law) (by decide +kernel)) lamB1f rfl rfl (show capt ["script", "box", "beyond", "turn", "one", "other", "factor", "due", "text", "bad", "bads", "ask", "great"] _ = _ by decide +kernel) (fun A1 outer1 s1 H1 E1 f1 c1 z1 hr hrc => (e_act 12 rfl (hrc _ _ _ ho) (hr.mono (by omega)) (takes_of rfl rfl rfl rfl) (a_cons (e_tup (a_cons e_int (a_cons e_int a_nil))) (a_cons (e_var 0) a_nil)))) (a_cons (e_var 10) (a_cons (e_tup (a_cons (e_str [102, 114, 97, 99, 116, 105, 111, 110]) (a_cons e_int a_nil))) a_nil)))))))) (ss_one (s_ret e_bl)) ss_nil))) (HbL.cons kfn_mon (fun z1 f1 kn l1 => with_at (at_fn kn (fn_atF Y.f_less.fn Y.f_less.bd G_less)) fun ho => (ss_one (s_if (PW.pt (t_or (t_not (t_val rfl (e_lamB (kb := 5) H__law_all (hr.mono (by omega)) Y.f__law_all.mg Y.f__law_all.kp Y.f__law_all.bd tk TB rfl hmT huT (lamP_by (as := ["bad"]) (sc := defScope s_law) (by decide +kernel)) lamB1f rfl rfl (show capt ["script", "box", "beyond", "turn", "one", "other", "factor", "due", "text", "bad", "bads", "ask", "great"] _ = _ by decide +kernel) (fun A1 outer1 s1 H1 E1 f1 c1 z1 hr hrc => (e_act 12 rfl (hrc _ _ _ ho) (hr.mono (by omega)) (takes_of rfl rfl rfl rfl) (a_cons (e_var 0) (a_cons e_non a_nil)))) (a_cons (e_var 10) (a_cons (e_tup (a_cons (e_str [102, 114, 97, 99, 116, 105, 111, 110]) (a_cons e_int a_nil))) a_nil))))) (t_or1 (t_not (t_val rfl (e_lamB (kb := 5) H__law_all (hr.mono (by omega)) Y.f__law_all.mg Y.f__law_all.kp Y.f__law_all.bd tk TB rfl hmT huT (lamP_by (as := ["other"]) (sc := defScope s_law) (by decide +kernel)) lamB1f rfl rfl (show capt ["script", "box", "beyond", "turn", "one", "other", "factor", "due", "text", "bad", "bads", "ask", "great"] _ = _ by decide +kernel) (fun A1 outer1 s1 H1 E1 f1 c1 z1 hr hrc => (e_act 12 rfl (hrc _ _ _ ho) (hr.mono (by omega)) (takes_of rfl rfl rfl rfl) (a_cons (e_tup (a_cons e_int (a_cons e_int a_nil))) (a_cons (e_var 0) a_nil)))) (a_cons (e_var 10) (a_cons (e_tup (a_cons (e_str [102, 114, 97, 99, 116, 105, 111, 110]) (a_cons e_int a_nil))) a_nil)))))))) (ss_one (s_ret e_bl)) ss_nil))) (HbL.cons kfn_mon (fun z1 f1 kn l1 => with_at (at_fn kn (fn_atF Y.f_times.fn Y.f_times.bd G_times)) fun ho => (ss_one (s_if (PW.pt (t_or (t_not (t_val rfl (e_lamB (kb := 5) H__law_all (hr.mono (by omega)) Y.f__law_all.mg Y.f__law_all.kp Y.f__law_all.bd tk TB rfl hmT huT (lamP_by (as := ["bad"]) (sc := defScope s_law) (by decide +kernel)) lamB1f rfl rfl (show capt ["script", "box", "beyond", "turn", "one", "other", "factor", "due", "text", "bad", "bads", "ask", "great"] _ = _ by decide +kernel) (fun A1 outer1 s1 H1 E1 f1 c1 z1 hr hrc => (e_act 12 rfl (hrc _ _ _ ho) (hr.mono (by omega)) (takes_of rfl rfl rfl rfl) (a_cons (e_var 0) (a_cons e_non a_nil)))) (a_cons (e_var 10) (a_cons (e_tup (a_cons (e_str [102, 114, 97, 99, 116, 105, 111, 110]) (a_cons e_int a_nil))) a_nil))))) (t_or1 (t_not (t_val rfl (e_lamB (kb := 5) H__law_all (hr.mono (by omega)) Y.f__law_all.mg Y.f__law_all.kp Y.f__law_all.bd tk TB rfl hmT huT (lamP_by (as := ["other"]) (sc := defScope s_law) (by decide +kernel)) lamB1f rfl rfl (show capt ["script", "box", "beyond", "turn", "one", "other", "factor", "due", "text", "bad", "bads", "ask", "great"] _ = _ by decide +kernel) (fun A1 outer1 s1 H1 E1 f1 c1 z1 hr hrc => (e_act 12 rfl (hrc _ _ _ ho) (hr.mono (by omega)) (takes_of rfl rfl rfl rfl) (a_cons (e_tup (a_cons e_int (a_cons e_int a_nil))) (a_cons (e_var 0) a_nil)))) (a_cons (e_var 10) (a_cons (e_tup (a_cons (e_str [102, 114, 97, 99, 116, 105, 111, 110]) (a_cons e_int a_nil))) a_nil)))))))) (ss_one (s_ret e_bl)) ss_nil))) (HbL.cons kfn_mon (fun z1 f1 kn l1 => with_at (at_fn kn (fn_atF Y.f_over.fn Y.f_over.bd G_over)) fun ho => (ss_one (s_if (PW.pt (t_or (t_not (t_val rfl (e_lamB (kb := 5) H__law_all (hr.mono (by omega)) Y.f__law_all.mg Y.f__law_all.kp Y.f__law_all.bd tk TB rfl hmT huT (lamP_by (as := ["bad"]) (sc := defScope s_law) (by decide +kernel)) lamB1f rfl rfl (show capt ["script", "box", "beyond", "turn", "one", "other", "factor", "due", "text", "bad", "bads", "ask", "great"] _ = _ by decide +kernel) (fun A1 outer1 s1 H1 E1 f1 c1 z1 hr hrc => (e_act 12 rfl (hrc _ _ _ ho) (hr.mono (by omega)) (takes_of rfl rfl rfl rfl) (a_cons (e_var 0) (a_cons e_non a_nil)))) (a_cons (e_var 10) (a_cons (e_tup (a_cons (e_str [102, 114, 97, 99, 116, 105, 111, 110]) (a_cons e_int a_nil))) a_nil))))) (t_or1 (t_not (t_val rfl (e_lamB (kb := 5) H__law_all (hr.mono (by omega)) Y.f__law_all.mg Y.f__law_all.kp Y.f__law_all.bd tk TB rfl hmT huT (lamP_by (as := ["other"]) (sc := defScope s_law) (by decide +kernel)) lamB1f rfl rfl (show capt ["script", "box", "beyond", "turn", "one", "other", "factor", "due", "text", "bad", "bads", "ask", "great"] _ = _ by decide +kernel) (fun A1 outer1 s1 H1 E1 f1 c1 z1 hr hrc => (e_act 12 rfl (hrc _ _ _ ho) (hr.mono (by omega)) (takes_of rfl rfl rfl rfl) (a_cons (e_tup (a_cons e_int (a_cons e_int a_nil))) (a_cons (e_var 0) a_nil)))) (a_cons (e_var 10) (a_cons (e_tup (a_cons (e_str [102, 114, 97, 99, 116, 105, 111, 110]) (a_cons e_int a_nil))) a_nil)))))))) (ss_one (s_ret e_bl)) ss_nil))) (HbL.cons kfn_mon (fun z1 f1 kn l1 => with_at (at_fn kn (fn_atF Y.f_is_less.fn Y.f_is_less.bd G_is_less)) fun ho => (ss_one (s_if (PW.pt (t_or (t_not (t_val rfl (e_lamB (kb := 5) H__law_all (hr.mono (by omega)) Y.f__law_all.mg Y.f__law_all.kp Y.f__law_all.bd tk TB rfl hmT huT (lamP_by (as := ["bad"]) (sc := defScope s_law) (by decide +kernel)) lamB1f rfl rfl (show capt ["script", "box", "beyond", "turn", "one", "other", "factor", "due", "text", "bad", "bads", "ask", "great"] _ = _ by decide +kernel) (fun A1 outer1 s1 H1 E1 f1 c1 z1 hr hrc => (e_act 12 rfl (hrc _ _ _ ho) (hr.mono (by omega)) (takes_of rfl rfl rfl rfl) (a_cons (e_var 0) (a_cons e_non a_nil)))) (a_cons (e_var 10) (a_cons (e_tup (a_cons (e_str [102, 114, 97, 99, 116, 105, 111, 110]) (a_cons e_int a_nil))) a_nil))))) (t_or1 (t_not (t_val rfl (e_lamB (kb := 5) H__law_all (hr.mono (by omega)) Y.f__law_all.mg Y.f__law_all.kp Y.f__law_all.bd tk TB rfl hmT huT (lamP_by (as := ["other"]) (sc := defScope s_law) (by decide +kernel)) lamB1f rfl rfl (show capt ["script", "box", "beyond", "turn", "one", "other", "factor", "due", "text", "bad", "bads", "ask", "great"] _ = _ by decide +kernel) (fun A1 outer1 s1 H1 E1 f1 c1 z1 hr hrc => (e_act 12 rfl (hrc _ _ _ ho) (hr.mono (by omega)) (takes_of rfl rfl rfl rfl) (a_cons (e_tup (a_cons e_int (a_cons e_int a_nil))) (a_cons (e_var 0) a_nil)))) (a_cons (e_var 10) (a_cons (e_tup (a_cons (e_str [102, 114, 97, 99, 116, 105, 111, 110]) (a_cons e_int a_nil))) a_nil)))))))) (ss_one (s_ret e_bl)) ss_nil))) HbL.nil)))))) ?_; refine ss_cons (s_if (PW.pt (t_or (t_not (t_val rfl (e_lamB (kb := 5) H__law_all (hr.mono (by omega)) Y.f__law_all.mg Y.f__law_all.kp Y.f__law_all.bd tk TB rfl hmT huT (lamP_by (as := ["bad"]) (sc := defScope s_law) (by decide +kernel)) lamB1f rfl rfl (show capt ["script", "box", "beyond", "turn", "one", "other", "factor", "due", "text", "bad", "bads", "ask", "great"] _ = _ by decide +kernel) (fun A1 outer1 s1 H1 E1 f1 c1 z1 hr hrc => (e_callM G_frac_text (hr.mono (by omega)) Y.f_frac_text.mg Y.f_frac_text.kp Y.f_frac_text.bd (takes_of rfl rfl rfl rfl) (a_cons (e_var 0) a_nil))) (a_cons (e_var 10) (a_cons (e_tup (a_cons (e_str [102, 114, 97, 99, 116, 105, 111, 110]) (a_cons (e_neg e_int) a_nil))) a_nil))))) (t_or1 (t_not (t_val rfl (e_callM G__law_is (hr.mono (by omega)) Y.f__law_is.mg Y.f__law_is.kp Y.f__law_is.bd tk (a_cons (e_lamB (kb := 5) H__law_error (hr.mono (by omega)) Y.f__law_error.mg Y.f__law_error.kp Y.f__law_error.bd tk TB rfl hmT huT (lamP_by (as := []) (sc := defScope s_law) (by decide +kernel)) lamB0f rfl rfl (show capt ["script", "box", "beyond", "turn", "one", "other", "factor", "due", "text", "bad", "bads", "ask", "great"] _ = _ by decide +kernel) (fun A1 outer1 s1 H1 E1 f1 c1 z1 hr hrc => (e_callM G_over (hr.mono (by omega)) Y.f_over.mg Y.f_over.kp Y.f_over.bd (takes_of rfl rfl rfl rfl) (a_cons (e_tup (a_cons e_int (a_cons e_int a_nil))) (a_cons (e_tup (a_cons e_int (a_cons e_int a_nil))) a_nil)))) a_nil) (a_cons (e_tup (a_cons (e_str [114, 101, 102, 117, 115, 101, 100]) (a_cons (e_neg e_int) a_nil))) a_nil)))))))) (ss_one (s_ret e_bl)) ss_nil) ?_; refine ss_cons (s_if (t_not (t_val rfl (e_lamB (kb := 5) H__law_all (hr.mono (by omega)) Y.f__law_all.mg Y.f__law_all.kp Y.f__law_all.bd tk TB rfl hmT huT (lamP_by (as := ["bad"]) (sc := defScope s_law) (by decide +kernel)) lamB1f rfl rfl (show capt ["script", "box", "beyond", "turn", "one", "other", "factor", "due", "text", "bad", "bads", "ask", "great"] _ = _ by decide +kernel) (fun A1 outer1 s1 H1 E1 f1 c1 z1 hr hrc => (e_callM G_frac (hr.mono (by omega)) Y.f_frac.mg Y.f_frac.kp Y.f_frac.bd (takes_of rfl rfl rfl rfl) (a_cons (e_var 0) (a_cons e_non a_nil)))) (a_cons (e_lst (a_cons e_non (a_cons e_bl (a_cons (e_str [49]) (a_cons (e_var 2) (a_cons (e_neg (e_var 2)) a_nil)))))) (a_cons (e_tup (a_cons (e_str [102, 114, 97, 99, 116, 105, 111, 110]) (a_cons e_int a_nil))) a_nil))))) (ss_one (s_ret e_bl)) ss_nil) ?_; refine ss_cons (s_if (t_not (t_val rfl (e_lamB (kb := 5) H__law_all (hr.mono (by omega)) Y.f__law_all.mg Y.f__law_all.kp Y.f__law_all.bd tk TB rfl hmT huT (lamP_by (as := ["bad"]) (sc := defScope s_law) (by decide +kernel)) lamB1f rfl rfl (show capt ["script", "box", "beyond", "turn", "one", "other", "factor", "due", "text", "bad", "bads", "ask", "great"] _ = _ by decide +kernel) (fun A1 outer1 s1 H1 E1 f1 c1 z1 hr hrc => (e_callM G_frac (hr.mono (by omega)) Y.f_frac.mg Y.f_frac.kp Y.f_frac.bd (takes_of rfl rfl rfl rfl) (a_cons e_int (a_cons (e_var 0) a_nil)))) (a_cons (e_lst (a_cons e_non (a_cons e_bl (a_cons e_int (a_cons (e_var 2) (a_cons (e_neg (e_var 2)) a_nil)))))) (a_cons (e_tup (a_cons (e_str [102, 114, 97, 99, 116, 105, 111, 110]) (a_cons e_int a_nil))) a_nil))))) (ss_one (s_ret e_bl)) ss_nil) ?_; refine ss_cons (s_set 12 (e_op o_sub (e_var 2) e_int) sc_law.nd) ?_; refine ss_cons (s_if (t_not (t_val rfl (e_callM G__law_is (hr.mono (by omega)) Y.f__law_is.mg Y.f__law_is.kp Y.f__law_is.bd tk (a_cons (e_tup (a_cons (e_callM G_plus (hr.mono (by omega)) Y.f_plus.mg Y.f_plus.kp Y.f_plus.bd tk (a_cons (e_tup (a_cons (e_op o_sub (e_var 12) e_int) (a_cons e_int a_nil))) (a_cons (e_tup (a_cons e_int (a_cons e_int a_nil))) a_nil))) (a_cons (e_callM G_less (hr.mono (by omega)) Y.f_less.mg Y.f_less.kp Y.f_less.bd tk (a_cons (e_tup (a_cons (e_neg (e_var 12)) (a_cons e_int a_nil))) (a_cons (e_tup (a_cons (e_neg e_int) (a_cons e_int a_nil))) a_nil))) (a_cons (e_callM G_times (hr.mono (by omega)) Y.f_times.mg Y.f_times.kp Y.f_times.bd tk (a_cons (e_tup (a_cons (e_var 12) (a_cons e_int a_nil))) (a_cons (e_tup (a_cons e_int (a_cons (e_var 12) a_nil))) a_nil))) a_nil)))) (a_cons (e_tup (a_cons (e_tup (a_cons (e_var 12) (a_cons e_int a_nil))) (a_cons (e_tup (a_cons (e_op o_sub e_int (e_var 12)) (a_cons e_int a_nil))) (a_cons (e_tup (a_cons e_int (a_cons e_int a_nil))) a_nil)))) a_nil))))) (ss_one (s_ret e_bl)) ss_nil) ?_; refine ss_cons (s_forLL 11 hp rfl rfl (k_cons lamK_mon (pe_lamV (dn := false) TB rfl hmT huT (lamP_by (as := []) (sc := defScope s_law) (by decide +kernel)) rfl) (k_cons lamK_mon (pe_lamV (dn := true) TB rfl hmT huT (lamP_by (as := ["one"]) (sc := defScope s_law) (by decide +kernel)) ⟨_, _, rfl⟩) (k_cons lamK_mon (pe_lamV (dn := true) TB rfl hmT huT (lamP_by (as := ["two"]) (sc := defScope s_law) (by decide +kernel)) ⟨_, _, rfl⟩) (k_cons lamK_mon (pe_lamV (dn := true) TB rfl hmT huT (lamP_by (as := ["six"]) (sc := defScope s_law) (by decide +kernel)) ⟨_, _, rfl⟩) k_nil)))) sc_law.nd (HbL.cons lamK_mon (fun z1 f1 kn l1 => (ss_one (s_if (t_not (t_val rfl (e_callM G__law_is (hr.mono (by omega)) Y.f__law_is.mg Y.f__law_is.kp Y.f__law_is.bd tk (a_cons (e_passL (kb := 4) 11 rfl kn (lamP_by (as := []) (sc := defScope s_law) (by decide +kernel)) lamB0f (show capt ["script", "box", "beyond", "turn", "one", "other", "factor", "due", "text", "bad", "bads", "ask", "great"] _ = _ by decide +kernel) (fun A1 outer1 s1 H1 E1 f1 c1 z1 hr hrc => (e_callM G_plus (hr.mono (by omega)) Y.f_plus.mg Y.f_plus.kp Y.f_plus.bd (takes_of rfl rfl rfl rfl) (a_cons (e_tup (a_cons (e_var 12) (a_cons e_int a_nil))) (a_cons (e_tup (a_cons e_int (a_cons e_int a_nil))) a_nil)))) H__law_error (hr.mono (by omega)) Y.f__law_error.mg Y.f__law_error.kp Y.f__law_error.bd tk rfl a_nil) (a_cons (e_tup (a_cons (e_str [115, 105, 122, 101]) (a_cons (e_str [102, 105, 103, 117, 114, 101, 115]) a_nil))) a_nil))))) (ss_one (s_ret e_bl)) ss_nil))) (HbL.cons lamK_mon (fun z1 f1 kn l1 => (ss_one (s_if (t_not (t_val rfl (e_callM G__law_is (hr.mono (by omega)) Y.f__law_is.mg Y.f__law_is.kp Y.f__law_is.bd tk (a_cons (e_passL (kb := 4) 11 rfl kn (lamP_by (as := ["one"]) (sc := defScope s_law) (by decide +kernel)) lamB0t (show capt ["script", "box", "beyond", "turn", "one", "other", "factor", "due", "text", "bad", "bads", "ask", "great"] _ = _ by decide +kernel) (fun A1 outer1 s1 H1 E1 f1 c1 z1 hr hrc => (e_callM G_times (hr.mono (by omega)) Y.f_times.mg Y.f_times.kp Y.f_times.bd (takes_of rfl rfl rfl rfl) (a_cons (e_tup (a_cons e_int (a_cons (e_var 13) a_nil))) (a_cons (e_tup (a_cons e_int (a_cons e_int a_nil))) a_nil)))) H__law_error (hr.mono (by omega)) Y.f__law_error.mg Y.f__law_error.kp Y.f__law_error.bd tk rfl a_nil) (a_cons (e_tup (a_cons (e_str [115, 105, 122, 101]) (a_cons (e_str [102, 105, 103, 117, 114, 101, 115]) a_nil))) a_nil))))) (ss_one (s_ret e_bl)) ss_nil))) (HbL.cons lamK_mon (fun z1 f1 kn l1 => (ss_one (s_if (t_not (t_val rfl (e_callM G__law_is (hr.mono (by omega)) Y.f__law_is.mg Y.f__law_is.kp Y.f__law_is.bd tk (a_cons (e_passL (kb := 4) 11 rfl kn (lamP_by (as := ["two"]) (sc := defScope s_law) (by decide +kernel)) lamB0t (show capt ["script", "box", "beyond", "turn", "one", "other", "factor", "due", "text", "bad", "bads", "ask", "great"] _ = _ by decide +kernel) (fun A1 outer1 s1 H1 E1 f1 c1 z1 hr hrc => (e_callM G_over (hr.mono (by omega)) Y.f_over.mg Y.f_over.kp Y.f_over.bd (takes_of rfl rfl rfl rfl) (a_cons (e_tup (a_cons (e_var 13) (a_cons e_int a_nil))) (a_cons (e_tup (a_cons e_int (a_cons e_int a_nil))) a_nil)))) H__law_error (hr.mono (by omega)) Y.f__law_error.mg Y.f__law_error.kp Y.f__law_error.bd tk rfl a_nil) (a_cons (e_tup (a_cons (e_str [115, 105, 122, 101]) (a_cons (e_str [102, 105, 103, 117, 114, 101, 115]) a_nil))) a_nil))))) (ss_one (s_ret e_bl)) ss_nil))) (HbL.cons lamK_mon (fun z1 f1 kn l1 => (ss_one (s_if (t_not (t_val rfl (e_callM G__law_is (hr.mono (by omega)) Y.f__law_is.mg Y.f__law_is.kp Y.f__law_is.bd tk (a_cons (e_passL (kb := 4) 11 rfl kn (lamP_by (as := ["six"]) (sc := defScope s_law) (by decide +kernel)) lamB0t (show capt ["script", "box", "beyond", "turn", "one", "other", "factor", "due", "text", "bad", "bads", "ask", "great"] _ = _ by decide +kernel) (fun A1 outer1 s1 H1 E1 f1 c1 z1 hr hrc => (e_callM G_less (hr.mono (by omega)) Y.f_less.mg Y.f_less.kp Y.f_less.bd (takes_of rfl rfl rfl rfl) (a_cons (e_tup (a_cons e_int (a_cons (e_var 13) a_nil))) (a_cons (e_tup (a_cons e_int (a_cons (e_op o_sub (e_var 13) e_int) a_nil))) a_nil)))) H__law_error (hr.mono (by omega)) Y.f__law_error.mg Y.f__law_error.kp Y.f__law_error.bd tk rfl a_nil) (a_cons (e_tup (a_cons (e_str [115, 105, 122, 101]) (a_cons (e_str [102, 105, 103, 117, 114, 101, 115]) a_nil))) a_nil))))) (ss_one (s_ret e_bl)) ss_nil))) HbL.nil))))) ?_; refine ss_cons (s_if (PW.pt (t_or (t_not (t_val rfl (e_callM G__law_is (hr.mono (by omega)) Y.f__law_is.mg Y.f__law_is.kp Y.f__law_is.bd tk (a_cons (e_tup (a_cons (e_callM G_read_frac (hr.mono (by omega)) Y.f_read_frac.mg Y.f_read_frac.kp Y.f_read_frac.bd tk (a_cons (e_op (o_mul rfl) (e_str [57]) e_int) a_nil)) (a_cons (e_callM G_read_frac (hr.mono (by omega)) Y.f_read_frac.mg Y.f_read_frac.kp Y.f_read_frac.bd tk (a_cons (e_op (o_add rfl) (e_str [45, 49, 47]) (e_op (o_mul rfl) (e_str [57]) e_int)) a_nil)) a_nil))) (a_cons (e_tup (a_cons (e_tup (a_cons (e_var 12) (a_cons e_int a_nil))) (a_cons (e_tup (a_cons (e_neg e_int) (a_cons (e_var 12) a_nil))) a_nil))) a_nil))))) (t_or1 (t_not (t_val rfl (e_lamB (kb := 5) H__law_all (hr.mono (by omega)) Y.f__law_all.mg Y.f__law_all.kp Y.f__law_all.bd tk TB rfl hmT huT (lamP_by (as := ["text"]) (sc := defScope s_law) (by decide +kernel)) lamB1f rfl rfl (show capt ["script", "box", "beyond", "turn", "one", "other", "factor", "due", "text", "bad", "bads", "ask", "great"] _ = _ by decide +kernel) (fun A1 outer1 s1 H1 E1 f1 c1 z1 hr hrc => (e_callM G_read_frac (hr.mono (by omega)) Y.f_read_frac.mg Y.f_read_frac.kp Y.f_read_frac.bd (takes_of rfl rfl rfl rfl) (a_cons (e_var 0) a_nil))) (a_cons (e_lst (a_cons (e_op (o_mul rfl) (e_str [49]) e_int) (a_cons (e_op (o_add rfl) (e_str [49, 47]) (e_op (o_mul rfl) (e_str [55]) e_int)) a_nil))) (a_cons (e_tup (a_cons (e_str [119, 111, 114, 100, 115]) (a_cons (e_neg e_int) a_nil))) a_nil)))))))) (ss_one (s_ret e_bl)) ss_nil) ?_; exact (ss_one (s_ret (e_lamB (kb := 5) H__law_all (hr.mono (by omega)) Y.f__law_all.mg Y.f__law_all.kp Y.f__law_all.bd tk TB rfl hmT huT (lamP_by (as := ["value"]) (sc := defScope s_law) (by decide +kernel)) lamB1f rfl rfl (show capt ["script", "box", "beyond", "turn", "one", "other", "factor", "due", "text", "bad", "bads", "ask", "great"] _ = _ by decide +kernel) (fun A1 outer1 s1 H1 E1 f1 c1 z1 hr hrc => (e_callM G_read_frac (hr.mono (by omega)) Y.f_read_frac.mg Y.f_read_frac.kp Y.f_read_frac.bd (takes_of rfl rfl rfl rfl) (a_cons (e_var 0) a_nil))) (a_cons (e_lst (a_cons e_non (a_cons e_int (a_cons (e_str []) (a_cons (e_str [45]) (a_cons (e_str [49, 47, 50, 47, 51]) (a_cons (e_str [49, 47, 45, 50]) (a_cons (e_str [45, 48]) (a_cons (e_str [97]) (a_cons (e_tup (a_cons e_int (a_cons e_int a_nil))) (a_cons (e_str [50, 47, 52]) (a_cons (e_str [48, 47, 53]) a_nil)))))))))))) (a_cons (e_tup (a_cons (e_str [119, 111, 114, 100, 115]) (a_cons (e_neg e_int) a_nil))) a_nil))))))

end
end K02
set_option Elab.async false
set_option linter.all false
set_option autoImplicit false
set_option maxRecDepth 100000
set_option maxHeartbeats 4000000
namespace K02
open PySem PySem.Spec PyProof.Rows L2 Bw LamX
noncomputable def r_is_integer : List D → Store → Res D := fun ds st => bodyR (m_is_integer (envE 1 (ds.map some)) st)
noncomputable def r_is_paper_of : List D → Store → Res D := fun ds st => bodyR (m_is_paper_of (envE 2 (ds.map some)) st)
noncomputable def r_fr : List D → Store → Res D := fun ds st => bodyR (m_fr (envE 4 (ds.map some)) st)
noncomputable def r_added : List D → Store → Res D := fun ds st => bodyR (m_added r_fr (envE 2 (ds.map some)) st)
noncomputable def r_lessened : List D → Store → Res D := fun ds st => bodyR (m_lessened r_fr (envE 2 (ds.map some)) st)
noncomputable def r_multiplied : List D → Store → Res D := fun ds st => bodyR (m_multiplied r_fr (envE 2 (ds.map some)) st)
noncomputable def r_divided : List D → Store → Res D := fun ds st => bodyR (m_divided r_fr (envE 2 (ds.map some)) st)
noncomputable def r_lesser : List D → Store → Res D := fun ds st => bodyR (m_lesser (envE 2 (ds.map some)) st)
noncomputable def r_is_frac : List D → Store → Res D := fun ds st => bodyR (m_is_frac r_is_paper_of r_is_integer (envE 1 (ds.map some)) st)
noncomputable def r_need_frac : List D → Store → Res D := fun ds st => bodyR (m_need_frac r_is_frac (envE 2 (ds.map some)) st)
noncomputable def r_frac : List D → Store → Res D := fun ds st => bodyR (m_frac r_is_integer r_fr (envE 2 (ds.map some)) st)
noncomputable def r_plus : List D → Store → Res D := fun ds st => bodyR (m_plus r_added r_need_frac (envE 2 (ds.map some)) st)
noncomputable def r_less : List D → Store → Res D := fun ds st => bodyR (m_less r_lessened r_need_frac (envE 2 (ds.map some)) st)
noncomputable def r_times : List D → Store → Res D := fun ds st => bodyR (m_times r_multiplied r_need_frac (envE 2 (ds.map some)) st)
noncomputable def r_over : List D → Store → Res D := fun ds st => bodyR (m_over r_need_frac r_divided (envE 2 (ds.map some)) st)
noncomputable def r_is_less : List D → Store → Res D := fun ds st => bodyR (m_is_less r_lesser r_need_frac (envE 2 (ds.map some)) st)
noncomputable def r_text_of_frac : List D → Store → Res D := fun ds st => bodyR (m_text_of_frac (envE 1 (ds.map some)) st)
noncomputable def r_frac_text : List D → Store → Res D := fun ds st => bodyR (m_frac_text r_text_of_frac r_need_frac (envE 1 (ds.map some)) st)
noncomputable def r_is_tens : List D → Store → Res D := fun ds st => bodyR (m_is_tens (envE 2 (ds.map some)) st)
noncomputable def r_read_frac : List D → Store → Res D := fun ds st => bodyR (m_read_frac r_is_tens r_is_frac r_text_of_frac (envE 6 (ds.map some)) st)
noncomputable def r__law_box : List D → Store → Res D := fun ds st => bodyR (m__law_box (envE 6 (ds.map some)) st)
noncomputable def r__law_take : List D → Store → Res D := fun ds st => bodyR (m__law_take (envE 3 (ds.map some)) st)
noncomputable def r__law_pick : List D → Store → Res D := fun ds st => bodyR (m__law_pick r__law_take (envE 2 (ds.map some)) st)
noncomputable def r__law_is : Nat → List D → Store → Res D
  | 0 => fun _ _ => .no
  | k + 1 => fun ds st => bodyR (m__law_is (r__law_is k) (envE 4 (ds.map some)) st)
noncomputable def r__law_error : Clo → List D → Store → Res D := fun gc ds st => bodyR (m__law_error gc (envE 2 (some (.clo 0) :: ds.map some)) st)
noncomputable def r__law_all : Clo → List D → Store → Res D := fun gc ds st => bodyR (m__law_all (r__law_is 8) r__law_error gc (envE 4 (some (.clo 0) :: ds.map some)) st)
noncomputable def r__law_shared : List D → Store → Res D := fun ds st => bodyR (m__law_shared (envE 3 (ds.map some)) st)
noncomputable def r__law_fr : List D → Store → Res D := fun ds st => bodyR (m__law_fr r__law_shared (envE 3 (ds.map some)) st)
noncomputable def r__law_sum : List D → Store → Res D := fun ds st => bodyR (m__law_sum r__law_fr (envE 2 (ds.map some)) st)
noncomputable def r__law_drawn : List D → Store → Res D := fun ds st => bodyR (m__law_drawn r__law_pick r__law_fr r__law_take (envE 2 (ds.map some)) st)
noncomputable def r__law_words : List D → Store → Res D := fun ds st => bodyR (m__law_words (envE 1 (ds.map some)) st)
noncomputable def r_law : List D → Store → Res D := fun ds st => bodyR (m_law r__law_box r__law_take r__law_drawn r__law_sum (r__law_is 8) r_less r_plus r__law_fr r_times r_over r_is_less r_frac r__law_words r_read_frac r_frac_text r__law_error r__law_all (envE 13 (ds.map some)) st)
noncomputable abbrev gLaw := r_law
end K02
set_option Elab.async false
set_option linter.all false
set_option autoImplicit false
set_option maxRecDepth 100000
set_option maxHeartbeats 4000000
/-! Law k02, plain: texts of numbers and of fractions. -/
namespace K02
open Bw PySem.NumText
def dig (c : Nat) : Prop := 48 ≤ c ∧ c ≤ 57
/-- a number's figures -/
def dec (n : Nat) : List Nat := (Nat.toDigits 10 n).map Char.toNat
theorem decD_nat (n : Nat) : decD (n : Int) = dec n := PySem.W.KIN.signs_num n
theorem decD_neg (m : Nat) : decD (-((m + 1 : Nat) : Int)) = 45 :: dec (m + 1) := by
  show (PySem.Str.ofString (toString (Int.negSucc m))).cps.toList = _
  rw [PyProof.Rows.signs_ofString]
  show ("-" ++ Nat.repr (m + 1)).toList.map Char.toNat = _
  rw [String.toList_append, List.map_append, Nat.toList_repr]
  rfl
theorem dec_small {n : Nat} (h : n < 10) : dec n = [48 + n] := by
  unfold dec
  rw [Nat.toDigits_of_lt_base h]
  have : ∀ d : Nat, d < 10 → (Nat.digitChar d).toNat = 48 + d := by decide
  rw [List.map_cons, List.map_nil, this n h]
theorem dec_step {n : Nat} (h : 10 ≤ n) : dec n = dec (n / 10) ++ [48 + n % 10] := by
  have hm : n % 10 < 10 := Nat.mod_lt n (by decide)
  have t : Nat.toDigits 10 (n / 10) ++ Nat.toDigits 10 (n % 10) = Nat.toDigits 10 (10 * (n / 10) + n % 10) := Nat.toDigits_append_toDigits (by decide) (by omega) hm
  rw [Nat.div_add_mod] at t
  have e := dec_small hm
  unfold dec at *
  rw [← t, List.map_append, e]
theorem dec_dig (n : Nat) : ∀ c ∈ dec n, dig c := by
  induction n using Nat.strongRecOn with
  | _ n ih =>
    intro c hc
    by_cases h : n < 10
    · rw [dec_small h] at hc
      simp only [List.mem_singleton] at hc
      unfold dig; omega
    · rw [dec_step (by omega)] at hc
      rcases List.mem_append.mp hc with hc | hc
      · exact ih (n / 10) (by omega) c hc
      · simp only [List.mem_singleton] at hc
        unfold dig; omega
theorem dec_ne (n : Nat) : dec n ≠ [] := by
  by_cases h : n < 10
  · rw [dec_small h]; simp
  · rw [dec_step (by omega)]; simp
theorem dec_head {n : Nat} (h0 : 0 < n) : ∃ c r, dec n = c :: r ∧ 49 ≤ c ∧ c ≤ 57 := by
  induction n using Nat.strongRecOn with
  | _ n ih =>
    by_cases h : n < 10
    · exact ⟨48 + n, [], dec_small h, by omega, by omega⟩
    · obtain ⟨c, r, e, h1, h2⟩ := ih (n / 10) (by omega) (by omega)
      exact ⟨c, r ++ [48 + n % 10], by rw [dec_step (by omega), e]; rfl, h1, h2⟩
theorem dec_val (n : Nat) : digitsVal (dec n) = n := PySem.W.KIN.val_back n
theorem dec_inj {a b : Nat} (h : dec a = dec b) : a = b := by rw [← dec_val a, h, dec_val]
theorem dec_len {n k : Nat} (h : n < 10 ^ (k + 1)) : (dec n).length ≤ k + 1 := by
  induction k generalizing n with
  | zero => rw [dec_small (by simpa using h)]; simp
  | succ k ih =>
    by_cases h9 : n < 10
    · rw [dec_small h9]; simp
    · rw [dec_step (by omega), List.length_append, List.length_singleton]
      have : n / 10 < 10 ^ (k + 1) := by
        rw [Nat.div_lt_iff_lt_mul (by decide)]
        rw [Nat.pow_succ] at h
        exact h
      have := ih this
      omega
theorem val_lt : ∀ (s : List Nat), (∀ c ∈ s, dig c) → digitsVal s < 10 ^ s.length := by
  intro s h
  have key : ∀ (l : List Nat) (a k : Nat), (∀ c ∈ l, dig c) → a < 10 ^ k → l.foldl (fun acc c => acc * 10 + (c - 48)) a < 10 ^ (k + l.length) := by
    intro l
    induction l with
    | nil => intro a k _ ha; exact ha
    | cons c l ih =>
      intro a k hl ha
      have hc := hl c List.mem_cons_self
      have : a * 10 + (c - 48) < 10 ^ (k + 1) := by
        rw [Nat.pow_succ]
        unfold dig at hc
        omega
      have := ih _ (k + 1) (fun d hd => hl d (List.mem_cons_of_mem _ hd)) this
      rw [List.foldl_cons, List.length_cons, show k + (l.length + 1) = k + 1 + l.length by omega]
      exact this
  have := key s 0 0 h (by decide)
  rw [Nat.zero_add] at this
  exact this
/-- figures without noughts ahead stand for their number -/
theorem dec_of {s : List Nat} (h : ∀ c ∈ s, dig c) (h1 : s = [48] ∨ ∃ c r, s = c :: r ∧ 49 ≤ c) : dec (digitsVal s) = s := by
  have hne : s ≠ [] := by rcases h1 with rfl | ⟨c, r, rfl, _⟩ <;> simp
  obtain ⟨k, hk⟩ : ∃ k, s.length = k + 1 := ⟨s.length - 1, by have := List.length_pos_iff.mpr hne; omega⟩
  have back : (s.map Char.ofNat).map Char.toNat = s := by
    rw [List.map_map]
    have : ∀ c ∈ s, (Char.toNat ∘ Char.ofNat) c = c := fun c hc => by
      have := h c hc
      unfold dig at this
      have key : ∀ d : Nat, d < 10 → (Char.ofNat (48 + d)).toNat = 48 + d := by decide
      have := key (c - 48) (by omega)
      rw [show 48 + (c - 48) = c by omega] at this
      exact this
    exact (List.map_congr_left this).trans (List.map_id' s)
  rcases h1 with rfl | h1
  · decide
  · unfold dec
    rw [toDigits_digitsVal k s hk h (.inr h1), back]
/-- a fraction's text -/
def tx (a b : Int) : List Nat := decD a ++ (if b = 1 then [] else 47 :: decD b)
/-- figures, of a number that is told with a sign -/
def sgn (s : List Nat) : Int := match s with
  | 45 :: r => -((digitsVal r : Nat) : Int)
  | _ => ((digitsVal s : Nat) : Int)
def bare (s : List Nat) : List Nat := match s with
  | 45 :: r => r
  | _ => s
def digB (c : Nat) : Bool := decide (48 ≤ c) && decide (c ≤ 57)
def tens (s : List Nat) : Bool := decide (1 ≤ s.length ∧ s.length ≤ 3000) && s.all digB && (decide (s = [48]) || decide (s.head? ≠ some 48))
theorem tens_iff {s : List Nat} (h : tens s = true) : (∀ c ∈ s, dig c) ∧ s ≠ [] ∧ s.length ≤ 3000 ∧ (s = [48] ∨ ∃ c r, s = c :: r ∧ 49 ≤ c) := by
  unfold tens at h
  rw [Bool.and_eq_true, Bool.and_eq_true, decide_eq_true_eq, List.all_eq_true, Bool.or_eq_true, decide_eq_true_eq, decide_eq_true_eq] at h
  obtain ⟨⟨h1, h2⟩, h3⟩ := h
  have hd : ∀ c ∈ s, dig c := fun c hc => by
    have := h2 c hc
    unfold digB at this
    rw [Bool.and_eq_true, decide_eq_true_eq, decide_eq_true_eq] at this
    exact this
  have hne : s ≠ [] := by rintro rfl; simp at h1
  refine ⟨hd, hne, h1.2, ?_⟩
  rcases h3 with h3 | h3
  · exact .inl h3
  · cases s with
    | nil => exact absurd rfl hne
    | cons c r =>
      have := hd c List.mem_cons_self
      unfold dig at this
      have h4 : c ≠ 48 := fun e => h3 (by rw [e]; rfl)
      exact .inr ⟨c, r, rfl, by omega⟩
theorem tens_dec {n : Nat} (h : n < 10 ^ 3000) : tens (dec n) = true := by
  have l := dec_len (k := 2999) h
  unfold tens
  rw [Bool.and_eq_true, Bool.and_eq_true, decide_eq_true_eq, List.all_eq_true, Bool.or_eq_true, decide_eq_true_eq, decide_eq_true_eq]
  refine ⟨⟨⟨?_, l⟩, fun c hc => ?_⟩, ?_⟩
  · exact List.length_pos_iff.mpr (dec_ne n)
  · have := dec_dig n c hc
    unfold dig at this
    unfold digB
    rw [Bool.and_eq_true, decide_eq_true_eq, decide_eq_true_eq]
    exact this
  · by_cases h0 : n = 0
    · left; rw [h0]; decide
    · right
      obtain ⟨c, r, e, h1, _⟩ := dec_head (show 0 < n by omega)
      rw [e]
      show some c ≠ some 48
      intro q
      have := Option.some.inj q
      omega
/-- what is read from a text: the pair, if it has the form -/
def rd (s : List Nat) : Option (Int × Int) := match TL.par [47] [] s with
  | some (u, l) => if tens (bare u) && tens l then some (sgn u, ((digitsVal l : Nat) : Int)) else none
  | none => if tens (bare s) then some (sgn s, 1) else none
/-! ### which texts a fraction has -/
theorem decD_cases (a : Int) : (∃ n : Nat, a = n ∧ decD a = dec n) ∨ ∃ n : Nat, a = -((n + 1 : Nat) : Int) ∧ decD a = 45 :: dec (n + 1) := by
  cases a with
  | ofNat n => exact .inl ⟨n, rfl, decD_nat n⟩
  | negSucc n => exact .inr ⟨n, rfl, decD_neg n⟩
theorem no47 (n : Nat) : 47 ∉ dec n := fun h => by have := dec_dig n 47 h; unfold dig at this; omega
theorem no47D (a : Int) : 47 ∉ decD a := by
  rcases decD_cases a with ⟨n, _, e⟩ | ⟨n, _, e⟩
  · rw [e]; exact no47 n
  · rw [e]
    intro h
    rcases List.mem_cons.mp h with h | h
    · omega
    · exact no47 _ h
/-- a fraction's text is read back -/
theorem rd_tx {a : Int} {b : Nat} (ha : a.natAbs < 10 ^ 3000) (hb : b < 10 ^ 3000) (hb0 : 0 < b) : rd (tx a b) = some (a, (b : Int)) := by
  have hA : tens (bare (decD a)) = true ∧ sgn (decD a) = a := by
    rcases decD_cases a with ⟨n, rfl, e⟩ | ⟨n, rfl, e⟩
    · rw [e]
      have hd := dec_dig n
      have hne := dec_ne n
      have hx : ∀ (s : List Nat), (∀ c ∈ s, dig c) → bare s = s ∧ sgn s = ((digitsVal s : Nat) : Int) := by
        intro s hs
        unfold bare sgn
        split
        · have := hs 45 List.mem_cons_self
          unfold dig at this
          omega
        · exact ⟨rfl, rfl⟩
      obtain ⟨h1, h2⟩ := hx _ hd
      rw [h1, h2, dec_val]
      exact ⟨tens_dec (by simpa using ha), rfl⟩
    · rw [e]
      refine ⟨tens_dec (by omega), ?_⟩
      show -((digitsVal (dec (n + 1)) : Nat) : Int) = _
      rw [dec_val]
  unfold rd tx
  by_cases h1 : (b : Int) = 1
  · rw [if_pos h1, List.append_nil, TL.par_none1 (no47D a)]
    dsimp only
    rw [if_pos hA.1, hA.2, h1]
  · rw [if_neg h1]
    have e := TL.par_part1 (s := 47) (S := []) (p := decD a) (rest := decD (b : Int)) (acc := []) (no47D a)
    rw [List.nil_append] at e
    have e2 : decD a ++ 47 :: decD (b : Int) = decD a ++ (47 :: [] ++ decD (b : Int)) := rfl
    rw [e2, e]
    dsimp only
    rw [decD_nat, dec_val, if_pos (by rw [hA.1, tens_dec hb]; rfl), hA.2]
end K02
set_option Elab.async false
set_option linter.all false
set_option autoImplicit false
set_option maxRecDepth 100000
set_option maxHeartbeats 4000000
/-! Law k02, plain: texts that no fraction has. -/
namespace K02
open Bw PySem.NumText
def IsTx (s : List Nat) : Prop := ∃ (a : Int) (b : Nat), 0 < b ∧ Nat.gcd a.natAbs b = 1 ∧ s = tx a b
theorem decD_chars (a : Int) : ∀ c ∈ decD a, dig c ∨ c = 45 := by
  intro c hc
  rcases decD_cases a with ⟨n, _, e⟩ | ⟨n, _, e⟩
  · rw [e] at hc; exact .inl (dec_dig n c hc)
  · rw [e] at hc
    rcases List.mem_cons.mp hc with h | h
    · exact .inr h
    · exact .inl (dec_dig _ c h)
theorem tx_chars {a : Int} {b : Nat} : ∀ c ∈ tx a b, dig c ∨ c = 45 ∨ c = 47 := by
  intro c hc
  unfold tx at hc
  rcases List.mem_append.mp hc with h | h
  · rcases decD_chars a c h with h | h
    · exact .inl h
    · exact .inr (.inl h)
  · split at h
    · cases h
    · rcases List.mem_cons.mp h with h | h
      · exact .inr (.inr h)
      · rw [decD_nat] at h
        exact .inl (dec_dig b c h)
theorem no_char {s : List Nat} {c : Nat} (hc : c ∈ s) (h1 : ¬ dig c) (h2 : c ≠ 45) (h3 : c ≠ 47) : ¬ IsTx s := by
  rintro ⟨a, b, _, _, rfl⟩
  rcases tx_chars c hc with h | h | h
  · exact h1 h
  · exact h2 h
  · exact h3 h
theorem decD_ne (a : Int) : decD a ≠ [] := by
  rcases decD_cases a with ⟨n, _, e⟩ | ⟨n, _, e⟩
  · rw [e]; exact dec_ne n
  · rw [e]; simp
/-- how a number's text begins -/
theorem decD_head (a : Int) : (a = 0 ∧ decD a = [48]) ∨ (∃ c r, decD a = c :: r ∧ 49 ≤ c ∧ c ≤ 57 ∧ ∀ x ∈ r, dig x) ∨ ∃ c r, decD a = 45 :: c :: r ∧ 49 ≤ c ∧ c ≤ 57 ∧ ∀ x ∈ r, dig x := by
  rcases decD_cases a with ⟨n, h, e⟩ | ⟨n, h, e⟩
  · by_cases h0 : n = 0
    · subst h0
      exact .inl ⟨h, e⟩
    · obtain ⟨c, r, e2, h1, h2⟩ := dec_head (show 0 < n by omega)
      refine .inr (.inl ⟨c, r, by rw [e, e2], h1, h2, fun x hx => dec_dig n x (by rw [e2]; exact List.mem_cons_of_mem _ hx)⟩)
  · obtain ⟨c, r, e2, h1, h2⟩ := dec_head (show 0 < n + 1 by omega)
    exact .inr (.inr ⟨c, r, by rw [e, e2], h1, h2, fun x hx => dec_dig (n + 1) x (by rw [e2]; exact List.mem_cons_of_mem _ hx)⟩)
theorem tx_head (a : Int) (b : Nat) : ∃ c r, tx a b = c :: r ∧ (dig c ∨ c = 45) := by
  have hc := decD_chars a
  unfold tx
  cases e : decD a with
  | nil => exact absurd e (decD_ne a)
  | cons c r =>
    rw [e] at hc
    exact ⟨c, _, rfl, hc c List.mem_cons_self⟩
/-- where the first stroke stands -/
theorem cut47 {p q x y : List Nat} (hp : 47 ∉ p) (hx : 47 ∉ x) (h : p ++ 47 :: q = x ++ 47 :: y) : p = x ∧ q = y := by
  induction p generalizing x with
  | nil =>
    cases x with
    | nil => exact ⟨rfl, by simpa using h⟩
    | cons c x =>
      simp only [List.nil_append, List.cons_append, List.cons.injEq] at h
      exact absurd (by rw [← h.1]; exact List.mem_cons_self) hx
  | cons c p ih =>
    cases x with
    | nil =>
      simp only [List.nil_append, List.cons_append, List.cons.injEq] at h
      exact absurd (by rw [h.1]; exact List.mem_cons_self) hp
    | cons d x =>
      simp only [List.cons_append, List.cons.injEq] at h
      obtain ⟨e1, e2⟩ := ih (fun z => hp (List.mem_cons_of_mem _ z)) (fun z => hx (List.mem_cons_of_mem _ z)) h.2
      exact ⟨by rw [h.1, e1], e2⟩
/-- a text with a stroke is a fraction's only if what stands behind it is a number above 1 -/
theorem tx_cut {p q : List Nat} (hp : 47 ∉ p) (h : IsTx (p ++ 47 :: q)) : ∃ (a : Int) (b : Nat), 1 < b ∧ Nat.gcd a.natAbs b = 1 ∧ p = decD a ∧ q = dec b := by
  obtain ⟨a, b, hb, hg, e⟩ := h
  unfold tx at e
  by_cases h1 : (b : Int) = 1
  · rw [if_pos h1, List.append_nil] at e
    exact absurd (by rw [← e]; simp) (no47D a)
  · rw [if_neg h1] at e
    obtain ⟨e1, e2⟩ := cut47 hp (no47D a) e
    rw [decD_nat] at e2
    exact ⟨a, b, by omega, hg, e1, e2⟩
section
variable {a : Int} {b : Nat}
/-- a fraction's text, in its two forms -/
theorem tx_forms (a : Int) (b : Nat) : tx a b = decD a ∨ tx a b = decD a ++ 47 :: dec b := by
  unfold tx
  split
  · exact .inl (List.append_nil _)
  · rw [decD_nat]; exact .inr rfl
theorem bad_plus : ¬ IsTx (43 :: tx a b) := no_char List.mem_cons_self (by unfold dig; omega) (by omega) (by omega)
theorem bad_gap : ¬ IsTx (32 :: tx a b) := no_char List.mem_cons_self (by unfold dig; omega) (by omega) (by omega)
theorem bad_gap2 : ¬ IsTx (tx a b ++ [32]) := no_char (List.mem_append_right _ List.mem_cons_self) (by unfold dig; omega) (by omega) (by omega)
theorem bad_nought : ¬ IsTx (48 :: tx a b) := by
  rintro ⟨a', b', hb, hg, e⟩
  obtain ⟨c, r, e2, hc⟩ := tx_head a b
  rw [e2] at e
  rcases decD_head a' with ⟨_, h⟩ | ⟨c', r', h, h1, h2, _⟩ | ⟨c', r', h, _⟩
  · unfold tx at e
    rw [h] at e
    split at e
    · simp at e
    · simp only [List.cons_append, List.nil_append, List.cons.injEq] at e
      unfold dig at hc
      omega
  · unfold tx at e
    rw [h] at e
    simp only [List.cons_append, List.cons.injEq] at e
    omega
  · unfold tx at e
    rw [h] at e
    simp only [List.cons_append, List.cons.injEq] at e
    omega
theorem bad_one : ¬ IsTx (tx a b ++ [47, 49]) := by
  intro h
  rcases tx_forms a b with e | e
  · rw [e] at h
    obtain ⟨a', b', hb, _, _, e2⟩ := tx_cut (no47D a) h
    have : dec 1 = [49] := by decide
    rw [← this] at e2
    have := dec_inj e2
    omega
  · rw [e, List.append_assoc, List.cons_append] at h
    obtain ⟨a', b', hb, _, _, e2⟩ := tx_cut (no47D a) h
    exact no47 b' (by rw [← e2]; simp)
theorem bad_stroke : ¬ IsTx (tx a b ++ [47]) := by
  intro h
  rcases tx_forms a b with e | e
  · rw [e] at h
    obtain ⟨a', b', hb, _, _, e2⟩ := tx_cut (no47D a) h
    exact dec_ne b' e2.symm
  · rw [e, List.append_assoc, List.cons_append] at h
    obtain ⟨a', b', hb, _, _, e2⟩ := tx_cut (no47D a) h
    exact no47 b' (by rw [← e2]; simp)
theorem bad_stroke2 : ¬ IsTx (47 :: tx a b) := by
  intro h
  obtain ⟨a', b', hb, _, e1, _⟩ := tx_cut (p := []) (by simp) h
  exact decD_ne a' e1.symm
theorem bad_minus : ¬ IsTx (45 :: 45 :: tx a b) := by
  rintro ⟨a', b', hb, hg, e⟩
  rcases decD_head a' with ⟨_, h⟩ | ⟨c', r', h, h1, h2, _⟩ | ⟨c', r', h, h1, h2, _⟩
  · unfold tx at e
    rw [h] at e
    simp only [List.cons_append, List.cons.injEq] at e
    omega
  · unfold tx at e
    rw [h] at e
    simp only [List.cons_append, List.cons.injEq] at e
    omega
  · unfold tx at e
    rw [h] at e
    simp only [List.cons_append, List.cons.injEq] at e
    omega
/-- without its sign -/
theorem bad_over0 {p : List Nat} (hp : 47 ∉ p) : ¬ IsTx (p ++ [47, 48]) := by
  intro h
  obtain ⟨a', b', hb, _, _, e2⟩ := tx_cut hp h
  have : dec 0 = [48] := by decide
  rw [← this] at e2
  have := dec_inj e2
  omega
theorem bad_over02 {p q : List Nat} (hp : 47 ∉ p) : ¬ IsTx (p ++ 47 :: (q ++ [47, 48])) := by
  intro h
  obtain ⟨a', b', hb, _, _, e2⟩ := tx_cut hp h
  exact no47 b' (by rw [← e2]; simp)
end
end K02
set_option Elab.async false
set_option linter.all false
set_option autoImplicit false
set_option maxRecDepth 100000
set_option maxHeartbeats 4000000
/-! Law k02, plain: fractions, the program's functions. -/
namespace K02
open Bw
theorem bey : (2 : Int) ^ 9000 ≤ k_BEYOND := by decide +kernel
theorem bey2 {n : Nat} (h : n ≤ 9000) : ((2 ^ n : Nat) : Int) ≤ k_BEYOND := by
  have h1 : (2 : Nat) ^ n ≤ 2 ^ 9000 := Nat.pow_le_pow_right (by decide) h
  have h2 : ((2 ^ 9000 : Nat) : Int) = (2 : Int) ^ 9000 := by rw [Int.natCast_pow]; rfl
  have h3 : ((2 ^ n : Nat) : Int) ≤ ((2 ^ 9000 : Nat) : Int) := Int.ofNat_le.mpr h1
  rw [h2] at h3
  exact Int.le_trans h3 bey
theorem F : FrOk 9000 r_fr := frOk_fr bey
theorem shared (a b : Nat) (st : Store) (h : b < 2 ^ 9000) : r__law_shared [.int (a : Int), .int (b : Int)] st = .ok (.int ((Nat.gcd a b : Nat) : Int)) st := shared_ok h
theorem LF : FrOk 9000 r__law_fr := frOk_lfr shared
theorem isint1 (d : D) (st : Store) (h : plD d = true) : r_is_integer [d] st = .ok (.bl (intD d)) st := isint_ok h st
theorem ispap1 (d : D) (i : Int) (st : Store) (h : plD d = true) : r_is_paper_of [d, .int i] st = .ok (.bl (papD i d)) st := ispap_ok h st
/-- pairs of plain values, or no pairs -/
def plF (d : D) : Prop := plD d = true ∧ ∀ a b, d = .tup [a, b] → plD a = true ∧ plD b = true
theorem isfr1 {d : D} (h : plF d) (st : Store) : r_is_frac [d] st = .ok (.bl (frD k_BEYOND d)) st := isfrac_ok (fun d st h => ispap1 d 2 st h) isint1 h.1 h.2 st
/-- a pair of integers -/
abbrev P (u l : Int) : D := .tup [.int u, .int l]
theorem plF_P (u l : Int) : plF (P u l) := ⟨rfl, fun a b e => by cases e; exact ⟨rfl, rfl⟩⟩
theorem plF_fd (q : Rat) : plF (fd q) := plF_P _ _
def eAt (cls : String) (i : Int) : Er := ⟨cls, [("at", .int i)]⟩
def eSize : Er := ⟨"InvalidSize", [("word", .str [102, 105, 103, 117, 114, 101, 115])]⟩
theorem bodyR_ret (x : Res D) (ρ : Env) : bodyR (sBind x ρ fun d st => .rt d st) = x := by cases x <;> rfl
theorem need1 {d : D} (h : plF d) (i : Int) (st : Store) : r_need_frac [d, .int i] st = if frD k_BEYOND d = true then .ok d st else .er (eAt "InvalidFraction" i) st := by
  have f := isfr1 h st
  have v := plD_v h.1 st
  have e0 : envE 2 ([d, .int i].map some) = [some d, some (.int i)] := rfl
  show bodyR (m_need_frac r_is_frac (envE 2 ([d, .int i].map some)) st) = _
  rw [e0]
  unfold m_need_frac
  cases hf : frD k_BEYOND d with
  | true => rw [hf] at f; simp [x_var, v, f, truD]
  | false => rw [hf] at f; simp [x_var, v, f, truD, eAt]
theorem fr1 {u l : Int} (st : Store) (hl : l ≠ 0) (h1 : divOk u (sg u l) = true) (h2 : divOk l (sg u l) = true) :
    r_fr [.int u, .int l] st = if ((Rat.divInt u l).num.natAbs : Int) < k_BEYOND ∧ ((Rat.divInt u l).den : Int) < k_BEYOND then .ok (fd (Rat.divInt u l)) st else .er eSize st := by
  by_cases h : ((Rat.divInt u l).num.natAbs : Int) < k_BEYOND ∧ ((Rat.divInt u l).den : Int) < k_BEYOND
  · rw [if_pos h]; exact fr_ok hl h1 h2 h.1 h.2
  · rw [if_neg h]; exact fr_big hl h1 h2 h
section
variable {u l u' l' : Int} (st : Store)
theorem pi0 (a b : Int) : idxD (P a b) (.int 0) st = some (.int a) := rfl
theorem pi1 (a b : Int) : idxD (P a b) (.int 1) st = some (.int b) := rfl
theorem addedx (m1 : mulOk u l' = true) (m2 : mulOk u' l = true) (m3 : mulOk l l' = true) : r_added [P u l, P u' l'] st = r_fr [.int (u * l' + u' * l), .int (l * l')] st := by
  have e0 : envE 2 ([P u l, P u' l'].map some) = [some (P u l), some (P u' l')] := rfl
  show bodyR (m_added r_fr (envE 2 ([P u l, P u' l'].map some)) st) = _
  rw [e0]
  unfold m_added
  simp only [x_ret, x_call, x_cons, x_op, x_var, List.getElem?_cons_zero, List.getElem?_cons_succ, vOf_tup, bind_ok, x_op1, x_lit, x_op2, pi0, pi1, x_ofS, x_nil, x_cons1, x_cons2, mulD, m1, m2, m3, if_true, w_mul, w_add, w_addi, w_sub, w_subi, List.length_cons, List.length_nil, Nat.zero_add, Nat.reduceAdd, bodyR_ret]
theorem lessenedx (m1 : mulOk u l' = true) (m2 : mulOk u' l = true) (m3 : mulOk l l' = true) : r_lessened [P u l, P u' l'] st = r_fr [.int (u * l' - u' * l), .int (l * l')] st := by
  have e0 : envE 2 ([P u l, P u' l'].map some) = [some (P u l), some (P u' l')] := rfl
  show bodyR (m_lessened r_fr (envE 2 ([P u l, P u' l'].map some)) st) = _
  rw [e0]
  unfold m_lessened
  simp only [x_ret, x_call, x_cons, x_op, x_var, List.getElem?_cons_zero, List.getElem?_cons_succ, vOf_tup, bind_ok, x_op1, x_lit, x_op2, pi0, pi1, x_ofS, x_nil, x_cons1, x_cons2, mulD, m1, m2, m3, if_true, w_mul, w_add, w_addi, w_sub, w_subi, List.length_cons, List.length_nil, Nat.zero_add, Nat.reduceAdd, bodyR_ret]
theorem multipliedx (m1 : mulOk u u' = true) (m3 : mulOk l l' = true) : r_multiplied [P u l, P u' l'] st = r_fr [.int (u * u'), .int (l * l')] st := by
  have e0 : envE 2 ([P u l, P u' l'].map some) = [some (P u l), some (P u' l')] := rfl
  show bodyR (m_multiplied r_fr (envE 2 ([P u l, P u' l'].map some)) st) = _
  rw [e0]
  unfold m_multiplied
  simp only [x_ret, x_call, x_cons, x_op, x_var, List.getElem?_cons_zero, List.getElem?_cons_succ, vOf_tup, bind_ok, x_op1, x_lit, x_op2, pi0, pi1, x_ofS, x_nil, x_cons1, x_cons2, mulD, m1, m3, if_true, w_mul, w_add, w_addi, w_sub, w_subi, List.length_cons, List.length_nil, Nat.zero_add, Nat.reduceAdd, bodyR_ret]
theorem dividedx (m1 : mulOk u l' = true) (m2 : mulOk l u' = true) : r_divided [P u l, P u' l'] st = r_fr [.int (u * l'), .int (l * u')] st := by
  have e0 : envE 2 ([P u l, P u' l'].map some) = [some (P u l), some (P u' l')] := rfl
  show bodyR (m_divided r_fr (envE 2 ([P u l, P u' l'].map some)) st) = _
  rw [e0]
  unfold m_divided
  simp only [x_ret, x_call, x_cons, x_op, x_var, List.getElem?_cons_zero, List.getElem?_cons_succ, vOf_tup, bind_ok, x_op1, x_lit, x_op2, pi0, pi1, x_ofS, x_nil, x_cons1, x_cons2, mulD, m1, m2, if_true, w_mul, w_add, w_addi, w_sub, w_subi, List.length_cons, List.length_nil, Nat.zero_add, Nat.reduceAdd, bodyR_ret]
theorem lesserx (m1 : mulOk u l' = true) (m2 : mulOk u' l = true) : r_lesser [P u l, P u' l'] st = .ok (.bl (decide (u * l' < u' * l))) st := by
  have e0 : envE 2 ([P u l, P u' l'].map some) = [some (P u l), some (P u' l')] := rfl
  show bodyR (m_lesser (envE 2 ([P u l, P u' l'].map some)) st) = _
  rw [e0]
  unfold m_lesser
  simp [x_var, pi0, pi1, mulD, m1, m2]
end
theorem plusx {x y : D} (hx : plF x) (hy : plF y) (fx : frD k_BEYOND x = true) (fy : frD k_BEYOND y = true) (st : Store) : r_plus [x, y] st = r_added [x, y] st := by
  have n1 := need1 hx 0 st
  have n2 := need1 hy 1 st
  rw [if_pos fx] at n1
  rw [if_pos fy] at n2
  have v1 := plD_v hx.1 st
  have v2 := plD_v hy.1 st
  have e0 : envE 2 ([x, y].map some) = [some x, some y] := rfl
  show bodyR (m_plus r_added r_need_frac (envE 2 ([x, y].map some)) st) = _
  rw [e0]
  unfold m_plus
  simp only [x_ret, x_call, x_cons, x_var, List.getElem?_cons_zero, List.getElem?_cons_succ, v1, v2, bind_ok, x_lit, x_nil, x_cons1, x_cons2, List.length_cons, List.length_nil, Nat.zero_add, Nat.reduceAdd, if_true, n1, n2, bodyR_ret]
theorem plus_bad0 {x : D} (hx : plF x) (fx : frD k_BEYOND x = false) (y : D) (st : Store) : r_plus [x, y] st = .er (eAt "InvalidFraction" 0) st := by
  have n1 := need1 hx 0 st
  rw [if_neg (by rw [fx]; exact Bool.false_ne_true)] at n1
  have v1 := plD_v hx.1 st
  have e0 : envE 2 ([x, y].map some) = [some x, some y] := rfl
  show bodyR (m_plus r_added r_need_frac (envE 2 ([x, y].map some)) st) = _
  rw [e0]
  unfold m_plus
  simp [x_var, v1, n1]
theorem plus_bad1 {x y : D} (hx : plF x) (hy : plF y) (fx : frD k_BEYOND x = true) (fy : frD k_BEYOND y = false) (st : Store) : r_plus [x, y] st = .er (eAt "InvalidFraction" 1) st := by
  have n1 := need1 hx 0 st
  have n2 := need1 hy 1 st
  rw [if_pos fx] at n1
  rw [if_neg (by rw [fy]; exact Bool.false_ne_true)] at n2
  have v1 := plD_v hx.1 st
  have v2 := plD_v hy.1 st
  have e0 : envE 2 ([x, y].map some) = [some x, some y] := rfl
  show bodyR (m_plus r_added r_need_frac (envE 2 ([x, y].map some)) st) = _
  rw [e0]
  unfold m_plus
  simp [x_var, v1, v2, n1, n2]
theorem lessx {x y : D} (hx : plF x) (hy : plF y) (fx : frD k_BEYOND x = true) (fy : frD k_BEYOND y = true) (st : Store) : r_less [x, y] st = r_lessened [x, y] st := by
  have n1 := need1 hx 0 st
  have n2 := need1 hy 1 st
  rw [if_pos fx] at n1
  rw [if_pos fy] at n2
  have v1 := plD_v hx.1 st
  have v2 := plD_v hy.1 st
  have e0 : envE 2 ([x, y].map some) = [some x, some y] := rfl
  show bodyR (m_less r_lessened r_need_frac (envE 2 ([x, y].map some)) st) = _
  rw [e0]
  unfold m_less
  simp only [x_ret, x_call, x_cons, x_var, List.getElem?_cons_zero, List.getElem?_cons_succ, v1, v2, bind_ok, x_lit, x_nil, x_cons1, x_cons2, List.length_cons, List.length_nil, Nat.zero_add, Nat.reduceAdd, if_true, n1, n2, bodyR_ret]
theorem less_bad0 {x : D} (hx : plF x) (fx : frD k_BEYOND x = false) (y : D) (st : Store) : r_less [x, y] st = .er (eAt "InvalidFraction" 0) st := by
  have n1 := need1 hx 0 st
  rw [if_neg (by rw [fx]; exact Bool.false_ne_true)] at n1
  have v1 := plD_v hx.1 st
  have e0 : envE 2 ([x, y].map some) = [some x, some y] := rfl
  show bodyR (m_less r_lessened r_need_frac (envE 2 ([x, y].map some)) st) = _
  rw [e0]
  unfold m_less
  simp [x_var, v1, n1]
theorem less_bad1 {x y : D} (hx : plF x) (hy : plF y) (fx : frD k_BEYOND x = true) (fy : frD k_BEYOND y = false) (st : Store) : r_less [x, y] st = .er (eAt "InvalidFraction" 1) st := by
  have n1 := need1 hx 0 st
  have n2 := need1 hy 1 st
  rw [if_pos fx] at n1
  rw [if_neg (by rw [fy]; exact Bool.false_ne_true)] at n2
  have v1 := plD_v hx.1 st
  have v2 := plD_v hy.1 st
  have e0 : envE 2 ([x, y].map some) = [some x, some y] := rfl
  show bodyR (m_less r_lessened r_need_frac (envE 2 ([x, y].map some)) st) = _
  rw [e0]
  unfold m_less
  simp [x_var, v1, v2, n1, n2]
theorem timesx {x y : D} (hx : plF x) (hy : plF y) (fx : frD k_BEYOND x = true) (fy : frD k_BEYOND y = true) (st : Store) : r_times [x, y] st = r_multiplied [x, y] st := by
  have n1 := need1 hx 0 st
  have n2 := need1 hy 1 st
  rw [if_pos fx] at n1
  rw [if_pos fy] at n2
  have v1 := plD_v hx.1 st
  have v2 := plD_v hy.1 st
  have e0 : envE 2 ([x, y].map some) = [some x, some y] := rfl
  show bodyR (m_times r_multiplied r_need_frac (envE 2 ([x, y].map some)) st) = _
  rw [e0]
  unfold m_times
  simp only [x_ret, x_call, x_cons, x_var, List.getElem?_cons_zero, List.getElem?_cons_succ, v1, v2, bind_ok, x_lit, x_nil, x_cons1, x_cons2, List.length_cons, List.length_nil, Nat.zero_add, Nat.reduceAdd, if_true, n1, n2, bodyR_ret]
theorem times_bad0 {x : D} (hx : plF x) (fx : frD k_BEYOND x = false) (y : D) (st : Store) : r_times [x, y] st = .er (eAt "InvalidFraction" 0) st := by
  have n1 := need1 hx 0 st
  rw [if_neg (by rw [fx]; exact Bool.false_ne_true)] at n1
  have v1 := plD_v hx.1 st
  have e0 : envE 2 ([x, y].map some) = [some x, some y] := rfl
  show bodyR (m_times r_multiplied r_need_frac (envE 2 ([x, y].map some)) st) = _
  rw [e0]
  unfold m_times
  simp [x_var, v1, n1]
theorem times_bad1 {x y : D} (hx : plF x) (hy : plF y) (fx : frD k_BEYOND x = true) (fy : frD k_BEYOND y = false) (st : Store) : r_times [x, y] st = .er (eAt "InvalidFraction" 1) st := by
  have n1 := need1 hx 0 st
  have n2 := need1 hy 1 st
  rw [if_pos fx] at n1
  rw [if_neg (by rw [fy]; exact Bool.false_ne_true)] at n2
  have v1 := plD_v hx.1 st
  have v2 := plD_v hy.1 st
  have e0 : envE 2 ([x, y].map some) = [some x, some y] := rfl
  show bodyR (m_times r_multiplied r_need_frac (envE 2 ([x, y].map some)) st) = _
  rw [e0]
  unfold m_times
  simp [x_var, v1, v2, n1, n2]
theorem is_lessx {x y : D} (hx : plF x) (hy : plF y) (fx : frD k_BEYOND x = true) (fy : frD k_BEYOND y = true) (st : Store) : r_is_less [x, y] st = r_lesser [x, y] st := by
  have n1 := need1 hx 0 st
  have n2 := need1 hy 1 st
  rw [if_pos fx] at n1
  rw [if_pos fy] at n2
  have v1 := plD_v hx.1 st
  have v2 := plD_v hy.1 st
  have e0 : envE 2 ([x, y].map some) = [some x, some y] := rfl
  show bodyR (m_is_less r_lesser r_need_frac (envE 2 ([x, y].map some)) st) = _
  rw [e0]
  unfold m_is_less
  simp only [x_ret, x_call, x_cons, x_var, List.getElem?_cons_zero, List.getElem?_cons_succ, v1, v2, bind_ok, x_lit, x_nil, x_cons1, x_cons2, List.length_cons, List.length_nil, Nat.zero_add, Nat.reduceAdd, if_true, n1, n2, bodyR_ret]
theorem is_less_bad0 {x : D} (hx : plF x) (fx : frD k_BEYOND x = false) (y : D) (st : Store) : r_is_less [x, y] st = .er (eAt "InvalidFraction" 0) st := by
  have n1 := need1 hx 0 st
  rw [if_neg (by rw [fx]; exact Bool.false_ne_true)] at n1
  have v1 := plD_v hx.1 st
  have e0 : envE 2 ([x, y].map some) = [some x, some y] := rfl
  show bodyR (m_is_less r_lesser r_need_frac (envE 2 ([x, y].map some)) st) = _
  rw [e0]
  unfold m_is_less
  simp [x_var, v1, n1]
theorem is_less_bad1 {x y : D} (hx : plF x) (hy : plF y) (fx : frD k_BEYOND x = true) (fy : frD k_BEYOND y = false) (st : Store) : r_is_less [x, y] st = .er (eAt "InvalidFraction" 1) st := by
  have n1 := need1 hx 0 st
  have n2 := need1 hy 1 st
  rw [if_pos fx] at n1
  rw [if_neg (by rw [fy]; exact Bool.false_ne_true)] at n2
  have v1 := plD_v hx.1 st
  have v2 := plD_v hy.1 st
  have e0 : envE 2 ([x, y].map some) = [some x, some y] := rfl
  show bodyR (m_is_less r_lesser r_need_frac (envE 2 ([x, y].map some)) st) = _
  rw [e0]
  unfold m_is_less
  simp [x_var, v1, v2, n1, n2]
end K02
set_option Elab.async false
set_option linter.all false
set_option autoImplicit false
set_option maxRecDepth 100000
set_option maxHeartbeats 4000000
/-! Law k02, plain: texts, the program's functions. -/
namespace K02
open Bw PySem.NumText
theorem fAll_bls (bs : List Bool) (st : Store) : fAll [.lst (bs.map D.bl)] st = some (.bl (bs.all id)) := by
  have : ∀ bs : List Bool, blsD (bs.map D.bl) = some bs := by
    intro bs
    induction bs with
    | nil => rfl
    | cons b bs ih => rw [List.map_cons, blsD, ih]; rfl
  show (blsD (bs.map D.bl)).map (fun bs => D.bl (bs.all id)) = _
  rw [this]
  rfl
theorem digB_mem (c : Nat) : decide (c ∈ ([48, 49, 50, 51, 52, 53, 54, 55, 56, 57] : List Nat)) = digB c := by
  unfold digB
  by_cases h : 48 ≤ c ∧ c ≤ 57
  · have : c ∈ ([48, 49, 50, 51, 52, 53, 54, 55, 56, 57] : List Nat) := by
      simp only [List.mem_cons, List.not_mem_nil, or_false]; omega
    rw [decide_eq_true this, decide_eq_true h.1, decide_eq_true h.2]; rfl
  · have : ¬ c ∈ ([48, 49, 50, 51, 52, 53, 54, 55, 56, 57] : List Nat) := by
      simp only [List.mem_cons, List.not_mem_nil, or_false]; omega
    rw [decide_eq_false this]
    by_cases h1 : 48 ≤ c
    · have h2 : ¬ c ≤ 57 := fun z => h ⟨h1, z⟩
      rw [decide_eq_false h2, Bool.and_false]
    · rw [decide_eq_false h1, Bool.false_and]
theorem istens1 (s : List Nat) (hs : s.length ≤ 16000000) (st : Store) : r_is_tens [.str s] st = .ok (.bl (tens s)) st := by
  have e0 : envE 2 ([D.str s].map some) = [some (.str s), none] := rfl
  have sz : Sz s.length = true := decide_eq_true (by omega)
  have len : fLen [.str s] st = some (.int (s.length : Nat)) := by simp [fLen, lenD, sz]
  have l := lc_map (chk := fun _ => True) (g := gN 1) (e := mOp fIn (mVar 1) (mLit (.str [48, 49, 50, 51, 52, 53, 54, 55, 56, 57]))) (ρ := [some (.str s), none]) (st := st) trivial (fun d => match d with | .str [c] => .bl (digB c) | _ => .non) (s.map fun a => .str [a]) [] (by
    intro d hd
    refine ⟨_, rfl, ?_⟩
    obtain ⟨c, _, rfl⟩ := List.mem_map.mp hd
    have : fIn (.str [c]) (.str [48, 49, 50, 51, 52, 53, 54, 55, 56, 57]) st = some (.bl (digB c)) := by
      show (inD st (.str [c]) (.str [48, 49, 50, 51, 52, 53, 54, 55, 56, 57])).map D.bl = _
      show some (D.bl (decide (c ∈ ([48, 49, 50, 51, 52, 53, 54, 55, 56, 57] : List Nat)))) = _
      rw [digB_mem]
    simp [x_var, this]) (by simp; omega)
  have em : (s.map fun a => D.str [a]).map (fun d => match d with | .str [c] => D.bl (digB c) | _ => .non) = (s.map digB).map D.bl := by
    rw [List.map_map, List.map_map]; rfl
  rw [List.nil_append, em] at l
  have q : mBlt fAll (aCons (mLc [1] (iVal (mVar 0)) (gN 1) tYesM (mOp fIn (mVar 1) (mLit (.str [48, 49, 50, 51, 52, 53, 54, 55, 56, 57])))) aNil) [some (.str s), none] st = .ok (.bl (s.all digB)) st := by
    have it : itemsD st (.str s) = some (still (s.map fun a => .str [a])) := rfl
    have wp : wipeE [some (.str s), none] [1] = [some (.str s), none] := rfl
    simp only [x_blt, x_cons, x_lc, x_iVal, x_var, List.getElem?_cons_zero, vOf_str, bind_ok, it, x_ofS, wp]
    show (((kLc (lcF (fun _ => True) (gN 1) tYesM _ (s.map fun a => .str [a]) [] [some (.str s), none] st)).bind _).bind _) = _
    rw [l]
    have := fAll_bls (s.map digB) st
    rw [List.all_map, List.map_map] at this
    have t2 : fAll [.lst (s.map (D.bl ∘ digB))] st = some (.bl (s.all digB)) := this
    simp [t2]
  have lq : mBlt fLen (aCons (mVar 0) aNil) [some (.str s), none] st = .ok (.int (s.length : Nat)) st := by simp [x_var, len]
  show bodyR (m_is_tens (envE 2 ([D.str s].map some)) st) = _
  rw [e0]
  have dT : tens s = (decide (1 ≤ s.length ∧ s.length ≤ 3000) && s.all digB && (decide (s = [48]) || decide (s.head? ≠ some 48))) := rfl
  unfold m_is_tens
  rw [x_seq]
  by_cases h1 : 1 ≤ s.length ∧ s.length ≤ 3000
  · have c1 : (1 : Int) ≤ (s.length : Int) := by omega
    have c2 : (s.length : Int) ≤ 3000 := by omega
    rw [decide_eq_true h1, Bool.true_and] at dT
    cases h2 : s.all digB with
    | false =>
      rw [h2, Bool.false_and] at dT
      rw [h2] at q
      rw [dT]
      simp [-x_blt, x_var, lq, c1, c2, q, truD]
    | true =>
      rw [h2, Bool.true_and] at dT
      rw [h2] at q
      have a1 : (sIf (tOr (tNot (tCmp (mChain fLe fLe (mLit (.int 1)) (mBlt fLen (aCons (mVar 0) aNil)) (mLit (.int 3000))))) (tNot (tVal (mBlt fAll (aCons (mLc [1] (iVal (mVar 0)) (gN 1) tYesM (mOp fIn (mVar 1) (mLit (.str [48, 49, 50, 51, 52, 53, 54, 55, 56, 57])))) aNil))))) (sRet (mLit (.bl false))) sNext) [some (.str s), none] st = .nx [some (.str s), none] st := by
        simp [-x_blt, x_var, lq, c1, c2, q, truD]
      rw [a1, sq_nx, dT]
      clear a1 q l em lq len dT
      cases s with
      | nil => simp at h1
      | cons c r =>
        have sz' : Sz (r.length + 1) = true := sz
        have ix : idxD (.str (c :: r)) (.int 0) st = some (.str [c]) := by simp [idxD, atD, atN, sz']
        by_cases h3 : c :: r = [48]
        · rw [h3]
          simp [x_var, truD]
        · by_cases h4 : c = 48
          · subst h4
            have h5 : r ≠ [] := fun z => h3 (by rw [z])
            simp [x_var, ix, h5, truD]
          · simp [x_var, ix, h4, truD]
  · rw [decide_eq_false h1, Bool.false_and, Bool.false_and] at dT
    rw [dT]
    by_cases c1 : (1 : Int) ≤ (s.length : Int)
    · have c2 : ¬ (s.length : Int) ≤ 3000 := by omega
      simp [-x_blt, x_var, lq, c1, c2, truD]
    · simp [-x_blt, x_var, lq, c1, truD]
end K02
set_option Elab.async false
set_option linter.all false
set_option autoImplicit false
set_option maxRecDepth 100000
set_option maxHeartbeats 4000000
/-! Law k02, plain: a fraction's text, and what is read. -/
namespace K02
open Bw PySem.NumText
theorem big_of {i : Int} (h : i.natAbs < 10 ^ 3000) : Big i = true := by
  have : (10 : Nat) ^ 3000 ≤ 10 ^ 4300 := Nat.pow_le_pow_right (by decide) (by decide)
  exact decide_eq_true (Nat.lt_of_lt_of_le h this)
theorem textof1 {a b : Int} (ha : a.natAbs < 10 ^ 3000) (hb : b.natAbs < 10 ^ 3000) (st : Store) : r_text_of_frac [P a b] st = .ok (.str (tx a b)) st := by
  have e0 : envE 1 ([P a b].map some) = [some (P a b)] := rfl
  have f1 : ∀ s, fStrB [.int a] s = some (.str (decD a)) := fun s => by simp [fStrB, big_of ha]
  have f2 : ∀ s, fStrB [.int b] s = some (.str (decD b)) := fun s => by simp [fStrB, big_of hb]
  have la : (decD a).length ≤ 3001 := by
    rcases decD_cases a with ⟨n, h, e⟩ | ⟨n, h, e⟩
    · rw [e]; have := dec_len (k := 2999) (n := n) (by omega); omega
    · rw [e]; have := dec_len (k := 2999) (n := n + 1) (by omega); simp; omega
  have lb : (decD b).length ≤ 3001 := by
    rcases decD_cases b with ⟨n, h, e⟩ | ⟨n, h, e⟩
    · rw [e]; have := dec_len (k := 2999) (n := n) (by omega); omega
    · rw [e]; have := dec_len (k := 2999) (n := n + 1) (by omega); simp; omega
  show bodyR (m_text_of_frac (envE 1 ([P a b].map some)) st) = _
  rw [e0]
  unfold m_text_of_frac tx
  have z1 : Sz ((decD a).length) = true := decide_eq_true (by omega)
  have z2 : Sz (1 + (decD b).length) = true := decide_eq_true (by omega)
  have z2' : Sz ((decD b).length + 1) = true := decide_eq_true (by omega)
  have z3 : Sz ((decD a).length + ((decD b).length + 1)) = true := decide_eq_true (by omega)
  by_cases h : b = 1
  · simp [x_var, pi0, pi1, f1, h, addD, z1]
  · simp [x_var, pi0, pi1, f1, f2, h, addD, z2, z2', z3]
theorem digB_of {c : Nat} (h : dig c) : numCh c = true := by
  unfold dig at h
  unfold numCh
  simp [h.1, h.2]
theorem allD {s : List Nat} (h : ∀ c ∈ s, dig c) : AllDigits s := h
/-- int(..) of figures, with a sign or without -/
theorem int_of {u : List Nat} (h : tens (bare u) = true) (st : Store) : fIntB [.str u] st = some (.int (sgn u)) := by
  obtain ⟨h1, h2, h3, _⟩ := tens_iff h
  by_cases hu : ∃ r, u = 45 :: r
  · obtain ⟨r, rfl⟩ := hu
    have e := PySem.intText_neg (x := strOf (45 :: r)) (cs := r) (by simp) (allD h1) h2 (by rw [strOf_len]; show r.length + 1 ≤ 4300; have : r.length ≤ 3000 := h3; omega)
    have c1 : (45 :: r : List Nat).length ≤ 4300 := by show r.length + 1 ≤ 4300; have : r.length ≤ 3000 := h3; omega
    have c2 : (45 :: r : List Nat).all numCh = true := by
      rw [List.all_eq_true]
      intro c hc
      rcases List.mem_cons.mp hc with rfl | hc
      · rfl
      · exact digB_of (h1 c hc)
    show (if decide ((45 :: r : List Nat).length ≤ 4300) && (45 :: r : List Nat).all numCh then (PySem.intText? (strOf (45 :: r))).map D.int else none) = _
    rw [decide_eq_true c1, c2, e]
    rfl
  · have hb : bare u = u := by
      unfold bare
      split
      · exact absurd ⟨_, rfl⟩ hu
      · rfl
    have hs : sgn u = ((digitsVal u : Nat) : Int) := by
      unfold sgn
      split
      · exact absurd ⟨_, rfl⟩ hu
      · rfl
    rw [hb] at h1 h2 h3
    have e := PySem.intText_digits (x := strOf u) (by simpa using allD h1) (by simpa using h2) (by rw [strOf_len]; omega)
    have c1 : u.length ≤ 4300 := by omega
    have c2 : u.all numCh = true := by
      rw [List.all_eq_true]
      exact fun c hc => digB_of (h1 c hc)
    show (if decide (u.length ≤ 4300) && u.all numCh then (PySem.intText? (strOf u)).map D.int else none) = _
    rw [decide_eq_true c1, c2, e, hs]
    have : (strOf u).cps.toList = u := by simp
    rw [this]
    rfl
theorem sgn_lt {u : List Nat} (h : tens (bare u) = true) : (sgn u).natAbs < 10 ^ 3000 := by
  obtain ⟨h1, h2, h3, _⟩ := tens_iff h
  have v := val_lt _ h1
  have p : (10 : Nat) ^ (bare u).length ≤ 10 ^ 3000 := Nat.pow_le_pow_right (by decide) h3
  have : (sgn u).natAbs = digitsVal (bare u) := by
    unfold sgn bare
    split
    · omega
    · omega
  rw [this]
  exact Nat.lt_of_lt_of_le v p
end K02
set_option Elab.async false
set_option linter.all false
set_option autoImplicit false
set_option maxRecDepth 100000
set_option maxHeartbeats 4000000
/-! Law k02, plain: what is read. -/
namespace K02
open Bw PySem.NumText
abbrev eWords : Er := eAt "InvalidWords" (-1)
/-- what read_frac gives for a text -/
def rdV (s : List Nat) (st : Store) : Res D := match rd s with
  | some (a, b) => if frD k_BEYOND (P a b) && decide (tx a b = s) then .ok (P a b) st else .er eWords st
  | none => .er eWords st
/-- a text cut at its first stroke -/
def cutS (s : List Nat) : List Nat × List Nat × List Nat := match TL.par [47] [] s with
  | some (p, q) => (p, [47], q)
  | none => (s, [], [])
theorem par_len : ∀ (s acc p q : List Nat), TL.par [47] acc s = some (p, q) → p.length ≤ acc.length + s.length ∧ q.length ≤ s.length := by
  intro s
  induction s with
  | nil => intro acc p q h; cases h
  | cons c s ih =>
    intro acc p q h
    unfold TL.par at h
    split at h
    · have e := Option.some.inj h
      injection e with e1 e2
      subst e1 e2
      simp
    · obtain ⟨h1, h2⟩ := ih _ _ _ h
      simp only [List.length_append, List.length_cons, List.length_nil] at h1 ⊢
      omega
theorem slice1 (u : List Nat) : cut u none (some 1) = u.take 1 := by
  unfold cut clip
  simp
theorem slice2 (u : List Nat) : cut u (some 1) none = u.drop 1 := by
  unfold cut clip
  simp
  cases u with
  | nil => rfl
  | cons c r => simp
theorem bare_eq (u : List Nat) : (if u.take 1 = [45] then u.drop 1 else u) = bare u := by
  cases u with
  | nil => rfl
  | cons c r =>
    by_cases h : c = 45
    · subst h; rfl
    · have : ¬ (c :: r).take 1 = [45] := by simp [h]
      rw [if_neg this]
      unfold bare
      split
      · rename_i e; injection e with e1 _; exact absurd e1 h
      · rfl
abbrev Er6 (s u sl l b t : Option D) : Env := [s, u, sl, l, b, t]
theorem read1 (s : List Nat) (hs : s.length ≤ 10000) (st : Store) : r_read_frac [.str s] st = rdV s st := by
  obtain ⟨u, sl, l, hp, hu, hl, hsl⟩ : ∃ u sl l, (∀ st, fPart s [.str [47]] st = some (.tup [.str u, .str sl, .str l])) ∧ u.length ≤ 10000 ∧ l.length ≤ 10000 ∧ ((TL.par [47] [] s = some (u, l) ∧ sl = [47]) ∨ (TL.par [47] [] s = none ∧ u = s ∧ sl = [] ∧ l = [])) := by
    have z : Sz s.length = true := decide_eq_true (by omega)
    cases h : TL.par [47] [] s with
    | none => exact ⟨s, [], [], fun st => by simp [fPart, z, h], hs, by simp, .inr ⟨rfl, rfl, rfl, rfl⟩⟩
    | some pq =>
      obtain ⟨p, q⟩ := pq
      obtain ⟨h1, h2⟩ := par_len s [] p q h
      exact ⟨p, [47], q, fun st => by simp [fPart, z, h], by simpa using Nat.le_trans h1 (by simpa using hs), by omega, .inl ⟨rfl, rfl⟩⟩
  have e0 : envE 6 ([D.str s].map some) = Er6 (some (.str s)) none none none none none := rfl
  have is : fIsi [.str s, .ty "str"] st = some (.bl true) := by simp [fIsi, tyD]
  have zu : Sz u.length = true := decide_eq_true (by omega)
  have b1 : (bare u).length ≤ 10000 := by
    unfold bare
    split
    · rename_i r; have : (45 :: r : List Nat).length ≤ 10000 := hu; simp at this; omega
    · exact hu
  have tb := istens1 (bare u) (by omega) st
  have tl := istens1 l (by omega) st
  show bodyR (m_read_frac r_is_tens r_is_frac r_text_of_frac (envE 6 ([D.str s].map some)) st) = _
  rw [e0]
  unfold m_read_frac
  have a3 : (sAsg (mIf (tCmp (mOp fEq (mSli (mVar 1) oNone (oSome (mLit (.int 1)))) (mLit (.str [45])))) (mSli (mVar 1) (oSome (mLit (.int 1))) oNone) (mVar 1)) (gN 4)) (Er6 (some (.str s)) (some (.str u)) (some (.str sl)) (some (.str l)) none none) st = .nx (Er6 (some (.str s)) (some (.str u)) (some (.str sl)) (some (.str l)) (some (.str (bare u))) none) st := by
    have s1 : sliD (.str u) none (some 1) st = some (.str (u.take 1)) := by simp [sliD, zu, slice1]
    have s2 : sliD (.str u) (some 1) none st = some (.str (u.drop 1)) := by simp [sliD, zu, slice2]
    have be := bare_eq u
    by_cases h : u.take 1 = [45]
    · rw [if_pos h] at be
      simp [x_var, s1, s2, h, be]
    · rw [if_neg h] at be
      rw [← be]
      simp [x_var, s1, s2, h]
  have words : ∀ (ρ : Env) (m : MS), (sRaise "InvalidWords" ["at"] (aCons (mUn (fun x _ => negD x) (mLit (.int 1))) aNil)) ρ st = .er eWords ρ st := by
    intro ρ m
    simp [negD, eAt]
  rw [x_seq]
  have a1 : (sIf (tNot (tVal (mBlt fIsi (aCons (mVar 0) (aCons (mLit (.ty "str")) aNil))))) (sRaise "InvalidWords" ["at"] (aCons (mUn (fun x _ => negD x) (mLit (.int 1))) aNil)) sNext) (Er6 (some (.str s)) none none none none none) st = .nx (Er6 (some (.str s)) none none none none none) st := by
    simp [x_var, is, truD]
  have a2 : (sAsg (mStr1 fPart (mVar 0) (aCons (mLit (.str [47])) aNil)) (gT [(gN 1), (gN 2), (gN 3)])) (Er6 (some (.str s)) none none none none none) st = .nx (Er6 (some (.str s)) (some (.str u)) (some (.str sl)) (some (.str l)) none none) st := by
    simp [x_var, hp]
  rw [a1, sq_nx, x_seq, a2, sq_nx, x_seq, a3, sq_nx, x_seq]
  unfold rdV rd
  have told : ∀ a b : Int, a.natAbs < 10 ^ 3000 → b.natAbs < 10 ^ 3000 → (sSeq (sIf (tOr (tNot (tVal (mCall (fun ds st => if ds.length = 1 then r_is_frac ds st else .no) (aCons (mVar 5) aNil)))) (tCmp (mOp fNe (mCall (fun ds st => if ds.length = 1 then r_text_of_frac ds st else .no) (aCons (mVar 5) aNil)) (mVar 0)))) (sRaise "InvalidWords" ["at"] (aCons (mUn (fun x _ => negD x) (mLit (.int 1))) aNil)) sNext)
      (sRet (mVar 5))) (Er6 (some (.str s)) (some (.str u)) (some (.str sl)) (some (.str l)) (some (.str (bare u))) (some (P a b))) st = if frD k_BEYOND (P a b) && decide (tx a b = s) then .rt (P a b) st else .er eWords (Er6 (some (.str s)) (some (.str u)) (some (.str sl)) (some (.str l)) (some (.str (bare u))) (some (P a b))) st := by
    intro a b ha hb
    have f := isfr1 (plF_P a b) st
    have t := textof1 ha hb st
    cases hf : frD k_BEYOND (P a b) with
    | false => rw [hf] at f; simp [x_var, f, truD, negD, eAt]
    | true =>
      rw [hf] at f
      by_cases ht : tx a b = s
      · simp [x_var, f, t, ht, truD]
      · simp [x_var, f, t, ht, truD, negD, eAt]
  have s2 : Sz 2 = true := by decide
  rcases hsl with ⟨hpar, rfl⟩ | ⟨hpar, rfl, rfl, rfl⟩
  · rw [hpar]
    dsimp only
    cases h1 : tens (bare u) with
    | false =>
      rw [h1] at tb
      simp [x_var, tb, truD, negD, eAt]
    | true =>
      rw [h1] at tb
      cases h2 : tens l with
      | false =>
        rw [h2] at tl
        simp [x_var, tb, tl, truD, negD, eAt]
      | true =>
        rw [h2] at tl
        have i1 := int_of h1 st
        have hbl : bare l = l := by
          obtain ⟨d1, d2, _⟩ := tens_iff h2
          cases l with
          | nil => rfl
          | cons c r =>
            have := d1 c List.mem_cons_self
            unfold dig at this
            unfold bare
            split
            · rename_i e; injection e with e1 _; omega
            · rfl
        have hsl' : sgn l = ((digitsVal l : Nat) : Int) := by
          obtain ⟨d1, d2, _⟩ := tens_iff h2
          cases l with
          | nil => rfl
          | cons c r =>
            have := d1 c List.mem_cons_self
            unfold dig at this
            unfold sgn
            split
            · rename_i e; injection e with e1 _; omega
            · rfl
        have h2' : tens (bare l) = true := by rw [hbl]; exact h2
        have i2 := int_of h2' st
        rw [hsl'] at i2
        have n1 := sgn_lt h1
        have n2 := sgn_lt h2'
        rw [hsl'] at n2
        have a4 : (sIf (tOr (tNot (tVal (mCall (fun ds st => if ds.length = 1 then r_is_tens ds st else .no) (aCons (mVar 4) aNil)))) (tAnd (tCmp (mOp fEq (mVar 2) (mLit (.str [47])))) (tNot (tVal (mCall (fun ds st => if ds.length = 1 then r_is_tens ds st else .no) (aCons (mVar 3) aNil)))))) (sRaise "InvalidWords" ["at"] (aCons (mUn (fun x _ => negD x) (mLit (.int 1))) aNil)) sNext) (Er6 (some (.str s)) (some (.str u)) (some (.str [47])) (some (.str l)) (some (.str (bare u))) none) st = .nx (Er6 (some (.str s)) (some (.str u)) (some (.str [47])) (some (.str l)) (some (.str (bare u))) none) st := by
          simp [x_var, tb, tl, truD]
        have a5 : (sAsg (mTup (aCons (mBlt fIntB (aCons (mVar 1) aNil)) (aCons (mIf (tCmp (mOp fEq (mVar 2) (mLit (.str [47])))) (mBlt fIntB (aCons (mVar 3) aNil)) (mLit (.int 1))) aNil))) (gN 5)) (Er6 (some (.str s)) (some (.str u)) (some (.str [47])) (some (.str l)) (some (.str (bare u))) none) st = .nx (Er6 (some (.str s)) (some (.str u)) (some (.str [47])) (some (.str l)) (some (.str (bare u))) (some (P (sgn u) ((digitsVal l : Nat) : Int)))) st := by
          simp [x_var, i1, i2, s2]
        rw [a4, sq_nx, x_seq, a5, sq_nx, told _ _ n1 n2]
        cases hX : (frD k_BEYOND (P (sgn u) ((digitsVal l : Nat) : Int)) && decide (tx (sgn u) ((digitsVal l : Nat) : Int) = s)) with
        | true => simp only [Bool.and_self, if_true, hX]; rfl
        | false => simp only [Bool.and_self, if_true, hX, Bool.false_eq_true, if_false]; rfl
  · rw [hpar]
    dsimp only
    cases h1 : tens (bare u) with
    | false =>
      rw [h1] at tb
      simp [x_var, tb, truD, negD, eAt]
    | true =>
      rw [h1] at tb
      have i1 := int_of h1 st
      have n1 := sgn_lt h1
      have a4 : (sIf (tOr (tNot (tVal (mCall (fun ds st => if ds.length = 1 then r_is_tens ds st else .no) (aCons (mVar 4) aNil)))) (tAnd (tCmp (mOp fEq (mVar 2) (mLit (.str [47])))) (tNot (tVal (mCall (fun ds st => if ds.length = 1 then r_is_tens ds st else .no) (aCons (mVar 3) aNil)))))) (sRaise "InvalidWords" ["at"] (aCons (mUn (fun x _ => negD x) (mLit (.int 1))) aNil)) sNext) (Er6 (some (.str u)) (some (.str u)) (some (.str [])) (some (.str [])) (some (.str (bare u))) none) st = .nx (Er6 (some (.str u)) (some (.str u)) (some (.str [])) (some (.str [])) (some (.str (bare u))) none) st := by
        simp [x_var, tb, truD]
      have a5 : (sAsg (mTup (aCons (mBlt fIntB (aCons (mVar 1) aNil)) (aCons (mIf (tCmp (mOp fEq (mVar 2) (mLit (.str [47])))) (mBlt fIntB (aCons (mVar 3) aNil)) (mLit (.int 1))) aNil))) (gN 5)) (Er6 (some (.str u)) (some (.str u)) (some (.str [])) (some (.str [])) (some (.str (bare u))) none) st = .nx (Er6 (some (.str u)) (some (.str u)) (some (.str [])) (some (.str [])) (some (.str (bare u))) (some (P (sgn u) 1))) st := by
        simp [x_var, i1, s2]
      have one : (1 : Int).natAbs < 10 ^ 3000 := by
        show 1 < 10 ^ 3000
        exact Nat.one_lt_pow (by decide) (by decide)
      rw [a4, sq_nx, x_seq, a5, sq_nx, told _ _ n1 one]
      cases hX : (frD k_BEYOND (P (sgn u) 1) && decide (tx (sgn u) 1 = u)) with
      | true => simp only [if_true, hX]; rfl
      | false => simp only [if_true, hX, Bool.false_eq_true, if_false]; rfl
end K02
set_option Elab.async false
set_option linter.all false
set_option autoImplicit false
set_option maxRecDepth 100000
set_option maxHeartbeats 4000000
/-! Law k02, plain: what is drawn; what the functions give for drawn fractions; what calls are refused with. -/
namespace K02
open Bw
theorem take1 {j st : Store} (B : BxT j st) {many : Int} (hm : 0 < many) (hm2 : bits many < 9000) : ∃ v st', r__law_take [.ref 1, .int many] st = .ok (.int v) st' ∧ BxT j st' ∧ 0 ≤ v ∧ v < many :=
  take_okB (a := 48271) (b := 2147483647) (c := 69621) (d := 7) (e := 1013) B hm hm2 (by decide) (by decide) (by decide) (by decide) (by decide)
theorem box1 (ns : List Int) : ∃ st, r__law_box [.scr ns] [] = .ok (.ref 1) st ∧ Bx st :=
  box_ok (s0 := 53881) (a := 48271) (b := 2147483629) (c := 50021) (d := 17) (by decide) (by decide) (by decide) ns
theorem is1 : ∀ k, r__law_is k = rIs k
  | 0 => rfl
  | k + 1 => by
    show (fun (ds : List D) (st : Store) => bodyR (m__law_is (r__law_is k) (envE 4 (ds.map some)) st)) = _
    rw [is1 k]
    rfl
theorem is_same {d : D} (st : Store) (h : isP 8 d = true) : r__law_is 8 [d, d] st = .ok (.bl true) st := by rw [is1]; exact is_refl 8 d st h
theorem atD_nat {α : Type} {l : List α} {i : Nat} {x : α} (h : l[i]? = some x) : atD l (i : Int) = some x := by
  have hl : i < l.length := (List.getElem?_eq_some_iff.mp h).1
  unfold atD atN
  rw [if_pos (Int.natCast_nonneg i), if_pos (by omega)]
  simpa using h
theorem pick_mem {st : Store} (B : Bx st) (ds : List D) (h0 : 0 < ds.length) (hl : ds.length < 1000) : ∃ (d : D) (st' : Store), d ∈ ds ∧ r__law_pick [.ref 1, .lst ds] st = .ok d st' ∧ Bx st' := by
  obtain ⟨v, st', h1, h2, h3, h4⟩ := take1 B (many := (ds.length : Int)) (by omega) (bits_lt (by omega))
  obtain ⟨n, rfl⟩ := Int.eq_ofNat_of_zero_le h3
  have hn : n < ds.length := by omega
  refine ⟨ds[n], st', List.getElem_mem hn, ?_, h2⟩
  have ha : atD ds (n : Int) = some ds[n] := atD_nat (List.getElem?_eq_getElem hn)
  show bodyR (m__law_pick r__law_take (envE 2 ([D.ref 1, D.lst ds].map some)) st) = _
  have e0 : envE 2 ([D.ref 1, D.lst ds].map some) = [some (.ref 1), some (.lst ds)] := rfl
  rw [e0]
  simp [m__law_pick, x_var, fLen, lenD, h1, idxD, ha]
/-- a bound of what is drawn -/
abbrev T60 : Int := 1000000000000000000000000000000000000000000000000000000000000
theorem t60 : T60.natAbs < 2 ^ 200 := by decide +kernel
theorem drawn1 {st : Store} (B : Bx st) : ∃ (q : Rat) (st' : Store), r__law_drawn [.ref 1] st = .ok (fd q) st' ∧ Bx st' ∧ Fz 200 q := by
  obtain ⟨m, st1, h1, h2, B1⟩ := pick_mem B [.int 4, .int 50, .int 1000000000000000000000000000000, .int T60] (by decide) (by decide)
  obtain ⟨i, rfl, i0, i1⟩ : ∃ i, m = .int i ∧ 4 ≤ i ∧ i ≤ T60 := by
    simp only [List.mem_cons, List.not_mem_nil, or_false] at h1
    rcases h1 with rfl | rfl | rfl | rfl
    · exact ⟨_, rfl, by omega, by decide⟩
    · exact ⟨_, rfl, by omega, by decide⟩
    · exact ⟨_, rfl, by omega, by decide⟩
    · exact ⟨_, rfl, by decide, by decide⟩
  have t := t60
  have in2 : i.natAbs < 2 ^ 200 := by omega
  have bi : bits i < 9000 := bits_of (up_lt2 in2 (by decide : 200 ≤ 9000)) (by decide)
  have p202 : (2 : Nat) ^ 202 = 4 * 2 ^ 200 := by decide
  have in3 : (2 * i + 1).natAbs < 2 ^ 202 := by omega
  have b2 : bits (2 * i + 1) < 9000 := bits_of (up_lt2 in3 (by decide : 202 ≤ 9000)) (by decide)
  obtain ⟨v, st2, h3, B2, v0, v1⟩ := take1 B1 (many := 2 * i + 1) (by omega) b2
  obtain ⟨w, st3, h4, B3, w0, w1⟩ := take1 B2 (many := i) (by omega) bi
  have n0 : (1 + w) ≠ 0 := by omega
  have f1 : (v - i).natAbs < 2 ^ 200 := by omega
  have f2 : (1 + w).natAbs < 2 ^ 200 := by omega
  have f := LF (v - i) (1 + w) st3 n0 (up_lt2 f1 (by decide)) (up_lt2 f2 (by decide))
  refine ⟨Rat.divInt (v - i) (1 + w), st3, ?_, B3, fz_divInt n0 f1 f2⟩
  have e0 : envE 2 ([D.ref 1].map some) = [some (.ref 1), none] := rfl
  have p1 : powOk 10 30 = true := by decide
  have p2 : powOk 10 60 = true := by decide
  have s4 : Sz 4 = true := by decide
  have m2 : mulOk 2 i = true := mulOk_l (by decide)
  show bodyR (m__law_drawn r__law_pick r__law_fr r__law_take (envE 2 ([D.ref 1].map some)) st) = _
  rw [e0]
  unfold m__law_drawn
  simp [x_var, powD, p1, p2, s4, h2, h3, h4, mulD, m2, f]
/-! ### the functions for drawn fractions -/
section
variable {p q : Rat} {n m : Nat}
theorem frF (h : Fz n q) (hn : n ≤ 9000) : frD k_BEYOND (fd q) = true := frD_fd h (bey2 hn)
theorem lsum1 (hp : Fz n p) (hq : Fz m q) (h : n + m + 1 ≤ 9000) (st : Store) : r__law_sum [fd p, fd q] st = .ok (fd (p + q)) st := add_ok LF (Nat.le_refl _) hp hq h st
theorem plus1 (hp : Fz n p) (hq : Fz m q) (h : n + m + 1 ≤ 9000) (st : Store) : r_plus [fd p, fd q] st = .ok (fd (p + q)) st := by
  rw [plusx (plF_fd p) (plF_fd q) (frF hp (by omega)) (frF hq (by omega))]
  exact add_ok F (Nat.le_refl _) hp hq h st
theorem minus1 (hp : Fz n p) (hq : Fz m q) (h : n + m + 1 ≤ 9000) (st : Store) : r_less [fd p, fd q] st = .ok (fd (p - q)) st := by
  rw [lessx (plF_fd p) (plF_fd q) (frF hp (by omega)) (frF hq (by omega))]
  exact sub_ok F (Nat.le_refl _) hp hq h st
theorem times1 (hp : Fz n p) (hq : Fz m q) (h : n + m ≤ 9000) (st : Store) : r_times [fd p, fd q] st = .ok (fd (p * q)) st := by
  rw [timesx (plF_fd p) (plF_fd q) (frF hp (by omega)) (frF hq (by omega))]
  exact mul_ok F (Nat.le_refl _) hp hq h st
theorem isless1 (hp : Fz n p) (hq : Fz m q) (h : n + m ≤ 9000) (st : Store) : r_is_less [fd p, fd q] st = .ok (.bl (decide (p < q))) st := by
  rw [is_lessx (plF_fd p) (plF_fd q) (frF hp (by omega)) (frF hq (by omega))]
  exact less_ok hp hq (by omega) st
end
theorem overx {x : D} (hx : plF x) (fx : frD k_BEYOND x = true) {u l : Int} (fy : frD k_BEYOND (P u l) = true) (st : Store) : r_over [x, P u l] st = if u = 0 then .er (eAt "Refused" (-1)) st else r_divided [x, P u l] st := by
  have n1 := need1 hx 0 st
  have n2 := need1 (plF_P u l) 1 st
  rw [if_pos fx] at n1
  rw [if_pos fy] at n2
  have v1 := plD_v hx.1 st
  have e0 : envE 2 ([x, P u l].map some) = [some x, some (P u l)] := rfl
  show bodyR (m_over r_need_frac r_divided (envE 2 ([x, P u l].map some)) st) = _
  rw [e0]
  unfold m_over
  by_cases h : u = 0
  · subst h
    rw [if_pos rfl]
    have w2 : vOf (P 0 l) st = .ok (P 0 l) st := rfl
    simp [-vOf_tup, x_var, v1, w2, n1, n2, pi0, negD, eAt]
  · rw [if_neg h]
    simp only [x_seq, x_drop, x_call, x_cons, x_var, List.getElem?_cons_zero, List.getElem?_cons_succ, v1, vOf_tup, bind_ok, x_lit, x_nil, x_cons1, x_cons2, List.length_cons, List.length_nil, Nat.zero_add, Nat.reduceAdd, if_true, n1, n2, sBind_ok, sq_nx, x_sif, x_tCmp, x_op, x_op1, x_op2, pi0, x_ofS, w_eq, w_eqi, h, decide_false, Option.map_some, x_tCmp1, x_sifF, x_next, x_ret, bodyR_ret]
theorem over_bad0 {x : D} (hx : plF x) (fx : frD k_BEYOND x = false) (y : D) (st : Store) : r_over [x, y] st = .er (eAt "InvalidFraction" 0) st := by
  have n1 := need1 hx 0 st
  rw [if_neg (by rw [fx]; exact Bool.false_ne_true)] at n1
  have v1 := plD_v hx.1 st
  have e0 : envE 2 ([x, y].map some) = [some x, some y] := rfl
  show bodyR (m_over r_need_frac r_divided (envE 2 ([x, y].map some)) st) = _
  rw [e0]
  unfold m_over
  simp [x_var, v1, n1]
theorem over_bad1 {x y : D} (hx : plF x) (hy : plF y) (fx : frD k_BEYOND x = true) (fy : frD k_BEYOND y = false) (st : Store) : r_over [x, y] st = .er (eAt "InvalidFraction" 1) st := by
  have n1 := need1 hx 0 st
  have n2 := need1 hy 1 st
  rw [if_pos fx] at n1
  rw [if_neg (by rw [fy]; exact Bool.false_ne_true)] at n2
  have v1 := plD_v hx.1 st
  have v2 := plD_v hy.1 st
  have e0 : envE 2 ([x, y].map some) = [some x, some y] := rfl
  show bodyR (m_over r_need_frac r_divided (envE 2 ([x, y].map some)) st) = _
  rw [e0]
  unfold m_over
  simp [x_var, v1, v2, n1, n2]
theorem over1 {p q : Rat} {n m : Nat} (hp : Fz n p) (hq : Fz m q) (h0 : q ≠ 0) (h : n + m ≤ 9000) (st : Store) : r_over [fd p, fd q] st = .ok (fd (p / q)) st := by
  have e := overx (plF_fd p) (frF hp (by omega)) (u := q.num) (l := q.den) (frF hq (by omega)) st
  rw [if_neg (num_ne h0)] at e
  exact e.trans (div_ok F (Nat.le_refl _) hp hq h0 h st)
theorem frac1 {u l : Int} (hu : u.natAbs < 2 ^ 9000) (hl : l.natAbs < 2 ^ 9000) (h0 : l ≠ 0) (st : Store) : r_frac [.int u, .int l] st = .ok (fd (Rat.divInt u l)) st := by
  have i1 := isint1 (.int u) st rfl
  have i2 := isint1 (.int l) st rfl
  have f := F u l st h0 hu hl
  have b := bey2 (n := 9000) (Nat.le_refl _)
  have ab : ∀ (i : Int) st, fAbs [.int i] st = some (.int ((i.natAbs : Nat) : Int)) := fun i st => by
    unfold fAbs
    dsimp only
    congr 2
    split <;> omega
  have c1 : ¬ k_BEYOND ≤ ((u.natAbs : Nat) : Int) := by omega
  have c2 : ¬ k_BEYOND ≤ ((l.natAbs : Nat) : Int) := by omega
  have e0 : envE 2 ([D.int u, D.int l].map some) = [some (.int u), some (.int l)] := rfl
  show bodyR (m_frac r_is_integer r_fr (envE 2 ([D.int u, D.int l].map some)) st) = _
  rw [e0]
  unfold m_frac
  simp [x_var, i1, i2, intD, truD, ab, c1, c2, h0, f]
theorem frac_bad0 {x : D} (hx : plD x = true) (h : intD x = false ∨ ∃ i : Int, x = .int i ∧ k_BEYOND ≤ (i.natAbs : Int)) (y : D) (st : Store) : r_frac [x, y] st = .er (eAt "InvalidFraction" 0) st := by
  have i1 := isint1 x st hx
  have v1 := plD_v hx st
  have e0 : envE 2 ([x, y].map some) = [some x, some y] := rfl
  have ab : ∀ (i : Int) st, fAbs [.int i] st = some (.int ((i.natAbs : Nat) : Int)) := fun i st => by
    unfold fAbs
    dsimp only
    congr 2
    split <;> omega
  show bodyR (m_frac r_is_integer r_fr (envE 2 ([x, y].map some)) st) = _
  rw [e0]
  unfold m_frac
  rcases h with h | ⟨i, rfl, h⟩
  · rw [h] at i1
    simp [x_var, v1, i1, truD, eAt]
  · simp only [intD] at i1
    simp [x_var, i1, truD, ab, h, eAt]
theorem frac_bad1 {x : D} (hx : plD x = true) (h : intD x = false ∨ ∃ i : Int, x = .int i ∧ (k_BEYOND ≤ (i.natAbs : Int) ∨ i = 0)) (st : Store) : r_frac [.int 1, x] st = .er (eAt "InvalidFraction" 1) st := by
  have i0 := isint1 (.int 1) st rfl
  have i1 := isint1 x st hx
  have v1 := plD_v hx st
  have b := bey2 (n := 9000) (Nat.le_refl _)
  have c1 : ¬ k_BEYOND ≤ 1 := by
    have : (2 : Nat) ^ 9000 > 1 := by decide +kernel
    omega
  have e0 : envE 2 ([D.int 1, x].map some) = [some (.int 1), some x] := rfl
  have ab : ∀ (i : Int) st, fAbs [.int i] st = some (.int ((i.natAbs : Nat) : Int)) := fun i st => by
    unfold fAbs
    dsimp only
    congr 2
    split <;> omega
  show bodyR (m_frac r_is_integer r_fr (envE 2 ([D.int 1, x].map some)) st) = _
  rw [e0]
  unfold m_frac
  rcases h with h | ⟨i, rfl, h⟩
  · rw [h] at i1
    simp [x_var, v1, i0, i1, truD, ab, c1, intD, eAt]
  · simp only [intD] at i1
    by_cases h2 : k_BEYOND ≤ (i.natAbs : Int)
    · simp [x_var, i0, i1, truD, ab, h2, c1, intD, eAt]
    · rcases h with h | rfl
      · exact absurd h h2
      · have h2' : ¬ k_BEYOND ≤ 0 := by omega
        simp [x_var, i0, i1, truD, ab, h2', c1, intD, eAt]
theorem fractext1 {q : Rat} {n : Nat} (h : Fz n q) (hn : n ≤ 9000) (st : Store) : r_frac_text [fd q] st = .ok (.str (tx q.num q.den)) st := by
  have n1 := need1 (plF_fd q) (-1) st
  rw [if_pos (frF h hn)] at n1
  have e29 : (2 : Nat) ^ 9000 < 10 ^ 3000 := by decide +kernel
  have p1 : q.num.natAbs < 10 ^ 3000 := Nat.lt_trans (up_lt2 h.1 hn) e29
  have p2 : (q.den : Int).natAbs < 10 ^ 3000 := Nat.lt_trans (up_lt2 (den_lt h) hn) e29
  have t := textof1 p1 p2 st
  have e0 : envE 1 ([fd q].map some) = [some (fd q)] := rfl
  show bodyR (m_frac_text r_text_of_frac r_need_frac (envE 1 ([fd q].map some)) st) = _
  rw [e0]
  unfold m_frac_text
  have t' : r_text_of_frac [fd q] st = .ok (.str (tx q.num q.den)) st := t
  simp [x_var, n1, t']
theorem fractext_bad {x : D} (hx : plF x) (fx : frD k_BEYOND x = false) (st : Store) : r_frac_text [x] st = .er (eAt "InvalidFraction" (-1)) st := by
  have n1 := need1 hx (-1) st
  rw [if_neg (by rw [fx]; exact Bool.false_ne_true)] at n1
  have v1 := plD_v hx.1 st
  have e0 : envE 1 ([x].map some) = [some x] := rfl
  show bodyR (m_frac_text r_text_of_frac r_need_frac (envE 1 ([x].map some)) st) = _
  rw [e0]
  unfold m_frac_text
  simp [x_var, v1, n1]
/-! ### what a call is refused with -/
abbrev errH : List (String × Nat × (Er → MS)) := [("InvalidFraction", 1, fun er => (sRet (mTup (aCons (mLit (.str [102, 114, 97, 99, 116, 105, 111, 110])) (aCons (mFld ["InvalidFraction"] 1 "at" er) aNil))))), ("InvalidWords", 1, fun er => (sRet (mTup (aCons (mLit (.str [119, 111, 114, 100, 115])) (aCons (mFld ["InvalidWords"] 1 "at" er) aNil))))), ("InvalidSize", 1, fun er => (sRet (mTup (aCons (mLit (.str [115, 105, 122, 101])) (aCons (mFld ["InvalidSize"] 1 "word" er) aNil))))), ("Refused", 1, fun er => (sRet (mTup (aCons (mLit (.str [114, 101, 102, 117, 115, 101, 100])) (aCons (mFld ["Refused"] 1 "at" er) aNil)))))]
theorem err_e0 : envE 2 [some (.clo 0)] = [some (.clo 0), none] := rfl
theorem err_er {g : Clo} {er : Er} {w : List Nat} {x : D} {st st' : Store} (hc : er = eAt "InvalidFraction" 0 ∧ w = [102, 114, 97, 99, 116, 105, 111, 110] ∧ x = .int 0 ∨ er = eAt "InvalidFraction" 1 ∧ w = [102, 114, 97, 99, 116, 105, 111, 110] ∧ x = .int 1 ∨ er = eAt "InvalidFraction" (-1) ∧ w = [102, 114, 97, 99, 116, 105, 111, 110] ∧ x = .int (-1) ∨ er = eAt "InvalidWords" (-1) ∧ w = [119, 111, 114, 100, 115] ∧ x = .int (-1) ∨ er = eSize ∧ w = [115, 105, 122, 101] ∧ x = .str [102, 105, 103, 117, 114, 101, 115] ∨ er = eAt "Refused" (-1) ∧ w = [114, 101, 102, 117, 115, 101, 100] ∧ x = .int (-1))
    (h : g [] st = .er er st') : r__law_error g [] st = .ok (.tup [.str w, x]) st' := by
  show bodyR (m__law_error g (envE 2 [some (.clo 0)]) st) = _
  have e1 : mAct 0 g aNil [some (.clo 0), none] st = .er er st' := by
    show (Res.ok [] st).bind g = _
    rw [bind_ok, h]
  have s1 : Sz 2 = true := by decide
  rw [err_e0, m__law_error, x_seq]
  have e2 : sTry exm (sDrop (mAct 0 g aNil)) errH [some (.clo 0), none] st = .rt (.tup [.str w, x]) st' := by
    unfold sTry
    rw [x_drop, e1]
    rcases hc with ⟨rfl, rfl, rfl⟩ | ⟨rfl, rfl, rfl⟩ | ⟨rfl, rfl, rfl⟩ | ⟨rfl, rfl, rfl⟩ | ⟨rfl, rfl, rfl⟩ | ⟨rfl, rfl, rfl⟩ <;> simp [handF, exm, eAt, eSize, mFld, unsetO, s1, List.lookup]
  rw [e2]
  rfl
end K02
set_option Elab.async false
set_option linter.all false
set_option autoImplicit false
set_option maxRecDepth 100000
set_option maxHeartbeats 4000000
/-! Law k02, plain: texts that are none; the law's own words. -/
namespace K02
open Bw
theorem frD_parts {B a b : Int} (h : frD B (P a b) = true) : 0 < b ∧ b < B ∧ (a.natAbs : Int) < B ∧ Nat.gcd a.natAbs b.natAbs = 1 := by
  simp only [frD, Bool.and_eq_true, decide_eq_true_eq] at h
  exact ⟨h.1.1.1, h.1.1.2, h.1.2, h.2⟩
theorem rdV_bad {s : List Nat} (h : ¬ IsTx s) (st : Store) : rdV s st = .er eWords st := by
  unfold rdV
  cases e : rd s with
  | none => rfl
  | some ab =>
    obtain ⟨a, b⟩ := ab
    dsimp only
    rw [if_neg]
    intro k
    rw [Bool.and_eq_true] at k
    obtain ⟨h1, _, _, h4⟩ := frD_parts k.1
    have k2 := of_decide_eq_true k.2
    exact h ⟨a, b.natAbs, by omega, h4, by rw [← k2]; congr 1; omega⟩
theorem rdV_tx {q : Rat} (h : Fz 200 q) (st : Store) : rdV (tx q.num q.den) st = .ok (fd q) st := by
  have e29 : (2 : Nat) ^ 200 < 10 ^ 3000 := by decide +kernel
  have e := rd_tx (Nat.lt_trans h.1 e29) (Nat.lt_trans h.2 e29) q.den_pos
  unfold rdV
  rw [e]
  dsimp only
  have f : frD k_BEYOND (P q.num q.den) = true := frF h (by decide)
  rw [if_pos (by rw [f, decide_eq_true rfl]; rfl)]
  rfl
theorem tx_len {q : Rat} (h : Fz 200 q) : (tx q.num q.den).length ≤ 200 := by
  have e : (2 : Nat) ^ 200 ≤ 10 ^ 61 := by decide
  have l : ∀ i : Int, i.natAbs < 2 ^ 200 → (decD i).length ≤ 62 := by
    intro i hi
    rcases decD_cases i with ⟨n, h, e⟩ | ⟨n, h, e⟩
    · rw [e]; have := dec_len (k := 60) (n := n) (by omega); omega
    · rw [e]; have := dec_len (k := 60) (n := n + 1) (by omega); simp; omega
  have l1 := l _ h.1
  have l2 := l q.den (by have := h.2; omega)
  unfold tx
  split
  · simp; omega
  · simp; omega
theorem lwords1 {a b : Int} (ha : a.natAbs.log2 < 1920) (hb : b.natAbs.log2 < 1920) (hb0 : 0 < b) (l1 : (decD a).length ≤ 1000000) (l2 : (decD b).length ≤ 1000000) (st : Store) : r__law_words [P a b] st = .ok (.str (tx a b)) st := by
  have e0 : envE 1 ([P a b].map some) = [some (P a b)] := rfl
  have f1 : ∀ s, fStr [.int a] s = some (.str (decD a)) := fun s => by simp [fStr, ha]
  have f2 : ∀ s, fStr [.int b] s = some (.str (decD b)) := fun s => by simp [fStr, hb]
  have z1 : Sz ((decD a).length) = true := decide_eq_true (by omega)
  have z2 : Sz (1 + (decD b).length) = true := decide_eq_true (by omega)
  have z2' : Sz ((decD b).length + 1) = true := decide_eq_true (by omega)
  have z3 : Sz ((decD a).length + ((decD b).length + 1)) = true := decide_eq_true (by omega)
  show bodyR (m__law_words (envE 1 ([P a b].map some)) st) = _
  rw [e0]
  unfold m__law_words tx
  by_cases h : b = 1
  · subst h
    simp [x_var, pi0, pi1, f1, addD, z1]
  · have h1 : 1 < b := by omega
    simp [x_var, pi0, pi1, f1, f2, h, h1, addD, z2, z2', z3]
theorem lwordsq {q : Rat} (h : Fz 200 q) (st : Store) : r__law_words [fd q] st = .ok (.str (tx q.num q.den)) st := by
  have lg : ∀ n : Nat, n < 2 ^ 200 → n.log2 < 1920 := by
    intro n hn
    by_cases h0 : n = 0
    · subst h0; decide
    · exact (Nat.log2_lt h0).mpr (Nat.lt_of_lt_of_le hn (Nat.pow_le_pow_right (by decide) (by decide)))
  have e : (2 : Nat) ^ 200 ≤ 10 ^ 61 := by decide
  have l : ∀ i : Int, i.natAbs < 2 ^ 200 → (decD i).length ≤ 62 := by
    intro i hi
    rcases decD_cases i with ⟨n, h, e⟩ | ⟨n, h, e⟩
    · rw [e]; have := dec_len (k := 60) (n := n) (by omega); omega
    · rw [e]; have := dec_len (k := 60) (n := n + 1) (by omega); simp; omega
  have d : (q.den : Int).natAbs < 2 ^ 200 := by have := h.2; omega
  exact lwords1 (a := q.num) (b := q.den) (lg _ h.1) (lg _ d) (by have := q.den_pos; omega) (by have := l _ h.1; omega) (by have := l _ d; omega) st
/-- a text of figures alone, the minus signs taken out -/
theorem rep_dec (n : Nat) : repD 45 [] (dec n) = dec n := by
  unfold repD
  have : ∀ s : List Nat, (∀ c ∈ s, dig c) → s.flatMap (fun x => if x = 45 then [] else [x]) = s := by
    intro s
    induction s with
    | nil => intro _; rfl
    | cons c r ih =>
      intro h
      have hc := h c List.mem_cons_self
      unfold dig at hc
      rw [List.flatMap_cons, ih (fun x hx => h x (List.mem_cons_of_mem _ hx)), if_neg (by omega)]
      rfl
  exact this _ (dec_dig n)
theorem rep_app (s t : List Nat) : repD 45 [] (s ++ t) = repD 45 [] s ++ repD 45 [] t := by
  unfold repD
  rw [List.flatMap_append]
theorem rep_decD (a : Int) : ∃ n, repD 45 [] (decD a) = dec n := by
  rcases decD_cases a with ⟨n, _, e⟩ | ⟨n, _, e⟩
  · exact ⟨n, by rw [e, rep_dec]⟩
  · refine ⟨n + 1, ?_⟩
    rw [e]
    show repD 45 [] ([45] ++ dec (n + 1)) = _
    rw [rep_app, rep_dec]
    rfl
theorem bad_rep (a : Int) (b : Nat) : ¬ IsTx (repD 45 [] (tx a b) ++ [47, 48]) := by
  obtain ⟨n, hn⟩ := rep_decD a
  unfold tx
  split
  · rw [List.append_nil, hn]
    exact bad_over0 (no47 n)
  · have : repD 45 [] (decD a ++ 47 :: decD (b : Int)) = dec n ++ 47 :: dec b := by
      rw [rep_app, hn, decD_nat]
      show dec n ++ repD 45 [] ([47] ++ dec b) = _
      rw [rep_app, rep_dec]
      rfl
    rw [this, List.append_assoc]
    exact bad_over02 (no47 n)
theorem bad_24 : ¬ IsTx [50, 47, 52] := by
  intro h
  obtain ⟨a, b, h1, h2, h3, h4⟩ := tx_cut (p := [50]) (q := [52]) (by decide) h
  have hb : b = 4 := by rw [← dec_val b, ← h4]; rfl
  subst hb
  rcases decD_cases a with ⟨n, rfl, e⟩ | ⟨n, _, e⟩
  · rw [e] at h3
    have : n = 2 := by rw [← dec_val n, ← h3]; rfl
    subst this
    exact absurd h2 (by decide)
  · rw [e] at h3
    exact absurd h3 (by simp)
/-- the texts that the law asks for, none of which is a fraction's -/
def badT (s : List Nat) : List (List Nat) := [43 :: s, 32 :: s, s ++ [32], 48 :: s, s ++ [47, 49], s ++ [47], 47 :: s, 45 :: 45 :: s, repD 45 [] s ++ [47, 48], [50, 47, 52]]
theorem badT_bad (a : Int) (b : Nat) : ∀ t ∈ badT (tx a b), ¬ IsTx t := by
  intro t ht
  simp only [badT, List.mem_cons, List.not_mem_nil, or_false] at ht
  rcases ht with rfl | rfl | rfl | rfl | rfl | rfl | rfl | rfl | rfl | rfl
  · exact bad_plus
  · exact bad_gap
  · exact bad_gap2
  · exact bad_nought
  · exact bad_one
  · exact bad_stroke
  · exact bad_stroke2
  · exact bad_minus
  · exact bad_rep a b
  · exact bad_24
theorem rep_len (s : List Nat) : (repD 45 [] s).length ≤ s.length := by
  unfold repD
  induction s with
  | nil => exact Nat.le_refl _
  | cons c r ih =>
    rw [List.flatMap_cons, List.length_append, List.length_cons]
    split
    · show 0 + _ ≤ _; omega
    · show 1 + _ ≤ _; omega
theorem badT_len {s : List Nat} (h : s.length ≤ 200) : ∀ t ∈ badT s, t.length ≤ 210 := by
  intro t ht
  have r := rep_len s
  simp only [badT, List.mem_cons, List.not_mem_nil, or_false] at ht
  rcases ht with rfl | rfl | rfl | rfl | rfl | rfl | rfl | rfl | rfl | rfl <;> simp <;> omega
end K02
set_option Elab.async false
set_option linter.all false
set_option autoImplicit false
set_option maxRecDepth 100000
set_option maxHeartbeats 4000000
/-! Law k02, plain: a turn. -/
namespace K02
open Bw
noncomputable def w0 : MS := (sPar 1 2 (aCons (mCall (fun ds st => if ds.length = 1 then r__law_box ds st else .no) (aCons (mVar 0) aNil)) (aCons (mOp fPow (mOp fPow (mLit (.int 10)) (mLit (.int 50))) (mLit (.int 60))) aNil)))
noncomputable def w1_0 : MS := (sPar3 4 5 6 (aCons (mCall (fun ds st => if ds.length = 1 then r__law_drawn ds st else .no) (aCons (mVar 1) aNil)) (aCons (mCall (fun ds st => if ds.length = 1 then r__law_drawn ds st else .no) (aCons (mVar 1) aNil)) (aCons (mOp fAdd (mLit (.int 1)) (mCall (fun ds st => if ds.length = 2 then r__law_take ds st else .no) (aCons (mVar 1) (aCons (mLit (.int 50)) aNil)))) aNil))))
noncomputable def w1_1 : MS := (sAsg (mCall (fun ds st => if ds.length = 2 then r__law_sum ds st else .no) (aCons (mVar 4) (aCons (mVar 5) aNil))) (gN 7))
noncomputable def w1_2 : MS := (sIf (tNot (tVal (mCall (fun ds st => if ds.length = 2 then (r__law_is 8) ds st else .no) (aCons (mTup (aCons (mCall (fun ds st => if ds.length = 2 then r_plus ds st else .no) (aCons (mVar 4) (aCons (mVar 5) aNil))) (aCons (mCall (fun ds st => if ds.length = 2 then r_plus ds st else .no) (aCons (mVar 5) (aCons (mVar 4) aNil))) (aCons (mCall (fun ds st => if ds.length = 2 then r_less ds st else .no) (aCons (mVar 7) (aCons (mVar 5) aNil))) (aCons (mCall (fun ds st => if ds.length = 2 then r_less ds st else .no) (aCons (mVar 7) (aCons (mVar 4) aNil))) aNil))))) (aCons (mTup (aCons (mVar 7) (aCons (mVar 7) (aCons (mVar 4) (aCons (mVar 5) aNil))))) aNil))))) (sRet (mLit (.bl false))) sNext)
noncomputable def w1_3 : MS := (sAsg (mCall (fun ds st => if ds.length = 2 then r__law_fr ds st else .no) (aCons (mOp fMul (mOp idxD (mVar 4) (mLit (.int 0))) (mOp idxD (mVar 5) (mLit (.int 0)))) (aCons (mOp fMul (mOp idxD (mVar 4) (mLit (.int 1))) (mOp idxD (mVar 5) (mLit (.int 1)))) aNil))) (gN 7))
noncomputable def w1_4 : MS := (sIf (tNot (tVal (mCall (fun ds st => if ds.length = 2 then (r__law_is 8) ds st else .no) (aCons (mTup (aCons (mCall (fun ds st => if ds.length = 2 then r_times ds st else .no) (aCons (mVar 4) (aCons (mVar 5) aNil))) (aCons (mCall (fun ds st => if ds.length = 2 then r_times ds st else .no) (aCons (mVar 5) (aCons (mVar 4) aNil))) aNil))) (aCons (mTup (aCons (mVar 7) (aCons (mVar 7) aNil))) aNil))))) (sRet (mLit (.bl false))) sNext)
noncomputable def w1_5 : MS := (sIf (tAnd (tCmp (mOp fNe (mOp idxD (mVar 5) (mLit (.int 0))) (mLit (.int 0)))) (tNot (tVal (mCall (fun ds st => if ds.length = 2 then (r__law_is 8) ds st else .no) (aCons (mTup (aCons (mCall (fun ds st => if ds.length = 2 then r_over ds st else .no) (aCons (mVar 7) (aCons (mVar 5) aNil))) (aCons (mCall (fun ds st => if ds.length = 2 then r_over ds st else .no) (aCons (mVar 4) (aCons (mVar 5) aNil))) aNil))) (aCons (mTup (aCons (mVar 4) (aCons (mCall (fun ds st => if ds.length = 2 then r__law_fr ds st else .no) (aCons (mOp fMul (mOp idxD (mVar 4) (mLit (.int 0))) (mOp idxD (mVar 5) (mLit (.int 1)))) (aCons (mOp fMul (mOp idxD (mVar 4) (mLit (.int 1))) (mOp idxD (mVar 5) (mLit (.int 0)))) aNil))) aNil))) aNil)))))) (sRet (mLit (.bl false))) sNext)
noncomputable def w1_6 : MS := (sIf (tNot (tVal (mCall (fun ds st => if ds.length = 2 then (r__law_is 8) ds st else .no) (aCons (mTup (aCons (mCall (fun ds st => if ds.length = 2 then r_is_less ds st else .no) (aCons (mVar 4) (aCons (mVar 5) aNil))) (aCons (mCall (fun ds st => if ds.length = 2 then r_is_less ds st else .no) (aCons (mVar 5) (aCons (mVar 4) aNil))) aNil))) (aCons (mTup (aCons (mOp fLt (mOp fMul (mOp idxD (mVar 4) (mLit (.int 0))) (mOp idxD (mVar 5) (mLit (.int 1)))) (mOp fMul (mOp idxD (mVar 5) (mLit (.int 0))) (mOp idxD (mVar 4) (mLit (.int 1))))) (aCons (mOp fLt (mOp fMul (mOp idxD (mVar 5) (mLit (.int 0))) (mOp idxD (mVar 4) (mLit (.int 1)))) (mOp fMul (mOp idxD (mVar 4) (mLit (.int 0))) (mOp idxD (mVar 5) (mLit (.int 1))))) aNil))) aNil))))) (sRet (mLit (.bl false))) sNext)
noncomputable def w1_7 : MS := (sIf (tNot (tVal (mCall (fun ds st => if ds.length = 2 then (r__law_is 8) ds st else .no) (aCons (mTup (aCons (mCall (fun ds st => if ds.length = 2 then r_frac ds st else .no) (aCons (mOp fMul (mOp idxD (mVar 4) (mLit (.int 0))) (mVar 6)) (aCons (mOp fMul (mOp idxD (mVar 4) (mLit (.int 1))) (mVar 6)) aNil))) (aCons (mCall (fun ds st => if ds.length = 2 then r_frac ds st else .no) (aCons (mOp fMul (mUn (fun x _ => negD x) (mOp idxD (mVar 4) (mLit (.int 0)))) (mVar 6)) (aCons (mUn (fun x _ => negD x) (mOp idxD (mVar 4) (mLit (.int 1)))) aNil))) aNil))) (aCons (mTup (aCons (mVar 4) (aCons (mCall (fun ds st => if ds.length = 2 then r__law_fr ds st else .no) (aCons (mOp fMul (mOp idxD (mVar 4) (mLit (.int 0))) (mVar 6)) (aCons (mOp idxD (mVar 4) (mLit (.int 1))) aNil))) aNil))) aNil))))) (sRet (mLit (.bl false))) sNext)
noncomputable def w1_8 : MS := (sAsg (mCall (fun ds st => if ds.length = 1 then r__law_words ds st else .no) (aCons (mVar 4) aNil)) (gN 8))
noncomputable def w1_9 : MS := (sIf (tNot (tVal (mCall (fun ds st => if ds.length = 2 then (r__law_is 8) ds st else .no) (aCons (mTup (aCons (mCall (fun ds st => if ds.length = 1 then r_frac_text ds st else .no) (aCons (mVar 4) aNil)) (aCons (mCall (fun ds st => if ds.length = 1 then r_frac_text ds st else .no) (aCons (mVar 4) aNil)) (aCons (mCall (fun ds st => if ds.length = 1 then r_read_frac ds st else .no) (aCons (mVar 8) aNil)) (aCons (mCall (fun ds st => if ds.length = 1 then r_read_frac ds st else .no) (aCons (mVar 8) aNil)) aNil))))) (aCons (mTup (aCons (mVar 8) (aCons (mVar 8) (aCons (mVar 4) (aCons (mVar 4) aNil))))) aNil))))) (sRet (mLit (.bl false))) sNext)
noncomputable def w1_10_0 : MS := (sIf (tAnd (tCmp (mOp fNe (mVar 9) (mVar 8))) (tNot (tVal (mCall (fun ds st => if ds.length = 2 then (r__law_is 8) ds st else .no) (aCons (mLam (fun gc ds st => if ds.length + 1 = 1 then r__law_error gc ds st else .no) false 0 [false, false, false, false, false, false, false, false, false, true, false, false, false] (mCall (fun ds st => if ds.length = 1 then r_read_frac ds st else .no) (aCons (mVar 9) aNil)) aNil) (aCons (mTup (aCons (mLit (.str [119, 111, 114, 100, 115])) (aCons (mUn (fun x _ => negD x) (mLit (.int 1))) aNil))) aNil)))))) (sRet (mLit (.bl false))) sNext)
noncomputable def w1_10B : MS := w1_10_0
noncomputable def w1_10 : MS := (sFor (iVal (mLst (aCons (mOp fAdd (mLit (.str [43])) (mVar 8)) (aCons (mOp fAdd (mLit (.str [32])) (mVar 8)) (aCons (mOp fAdd (mVar 8) (mLit (.str [32]))) (aCons (mOp fAdd (mLit (.str [48])) (mVar 8)) (aCons (mOp fAdd (mVar 8) (mLit (.str [47, 49]))) (aCons (mOp fAdd (mVar 8) (mLit (.str [47]))) (aCons (mOp fAdd (mLit (.str [47])) (mVar 8)) (aCons (mOp fAdd (mLit (.str [45, 45])) (mVar 8)) (aCons (mOp fAdd (mRep 45 [] (mVar 8)) (mLit (.str [47, 48]))) (aCons (mOp fAdd (mCall (fun ds st => if ds.length = 1 then r__law_words ds st else .no) (aCons (mTup (aCons (mLit (.int 2)) (aCons (mLit (.int 4)) aNil))) aNil)) (mLit (.str []))) aNil)))))))))))) (gN 9) w1_10B)
noncomputable def w1B : MS := (sSeq w1_0 (sSeq w1_1 (sSeq w1_2 (sSeq w1_3 (sSeq w1_4 (sSeq w1_5 (sSeq w1_6 (sSeq w1_7 (sSeq w1_8 (sSeq w1_9 w1_10))))))))))
noncomputable def w1 : MS := (sFor (iRng1 (aCons (mLit (.int 12)) aNil)) (gN 3) w1B)
noncomputable def w2 : MS := (sAsg (mLst (aCons (mLit .non) (aCons (mLit (.int 3)) (aCons (mTup (aCons (mLit (.int 1)) aNil)) (aCons (mTup (aCons (mLit (.int 1)) (aCons (mLit (.int 0)) aNil))) (aCons (mTup (aCons (mLit (.int 2)) (aCons (mLit (.int 4)) aNil))) (aCons (mTup (aCons (mLit (.int 1)) (aCons (mUn (fun x _ => negD x) (mLit (.int 2))) aNil))) (aCons (mLst (aCons (mLit (.int 1)) (aCons (mLit (.int 2)) aNil))) (aCons (mTup (aCons (mLit (.bl true)) (aCons (mLit (.int 2)) aNil))) (aCons (mTup (aCons (mLit (.int 1)) (aCons (mLit (.bl true)) aNil))) (aCons (mTup (aCons (mLit (.int 0)) (aCons (mLit (.int 2)) aNil))) (aCons (mTup (aCons (mLit (.str [49])) (aCons (mLit (.int 2)) aNil))) (aCons (mTup (aCons (mLit (.int 1)) (aCons (mLit (.int 2)) (aCons (mLit (.int 3)) aNil)))) (aCons (mTup (aCons (mVar 2) (aCons (mLit (.int 1)) aNil))) (aCons (mTup (aCons (mLit (.int 1)) (aCons (mVar 2) aNil))) aNil))))))))))))))) (gN 10))
noncomputable def w3 : MS := (sForL 11 [(sIf (tOr (tNot (tVal (mLam (fun gc ds st => if ds.length + 1 = 3 then r__law_all gc ds st else .no) false 1 [false, false, false, false, false, false, false, false, false, false, false, true, false] (mAct 12 (fun ds st => if ds.length = 2 then r_plus ds st else .no) (aCons (mVar 0) (aCons (mLit .non) aNil))) (aCons (mVar 10) (aCons (mTup (aCons (mLit (.str [102, 114, 97, 99, 116, 105, 111, 110])) (aCons (mLit (.int 0)) aNil))) aNil))))) (tNot (tVal (mLam (fun gc ds st => if ds.length + 1 = 3 then r__law_all gc ds st else .no) false 1 [false, false, false, false, false, false, false, false, false, false, false, true, false] (mAct 12 (fun ds st => if ds.length = 2 then r_plus ds st else .no) (aCons (mTup (aCons (mLit (.int 0)) (aCons (mLit (.int 1)) aNil))) (aCons (mVar 0) aNil))) (aCons (mVar 10) (aCons (mTup (aCons (mLit (.str [102, 114, 97, 99, 116, 105, 111, 110])) (aCons (mLit (.int 1)) aNil))) aNil)))))) (sRet (mLit (.bl false))) sNext), (sIf (tOr (tNot (tVal (mLam (fun gc ds st => if ds.length + 1 = 3 then r__law_all gc ds st else .no) false 1 [false, false, false, false, false, false, false, false, false, false, false, true, false] (mAct 12 (fun ds st => if ds.length = 2 then r_less ds st else .no) (aCons (mVar 0) (aCons (mLit .non) aNil))) (aCons (mVar 10) (aCons (mTup (aCons (mLit (.str [102, 114, 97, 99, 116, 105, 111, 110])) (aCons (mLit (.int 0)) aNil))) aNil))))) (tNot (tVal (mLam (fun gc ds st => if ds.length + 1 = 3 then r__law_all gc ds st else .no) false 1 [false, false, false, false, false, false, false, false, false, false, false, true, false] (mAct 12 (fun ds st => if ds.length = 2 then r_less ds st else .no) (aCons (mTup (aCons (mLit (.int 0)) (aCons (mLit (.int 1)) aNil))) (aCons (mVar 0) aNil))) (aCons (mVar 10) (aCons (mTup (aCons (mLit (.str [102, 114, 97, 99, 116, 105, 111, 110])) (aCons (mLit (.int 1)) aNil))) aNil)))))) (sRet (mLit (.bl false))) sNext), (sIf (tOr (tNot (tVal (mLam (fun gc ds st => if ds.length + 1 = 3 then r__law_all gc ds st else .no) false 1 [false, false, false, false, false, false, false, false, false, false, false, true, false] (mAct 12 (fun ds st => if ds.length = 2 then r_times ds st else .no) (aCons (mVar 0) (aCons (mLit .non) aNil))) (aCons (mVar 10) (aCons (mTup (aCons (mLit (.str [102, 114, 97, 99, 116, 105, 111, 110])) (aCons (mLit (.int 0)) aNil))) aNil))))) (tNot (tVal (mLam (fun gc ds st => if ds.length + 1 = 3 then r__law_all gc ds st else .no) false 1 [false, false, false, false, false, false, false, false, false, false, false, true, false] (mAct 12 (fun ds st => if ds.length = 2 then r_times ds st else .no) (aCons (mTup (aCons (mLit (.int 0)) (aCons (mLit (.int 1)) aNil))) (aCons (mVar 0) aNil))) (aCons (mVar 10) (aCons (mTup (aCons (mLit (.str [102, 114, 97, 99, 116, 105, 111, 110])) (aCons (mLit (.int 1)) aNil))) aNil)))))) (sRet (mLit (.bl false))) sNext), (sIf (tOr (tNot (tVal (mLam (fun gc ds st => if ds.length + 1 = 3 then r__law_all gc ds st else .no) false 1 [false, false, false, false, false, false, false, false, false, false, false, true, false] (mAct 12 (fun ds st => if ds.length = 2 then r_over ds st else .no) (aCons (mVar 0) (aCons (mLit .non) aNil))) (aCons (mVar 10) (aCons (mTup (aCons (mLit (.str [102, 114, 97, 99, 116, 105, 111, 110])) (aCons (mLit (.int 0)) aNil))) aNil))))) (tNot (tVal (mLam (fun gc ds st => if ds.length + 1 = 3 then r__law_all gc ds st else .no) false 1 [false, false, false, false, false, false, false, false, false, false, false, true, false] (mAct 12 (fun ds st => if ds.length = 2 then r_over ds st else .no) (aCons (mTup (aCons (mLit (.int 0)) (aCons (mLit (.int 1)) aNil))) (aCons (mVar 0) aNil))) (aCons (mVar 10) (aCons (mTup (aCons (mLit (.str [102, 114, 97, 99, 116, 105, 111, 110])) (aCons (mLit (.int 1)) aNil))) aNil)))))) (sRet (mLit (.bl false))) sNext), (sIf (tOr (tNot (tVal (mLam (fun gc ds st => if ds.length + 1 = 3 then r__law_all gc ds st else .no) false 1 [false, false, false, false, false, false, false, false, false, false, false, true, false] (mAct 12 (fun ds st => if ds.length = 2 then r_is_less ds st else .no) (aCons (mVar 0) (aCons (mLit .non) aNil))) (aCons (mVar 10) (aCons (mTup (aCons (mLit (.str [102, 114, 97, 99, 116, 105, 111, 110])) (aCons (mLit (.int 0)) aNil))) aNil))))) (tNot (tVal (mLam (fun gc ds st => if ds.length + 1 = 3 then r__law_all gc ds st else .no) false 1 [false, false, false, false, false, false, false, false, false, false, false, true, false] (mAct 12 (fun ds st => if ds.length = 2 then r_is_less ds st else .no) (aCons (mTup (aCons (mLit (.int 0)) (aCons (mLit (.int 1)) aNil))) (aCons (mVar 0) aNil))) (aCons (mVar 10) (aCons (mTup (aCons (mLit (.str [102, 114, 97, 99, 116, 105, 111, 110])) (aCons (mLit (.int 1)) aNil))) aNil)))))) (sRet (mLit (.bl false))) sNext)])
noncomputable def w4 : MS := (sIf (tOr (tNot (tVal (mLam (fun gc ds st => if ds.length + 1 = 3 then r__law_all gc ds st else .no) false 1 [false, false, false, false, false, false, false, false, false, false, false, false, false] (mCall (fun ds st => if ds.length = 1 then r_frac_text ds st else .no) (aCons (mVar 0) aNil)) (aCons (mVar 10) (aCons (mTup (aCons (mLit (.str [102, 114, 97, 99, 116, 105, 111, 110])) (aCons (mUn (fun x _ => negD x) (mLit (.int 1))) aNil))) aNil))))) (tNot (tVal (mCall (fun ds st => if ds.length = 2 then (r__law_is 8) ds st else .no) (aCons (mLam (fun gc ds st => if ds.length + 1 = 1 then r__law_error gc ds st else .no) false 0 [false, false, false, false, false, false, false, false, false, false, false, false, false] (mCall (fun ds st => if ds.length = 2 then r_over ds st else .no) (aCons (mTup (aCons (mLit (.int 1)) (aCons (mLit (.int 2)) aNil))) (aCons (mTup (aCons (mLit (.int 0)) (aCons (mLit (.int 1)) aNil))) aNil))) aNil) (aCons (mTup (aCons (mLit (.str [114, 101, 102, 117, 115, 101, 100])) (aCons (mUn (fun x _ => negD x) (mLit (.int 1))) aNil))) aNil)))))) (sRet (mLit (.bl false))) sNext)
noncomputable def w5 : MS := (sIf (tNot (tVal (mLam (fun gc ds st => if ds.length + 1 = 3 then r__law_all gc ds st else .no) false 1 [false, false, false, false, false, false, false, false, false, false, false, false, false] (mCall (fun ds st => if ds.length = 2 then r_frac ds st else .no) (aCons (mVar 0) (aCons (mLit .non) aNil))) (aCons (mLst (aCons (mLit .non) (aCons (mLit (.bl true)) (aCons (mLit (.str [49])) (aCons (mVar 2) (aCons (mUn (fun x _ => negD x) (mVar 2)) aNil)))))) (aCons (mTup (aCons (mLit (.str [102, 114, 97, 99, 116, 105, 111, 110])) (aCons (mLit (.int 0)) aNil))) aNil))))) (sRet (mLit (.bl false))) sNext)
noncomputable def w6 : MS := (sIf (tNot (tVal (mLam (fun gc ds st => if ds.length + 1 = 3 then r__law_all gc ds st else .no) false 1 [false, false, false, false, false, false, false, false, false, false, false, false, false] (mCall (fun ds st => if ds.length = 2 then r_frac ds st else .no) (aCons (mLit (.int 1)) (aCons (mVar 0) aNil))) (aCons (mLst (aCons (mLit .non) (aCons (mLit (.bl true)) (aCons (mLit (.int 0)) (aCons (mVar 2) (aCons (mUn (fun x _ => negD x) (mVar 2)) aNil)))))) (aCons (mTup (aCons (mLit (.str [102, 114, 97, 99, 116, 105, 111, 110])) (aCons (mLit (.int 1)) aNil))) aNil))))) (sRet (mLit (.bl false))) sNext)
noncomputable def w7 : MS := (sAsg (mOp fSub (mVar 2) (mLit (.int 1))) (gN 12))
noncomputable def w8 : MS := (sIf (tNot (tVal (mCall (fun ds st => if ds.length = 2 then (r__law_is 8) ds st else .no) (aCons (mTup (aCons (mCall (fun ds st => if ds.length = 2 then r_plus ds st else .no) (aCons (mTup (aCons (mOp fSub (mVar 12) (mLit (.int 1))) (aCons (mLit (.int 1)) aNil))) (aCons (mTup (aCons (mLit (.int 1)) (aCons (mLit (.int 1)) aNil))) aNil))) (aCons (mCall (fun ds st => if ds.length = 2 then r_less ds st else .no) (aCons (mTup (aCons (mUn (fun x _ => negD x) (mVar 12)) (aCons (mLit (.int 1)) aNil))) (aCons (mTup (aCons (mUn (fun x _ => negD x) (mLit (.int 1))) (aCons (mLit (.int 1)) aNil))) aNil))) (aCons (mCall (fun ds st => if ds.length = 2 then r_times ds st else .no) (aCons (mTup (aCons (mVar 12) (aCons (mLit (.int 1)) aNil))) (aCons (mTup (aCons (mLit (.int 1)) (aCons (mVar 12) aNil))) aNil))) aNil)))) (aCons (mTup (aCons (mTup (aCons (mVar 12) (aCons (mLit (.int 1)) aNil))) (aCons (mTup (aCons (mOp fSub (mLit (.int 1)) (mVar 12)) (aCons (mLit (.int 1)) aNil))) (aCons (mTup (aCons (mLit (.int 1)) (aCons (mLit (.int 1)) aNil))) aNil)))) aNil))))) (sRet (mLit (.bl false))) sNext)
noncomputable def w9 : MS := (sForL 11 [(sIf (tNot (tVal (mCall (fun ds st => if ds.length = 2 then (r__law_is 8) ds st else .no) (aCons (mPass 11 (fun gc ds st => if ds.length + 1 = 1 then r__law_error gc ds st else .no) (fun ρ => (lamD false 0 [false, false, false, false, false, false, false, false, false, false, false, false, true] (mCall (fun ds st => if ds.length = 2 then r_plus ds st else .no) (aCons (mTup (aCons (mVar 12) (aCons (mLit (.int 1)) aNil))) (aCons (mTup (aCons (mLit (.int 1)) (aCons (mLit (.int 1)) aNil))) aNil)))) ρ) aNil) (aCons (mTup (aCons (mLit (.str [115, 105, 122, 101])) (aCons (mLit (.str [102, 105, 103, 117, 114, 101, 115])) aNil))) aNil))))) (sRet (mLit (.bl false))) sNext), (sIf (tNot (tVal (mCall (fun ds st => if ds.length = 2 then (r__law_is 8) ds st else .no) (aCons (mPass 11 (fun gc ds st => if ds.length + 1 = 1 then r__law_error gc ds st else .no) (fun ρ => (lamD true 0 [false, false, false, false, false, false, false, false, false, false, false, false, true] (mCall (fun ds st => if ds.length = 2 then r_times ds st else .no) (aCons (mTup (aCons (mLit (.int 1)) (aCons (mVar 13) aNil))) (aCons (mTup (aCons (mLit (.int 1)) (aCons (mLit (.int 2)) aNil))) aNil)))) ρ) aNil) (aCons (mTup (aCons (mLit (.str [115, 105, 122, 101])) (aCons (mLit (.str [102, 105, 103, 117, 114, 101, 115])) aNil))) aNil))))) (sRet (mLit (.bl false))) sNext), (sIf (tNot (tVal (mCall (fun ds st => if ds.length = 2 then (r__law_is 8) ds st else .no) (aCons (mPass 11 (fun gc ds st => if ds.length + 1 = 1 then r__law_error gc ds st else .no) (fun ρ => (lamD true 0 [false, false, false, false, false, false, false, false, false, false, false, false, true] (mCall (fun ds st => if ds.length = 2 then r_over ds st else .no) (aCons (mTup (aCons (mVar 13) (aCons (mLit (.int 1)) aNil))) (aCons (mTup (aCons (mLit (.int 1)) (aCons (mLit (.int 2)) aNil))) aNil)))) ρ) aNil) (aCons (mTup (aCons (mLit (.str [115, 105, 122, 101])) (aCons (mLit (.str [102, 105, 103, 117, 114, 101, 115])) aNil))) aNil))))) (sRet (mLit (.bl false))) sNext), (sIf (tNot (tVal (mCall (fun ds st => if ds.length = 2 then (r__law_is 8) ds st else .no) (aCons (mPass 11 (fun gc ds st => if ds.length + 1 = 1 then r__law_error gc ds st else .no) (fun ρ => (lamD true 0 [false, false, false, false, false, false, false, false, false, false, false, false, true] (mCall (fun ds st => if ds.length = 2 then r_less ds st else .no) (aCons (mTup (aCons (mLit (.int 1)) (aCons (mVar 13) aNil))) (aCons (mTup (aCons (mLit (.int 1)) (aCons (mOp fSub (mVar 13) (mLit (.int 1))) aNil))) aNil)))) ρ) aNil) (aCons (mTup (aCons (mLit (.str [115, 105, 122, 101])) (aCons (mLit (.str [102, 105, 103, 117, 114, 101, 115])) aNil))) aNil))))) (sRet (mLit (.bl false))) sNext)])
noncomputable def w10 : MS := (sIf (tOr (tNot (tVal (mCall (fun ds st => if ds.length = 2 then (r__law_is 8) ds st else .no) (aCons (mTup (aCons (mCall (fun ds st => if ds.length = 1 then r_read_frac ds st else .no) (aCons (mOp fMul (mLit (.str [57])) (mLit (.int 3000))) aNil)) (aCons (mCall (fun ds st => if ds.length = 1 then r_read_frac ds st else .no) (aCons (mOp fAdd (mLit (.str [45, 49, 47])) (mOp fMul (mLit (.str [57])) (mLit (.int 3000)))) aNil)) aNil))) (aCons (mTup (aCons (mTup (aCons (mVar 12) (aCons (mLit (.int 1)) aNil))) (aCons (mTup (aCons (mUn (fun x _ => negD x) (mLit (.int 1))) (aCons (mVar 12) aNil))) aNil))) aNil))))) (tNot (tVal (mLam (fun gc ds st => if ds.length + 1 = 3 then r__law_all gc ds st else .no) false 1 [false, false, false, false, false, false, false, false, false, false, false, false, false] (mCall (fun ds st => if ds.length = 1 then r_read_frac ds st else .no) (aCons (mVar 0) aNil)) (aCons (mLst (aCons (mOp fMul (mLit (.str [49])) (mLit (.int 3001))) (aCons (mOp fAdd (mLit (.str [49, 47])) (mOp fMul (mLit (.str [55])) (mLit (.int 5000)))) aNil))) (aCons (mTup (aCons (mLit (.str [119, 111, 114, 100, 115])) (aCons (mUn (fun x _ => negD x) (mLit (.int 1))) aNil))) aNil)))))) (sRet (mLit (.bl false))) sNext)
noncomputable def w11 : MS := (sRet (mLam (fun gc ds st => if ds.length + 1 = 3 then r__law_all gc ds st else .no) false 1 [false, false, false, false, false, false, false, false, false, false, false, false, false] (mCall (fun ds st => if ds.length = 1 then r_read_frac ds st else .no) (aCons (mVar 0) aNil)) (aCons (mLst (aCons (mLit .non) (aCons (mLit (.int 1)) (aCons (mLit (.str [])) (aCons (mLit (.str [45])) (aCons (mLit (.str [49, 47, 50, 47, 51])) (aCons (mLit (.str [49, 47, 45, 50])) (aCons (mLit (.str [45, 48])) (aCons (mLit (.str [97])) (aCons (mTup (aCons (mLit (.int 1)) (aCons (mLit (.int 2)) aNil))) (aCons (mLit (.str [50, 47, 52])) (aCons (mLit (.str [48, 47, 53])) aNil)))))))))))) (aCons (mTup (aCons (mLit (.str [119, 111, 114, 100, 115])) (aCons (mUn (fun x _ => negD x) (mLit (.int 1))) aNil))) aNil))))
theorem w_all (ds : List D) (st : Store) : r_law ds st = bodyR ((sSeq w0 (sSeq w1 (sSeq w2 (sSeq w3 (sSeq w4 (sSeq w5 (sSeq w6 (sSeq w7 (sSeq w8 (sSeq w9 (sSeq w10 w11))))))))))) (envE 13 (ds.map some)) st) := rfl

abbrev E13 (x0 x3 x4 x5 x6 x7 x8 x9 x10 x11 x12 : Option D) : Env := [x0, some (.ref 1), some (.int k_BEYOND), x3, x4, x5, x6, x7, x8, x9, x10, x11, x12]
theorem isP_fd (k : Nat) (q : Rat) : isP (k + 2) (fd q) = true := by simp [fd, isP, isPs]
theorem p0 {st : Store} (B : Bx st) (x0 x3 x4 x5 x6 x7 x8 x9 x10 x11 x12 : Option D) : ∃ (p q : Rat) (f : Int) (st' : Store), w1_0 (E13 x0 x3 x4 x5 x6 x7 x8 x9 x10 x11 x12) st = .nx (E13 x0 x3 (some (fd p)) (some (fd q)) (some (.int f)) x7 x8 x9 x10 x11 x12) st' ∧ Bx st' ∧ Fz 200 p ∧ Fz 200 q ∧ 1 ≤ f ∧ f ≤ 50 := by
  obtain ⟨p, st1, h1, B1, z1⟩ := drawn1 B
  obtain ⟨q, st2, h2, B2, z2⟩ := drawn1 B1
  obtain ⟨v, st3, h3, B3, v0, v1⟩ := take1 B2 (many := 50) (by decide) (by decide)
  refine ⟨p, q, 1 + v, st3, ?_, B3, z1, z2, by omega, by omega⟩
  unfold w1_0 sPar3
  simp [x_var, h1, h2, h3]
section
variable {p q : Rat} {f : Int} (hp : Fz 200 p) (hq : Fz 200 q) (st : Store) (x0 x3 x6 x7 x8 x9 x10 x11 x12 : Option D)
theorem p1 (hp : Fz 200 p) (hq : Fz 200 q) : w1_1 (E13 x0 x3 (some (fd p)) (some (fd q)) x6 x7 x8 x9 x10 x11 x12) st = .nx (E13 x0 x3 (some (fd p)) (some (fd q)) x6 (some (fd (p + q))) x8 x9 x10 x11 x12) st := by
  have h := lsum1 hp hq (by decide) st
  unfold w1_1
  simp [x_var, h]
theorem p2 (hp : Fz 200 p) (hq : Fz 200 q) : w1_2 (E13 x0 x3 (some (fd p)) (some (fd q)) x6 (some (fd (p + q))) x8 x9 x10 x11 x12) st = .nx (E13 x0 x3 (some (fd p)) (some (fd q)) x6 (some (fd (p + q))) x8 x9 x10 x11 x12) st := by
  have h1 := plus1 hp hq (by decide) st
  have h2 := plus1 hq hp (by decide) st
  rw [Rat.add_comm q p] at h2
  have z := fz_add hp hq
  have h3 := minus1 z hq (by decide) st
  have h4 := minus1 z hp (by decide) st
  have e1 : p + q - q = p := by grind
  have e2 : p + q - p = q := by grind
  rw [e1] at h3
  rw [e2] at h4
  have k := is_same (d := .tup [fd (p + q), fd (p + q), fd p, fd q]) st (by simp [isP, isPs, isP_fd])
  have s4 : Sz 4 = true := by decide
  unfold w1_2
  simp [x_var, h1, h2, h3, h4, s4, k, truD]
theorem p3 (hp : Fz 200 p) (hq : Fz 200 q) : w1_3 (E13 x0 x3 (some (fd p)) (some (fd q)) x6 x7 x8 x9 x10 x11 x12) st = .nx (E13 x0 x3 (some (fd p)) (some (fd q)) x6 (some (fd (p * q))) x8 x9 x10 x11 x12) st := by
  have m1 : mulOk p.num q.num = true := mulOk_z hp.1 hq.1 (by decide)
  have m2 : mulOk p.den q.den = true := mulOk_z (den_lt hp) (den_lt hq) (by decide)
  have h := LF (p.num * q.num) (p.den * q.den) st (mul_ne2 (den_ne p) (den_ne q)) (up_lt2 (mul_lt2 hp.1 hq.1) (by decide)) (up_lt2 (mul_lt2 (den_lt hp) (den_lt hq)) (by decide))
  rw [← mul_eq] at h
  unfold w1_3
  simp [x_var, mulD, m1, m2, h]
theorem p4 (hp : Fz 200 p) (hq : Fz 200 q) : w1_4 (E13 x0 x3 (some (fd p)) (some (fd q)) x6 (some (fd (p * q))) x8 x9 x10 x11 x12) st = .nx (E13 x0 x3 (some (fd p)) (some (fd q)) x6 (some (fd (p * q))) x8 x9 x10 x11 x12) st := by
  have h1 := times1 hp hq (by decide) st
  have h2 := times1 hq hp (by decide) st
  rw [Rat.mul_comm q p] at h2
  have k := is_same (d := .tup [fd (p * q), fd (p * q)]) st (by simp [isP, isPs, isP_fd])
  have s2 : Sz 2 = true := by decide
  unfold w1_4
  simp [x_var, h1, h2, s2, k, truD]
theorem p5 (hp : Fz 200 p) (hq : Fz 200 q) : w1_5 (E13 x0 x3 (some (fd p)) (some (fd q)) x6 (some (fd (p * q))) x8 x9 x10 x11 x12) st = .nx (E13 x0 x3 (some (fd p)) (some (fd q)) x6 (some (fd (p * q))) x8 x9 x10 x11 x12) st := by
  have s2 : Sz 2 = true := by decide
  by_cases h0 : q = 0
  · have n0 : q.num = 0 := by rw [h0]; rfl
    unfold w1_5
    simp [x_var, n0]
  · have n0 : ¬ q.num = 0 := num_ne h0
    have z := fz_mul hp hq
    have h1 := over1 z hq h0 (by decide) st
    have h2 := over1 hp hq h0 (by decide) st
    have e1 : p * q / q = p := by grind
    rw [e1] at h1
    have m1 : mulOk p.num q.den = true := mulOk_z hp.1 (den_lt hq) (by decide)
    have m2 : mulOk p.den q.num = true := mulOk_z (den_lt hp) hq.1 (by decide)
    have h := LF (p.num * q.den) (p.den * q.num) st (mul_ne2 (den_ne p) n0) (up_lt2 (mul_lt2 hp.1 (den_lt hq)) (by decide)) (up_lt2 (mul_lt2 (den_lt hp) hq.1) (by decide))
    rw [← div_eq] at h
    have k := is_same (d := .tup [fd p, fd (p / q)]) st (by simp [isP, isPs, isP_fd])
    unfold w1_5
    simp [x_var, n0, h1, h2, mulD, m1, m2, h, s2, k, truD]
theorem p6 (hp : Fz 200 p) (hq : Fz 200 q) : w1_6 (E13 x0 x3 (some (fd p)) (some (fd q)) x6 x7 x8 x9 x10 x11 x12) st = .nx (E13 x0 x3 (some (fd p)) (some (fd q)) x6 x7 x8 x9 x10 x11 x12) st := by
  have s2 : Sz 2 = true := by decide
  have h1 := isless1 hp hq (by decide) st
  have h2 := isless1 hq hp (by decide) st
  have d1 : decide (p < q) = decide (p.num * (q.den : Int) < q.num * (p.den : Int)) := decide_eq_decide.mpr (Rat.lt_iff p q)
  have d2 : decide (q < p) = decide (q.num * (p.den : Int) < p.num * (q.den : Int)) := decide_eq_decide.mpr (Rat.lt_iff q p)
  rw [d1] at h1
  rw [d2] at h2
  have m1 : mulOk p.num q.den = true := mulOk_z hp.1 (den_lt hq) (by decide)
  have m2 : mulOk q.num p.den = true := mulOk_z hq.1 (den_lt hp) (by decide)
  have k := is_same (d := .tup [.bl (decide (p.num * (q.den : Int) < q.num * (p.den : Int))), .bl (decide (q.num * (p.den : Int) < p.num * (q.den : Int)))]) st (by simp [isP, isPs])
  unfold w1_6
  simp [x_var, h1, h2, mulD, m1, m2, s2, k, truD]
theorem divInt_self (q : Rat) : Rat.divInt q.num (q.den : Int) = q := Rat.num_divInt_den q
theorem p7 (hp : Fz 200 p) (f0 : 1 ≤ f) (f1 : f ≤ 50) : w1_7 (E13 x0 x3 (some (fd p)) (some (fd q)) (some (.int f)) x7 x8 x9 x10 x11 x12) st = .nx (E13 x0 x3 (some (fd p)) (some (fd q)) (some (.int f)) x7 x8 x9 x10 x11 x12) st := by
  have s2 : Sz 2 = true := by decide
  have ff : f.natAbs < 2 ^ 6 := by omega
  have fn : f ≠ 0 := by omega
  have m1 : mulOk p.num f = true := mulOk_z hp.1 ff (by decide)
  have m2 : mulOk p.den f = true := mulOk_z (den_lt hp) ff (by decide)
  have nn : (-p.num).natAbs < 2 ^ 200 := by rw [Int.natAbs_neg]; exact hp.1
  have nd : (-(p.den : Int)).natAbs < 2 ^ 200 := by rw [Int.natAbs_neg]; exact den_lt hp
  have m3 : mulOk (-p.num) f = true := mulOk_z nn ff (by decide)
  have h1 := frac1 (u := p.num * f) (l := p.den * f) (up_lt2 (mul_lt2 hp.1 ff) (by decide)) (up_lt2 (mul_lt2 (den_lt hp) ff) (by decide)) (mul_ne2 (den_ne p) fn) st
  have h2 := frac1 (u := -p.num * f) (l := -(p.den : Int)) (up_lt2 (mul_lt2 nn ff) (by decide)) (up_lt2 nd (by decide)) (by have := den_ne p; omega) st
  have h3 := LF (p.num * f) (p.den : Int) st (den_ne p) (up_lt2 (mul_lt2 hp.1 ff) (by decide)) (up_lt2 (den_lt hp) (by decide))
  rw [Rat.divInt_mul_right fn, divInt_self] at h1
  have e2 : Rat.divInt (-p.num * f) (-(p.den : Int)) = Rat.divInt (p.num * f) (p.den : Int) := by
    rw [Int.neg_mul, Rat.neg_divInt_neg]
  rw [e2] at h2
  generalize Rat.divInt (p.num * f) (p.den : Int) = r at h2 h3
  have k := is_same (d := .tup [fd p, fd r]) st (by simp [isP, isPs, isP_fd])
  unfold w1_7
  simp [-Int.neg_mul, x_var, mulD, negD, m1, m2, m3, h1, h2, h3, s2, k, truD]
theorem p8 (hp : Fz 200 p) : w1_8 (E13 x0 x3 (some (fd p)) (some (fd q)) x6 x7 x8 x9 x10 x11 x12) st = .nx (E13 x0 x3 (some (fd p)) (some (fd q)) x6 x7 (some (.str (tx p.num p.den))) x9 x10 x11 x12) st := by
  have h := lwordsq hp st
  unfold w1_8
  simp [x_var, h]
theorem p9 (hp : Fz 200 p) : w1_9 (E13 x0 x3 (some (fd p)) (some (fd q)) x6 x7 (some (.str (tx p.num p.den))) x9 x10 x11 x12) st = .nx (E13 x0 x3 (some (fd p)) (some (fd q)) x6 x7 (some (.str (tx p.num p.den))) x9 x10 x11 x12) st := by
  have h1 := fractext1 hp (by decide) st
  have h2 := read1 (tx p.num p.den) (by have := tx_len hp; omega) st
  rw [rdV_tx hp] at h2
  have k := is_same (d := .tup [.str (tx p.num p.den), .str (tx p.num p.den), fd p, fd p]) st (by simp [isP, isPs, isP_fd])
  have s4 : Sz 4 = true := by decide
  unfold w1_9
  simp [x_var, h1, h2, s4, k, truD]
/-- a text that is none -/
theorem p10B {s t : List Nat} (h : ¬ IsTx t) (l : t.length ≤ 10000) (x4 x5 : Option D) : w1_10B (E13 x0 x3 x4 x5 x6 x7 (some (.str s)) (some (.str t)) x10 x11 x12) st = .nx (E13 x0 x3 x4 x5 x6 x7 (some (.str s)) (some (.str t)) x10 x11 x12) st := by
  have r := read1 t l st
  rw [rdV_bad h] at r
  have s2 : Sz 2 = true := by decide
  have hb : lamD false 0 [false, false, false, false, false, false, false, false, false, true, false, false, false] (mCall (fun ds st => if ds.length = 1 then r_read_frac ds st else .no) (aCons (mVar 9) aNil)) (E13 x0 x3 x4 x5 x6 x7 (some (.str s)) (some (.str t)) x10 x11 x12) [] st = .er (eAt "InvalidWords" (-1)) st := by
    show mCall (fun ds st => if ds.length = 1 then r_read_frac ds st else .no) (aCons (mVar 9) aNil) [none, none, none, none, none, none, none, none, none, some (.str t), none, none, none] st = _
    simp [x_var, r]
  have e1 := err_er (.inr (.inr (.inr (.inl ⟨rfl, rfl, rfl⟩)))) hb
  have k := is_same (d := .tup [.str [119, 111, 114, 100, 115], .int (-1)]) st rfl
  have ng : ∀ s, kUn (fun x _ => negD x) (.int 1) s = .ok (.int (-1)) s := fun _ => rfl
  have q : tNot (tVal (mCall (fun ds st => if ds.length = 2 then (r__law_is 8) ds st else .no) (aCons (mLam (fun gc ds st => if ds.length + 1 = 1 then r__law_error gc ds st else .no) false 0 [false, false, false, false, false, false, false, false, false, true, false, false, false] (mCall (fun ds st => if ds.length = 1 then r_read_frac ds st else .no) (aCons (mVar 9) aNil)) aNil) (aCons (mTup (aCons (mLit (.str [119, 111, 114, 100, 115])) (aCons (mUn (fun x _ => negD x) (mLit (.int 1))) aNil))) aNil)))) (E13 x0 x3 x4 x5 x6 x7 (some (.str s)) (some (.str t)) x10 x11 x12) st = .ok false st := by
    simp only [x_tNot, x_tVal, x_call, x_cons, mLam, x_nil, x_cons1, x_cons2, bind_ok, List.length_cons, List.length_nil, Nat.zero_add, Nat.reduceAdd, if_true, e1, x_tup, x_un, x_lit, ng, x_ofS, s2, k, x_tVal1, truD, x_tNot1, Bool.not_true]
  unfold w1_10B w1_10_0
  rw [x_sif, x_tAnd]
  by_cases hs : t = s
  · simp [x_var, hs]
  · simp only [x_tCmp, x_op, x_var, List.getElem?_cons_zero, List.getElem?_cons_succ, vOf_str, bind_ok, x_op1, x_op2, w_ne, w_eqs, hs, decide_false, Option.map_some, Bool.not_false, x_ofS, x_tCmp1, x_tAndT, q, sBind_ok, x_sifF, x_next]
theorem p10 (hp : Fz 200 p) (x4 x5 : Option D) : ∃ x9', w1_10 (E13 x0 x3 x4 x5 x6 x7 (some (.str (tx p.num p.den))) x9 x10 x11 x12) st = .nx (E13 x0 x3 x4 x5 x6 x7 (some (.str (tx p.num p.den))) x9' x10 x11 x12) st := by
  have ln := tx_len hp
  have lr := rep_len (tx p.num p.den)
  have bad := badT_bad p.num p.den
  have bl := badT_len ln
  generalize tx p.num p.den = s at ln lr bad bl ⊢
  have lp := loop_inv (chk := fun _ => True) (g := gN 9) (body := w1_10B) (fun ρ st' => st' = st ∧ ∃ x9', ρ = E13 x0 x3 x4 x5 x6 x7 (some (.str s)) x9' x10 x11 x12) (fun _ _ _ => trivial) ((badT s).map .str) (by
    intro d hd ρ st' ⟨e, x9', hρ⟩
    obtain ⟨t, ht, rfl⟩ := List.mem_map.mp hd
    subst e hρ
    exact ⟨_, _, _, rfl, p10B st' x0 x3 x6 x7 x10 x11 x12 (bad t ht) (by have := bl t ht; omega) x4 x5, rfl, _, rfl⟩) (E13 x0 x3 x4 x5 x6 x7 (some (.str s)) x9 x10 x11 x12) st ⟨rfl, x9, rfl⟩
  obtain ⟨ρ', st', hl, e, x9', hρ⟩ := lp
  subst e hρ
  refine ⟨x9', ?_⟩
  rw [← hl]
  have l24 : r__law_words [.tup [.int 2, .int 4]] st' = .ok (.str [50, 47, 52]) st' := lwords1 (a := 2) (b := 4) (by decide) (by decide) (by decide) (by decide) (by decide) st'
  have z : ∀ n : Nat, n ≤ 300 → Sz n = true := fun n h => decide_eq_true (by omega)
  have rp : decide (s.length + (s.length + 1) * ([] : List Nat).length ≤ 16777216) = true := decide_eq_true (by simp; omega)
  unfold w1_10
  rw [x_for]
  have it : iVal (mLst (aCons (mOp fAdd (mLit (.str [43])) (mVar 8)) (aCons (mOp fAdd (mLit (.str [32])) (mVar 8)) (aCons (mOp fAdd (mVar 8) (mLit (.str [32]))) (aCons (mOp fAdd (mLit (.str [48])) (mVar 8)) (aCons (mOp fAdd (mVar 8) (mLit (.str [47, 49]))) (aCons (mOp fAdd (mVar 8) (mLit (.str [47]))) (aCons (mOp fAdd (mLit (.str [47])) (mVar 8)) (aCons (mOp fAdd (mLit (.str [45, 45])) (mVar 8)) (aCons (mOp fAdd (mRep 45 [] (mVar 8)) (mLit (.str [47, 48]))) (aCons (mOp fAdd (mCall (fun ds st => if ds.length = 1 then r__law_words ds st else .no) (aCons (mTup (aCons (mLit (.int 2)) (aCons (mLit (.int 4)) aNil))) aNil)) (mLit (.str []))) aNil))))))))))) (E13 x0 x3 x4 x5 x6 x7 (some (.str s)) x9 x10 x11 x12) st' = .ok (still ((badT s).map .str)) st' := by
    have s2 : Sz 2 = true := by decide
    have z1 := z (1 + s.length) (by omega)
    have z1' := z (s.length + 1) (by omega)
    have z2 := z (2 + s.length) (by omega)
    have z2' := z (s.length + 2) (by omega)
    have z3 := z ((repD 45 [] s).length + 2) (by omega)
    have z10 : Sz 10 = true := by decide
    have z3' : Sz 3 = true := by decide
    have rp' : s.length ≤ 16777216 := by omega
    simp [x_var, addD, mRep, z1, z1', z2, z2', z3, z10, z3', s2, rp', l24, itemsD, badT]
  rw [it, sBind_ok]
end
theorem turn1 {st : Store} (B : Bx st) (x0 x3 x4 x5 x6 x7 x8 x9 x10 x11 x12 : Option D) : ∃ x4' x5' x6' x7' x8' x9' st', w1B (E13 x0 x3 x4 x5 x6 x7 x8 x9 x10 x11 x12) st = .nx (E13 x0 x3 x4' x5' x6' x7' x8' x9' x10 x11 x12) st' ∧ Bx st' := by
  obtain ⟨p, q, f, st1, h0, B1, hp, hq, f0, f1⟩ := p0 B x0 x3 x4 x5 x6 x7 x8 x9 x10 x11 x12
  obtain ⟨x9', h10⟩ := p10 (p := p) st1 x0 x3 (some (.int f)) (some (fd (p * q))) x9 x10 x11 x12 hp (some (fd p)) (some (fd q))
  refine ⟨some (fd p), some (fd q), some (.int f), some (fd (p * q)), some (.str (tx p.num p.den)), x9', st1, ?_, B1⟩
  unfold w1B
  rw [x_seq, h0, sq_nx, x_seq, p1 st1 x0 x3 _ x7 x8 x9 x10 x11 x12 hp hq, sq_nx, x_seq, p2 st1 x0 x3 _ x8 x9 x10 x11 x12 hp hq, sq_nx, x_seq, p3 st1 x0 x3 _ _ x8 x9 x10 x11 x12 hp hq, sq_nx, x_seq, p4 st1 x0 x3 _ x8 x9 x10 x11 x12 hp hq, sq_nx, x_seq, p5 st1 x0 x3 _ x8 x9 x10 x11 x12 hp hq, sq_nx, x_seq, p6 st1 x0 x3 _ _ x8 x9 x10 x11 x12 hp hq, sq_nx, x_seq, p7 st1 x0 x3 _ x8 x9 x10 x11 x12 hp f0 f1, sq_nx, x_seq, p8 st1 x0 x3 _ _ x8 x9 x10 x11 x12 hp, sq_nx, x_seq, p9 st1 x0 x3 _ _ x9 x10 x11 x12 hp, sq_nx, h10]
theorem turns {st : Store} (B : Bx st) (x0 : Option D) : ∃ x3 x4 x5 x6 x7 x8 x9 st', w1 (E13 x0 none none none none none none none none none none) st = .nx (E13 x0 x3 x4 x5 x6 x7 x8 x9 none none none) st' ∧ Bx st' := by
  have lp := loop_inv (chk := fun _ => True) (g := gN 3) (body := w1B) (fun ρ s => Bx s ∧ ∃ x3 x4 x5 x6 x7 x8 x9, ρ = E13 x0 x3 x4 x5 x6 x7 x8 x9 none none none) (fun _ _ _ => trivial) (rng 0 1 12) (by
    intro d hd ρ s ⟨Bs, x3, x4, x5, x6, x7, x8, x9, hρ⟩
    subst hρ
    obtain ⟨y4, y5, y6, y7, y8, y9, s', h, B'⟩ := turn1 Bs x0 (some d) x4 x5 x6 x7 x8 x9 none none none
    exact ⟨_, _, s', rfl, h, B', _, _, _, _, _, _, _, rfl⟩) (E13 x0 none none none none none none none none none none) st ⟨B, _, _, _, _, _, _, _, rfl⟩
  obtain ⟨ρ', st', hl, B', x3, x4, x5, x6, x7, x8, x9, hρ⟩ := lp
  subst hρ
  refine ⟨x3, x4, x5, x6, x7, x8, x9, st', ?_, B'⟩
  have it : iRng1 (aCons (mLit (.int 12)) aNil) (E13 x0 none none none none none none none none none none) st = .ok (still (rng 0 1 12)) st := by simp [Rg]
  unfold w1
  rw [x_for, it]
  exact hl
end K02
set_option Elab.async false
set_option linter.all false
set_option autoImplicit false
set_option maxRecDepth 100000
set_option maxHeartbeats 4000000
/-! Law k02, plain: the whole law. -/
namespace K02
open Bw PySem.NumText

/-! ### every one of some values is refused so -/
noncomputable abbrev allB (gc : Clo) : MS := (sIf (tNot (tVal (mCall (fun ds st => if ds.length = 2 then (r__law_is 8) ds st else .no) (aCons (mLam (fun gc ds st => if ds.length + 1 = 1 then r__law_error gc ds st else .no) false 0 [true, false, false, true] (mAct 0 gc (aCons (mVar 3) aNil)) aNil) (aCons (mVar 2) aNil))))) (sRet (mLit (.bl false))) sNext)
def Told (er : Er) (w : List Nat) (x : D) : Prop := (er = eAt "InvalidFraction" 0 ∧ w = [102, 114, 97, 99, 116, 105, 111, 110] ∧ x = .int 0 ∨ er = eAt "InvalidFraction" 1 ∧ w = [102, 114, 97, 99, 116, 105, 111, 110] ∧ x = .int 1 ∨ er = eAt "InvalidFraction" (-1) ∧ w = [102, 114, 97, 99, 116, 105, 111, 110] ∧ x = .int (-1) ∨ er = eAt "InvalidWords" (-1) ∧ w = [119, 111, 114, 100, 115] ∧ x = .int (-1) ∨ er = eSize ∧ w = [115, 105, 122, 101] ∧ x = .str [102, 105, 103, 117, 114, 101, 115] ∨ er = eAt "Refused" (-1) ∧ w = [114, 101, 102, 117, 115, 101, 100] ∧ x = .int (-1))
theorem Told.isP {er : Er} {w : List Nat} {x : D} (h : Told er w x) : isP 8 (.tup [.str w, x]) = true := by
  rcases h with ⟨_, _, rfl⟩ | ⟨_, _, rfl⟩ | ⟨_, _, rfl⟩ | ⟨_, _, rfl⟩ | ⟨_, _, rfl⟩ | ⟨_, _, rfl⟩ <;> rfl
theorem told {g : Clo} {er : Er} {w : List Nat} {x : D} {st st' : Store} (hc : Told er w x) (h : g [] st = .er er st') : r__law_error g [] st = .ok (.tup [.str w, x]) st' := err_er hc h
theorem all_loop {gc : Clo} {st : Store} {er : Er} {w : List Nat} {x : D} (hc : Told er w x) (x1 : Option D) : ∀ (vs : List D) (x3 : Option D), (∀ v ∈ vs, plD v = true ∧ gc [v] st = .er er st) →
    ∃ x3', loopF (fun _ => True) (gN 3) (allB gc) vs [some (.clo 0), x1, some (.tup [.str w, x]), x3] st = .nx [some (.clo 0), x1, some (.tup [.str w, x]), x3'] st
  | [], x3, _ => ⟨x3, loop_nil trivial⟩
  | v :: vs, x3, h => by
    obtain ⟨h1, h2⟩ := h v List.mem_cons_self
    have v' := plD_v h1 st
    have hb : lamD false 0 [true, false, false, true] (mAct 0 gc (aCons (mVar 3) aNil)) [some (.clo 0), x1, some (.tup [.str w, x]), some v] [] st = .er er st := by
      show (aCons (mVar 3) aNil [some (.clo 0), none, none, some v] st).bind gc = _
      simp only [x_cons, x_var, List.getElem?_cons_zero, List.getElem?_cons_succ, v', bind_ok, x_nil, x_cons1, x_cons2, h2]
    have e1 := told hc hb
    have k := is_same (d := .tup [.str w, x]) st hc.isP
    have t1 : allB gc [some (.clo 0), x1, some (.tup [.str w, x]), some v] st = .nx [some (.clo 0), x1, some (.tup [.str w, x]), some v] st := by
      unfold allB
      simp only [x_sif, x_tNot, x_tVal, x_call, x_cons, mLam, x_var, List.getElem?_cons_zero, List.getElem?_cons_succ, vOf_tup, bind_ok, x_nil, x_cons1, x_cons2, List.length_cons, List.length_nil, Nat.zero_add, Nat.add_zero, if_true, e1, k, x_tVal1, truD, x_tNot1, sBind_ok, Bool.not_true, x_sifF, x_next, x_ofS]
    rw [loop_nx (chk := fun _ => True) trivial (ρ' := [some (.clo 0), x1, some (.tup [.str w, x]), some v]) rfl t1]
    exact all_loop hc x1 vs _ fun x hx => h x (List.mem_cons_of_mem _ hx)
theorem all_ok {gc : Clo} {st : Store} {er : Er} {w : List Nat} {x : D} (hc : Told er w x) (vs : List D) (h : ∀ v ∈ vs, plD v = true ∧ gc [v] st = .er er st) : r__law_all gc [.lst vs, .tup [.str w, x]] st = .ok (.bl true) st := by
  show bodyR (m__law_all (r__law_is 8) r__law_error gc (envE 4 (some (.clo 0) :: [D.lst vs, .tup [.str w, x]].map some)) st) = _
  have e0 : envE 4 (some (.clo 0) :: [D.lst vs, .tup [.str w, x]].map some) = [some (.clo 0), some (.lst vs), some (.tup [.str w, x]), none] := rfl
  obtain ⟨x3, q⟩ := all_loop hc (some (.lst vs)) vs none h
  rw [e0]
  unfold m__law_all
  simp only [x_seq, x_for, x_iVal, x_var, List.getElem?_cons_zero, List.getElem?_cons_succ, vOf_lst, bind_ok, itemsD, x_ofS, sBind_ok]
  show bodyR (Out.sq (loopF (fun _ => True) (gN 3) (allB gc) vs _ st) _) = _
  rw [q]
  rfl
/-! ### values that are none -/
def bads : List D := [.non, .int 3, .tup [.int 1], P 1 0, P 2 4, P 1 (-2), .lst [.int 1, .int 2], .tup [.bl true, .int 2], .tup [.int 1, .bl true], P 0 2, .tup [.str [49], .int 2], .tup [.int 1, .int 2, .int 3], P k_BEYOND 1, P 1 k_BEYOND]
theorem plF_of {d : D} (h : plD d = true) (k : ∀ a b, d ≠ .tup [a, b]) : plF d := ⟨h, fun a b e => absurd e (k a b)⟩
theorem plF_pair {x y : D} (h : plD x = true) (k : plD y = true) : plF (.tup [x, y]) := ⟨rfl, fun a b e => by cases e; exact ⟨h, k⟩⟩
theorem frD_out {B a b : Int} (h : ¬ (0 < b ∧ b < B) ∨ ¬ ((a.natAbs : Int) < B) ∨ ¬ Nat.gcd a.natAbs b.natAbs = 1) : frD B (P a b) = false := by
  cases e : frD B (P a b) with
  | false => rfl
  | true =>
    obtain ⟨h1, h2, h3, h4⟩ := frD_parts e
    rcases h with h | h | h
    · exact absurd ⟨h1, h2⟩ h
    · exact absurd h3 h
    · exact absurd h4 h
theorem bey_not : ¬ ((k_BEYOND.natAbs : Int) < k_BEYOND) := by decide +kernel
theorem bads_ok : ∀ v ∈ bads, plF v ∧ frD k_BEYOND v = false := by
  intro v hv
  simp only [bads, List.mem_cons, List.not_mem_nil, or_false] at hv
  rcases hv with rfl | rfl | rfl | rfl | rfl | rfl | rfl | rfl | rfl | rfl | rfl | rfl | rfl | rfl
  · exact ⟨plF_of rfl (fun _ _ e => nomatch e), rfl⟩
  · exact ⟨plF_of rfl (fun _ _ e => nomatch e), rfl⟩
  · exact ⟨plF_of rfl (fun _ _ e => by cases e), rfl⟩
  · exact ⟨plF_P _ _, frD_out (.inl (by omega))⟩
  · exact ⟨plF_P _ _, frD_out (.inr (.inr (by decide)))⟩
  · exact ⟨plF_P _ _, frD_out (.inl (by omega))⟩
  · exact ⟨plF_of rfl (fun _ _ e => nomatch e), rfl⟩
  · exact ⟨plF_pair rfl rfl, rfl⟩
  · exact ⟨plF_pair rfl rfl, rfl⟩
  · exact ⟨plF_P _ _, frD_out (.inr (.inr (by decide)))⟩
  · exact ⟨plF_pair rfl rfl, rfl⟩
  · exact ⟨plF_of rfl (fun _ _ e => by cases e), rfl⟩
  · exact ⟨plF_P _ _, frD_out (.inr (.inl bey_not))⟩
  · exact ⟨plF_P _ _, frD_out (.inl (by omega))⟩
theorem fr01 : frD k_BEYOND (P 0 1) = true := by decide +kernel
noncomputable abbrev askB (g : Clo) : MS := (sIf (tOr (tNot (tVal (mLam (fun gc ds st => if ds.length + 1 = 3 then r__law_all gc ds st else .no) false 1 [false, false, false, false, false, false, false, false, false, false, false, true, false] (mAct 12 g (aCons (mVar 0) (aCons (mLit .non) aNil))) (aCons (mVar 10) (aCons (mTup (aCons (mLit (.str [102, 114, 97, 99, 116, 105, 111, 110])) (aCons (mLit (.int 0)) aNil))) aNil))))) (tNot (tVal (mLam (fun gc ds st => if ds.length + 1 = 3 then r__law_all gc ds st else .no) false 1 [false, false, false, false, false, false, false, false, false, false, false, true, false] (mAct 12 g (aCons (mTup (aCons (mLit (.int 0)) (aCons (mLit (.int 1)) aNil))) (aCons (mVar 0) aNil))) (aCons (mVar 10) (aCons (mTup (aCons (mLit (.str [102, 114, 97, 99, 116, 105, 111, 110])) (aCons (mLit (.int 1)) aNil))) aNil)))))) (sRet (mLit (.bl false))) sNext)
theorem w3_eq : w3 = sForL 11 [askB fun ds st => if ds.length = 2 then r_plus ds st else .no, askB fun ds st => if ds.length = 2 then r_less ds st else .no, askB fun ds st => if ds.length = 2 then r_times ds st else .no, askB fun ds st => if ds.length = 2 then r_over ds st else .no, askB fun ds st => if ds.length = 2 then r_is_less ds st else .no] := rfl
abbrev Eb (x0 x3 x4 x5 x6 x7 x8 x9 x11 x12 : Option D) : Env := E13 x0 x3 x4 x5 x6 x7 x8 x9 (some (.lst bads)) x11 x12
theorem ask_ok {g : List D → Store → Res D} (h0 : ∀ (v y : D) (st : Store), plF v → frD k_BEYOND v = false → g [v, y] st = .er (eAt "InvalidFraction" 0) st) (h1 : ∀ (v : D) (st : Store), plF v → frD k_BEYOND v = false → g [P 0 1, v] st = .er (eAt "InvalidFraction" 1) st)
    (x0 x3 x4 x5 x6 x7 x8 x9 x12 : Option D) (st : Store) : askB (fun ds st => if ds.length = 2 then g ds st else .no) (Eb x0 x3 x4 x5 x6 x7 x8 x9 (some (.clo 0)) x12) st = .nx (Eb x0 x3 x4 x5 x6 x7 x8 x9 (some (.clo 0)) x12) st := by
  have s2 : Sz 2 = true := by decide
  have a0 := all_ok (gc := lamD false 1 [false, false, false, false, false, false, false, false, false, false, false, true, false] (mAct 12 (fun ds st => if ds.length = 2 then g ds st else .no) (aCons (mVar 0) (aCons (mLit .non) aNil))) (Eb x0 x3 x4 x5 x6 x7 x8 x9 (some (.clo 0)) x12)) (st := st) (.inl ⟨rfl, rfl, rfl⟩) bads (by
    intro v hv
    obtain ⟨p, f⟩ := bads_ok v hv
    refine ⟨p.1, ?_⟩
    have v' := plD_v p.1 st
    show (aCons (mVar 0) (aCons (mLit .non) aNil) [some v, none, none, none, none, none, none, none, none, none, none, none, some (.clo 0), none] st).bind (fun ds st => if ds.length = 2 then g ds st else .no) = _
    simp only [x_cons, x_var, List.getElem?_cons_zero, v', bind_ok, x_lit, x_nil, x_cons1, x_cons2, List.length_cons, List.length_nil, Nat.zero_add, Nat.reduceAdd, if_true, h0 v .non st p f])
  have a1 := all_ok (gc := lamD false 1 [false, false, false, false, false, false, false, false, false, false, false, true, false] (mAct 12 (fun ds st => if ds.length = 2 then g ds st else .no) (aCons (mTup (aCons (mLit (.int 0)) (aCons (mLit (.int 1)) aNil))) (aCons (mVar 0) aNil))) (Eb x0 x3 x4 x5 x6 x7 x8 x9 (some (.clo 0)) x12)) (st := st) (.inr (.inl ⟨rfl, rfl, rfl⟩)) bads (by
    intro v hv
    obtain ⟨p, f⟩ := bads_ok v hv
    refine ⟨p.1, ?_⟩
    have v' := plD_v p.1 st
    show (aCons (mTup (aCons (mLit (.int 0)) (aCons (mLit (.int 1)) aNil))) (aCons (mVar 0) aNil) [some v, none, none, none, none, none, none, none, none, none, none, none, some (.clo 0), none] st).bind (fun ds st => if ds.length = 2 then g ds st else .no) = _
    simp only [x_cons, x_var, List.getElem?_cons_zero, v', bind_ok, x_lit, x_nil, x_cons1, x_cons2, x_tup, s2, List.length_cons, List.length_nil, Nat.zero_add, Nat.reduceAdd, if_true, h1 v st p f])
  unfold askB
  simp only [x_sif, x_tOr, x_tNot, x_tVal, x_cons, mLam, x_var, List.getElem?_cons_zero, List.getElem?_cons_succ, vOf_lst, bind_ok, x_nil, x_cons1, x_cons2, x_tup, x_lit, s2, List.length_cons, List.length_nil, Nat.zero_add, Nat.reduceAdd, if_true, a0, a1, x_tVal1, truD, x_ofS, x_tNot1, Bool.not_true, x_tOrF, sBind_ok, x_sifF, x_next]
theorem w3_ok (x0 x3 x4 x5 x6 x7 x8 x9 : Option D) (st : Store) : ∃ y0 y3 y4 y5 y6 y7 y8 y9, w3 (Eb x0 x3 x4 x5 x6 x7 x8 x9 none none) st = .nx (Eb y0 y3 y4 y5 y6 y7 y8 y9 none none) st := by
  have p := ask_ok (g := r_plus) (fun v y st h f => plus_bad0 h f y st) (fun v st h f => plus_bad1 (plF_P 0 1) h fr01 f st)
  have l := ask_ok (g := r_less) (fun v y st h f => less_bad0 h f y st) (fun v st h f => less_bad1 (plF_P 0 1) h fr01 f st)
  have t := ask_ok (g := r_times) (fun v y st h f => times_bad0 h f y st) (fun v st h f => times_bad1 (plF_P 0 1) h fr01 f st)
  have o := ask_ok (g := r_over) (fun v y st h f => over_bad0 h f y st) (fun v st h f => over_bad1 (plF_P 0 1) h fr01 f st)
  have i := ask_ok (g := r_is_less) (fun v y st h f => is_less_bad0 h f y st) (fun v st h f => is_less_bad1 (plF_P 0 1) h fr01 f st)
  have wp : ∀ x0 x3 x4 x5 x6 x7 x8 x9, wipeC (Eb x0 x3 x4 x5 x6 x7 x8 x9 none none) = Eb (wipe1 x0) (wipe1 x3) (wipe1 x4) (wipe1 x5) (wipe1 x6) (wipe1 x7) (wipe1 x8) (wipe1 x9) none none := fun _ _ _ _ _ _ _ _ => rfl
  have wq : ∀ x0 x3 x4 x5 x6 x7 x8 x9, wipeC (Eb x0 x3 x4 x5 x6 x7 x8 x9 (some (.clo 0)) none) = Eb (wipe1 x0) (wipe1 x3) (wipe1 x4) (wipe1 x5) (wipe1 x6) (wipe1 x7) (wipe1 x8) (wipe1 x9) none none := fun _ _ _ _ _ _ _ _ => rfl
  have s11 : ∀ x0 x3 x4 x5 x6 x7 x8 x9, (Eb x0 x3 x4 x5 x6 x7 x8 x9 none none).set 11 (some (.clo 0)) = Eb x0 x3 x4 x5 x6 x7 x8 x9 (some (.clo 0)) none := fun _ _ _ _ _ _ _ _ => rfl
  rw [w3_eq]
  exact ⟨_, _, _, _, _, _, _, _, by simp only [sForL, wp, wq, s11, p, l, t, o, i]; rfl⟩
/-! ### one after another -/
abbrev mk0 : List Bool := [false, false, false, false, false, false, false, false, false, false, false, false, false]
section
variable (x0 x3 x4 x5 x6 x7 x8 x9 x11 x12 : Option D) (st : Store)
theorem w4_ok : w4 (Eb x0 x3 x4 x5 x6 x7 x8 x9 x11 x12) st = .nx (Eb x0 x3 x4 x5 x6 x7 x8 x9 x11 x12) st := by
  have s2 : Sz 2 = true := by decide
  have ng : ∀ s, kUn (fun x _ => negD x) (.int 1) s = .ok (.int (-1)) s := fun _ => rfl
  have a0 := all_ok (gc := lamD false 1 mk0 (mCall (fun ds st => if ds.length = 1 then r_frac_text ds st else .no) (aCons (mVar 0) aNil)) (Eb x0 x3 x4 x5 x6 x7 x8 x9 x11 x12)) (st := st) (.inr (.inr (.inl ⟨rfl, rfl, rfl⟩))) bads (by
    intro v hv
    obtain ⟨p, f⟩ := bads_ok v hv
    refine ⟨p.1, ?_⟩
    have v' := plD_v p.1 st
    show mCall (fun ds st => if ds.length = 1 then r_frac_text ds st else .no) (aCons (mVar 0) aNil) [some v, none, none, none, none, none, none, none, none, none, none, none, none, none] st = _
    simp only [x_call, x_cons, x_var, List.getElem?_cons_zero, v', bind_ok, x_nil, x_cons1, x_cons2, List.length_cons, List.length_nil, Nat.zero_add, Nat.reduceAdd, if_true, fractext_bad p f st])
  have hb : lamD false 0 mk0 (mCall (fun ds st => if ds.length = 2 then r_over ds st else .no) (aCons (mTup (aCons (mLit (.int 1)) (aCons (mLit (.int 2)) aNil))) (aCons (mTup (aCons (mLit (.int 0)) (aCons (mLit (.int 1)) aNil))) aNil))) (Eb x0 x3 x4 x5 x6 x7 x8 x9 x11 x12) [] st = .er (eAt "Refused" (-1)) st := by
    have o := overx (plF_P 1 2) (by decide +kernel : frD k_BEYOND (P 1 2) = true) fr01 st
    rw [if_pos rfl] at o
    show mCall (fun ds st => if ds.length = 2 then r_over ds st else .no) (aCons (mTup (aCons (mLit (.int 1)) (aCons (mLit (.int 2)) aNil))) (aCons (mTup (aCons (mLit (.int 0)) (aCons (mLit (.int 1)) aNil))) aNil)) [none, none, none, none, none, none, none, none, none, none, none, none, none] st = _
    simp only [x_call, x_cons, bind_ok, x_lit, x_nil, x_cons1, x_cons2, x_tup, s2, List.length_cons, List.length_nil, Nat.zero_add, Nat.reduceAdd, if_true, o]
  have e1 := told (.inr (.inr (.inr (.inr (.inr ⟨rfl, rfl, rfl⟩))))) hb
  have k := is_same (d := .tup [.str [114, 101, 102, 117, 115, 101, 100], .int (-1)]) st rfl
  unfold w4
  simp only [x_sif, x_tOr, x_tNot, x_tVal, x_call, x_cons, mLam, x_var, List.getElem?_cons_zero, List.getElem?_cons_succ, vOf_lst, bind_ok, x_nil, x_cons1, x_cons2, x_tup, x_lit, x_un, ng, s2, List.length_cons, List.length_nil, Nat.zero_add, Nat.reduceAdd, if_true, a0, e1, k, x_tVal1, truD, x_ofS, x_tNot1, Bool.not_true, x_tOrF, sBind_ok, x_sifF, x_next]
theorem bey_abs : k_BEYOND ≤ (k_BEYOND.natAbs : Int) := by omega
theorem w5_ok : w5 (Eb x0 x3 x4 x5 x6 x7 x8 x9 x11 x12) st = .nx (Eb x0 x3 x4 x5 x6 x7 x8 x9 x11 x12) st := by
  have s2 : Sz 2 = true := by decide
  have s5 : Sz 5 = true := by decide
  have ng : ∀ i s, kUn (fun x _ => negD x) (.int i) s = .ok (.int (-i)) s := fun _ _ => rfl
  have a0 := all_ok (gc := lamD false 1 mk0 (mCall (fun ds st => if ds.length = 2 then r_frac ds st else .no) (aCons (mVar 0) (aCons (mLit .non) aNil))) (Eb x0 x3 x4 x5 x6 x7 x8 x9 x11 x12)) (st := st) (.inl ⟨rfl, rfl, rfl⟩) [.non, .bl true, .str [49], .int k_BEYOND, .int (-k_BEYOND)] (by
    intro v hv
    have h : plD v = true ∧ (intD v = false ∨ ∃ i : Int, v = .int i ∧ k_BEYOND ≤ (i.natAbs : Int)) := by
      simp only [List.mem_cons, List.not_mem_nil, or_false] at hv
      rcases hv with rfl | rfl | rfl | rfl | rfl
      · exact ⟨rfl, .inl rfl⟩
      · exact ⟨rfl, .inl rfl⟩
      · exact ⟨rfl, .inl rfl⟩
      · exact ⟨rfl, .inr ⟨_, rfl, bey_abs⟩⟩
      · exact ⟨rfl, .inr ⟨_, rfl, by rw [Int.natAbs_neg]; exact bey_abs⟩⟩
    refine ⟨h.1, ?_⟩
    have v' := plD_v h.1 st
    show mCall (fun ds st => if ds.length = 2 then r_frac ds st else .no) (aCons (mVar 0) (aCons (mLit .non) aNil)) [some v, none, none, none, none, none, none, none, none, none, none, none, none, none] st = _
    simp only [x_call, x_cons, x_var, List.getElem?_cons_zero, v', bind_ok, x_lit, x_nil, x_cons1, x_cons2, List.length_cons, List.length_nil, Nat.zero_add, Nat.reduceAdd, if_true, frac_bad0 h.1 h.2 .non st])
  unfold w5
  simp only [x_sif, x_tNot, x_tVal, x_cons, mLam, x_var, List.getElem?_cons_zero, List.getElem?_cons_succ, vOf_int, bind_ok, x_nil, x_cons1, x_cons2, x_tup, x_lst, x_lit, x_un, ng, s2, s5, List.length_cons, List.length_nil, Nat.zero_add, Nat.reduceAdd, if_true, a0, x_tVal1, truD, x_ofS, x_tNot1, Bool.not_true, sBind_ok, x_sifF, x_next]
theorem w6_ok : w6 (Eb x0 x3 x4 x5 x6 x7 x8 x9 x11 x12) st = .nx (Eb x0 x3 x4 x5 x6 x7 x8 x9 x11 x12) st := by
  have s2 : Sz 2 = true := by decide
  have s5 : Sz 5 = true := by decide
  have ng : ∀ i s, kUn (fun x _ => negD x) (.int i) s = .ok (.int (-i)) s := fun _ _ => rfl
  have a0 := all_ok (gc := lamD false 1 mk0 (mCall (fun ds st => if ds.length = 2 then r_frac ds st else .no) (aCons (mLit (.int 1)) (aCons (mVar 0) aNil))) (Eb x0 x3 x4 x5 x6 x7 x8 x9 x11 x12)) (st := st) (.inr (.inl ⟨rfl, rfl, rfl⟩)) [.non, .bl true, .int 0, .int k_BEYOND, .int (-k_BEYOND)] (by
    intro v hv
    have h : plD v = true ∧ (intD v = false ∨ ∃ i : Int, v = .int i ∧ (k_BEYOND ≤ (i.natAbs : Int) ∨ i = 0)) := by
      simp only [List.mem_cons, List.not_mem_nil, or_false] at hv
      rcases hv with rfl | rfl | rfl | rfl | rfl
      · exact ⟨rfl, .inl rfl⟩
      · exact ⟨rfl, .inl rfl⟩
      · exact ⟨rfl, .inr ⟨_, rfl, .inr rfl⟩⟩
      · exact ⟨rfl, .inr ⟨_, rfl, .inl bey_abs⟩⟩
      · exact ⟨rfl, .inr ⟨_, rfl, .inl (by rw [Int.natAbs_neg]; exact bey_abs)⟩⟩
    refine ⟨h.1, ?_⟩
    have v' := plD_v h.1 st
    show mCall (fun ds st => if ds.length = 2 then r_frac ds st else .no) (aCons (mLit (.int 1)) (aCons (mVar 0) aNil)) [some v, none, none, none, none, none, none, none, none, none, none, none, none, none] st = _
    simp only [x_call, x_cons, x_var, List.getElem?_cons_zero, v', bind_ok, x_lit, x_nil, x_cons1, x_cons2, List.length_cons, List.length_nil, Nat.zero_add, Nat.reduceAdd, if_true, frac_bad1 h.1 h.2 st])
  unfold w6
  simp only [x_sif, x_tNot, x_tVal, x_cons, mLam, x_var, List.getElem?_cons_zero, List.getElem?_cons_succ, vOf_int, bind_ok, x_nil, x_cons1, x_cons2, x_tup, x_lst, x_lit, x_un, ng, s2, s5, List.length_cons, List.length_nil, Nat.zero_add, Nat.reduceAdd, if_true, a0, x_tVal1, truD, x_ofS, x_tNot1, Bool.not_true, sBind_ok, x_sifF, x_next]
end
/-! ### the greatest number -/
def kG : Int := k_BEYOND - 1
theorem w7_ok (x0 x3 x4 x5 x6 x7 x8 x9 x11 x12 : Option D) (st : Store) : w7 (Eb x0 x3 x4 x5 x6 x7 x8 x9 x11 x12) st = .nx (Eb x0 x3 x4 x5 x6 x7 x8 x9 x11 (some (.int kG))) st := by
  unfold w7
  simp only [x_asg, x_op, x_var, List.getElem?_cons_zero, List.getElem?_cons_succ, vOf_int, bind_ok, x_op1, x_lit, x_op2, w_sub, w_subi, x_ofS, sBind_ok, x_gN, x_asg1]
  rfl
theorem fd_of {u l a b : Int} (h1 : (Rat.divInt u l).num = a) (h2 : ((Rat.divInt u l).den : Int) = b) : fd (Rat.divInt u l) = P a b := by
  unfold fd
  rw [h1, h2]
theorem fr2 {u l a b : Int} (st : Store) (hl : l ≠ 0) (h1 : divOk u (sg u l) = true) (h2 : divOk l (sg u l) = true) (h3 : (Rat.divInt u l).num = a) (h4 : ((Rat.divInt u l).den : Int) = b) (h5 : (a.natAbs : Int) < k_BEYOND) (h6 : b < k_BEYOND) : r_fr [.int u, .int l] st = .ok (P a b) st := by
  rw [fr1 st hl h1 h2, h3, h4, if_pos ⟨h5, h6⟩, fd_of h3 h4]
theorem fr3 {u l a b : Int} (st : Store) (hl : l ≠ 0) (h1 : divOk u (sg u l) = true) (h2 : divOk l (sg u l) = true) (h3 : (Rat.divInt u l).num = a) (h4 : ((Rat.divInt u l).den : Int) = b) (h5 : ¬ ((a.natAbs : Int) < k_BEYOND ∧ b < k_BEYOND)) : r_fr [.int u, .int l] st = .er eSize st := by
  rw [fr1 st hl h1 h2, h3, h4, if_neg h5]
theorem gPlus (st : Store) : r_plus [P (kG - 1) 1, P 1 1] st = .ok (P kG 1) st := by
  rw [plusx (plF_P _ _) (plF_P _ _) (by decide +kernel) (by decide +kernel), addedx st (by decide +kernel) (by decide +kernel) (by decide +kernel)]
  exact fr2 st (by decide +kernel) (by decide +kernel) (by decide +kernel) (by decide +kernel) (by decide +kernel) (by decide +kernel) (by decide +kernel)
theorem gLess (st : Store) : r_less [P (-kG) 1, P (-1) 1] st = .ok (P (1 - kG) 1) st := by
  rw [lessx (plF_P _ _) (plF_P _ _) (by decide +kernel) (by decide +kernel), lessenedx st (by decide +kernel) (by decide +kernel) (by decide +kernel)]
  exact fr2 st (by decide +kernel) (by decide +kernel) (by decide +kernel) (by decide +kernel) (by decide +kernel) (by decide +kernel) (by decide +kernel)
theorem gTimes (st : Store) : r_times [P kG 1, P 1 kG] st = .ok (P 1 1) st := by
  rw [timesx (plF_P _ _) (plF_P _ _) (by decide +kernel) (by decide +kernel), multipliedx st (by decide +kernel) (by decide +kernel)]
  exact fr2 st (by decide +kernel) (by decide +kernel) (by decide +kernel) (by decide +kernel) (by decide +kernel) (by decide +kernel) (by decide +kernel)
theorem bPlus (st : Store) : r_plus [P kG 1, P 1 1] st = .er eSize st := by
  rw [plusx (plF_P _ _) (plF_P _ _) (by decide +kernel) (by decide +kernel), addedx st (by decide +kernel) (by decide +kernel) (by decide +kernel)]
  exact fr3 (a := k_BEYOND) (b := 1) st (by decide +kernel) (by decide +kernel) (by decide +kernel) (by decide +kernel) (by decide +kernel) (by decide +kernel)
theorem bTimes (st : Store) : r_times [P 1 kG, P 1 2] st = .er eSize st := by
  rw [timesx (plF_P _ _) (plF_P _ _) (by decide +kernel) (by decide +kernel), multipliedx st (by decide +kernel) (by decide +kernel)]
  exact fr3 (a := 1) (b := kG * 2) st (by decide +kernel) (by decide +kernel) (by decide +kernel) (by decide +kernel) (by decide +kernel) (by decide +kernel)
theorem bOver (st : Store) : r_over [P kG 1, P 1 2] st = .er eSize st := by
  rw [overx (plF_P _ _) (by decide +kernel) (by decide +kernel), if_neg (by decide), dividedx st (by decide +kernel) (by decide +kernel)]
  exact fr3 (a := kG * 2) (b := 1) st (by decide +kernel) (by decide +kernel) (by decide +kernel) (by decide +kernel) (by decide +kernel) (by decide +kernel)
theorem bLess (st : Store) : r_less [P 1 kG, P 1 (kG - 1)] st = .er eSize st := by
  rw [lessx (plF_P _ _) (plF_P _ _) (by decide +kernel) (by decide +kernel), lessenedx st (by decide +kernel) (by decide +kernel) (by decide +kernel)]
  exact fr3 (a := -1) (b := kG * (kG - 1)) st (by decide +kernel) (by decide +kernel) (by decide +kernel) (by decide +kernel) (by decide +kernel) (by decide +kernel)
abbrev Eg (x0 x3 x4 x5 x6 x7 x8 x9 x11 : Option D) : Env := Eb x0 x3 x4 x5 x6 x7 x8 x9 x11 (some (.int kG))
theorem w8_ok (x0 x3 x4 x5 x6 x7 x8 x9 x11 : Option D) (st : Store) : w8 (Eg x0 x3 x4 x5 x6 x7 x8 x9 x11) st = .nx (Eg x0 x3 x4 x5 x6 x7 x8 x9 x11) st := by
  have s2 : Sz 2 = true := by decide
  have s3 : Sz 3 = true := by decide
  have ng : ∀ i s, kUn (fun x _ => negD x) (.int i) s = .ok (.int (-i)) s := fun _ _ => rfl
  have k := is_same (d := .tup [P kG 1, P (1 - kG) 1, P 1 1]) st rfl
  have h1 := gPlus st
  have h2 := gLess st
  have h3 := gTimes st
  unfold w8
  simp only [x_sif, x_tNot, x_tVal, x_call, x_cons, x_op, x_op1, x_op2, w_sub, w_subi, x_var, List.getElem?_cons_zero, List.getElem?_cons_succ, vOf_int, bind_ok, x_nil, x_cons1, x_cons2, x_tup, x_lit, x_un, ng, s2, s3, List.length_cons, List.length_nil, Nat.zero_add, Nat.reduceAdd, if_true, h1, h2, h3, k, x_tVal1, truD, x_ofS, x_tNot1, Bool.not_true, sBind_ok, x_sifF, x_next]

noncomputable abbrev c9_0 : MS := (sIf (tNot (tVal (mCall (fun ds st => if ds.length = 2 then (r__law_is 8) ds st else .no) (aCons (mPass 11 (fun gc ds st => if ds.length + 1 = 1 then r__law_error gc ds st else .no) (fun ρ => (lamD false 0 [false, false, false, false, false, false, false, false, false, false, false, false, true] (mCall (fun ds st => if ds.length = 2 then r_plus ds st else .no) (aCons (mTup (aCons (mVar 12) (aCons (mLit (.int 1)) aNil))) (aCons (mTup (aCons (mLit (.int 1)) (aCons (mLit (.int 1)) aNil))) aNil)))) ρ) aNil) (aCons (mTup (aCons (mLit (.str [115, 105, 122, 101])) (aCons (mLit (.str [102, 105, 103, 117, 114, 101, 115])) aNil))) aNil))))) (sRet (mLit (.bl false))) sNext)
theorem c9_0_ok (x0 x3 x4 x5 x6 x7 x8 x9 : Option D) (st : Store) : c9_0 (Eg x0 x3 x4 x5 x6 x7 x8 x9 (some (.clo 0))) st = .nx (Eg x0 x3 x4 x5 x6 x7 x8 x9 (some (.clo 0))) st := by
  have s2 : Sz 2 = true := by decide
  have h1 := bPlus st
  have hb : lamD false 0 [false, false, false, false, false, false, false, false, false, false, false, false, true] (mCall (fun ds st => if ds.length = 2 then r_plus ds st else .no) (aCons (mTup (aCons (mVar 12) (aCons (mLit (.int 1)) aNil))) (aCons (mTup (aCons (mLit (.int 1)) (aCons (mLit (.int 1)) aNil))) aNil))) (Eg x0 x3 x4 x5 x6 x7 x8 x9 (some (.clo 0))) [] st = .er eSize st := by
    show (mCall (fun ds st => if ds.length = 2 then r_plus ds st else .no) (aCons (mTup (aCons (mVar 12) (aCons (mLit (.int 1)) aNil))) (aCons (mTup (aCons (mLit (.int 1)) (aCons (mLit (.int 1)) aNil))) aNil))) [none, none, none, none, none, none, none, none, none, none, none, none, some (.int kG)] st = _
    simp only [x_call, x_cons, x_op, x_op1, x_op2, w_sub, w_subi, x_var, List.getElem?_cons_zero, List.getElem?_cons_succ, vOf_int, bind_ok, x_lit, x_nil, x_cons1, x_cons2, x_tup, x_ofS, s2, List.length_cons, List.length_nil, Nat.zero_add, Nat.reduceAdd, if_true, h1]
  have e1 := told (.inr (.inr (.inr (.inr (.inl ⟨rfl, rfl, rfl⟩))))) hb
  have k := is_same (d := .tup [.str [115, 105, 122, 101], .str [102, 105, 103, 117, 114, 101, 115]]) st rfl
  unfold c9_0
  simp only [x_sif, x_tNot, x_tVal, x_call, x_cons, mPass, List.getElem?_cons_zero, List.getElem?_cons_succ, bind_ok, x_nil, x_cons1, x_cons2, x_tup, x_lit, s2, List.length_cons, List.length_nil, Nat.zero_add, Nat.reduceAdd, if_true, e1, k, x_tVal1, truD, x_ofS, x_tNot1, Bool.not_true, sBind_ok, x_sifF, x_next]

noncomputable abbrev c9_1 : MS := (sIf (tNot (tVal (mCall (fun ds st => if ds.length = 2 then (r__law_is 8) ds st else .no) (aCons (mPass 11 (fun gc ds st => if ds.length + 1 = 1 then r__law_error gc ds st else .no) (fun ρ => (lamD true 0 [false, false, false, false, false, false, false, false, false, false, false, false, true] (mCall (fun ds st => if ds.length = 2 then r_times ds st else .no) (aCons (mTup (aCons (mLit (.int 1)) (aCons (mVar 13) aNil))) (aCons (mTup (aCons (mLit (.int 1)) (aCons (mLit (.int 2)) aNil))) aNil)))) ρ) aNil) (aCons (mTup (aCons (mLit (.str [115, 105, 122, 101])) (aCons (mLit (.str [102, 105, 103, 117, 114, 101, 115])) aNil))) aNil))))) (sRet (mLit (.bl false))) sNext)
theorem c9_1_ok (x0 x3 x4 x5 x6 x7 x8 x9 : Option D) (st : Store) : c9_1 (Eg x0 x3 x4 x5 x6 x7 x8 x9 (some (.clo 0))) st = .nx (Eg x0 x3 x4 x5 x6 x7 x8 x9 (some (.clo 0))) st := by
  have s2 : Sz 2 = true := by decide
  have h1 := bTimes st
  have hb : lamD true 0 [false, false, false, false, false, false, false, false, false, false, false, false, true] (mCall (fun ds st => if ds.length = 2 then r_times ds st else .no) (aCons (mTup (aCons (mLit (.int 1)) (aCons (mVar 13) aNil))) (aCons (mTup (aCons (mLit (.int 1)) (aCons (mLit (.int 2)) aNil))) aNil))) (Eg x0 x3 x4 x5 x6 x7 x8 x9 (some (.clo 0))) [] st = .er eSize st := by
    show (mCall (fun ds st => if ds.length = 2 then r_times ds st else .no) (aCons (mTup (aCons (mLit (.int 1)) (aCons (mVar 13) aNil))) (aCons (mTup (aCons (mLit (.int 1)) (aCons (mLit (.int 2)) aNil))) aNil))) [some .non, none, none, none, none, none, none, none, none, none, none, none, none, some (.int kG)] st = _
    simp only [x_call, x_cons, x_op, x_op1, x_op2, w_sub, w_subi, x_var, List.getElem?_cons_zero, List.getElem?_cons_succ, vOf_int, bind_ok, x_lit, x_nil, x_cons1, x_cons2, x_tup, x_ofS, s2, List.length_cons, List.length_nil, Nat.zero_add, Nat.reduceAdd, if_true, h1]
  have e1 := told (.inr (.inr (.inr (.inr (.inl ⟨rfl, rfl, rfl⟩))))) hb
  have k := is_same (d := .tup [.str [115, 105, 122, 101], .str [102, 105, 103, 117, 114, 101, 115]]) st rfl
  unfold c9_1
  simp only [x_sif, x_tNot, x_tVal, x_call, x_cons, mPass, List.getElem?_cons_zero, List.getElem?_cons_succ, bind_ok, x_nil, x_cons1, x_cons2, x_tup, x_lit, s2, List.length_cons, List.length_nil, Nat.zero_add, Nat.reduceAdd, if_true, e1, k, x_tVal1, truD, x_ofS, x_tNot1, Bool.not_true, sBind_ok, x_sifF, x_next]

noncomputable abbrev c9_2 : MS := (sIf (tNot (tVal (mCall (fun ds st => if ds.length = 2 then (r__law_is 8) ds st else .no) (aCons (mPass 11 (fun gc ds st => if ds.length + 1 = 1 then r__law_error gc ds st else .no) (fun ρ => (lamD true 0 [false, false, false, false, false, false, false, false, false, false, false, false, true] (mCall (fun ds st => if ds.length = 2 then r_over ds st else .no) (aCons (mTup (aCons (mVar 13) (aCons (mLit (.int 1)) aNil))) (aCons (mTup (aCons (mLit (.int 1)) (aCons (mLit (.int 2)) aNil))) aNil)))) ρ) aNil) (aCons (mTup (aCons (mLit (.str [115, 105, 122, 101])) (aCons (mLit (.str [102, 105, 103, 117, 114, 101, 115])) aNil))) aNil))))) (sRet (mLit (.bl false))) sNext)
theorem c9_2_ok (x0 x3 x4 x5 x6 x7 x8 x9 : Option D) (st : Store) : c9_2 (Eg x0 x3 x4 x5 x6 x7 x8 x9 (some (.clo 0))) st = .nx (Eg x0 x3 x4 x5 x6 x7 x8 x9 (some (.clo 0))) st := by
  have s2 : Sz 2 = true := by decide
  have h1 := bOver st
  have hb : lamD true 0 [false, false, false, false, false, false, false, false, false, false, false, false, true] (mCall (fun ds st => if ds.length = 2 then r_over ds st else .no) (aCons (mTup (aCons (mVar 13) (aCons (mLit (.int 1)) aNil))) (aCons (mTup (aCons (mLit (.int 1)) (aCons (mLit (.int 2)) aNil))) aNil))) (Eg x0 x3 x4 x5 x6 x7 x8 x9 (some (.clo 0))) [] st = .er eSize st := by
    show (mCall (fun ds st => if ds.length = 2 then r_over ds st else .no) (aCons (mTup (aCons (mVar 13) (aCons (mLit (.int 1)) aNil))) (aCons (mTup (aCons (mLit (.int 1)) (aCons (mLit (.int 2)) aNil))) aNil))) [some .non, none, none, none, none, none, none, none, none, none, none, none, none, some (.int kG)] st = _
    simp only [x_call, x_cons, x_op, x_op1, x_op2, w_sub, w_subi, x_var, List.getElem?_cons_zero, List.getElem?_cons_succ, vOf_int, bind_ok, x_lit, x_nil, x_cons1, x_cons2, x_tup, x_ofS, s2, List.length_cons, List.length_nil, Nat.zero_add, Nat.reduceAdd, if_true, h1]
  have e1 := told (.inr (.inr (.inr (.inr (.inl ⟨rfl, rfl, rfl⟩))))) hb
  have k := is_same (d := .tup [.str [115, 105, 122, 101], .str [102, 105, 103, 117, 114, 101, 115]]) st rfl
  unfold c9_2
  simp only [x_sif, x_tNot, x_tVal, x_call, x_cons, mPass, List.getElem?_cons_zero, List.getElem?_cons_succ, bind_ok, x_nil, x_cons1, x_cons2, x_tup, x_lit, s2, List.length_cons, List.length_nil, Nat.zero_add, Nat.reduceAdd, if_true, e1, k, x_tVal1, truD, x_ofS, x_tNot1, Bool.not_true, sBind_ok, x_sifF, x_next]

noncomputable abbrev c9_3 : MS := (sIf (tNot (tVal (mCall (fun ds st => if ds.length = 2 then (r__law_is 8) ds st else .no) (aCons (mPass 11 (fun gc ds st => if ds.length + 1 = 1 then r__law_error gc ds st else .no) (fun ρ => (lamD true 0 [false, false, false, false, false, false, false, false, false, false, false, false, true] (mCall (fun ds st => if ds.length = 2 then r_less ds st else .no) (aCons (mTup (aCons (mLit (.int 1)) (aCons (mVar 13) aNil))) (aCons (mTup (aCons (mLit (.int 1)) (aCons (mOp fSub (mVar 13) (mLit (.int 1))) aNil))) aNil)))) ρ) aNil) (aCons (mTup (aCons (mLit (.str [115, 105, 122, 101])) (aCons (mLit (.str [102, 105, 103, 117, 114, 101, 115])) aNil))) aNil))))) (sRet (mLit (.bl false))) sNext)
theorem c9_3_ok (x0 x3 x4 x5 x6 x7 x8 x9 : Option D) (st : Store) : c9_3 (Eg x0 x3 x4 x5 x6 x7 x8 x9 (some (.clo 0))) st = .nx (Eg x0 x3 x4 x5 x6 x7 x8 x9 (some (.clo 0))) st := by
  have s2 : Sz 2 = true := by decide
  have h1 := bLess st
  have hb : lamD true 0 [false, false, false, false, false, false, false, false, false, false, false, false, true] (mCall (fun ds st => if ds.length = 2 then r_less ds st else .no) (aCons (mTup (aCons (mLit (.int 1)) (aCons (mVar 13) aNil))) (aCons (mTup (aCons (mLit (.int 1)) (aCons (mOp fSub (mVar 13) (mLit (.int 1))) aNil))) aNil))) (Eg x0 x3 x4 x5 x6 x7 x8 x9 (some (.clo 0))) [] st = .er eSize st := by
    show (mCall (fun ds st => if ds.length = 2 then r_less ds st else .no) (aCons (mTup (aCons (mLit (.int 1)) (aCons (mVar 13) aNil))) (aCons (mTup (aCons (mLit (.int 1)) (aCons (mOp fSub (mVar 13) (mLit (.int 1))) aNil))) aNil))) [some .non, none, none, none, none, none, none, none, none, none, none, none, none, some (.int kG)] st = _
    simp only [x_call, x_cons, x_op, x_op1, x_op2, w_sub, w_subi, x_var, List.getElem?_cons_zero, List.getElem?_cons_succ, vOf_int, bind_ok, x_lit, x_nil, x_cons1, x_cons2, x_tup, x_ofS, s2, List.length_cons, List.length_nil, Nat.zero_add, Nat.reduceAdd, if_true, h1]
  have e1 := told (.inr (.inr (.inr (.inr (.inl ⟨rfl, rfl, rfl⟩))))) hb
  have k := is_same (d := .tup [.str [115, 105, 122, 101], .str [102, 105, 103, 117, 114, 101, 115]]) st rfl
  unfold c9_3
  simp only [x_sif, x_tNot, x_tVal, x_call, x_cons, mPass, List.getElem?_cons_zero, List.getElem?_cons_succ, bind_ok, x_nil, x_cons1, x_cons2, x_tup, x_lit, s2, List.length_cons, List.length_nil, Nat.zero_add, Nat.reduceAdd, if_true, e1, k, x_tVal1, truD, x_ofS, x_tNot1, Bool.not_true, sBind_ok, x_sifF, x_next]

theorem w9_eq : w9 = sForL 11 [c9_0, c9_1, c9_2, c9_3] := rfl
theorem w9_ok (x0 x3 x4 x5 x6 x7 x8 x9 : Option D) (st : Store) : ∃ y0 y3 y4 y5 y6 y7 y8 y9, w9 (Eg x0 x3 x4 x5 x6 x7 x8 x9 none) st = .nx (Eg y0 y3 y4 y5 y6 y7 y8 y9 none) st := by
  have wp : ∀ x0 x3 x4 x5 x6 x7 x8 x9, wipeC (Eg x0 x3 x4 x5 x6 x7 x8 x9 none) = Eg (wipe1 x0) (wipe1 x3) (wipe1 x4) (wipe1 x5) (wipe1 x6) (wipe1 x7) (wipe1 x8) (wipe1 x9) none := fun _ _ _ _ _ _ _ _ => rfl
  have wq : ∀ x0 x3 x4 x5 x6 x7 x8 x9, wipeC (Eg x0 x3 x4 x5 x6 x7 x8 x9 (some (.clo 0))) = Eg (wipe1 x0) (wipe1 x3) (wipe1 x4) (wipe1 x5) (wipe1 x6) (wipe1 x7) (wipe1 x8) (wipe1 x9) none := fun _ _ _ _ _ _ _ _ => rfl
  have s11 : ∀ x0 x3 x4 x5 x6 x7 x8 x9, (Eg x0 x3 x4 x5 x6 x7 x8 x9 none).set 11 (some (.clo 0)) = Eg x0 x3 x4 x5 x6 x7 x8 x9 (some (.clo 0)) := fun _ _ _ _ _ _ _ _ => rfl
  rw [w9_eq]
  exact ⟨_, _, _, _, _, _, _, _, by simp only [sForL, wp, wq, s11, c9_0_ok, c9_1_ok, c9_2_ok, c9_3_ok]; rfl⟩
/-! ### texts at the limit, texts that are none -/
theorem rep_repl (c : Nat) : ∀ n, rep [c] n = List.replicate n c
  | 0 => rfl
  | n + 1 => by rw [rep, rep_repl c n, List.replicate_succ]; rfl
theorem nines_val : ∀ n : Nat, digitsVal (List.replicate n 57) + 1 = 10 ^ n := by
  intro n
  induction n with
  | zero => rfl
  | succ n ih =>
    rw [List.replicate_succ']
    have := digitsVal_snoc (List.replicate n 57) 57
    rw [this, Nat.pow_succ]
    omega
theorem bey10 : k_BEYOND = ((10 ^ 3000 : Nat) : Int) := by decide +kernel
theorem nines_dec : dec (kG.natAbs) = List.replicate 3000 57 := by
  have h1 := nines_val 3000
  have h2 := bey10
  have h3 : kG.natAbs = digitsVal (List.replicate 3000 57) := by
    unfold kG
    generalize (10 : Nat) ^ 3000 = m at h1 h2
    omega
  rw [h3]
  refine dec_of (fun c hc => ?_) (.inr ⟨57, List.replicate 2999 57, rfl, by decide⟩)
  rw [List.eq_of_mem_replicate hc]
  exact ⟨by decide, by decide⟩
theorem kG_nat : kG = ((kG.natAbs : Nat) : Int) := by
  have : (0 : Int) ≤ kG := by decide +kernel
  omega
theorem kG_lt : kG.natAbs < 10 ^ 3000 := by decide +kernel
theorem tx_g1 : tx kG 1 = List.replicate 3000 57 := by
  unfold tx
  rw [if_pos rfl, List.append_nil, kG_nat, decD_nat, nines_dec]
theorem tx_1g : tx (-1) kG = [45, 49, 47] ++ List.replicate 3000 57 := by
  unfold tx
  rw [if_neg (by decide +kernel)]
  have : decD (-1) = [45, 49] := by decide
  rw [this]
  conv => lhs; rw [kG_nat, decD_nat, nines_dec]
  rfl
theorem rdV_ok {a b : Int} (ha : a.natAbs < 10 ^ 3000) (hb : b.natAbs < 10 ^ 3000) (hb0 : 0 < b) (f : frD k_BEYOND (P a b) = true) (st : Store) : rdV (tx a b) st = .ok (P a b) st := by
  have e := rd_tx (a := a) (b := b.natAbs) ha hb (by omega)
  have hbb : ((b.natAbs : Nat) : Int) = b := by omega
  rw [hbb] at e
  unfold rdV
  rw [e]
  dsimp only
  rw [if_pos (by rw [f, decide_eq_true rfl]; rfl)]
theorem rdV_long {s : List Nat} (h : rd s = none) (st : Store) : rdV s st = .er eWords st := by
  unfold rdV
  rw [h]
theorem tens_long {s : List Nat} (h : 3000 < s.length) : tens s = false := by
  unfold tens
  rw [decide_eq_false (by omega)]
  rfl
theorem rd_ones : rd (List.replicate 3001 49) = none := by
  have n : 47 ∉ List.replicate 3001 49 := fun h => absurd (List.eq_of_mem_replicate h) (by decide)
  unfold rd
  rw [TL.par_none1 n]
  dsimp only
  have b : bare (List.replicate 3001 49) = List.replicate 3001 49 := rfl
  rw [b, tens_long (by rw [List.length_replicate]; decide)]
  rfl
theorem rd_sevens : rd ([49, 47] ++ List.replicate 5000 55) = none := by
  have e := TL.par_part1 (s := 47) (S := []) (p := [49]) (rest := List.replicate 5000 55) (acc := []) (by decide)
  unfold rd
  have e' : TL.par [47] [] ([49, 47] ++ List.replicate 5000 55) = some ([49], List.replicate 5000 55) := e
  rw [e']
  dsimp only
  rw [tens_long (s := List.replicate 5000 55) (by rw [List.length_replicate]; decide)]
  simp
theorem readN {v : D} (h : plD v = true) (k : ∀ s, v ≠ .str s) (st : Store) : r_read_frac [v] st = .er eWords st := by
  have v' := plD_v h st
  have e0 : envE 6 ([v].map some) = [some v, none, none, none, none, none] := rfl
  show bodyR (m_read_frac r_is_tens r_is_frac r_text_of_frac (envE 6 ([v].map some)) st) = _
  rw [e0]
  unfold m_read_frac
  cases v <;> first | exact absurd rfl (k _) | (simp [plD] at h; done) | simp [x_var, fIsi, tyD, truD, eAt, negD]
theorem rdV_no {s : List Nat} (h : (match rd s with
  | some (a, b) => frD k_BEYOND (P a b) && decide (tx a b = s)
  | none => false) = false) (st : Store) : rdV s st = .er eWords st := by
  unfold rdV
  cases e : rd s with
  | none => rfl
  | some ab =>
    obtain ⟨a, b⟩ := ab
    rw [e] at h
    dsimp only at h ⊢
    rw [h]
    rfl
def lasts : List D := [.non, .int 1, .str [], .str [45], .str [49, 47, 50, 47, 51], .str [49, 47, 45, 50], .str [45, 48], .str [97], .tup [.int 1, .int 2], .str [50, 47, 52], .str [48, 47, 53]]
theorem lasts_ok (st : Store) : ∀ v ∈ lasts, plD v = true ∧ r_read_frac [v] st = .er eWords st := by
  intro v hv
  simp only [lasts, List.mem_cons, List.not_mem_nil, or_false] at hv
  rcases hv with rfl | rfl | rfl | rfl | rfl | rfl | rfl | rfl | rfl | rfl | rfl
  · exact ⟨rfl, readN rfl (by intro s e; cases e) st⟩
  · exact ⟨rfl, readN rfl (by intro s e; cases e) st⟩
  · exact ⟨rfl, by rw [read1 _ (by decide)]; exact rdV_no (by decide +kernel) st⟩
  · exact ⟨rfl, by rw [read1 _ (by decide)]; exact rdV_no (by decide +kernel) st⟩
  · exact ⟨rfl, by rw [read1 _ (by decide)]; exact rdV_no (by decide +kernel) st⟩
  · exact ⟨rfl, by rw [read1 _ (by decide)]; exact rdV_no (by decide +kernel) st⟩
  · exact ⟨rfl, by rw [read1 _ (by decide)]; exact rdV_no (by decide +kernel) st⟩
  · exact ⟨rfl, by rw [read1 _ (by decide)]; exact rdV_no (by decide +kernel) st⟩
  · exact ⟨rfl, readN rfl (by intro s e; cases e) st⟩
  · exact ⟨rfl, by rw [read1 _ (by decide)]; exact rdV_no (by decide +kernel) st⟩
  · exact ⟨rfl, by rw [read1 _ (by decide)]; exact rdV_no (by decide +kernel) st⟩
theorem mul_txt (c : Nat) {n : Nat} (h : n ≤ 10000) : mulD (.str [c]) (.int (n : Int)) = some (.str (List.replicate n c)) := by
  unfold mulD
  have e1 : decide (0 ≤ (n : Int)) = true := decide_eq_true (by omega)
  have e2 : Sz ((n : Int).toNat) = true := decide_eq_true (by omega)
  have e3 : Sz (([c] : List Nat).length * (n : Int).toNat) = true := decide_eq_true (by simp; omega)
  dsimp only
  rw [e1, e2, e3, Int.toNat_natCast, rep_repl]
  rfl
theorem lam_read (ρ : Env) (hρ : maskL mk0 ρ = [none, none, none, none, none, none, none, none, none, none, none, none, none]) {v : D} (h : plD v = true) (st : Store) : lamD false 1 mk0 (mCall (fun ds st => if ds.length = 1 then r_read_frac ds st else .no) (aCons (mVar 0) aNil)) ρ [v] st = r_read_frac [v] st := by
  have v' := plD_v h st
  show mCall (fun ds st => if ds.length = 1 then r_read_frac ds st else .no) (aCons (mVar 0) aNil) (some v :: maskL mk0 ρ) st = _
  rw [hρ]
  simp only [x_call, x_cons, x_var, List.getElem?_cons_zero, v', bind_ok, x_nil, x_cons1, x_cons2, List.length_cons, List.length_nil, Nat.zero_add, Nat.reduceAdd, if_true]
theorem w10_ok (x0 x3 x4 x5 x6 x7 x8 x9 x11 : Option D) (st : Store) : w10 (Eg x0 x3 x4 x5 x6 x7 x8 x9 x11) st = .nx (Eg x0 x3 x4 x5 x6 x7 x8 x9 x11) st := by
  have s2 : Sz 2 = true := by decide
  have ng : ∀ i s, kUn (fun x _ => negD x) (.int i) s = .ok (.int (-i)) s := fun _ _ => rfl
  have r1 := read1 (List.replicate 3000 57) (by rw [List.length_replicate]; decide) st
  rw [← tx_g1, rdV_ok kG_lt (by decide) (by decide) (by decide +kernel), tx_g1] at r1
  have r2 := read1 ([45, 49, 47] ++ List.replicate 3000 57) (by rw [List.length_append, List.length_replicate]; decide) st
  rw [← tx_1g, rdV_ok (by decide +kernel) kG_lt (by decide +kernel) (by decide +kernel), tx_1g] at r2
  have m1 : mulD (.str [57]) (.int 3000) = some (.str (List.replicate 3000 57)) := mul_txt 57 (n := 3000) (by decide)
  have m2 : mulD (.str [49]) (.int 3001) = some (.str (List.replicate 3001 49)) := mul_txt 49 (n := 3001) (by decide)
  have m3 : mulD (.str [55]) (.int 5000) = some (.str (List.replicate 5000 55)) := mul_txt 55 (n := 5000) (by decide)
  have j1 : addD (.str [45, 49, 47]) (.str (List.replicate 3000 57)) = some (.str ([45, 49, 47] ++ List.replicate 3000 57)) := by
    unfold addD
    dsimp only
    rw [if_pos (Sz_of (by rw [List.length_replicate]; decide))]
  have j2 : addD (.str [49, 47]) (.str (List.replicate 5000 55)) = some (.str ([49, 47] ++ List.replicate 5000 55)) := by
    unfold addD
    dsimp only
    rw [if_pos (Sz_of (by rw [List.length_replicate]; decide))]
  have b1 := read1 (List.replicate 3001 49) (by rw [List.length_replicate]; decide) st
  rw [rdV_long rd_ones] at b1
  have b2 := read1 ([49, 47] ++ List.replicate 5000 55) (by rw [List.length_append, List.length_replicate]; decide) st
  rw [rdV_long rd_sevens] at b2
  generalize List.replicate 3000 57 = N at r1 r2 m1 j1
  generalize [45, 49, 47] ++ N = N2 at r2 j1
  generalize [49, 47] ++ List.replicate 5000 55 = N4 at b2 j2
  generalize List.replicate 3001 49 = N3 at b1 m2
  have a0 := all_ok (gc := lamD false 1 mk0 (mCall (fun ds st => if ds.length = 1 then r_read_frac ds st else .no) (aCons (mVar 0) aNil)) (Eg x0 x3 x4 x5 x6 x7 x8 x9 x11)) (st := st) (.inr (.inr (.inr (.inl ⟨rfl, rfl, rfl⟩)))) [.str N3, .str N4] (by
    intro v hv
    simp only [List.mem_cons, List.not_mem_nil, or_false] at hv
    rcases hv with rfl | rfl
    · exact ⟨rfl, (lam_read _ rfl rfl st).trans b1⟩
    · exact ⟨rfl, (lam_read _ rfl rfl st).trans b2⟩)
  have k := is_same (d := .tup [P kG 1, P (-1) kG]) st rfl
  unfold w10
  simp only [x_sif, x_tOr, x_tNot, x_tVal, x_call, x_cons, mLam, x_op, x_op1, x_op2, w_mul, w_add, m1, m2, m3, j1, j2, x_var, List.getElem?_cons_zero, List.getElem?_cons_succ, vOf_int, bind_ok, x_nil, x_cons1, x_cons2, x_tup, x_lst, x_lit, x_un, ng, s2, List.length_cons, List.length_nil, Nat.zero_add, Nat.reduceAdd, if_true, r1, r2, a0, k, x_tVal1, truD, x_ofS, x_tNot1, Bool.not_true, x_tOrF, sBind_ok, x_sifF, x_next]
theorem w11_ok (x0 x3 x4 x5 x6 x7 x8 x9 x11 : Option D) (st : Store) : w11 (Eg x0 x3 x4 x5 x6 x7 x8 x9 x11) st = .rt (.bl true) st := by
  have s2 : Sz 2 = true := by decide
  have s11 : Sz 11 = true := by decide
  have ng : ∀ i s, kUn (fun x _ => negD x) (.int i) s = .ok (.int (-i)) s := fun _ _ => rfl
  have a0 := all_ok (gc := lamD false 1 mk0 (mCall (fun ds st => if ds.length = 1 then r_read_frac ds st else .no) (aCons (mVar 0) aNil)) (Eg x0 x3 x4 x5 x6 x7 x8 x9 x11)) (st := st) (.inr (.inr (.inr (.inl ⟨rfl, rfl, rfl⟩)))) lasts (by
    intro v hv
    obtain ⟨h1, h2⟩ := lasts_ok st v hv
    exact ⟨h1, (lam_read _ rfl h1 st).trans h2⟩)
  unfold lasts at a0
  unfold w11
  simp only [x_ret, mLam, x_cons, bind_ok, x_nil, x_cons1, x_cons2, x_tup, x_lst, x_lit, x_un, ng, s2, s11, List.length_cons, List.length_nil, Nat.zero_add, Nat.reduceAdd, if_true, a0, sBind_ok]
theorem w2_ok (x0 x3 x4 x5 x6 x7 x8 x9 : Option D) (st : Store) : w2 (E13 x0 x3 x4 x5 x6 x7 x8 x9 none none none) st = .nx (Eb x0 x3 x4 x5 x6 x7 x8 x9 none none) st := by
  have z : ∀ n : Nat, n ≤ 20 → Sz n = true := fun n h => decide_eq_true (by omega)
  have z1 := z 1 (by decide)
  have z2 := z 2 (by decide)
  have z3 := z 3 (by decide)
  have z14 := z 14 (by decide)
  have ng : ∀ i s, kUn (fun x _ => negD x) (.int i) s = .ok (.int (-i)) s := fun _ _ => rfl
  unfold w2
  simp only [x_asg, x_lst, x_tup, x_cons, x_var, List.getElem?_cons_zero, List.getElem?_cons_succ, vOf_int, bind_ok, x_nil, x_cons1, x_cons2, x_lit, x_un, ng, z1, z2, z3, z14, List.length_cons, List.length_nil, Nat.zero_add, Nat.reduceAdd, if_true, x_ofS, sBind_ok, x_gN, x_asg1]
  rfl
theorem pw : powD (.int 10) (.int 50) = some (.int (10 ^ 50)) := rfl
theorem pw2 : powD (.int (10 ^ 50)) (.int 60) = some (.int k_BEYOND) := by
  have e : (10 ^ 50 : Int) ^ 60 = k_BEYOND := by decide +kernel
  have p : powOk (10 ^ 50) 60 = true := by decide +kernel
  unfold powD
  dsimp only
  rw [p, if_pos rfl]
  exact congrArg (fun x => some (D.int x)) e
theorem law_true : ∀ ns : List Int, ns.length ≤ 63 → (∀ z ∈ ns, PySem.Builtin.Int.intBits z ≤ 1048576) → ∃ st, gLaw [.scr ns] [] = .ok (.bl true) st := by
  intro ns _ _
  obtain ⟨st0, h0, B0⟩ := box1 ns
  obtain ⟨x3, x4, x5, x6, x7, x8, x9, st1, h1, B1⟩ := turns B0 (some (.scr ns))
  obtain ⟨y0, y3, y4, y5, y6, y7, y8, y9, h3⟩ := w3_ok (some (.scr ns)) x3 x4 x5 x6 x7 x8 x9 st1
  obtain ⟨z0, z3, z4, z5, z6, z7, z8, z9, h9⟩ := w9_ok y0 y3 y4 y5 y6 y7 y8 y9 st1
  refine ⟨st1, ?_⟩
  show r_law [.scr ns] [] = _
  rw [w_all]
  have e0 : envE 13 ([D.scr ns].map some) = [some (.scr ns), none, none, none, none, none, none, none, none, none, none, none, none] := rfl
  have q0 : w0 [some (.scr ns), none, none, none, none, none, none, none, none, none, none, none, none] [] = .nx (E13 (some (.scr ns)) none none none none none none none none none none) st0 := by
    unfold w0
    simp only [x_par, x_call, x_cons, x_var, List.getElem?_cons_zero, vOf_scr, bind_ok, x_nil, x_cons1, x_cons2, List.length_cons, List.length_nil, Nat.zero_add, Nat.reduceAdd, if_true, h0, x_op, x_op1, x_op2, x_lit, w_pow, pw, pw2, x_ofS, sBind_ok]
    rfl
  rw [e0, x_seq, q0, sq_nx, x_seq, h1, sq_nx, x_seq, w2_ok, sq_nx, x_seq, h3, sq_nx, x_seq, w4_ok, sq_nx, x_seq, w5_ok, sq_nx, x_seq, w6_ok, sq_nx, x_seq, w7_ok, sq_nx, x_seq, w8_ok, sq_nx, x_seq, h9, sq_nx, x_seq, w10_ok, sq_nx, w11_ok]
  rfl
end K02
set_option Elab.async false
set_option linter.all false
set_option autoImplicit false
set_option maxRecDepth 100000
set_option maxHeartbeats 4000000
namespace K02
open PySem PySem.Spec PyProof.Rows L2 Bw LamX
theorem rec__law_is {P : Program} {w : World} {K : PySem.W.Frag} {mg : Str → Option Value} {base : Heap} {A : Ad} {T : List (Addr × Str)} (Y : Kn P w K mg A) : ∀ k : Nat, FnOk P w K mg base (L2.CX P w) k A.a__law_is A.d__law_is ["told", "due"] (spB ⟨K, mg⟩ T 2 (r__law_is k))
  | 0 => bw0
  | k + 1 => ok__law_is Y (rec__law_is Y k)
theorem law_fn {P : Program} {w : World} {K : PySem.W.Frag} {mg : Str → Option Value} {base : Heap} {A : Ad} (Y : Kn P w K mg A) (TB__law_all : TabB base mg A.ca__law_all A.ct__law_all) (TB_law : TabB base mg A.ca_law A.ct_law) (hne_0_1 : A.ct__law_all ≠ A.ct_law) :
    FnOk P w K mg base (L2.CX P w) 16 A.a_law A.d_law ["script"] (spB ⟨K, mg⟩ [(A.ct__law_all, lq "_law_all"), (A.ct_law, lq "law")] 1 gLaw) := by
  have G_is_integer := ok_is_integer (T := [(A.ct__law_all, lq "_law_all"), (A.ct_law, lq "law")]) (base := base) Y
  have G_is_paper_of := ok_is_paper_of (T := [(A.ct__law_all, lq "_law_all"), (A.ct_law, lq "law")]) (base := base) Y
  have G_fr := ok_fr (T := [(A.ct__law_all, lq "_law_all"), (A.ct_law, lq "law")]) (base := base) Y
  have G_added := ok_added (T := [(A.ct__law_all, lq "_law_all"), (A.ct_law, lq "law")]) (base := base) Y G_fr
  have G_lessened := ok_lessened (T := [(A.ct__law_all, lq "_law_all"), (A.ct_law, lq "law")]) (base := base) Y G_fr
  have G_multiplied := ok_multiplied (T := [(A.ct__law_all, lq "_law_all"), (A.ct_law, lq "law")]) (base := base) Y G_fr
  have G_divided := ok_divided (T := [(A.ct__law_all, lq "_law_all"), (A.ct_law, lq "law")]) (base := base) Y G_fr
  have G_lesser := ok_lesser (T := [(A.ct__law_all, lq "_law_all"), (A.ct_law, lq "law")]) (base := base) Y
  have G_is_frac := ok_is_frac (T := [(A.ct__law_all, lq "_law_all"), (A.ct_law, lq "law")]) (base := base) Y G_is_paper_of G_is_integer
  have G_need_frac := ok_need_frac (T := [(A.ct__law_all, lq "_law_all"), (A.ct_law, lq "law")]) (base := base) Y G_is_frac
  have G_frac := ok_frac (T := [(A.ct__law_all, lq "_law_all"), (A.ct_law, lq "law")]) (base := base) Y G_is_integer G_fr
  have G_plus := ok_plus (T := [(A.ct__law_all, lq "_law_all"), (A.ct_law, lq "law")]) (base := base) Y G_added G_need_frac
  have G_less := ok_less (T := [(A.ct__law_all, lq "_law_all"), (A.ct_law, lq "law")]) (base := base) Y G_lessened G_need_frac
  have G_times := ok_times (T := [(A.ct__law_all, lq "_law_all"), (A.ct_law, lq "law")]) (base := base) Y G_multiplied G_need_frac
  have G_over := ok_over (T := [(A.ct__law_all, lq "_law_all"), (A.ct_law, lq "law")]) (base := base) Y G_need_frac G_divided
  have G_is_less := ok_is_less (T := [(A.ct__law_all, lq "_law_all"), (A.ct_law, lq "law")]) (base := base) Y G_lesser G_need_frac
  have G_text_of_frac := ok_text_of_frac (T := [(A.ct__law_all, lq "_law_all"), (A.ct_law, lq "law")]) (base := base) Y
  have G_frac_text := ok_frac_text (T := [(A.ct__law_all, lq "_law_all"), (A.ct_law, lq "law")]) (base := base) Y G_text_of_frac G_need_frac
  have G_is_tens := ok_is_tens (T := [(A.ct__law_all, lq "_law_all"), (A.ct_law, lq "law")]) (base := base) Y
  have G_read_frac := ok_read_frac (T := [(A.ct__law_all, lq "_law_all"), (A.ct_law, lq "law")]) (base := base) Y G_is_tens G_is_frac G_text_of_frac
  have G__law_box := ok__law_box (T := [(A.ct__law_all, lq "_law_all"), (A.ct_law, lq "law")]) (base := base) Y
  have G__law_take := ok__law_take (T := [(A.ct__law_all, lq "_law_all"), (A.ct_law, lq "law")]) (base := base) Y
  have G__law_pick := ok__law_pick (T := [(A.ct__law_all, lq "_law_all"), (A.ct_law, lq "law")]) (base := base) Y G__law_take
  have G__law_is := rec__law_is (T := [(A.ct__law_all, lq "_law_all"), (A.ct_law, lq "law")]) (base := base) Y 8
  have H__law_error := ok__law_error (T := [(A.ct__law_all, lq "_law_all"), (A.ct_law, lq "law")]) (base := base) Y
  have H__law_all := ok__law_all (T := [(A.ct__law_all, lq "_law_all"), (A.ct_law, lq "law")]) (base := base) Y G__law_is H__law_error TB__law_all (by simp) (List.forall_mem_cons.mpr ⟨fun _ => rfl, (List.forall_mem_cons.mpr ⟨fun e => absurd e.symm hne_0_1, (fun _ hq => nomatch hq)⟩)⟩)
  have G__law_shared := ok__law_shared (T := [(A.ct__law_all, lq "_law_all"), (A.ct_law, lq "law")]) (base := base) Y
  have G__law_fr := ok__law_fr (T := [(A.ct__law_all, lq "_law_all"), (A.ct_law, lq "law")]) (base := base) Y G__law_shared
  have G__law_sum := ok__law_sum (T := [(A.ct__law_all, lq "_law_all"), (A.ct_law, lq "law")]) (base := base) Y G__law_fr
  have G__law_drawn := ok__law_drawn (T := [(A.ct__law_all, lq "_law_all"), (A.ct_law, lq "law")]) (base := base) Y G__law_pick G__law_fr G__law_take
  have G__law_words := ok__law_words (T := [(A.ct__law_all, lq "_law_all"), (A.ct_law, lq "law")]) (base := base) Y
  exact ok_law (T := [(A.ct__law_all, lq "_law_all"), (A.ct_law, lq "law")]) (base := base) Y G__law_box G__law_take G__law_drawn G__law_sum G__law_is G_less G_plus G__law_fr G_times G_over G_is_less G_frac G__law_words G_read_frac G_frac_text H__law_error H__law_all TB_law (by simp) (List.forall_mem_cons.mpr ⟨fun e => absurd e hne_0_1, (List.forall_mem_cons.mpr ⟨fun _ => rfl, (fun _ hq => nomatch hq)⟩)⟩)
theorem sh_InvalidSize : Shape1 (inClass (top 5) 0) (Str.ofString "word") := ⟨_, _, _, _, _, _, _, _, _, _, rfl, rfl, rfl, rfl, rfl, rfl, rfl, rfl, rfl, by decide +kernel, fun _ _ _ _ _ _ _ _ _ => rfl, fun _ _ _ _ => ⟨fun _ => ⟨⟨_, rfl⟩, rfl⟩, fun _ => rfl⟩⟩
theorem sh_InvalidFraction : Shape1 (inClass (top 3) 0) (Str.ofString "at") := ⟨_, _, _, _, _, _, _, _, _, _, rfl, rfl, rfl, rfl, rfl, rfl, rfl, rfl, rfl, by decide +kernel, fun _ _ _ _ _ _ _ _ _ => rfl, fun _ _ _ _ => ⟨fun _ => ⟨⟨_, rfl⟩, rfl⟩, fun _ => rfl⟩⟩
theorem sh_Refused : Shape1 (inClass (top 6) 0) (Str.ofString "at") := ⟨_, _, _, _, _, _, _, _, _, _, rfl, rfl, rfl, rfl, rfl, rfl, rfl, rfl, rfl, by decide +kernel, fun _ _ _ _ _ _ _ _ _ => rfl, fun _ _ _ _ => ⟨fun _ => ⟨⟨_, rfl⟩, rfl⟩, fun _ => rfl⟩⟩
theorem sh_InvalidWords : Shape1 (inClass (top 4) 0) (Str.ofString "at") := ⟨_, _, _, _, _, _, _, _, _, _, rfl, rfl, rfl, rfl, rfl, rfl, rfl, rfl, rfl, by decide +kernel, fun _ _ _ _ _ _ _ _ _ => rfl, fun _ _ _ _ => ⟨fun _ => ⟨⟨_, rfl⟩, rfl⟩, fun _ => rfl⟩⟩
theorem all_mk {l : PySem.W.OpenLaw} {w : World} {K : PySem.W.Frag} {h : Heap} {mg : Str → Option Value} {fa : Addr} (X : K.In h) (G : h.Ns mainGlobals mg) (hfa : mg "law" = some (.ref fa))
    {t_BEYOND : Tok}
    {t_MOST_FIGURES : Tok}
    {t_TENS : Tok}
    {f_is_integer : Addr} {od_is_integer an_is_integer : Option Addr} {sl_is_integer : Array (Option Value)} {oc_is_integer kV_is_integer dc_is_integer pm_is_integer ct_is_integer : Value}
    {cd_is_integer : Value}
    {f_is_paper_of : Addr} {od_is_paper_of an_is_paper_of : Option Addr} {sl_is_paper_of : Array (Option Value)} {oc_is_paper_of kV_is_paper_of dc_is_paper_of pm_is_paper_of ct_is_paper_of : Value}
    {cd_is_paper_of : Value}
    {f_fr : Addr} {od_fr an_fr : Option Addr} {sl_fr : Array (Option Value)} {oc_fr kV_fr dc_fr pm_fr ct_fr : Value}
    {cd_fr : Value}
    {f_added : Addr} {od_added an_added : Option Addr} {sl_added : Array (Option Value)} {oc_added kV_added dc_added pm_added ct_added : Value}
    {cd_added : Value}
    {f_lessened : Addr} {od_lessened an_lessened : Option Addr} {sl_lessened : Array (Option Value)} {oc_lessened kV_lessened dc_lessened pm_lessened ct_lessened : Value}
    {cd_lessened : Value}
    {f_multiplied : Addr} {od_multiplied an_multiplied : Option Addr} {sl_multiplied : Array (Option Value)} {oc_multiplied kV_multiplied dc_multiplied pm_multiplied ct_multiplied : Value}
    {cd_multiplied : Value}
    {f_divided : Addr} {od_divided an_divided : Option Addr} {sl_divided : Array (Option Value)} {oc_divided kV_divided dc_divided pm_divided ct_divided : Value}
    {cd_divided : Value}
    {f_lesser : Addr} {od_lesser an_lesser : Option Addr} {sl_lesser : Array (Option Value)} {oc_lesser kV_lesser dc_lesser pm_lesser ct_lesser : Value}
    {cd_lesser : Value}
    {f_is_frac : Addr} {od_is_frac an_is_frac : Option Addr} {sl_is_frac : Array (Option Value)} {oc_is_frac kV_is_frac dc_is_frac pm_is_frac ct_is_frac : Value}
    {cd_is_frac : Value}
    {f_need_frac : Addr} {od_need_frac an_need_frac : Option Addr} {sl_need_frac : Array (Option Value)} {oc_need_frac kV_need_frac dc_need_frac pm_need_frac ct_need_frac : Value}
    {cd_need_frac : Value}
    {T_need_frac : Addr} {cT_need_frac : Value} {dT_need_frac : Option Addr} {nT_need_frac : Nat} {tT_need_frac : Tok} {sT_need_frac : Array (Option Value)}
    {f_frac : Addr} {od_frac an_frac : Option Addr} {sl_frac : Array (Option Value)} {oc_frac kV_frac dc_frac pm_frac ct_frac : Value}
    {cd_frac : Value}
    {f_plus : Addr} {od_plus an_plus : Option Addr} {sl_plus : Array (Option Value)} {oc_plus kV_plus dc_plus pm_plus ct_plus : Value}
    {cd_plus : Value}
    {f_less : Addr} {od_less an_less : Option Addr} {sl_less : Array (Option Value)} {oc_less kV_less dc_less pm_less ct_less : Value}
    {cd_less : Value}
    {f_times : Addr} {od_times an_times : Option Addr} {sl_times : Array (Option Value)} {oc_times kV_times dc_times pm_times ct_times : Value}
    {cd_times : Value}
    {f_over : Addr} {od_over an_over : Option Addr} {sl_over : Array (Option Value)} {oc_over kV_over dc_over pm_over ct_over : Value}
    {cd_over : Value}
    {f_is_less : Addr} {od_is_less an_is_less : Option Addr} {sl_is_less : Array (Option Value)} {oc_is_less kV_is_less dc_is_less pm_is_less ct_is_less : Value}
    {cd_is_less : Value}
    {f_text_of_frac : Addr} {od_text_of_frac an_text_of_frac : Option Addr} {sl_text_of_frac : Array (Option Value)} {oc_text_of_frac kV_text_of_frac dc_text_of_frac pm_text_of_frac ct_text_of_frac : Value}
    {cd_text_of_frac : Value}
    {f_frac_text : Addr} {od_frac_text an_frac_text : Option Addr} {sl_frac_text : Array (Option Value)} {oc_frac_text kV_frac_text dc_frac_text pm_frac_text ct_frac_text : Value}
    {cd_frac_text : Value}
    {f_is_tens : Addr} {od_is_tens an_is_tens : Option Addr} {sl_is_tens : Array (Option Value)} {oc_is_tens kV_is_tens dc_is_tens pm_is_tens ct_is_tens : Value}
    {cd_is_tens : Value}
    {f_read_frac : Addr} {od_read_frac an_read_frac : Option Addr} {sl_read_frac : Array (Option Value)} {oc_read_frac kV_read_frac dc_read_frac pm_read_frac ct_read_frac : Value}
    {cd_read_frac : Value}
    {f__law_box : Addr} {od__law_box an__law_box : Option Addr} {sl__law_box : Array (Option Value)} {oc__law_box kV__law_box dc__law_box pm__law_box ct__law_box : Value}
    {cd__law_box : Value}
    {f__law_take : Addr} {od__law_take an__law_take : Option Addr} {sl__law_take : Array (Option Value)} {oc__law_take kV__law_take dc__law_take pm__law_take ct__law_take : Value}
    {cd__law_take : Value}
    {f__law_pick : Addr} {od__law_pick an__law_pick : Option Addr} {sl__law_pick : Array (Option Value)} {oc__law_pick kV__law_pick dc__law_pick pm__law_pick ct__law_pick : Value}
    {cd__law_pick : Value}
    {f__law_is : Addr} {od__law_is an__law_is : Option Addr} {sl__law_is : Array (Option Value)} {oc__law_is kV__law_is dc__law_is pm__law_is ct__law_is : Value}
    {cd__law_is : Value}
    {f__law_all : Addr} {od__law_all an__law_all : Option Addr} {sl__law_all : Array (Option Value)} {oc__law_all kV__law_all dc__law_all pm__law_all ct__law_all : Value}
    {ca__law_all : Addr}
    {f__law_shared : Addr} {od__law_shared an__law_shared : Option Addr} {sl__law_shared : Array (Option Value)} {oc__law_shared kV__law_shared dc__law_shared pm__law_shared ct__law_shared : Value}
    {cd__law_shared : Value}
    {f__law_error : Addr} {od__law_error an__law_error : Option Addr} {sl__law_error : Array (Option Value)} {oc__law_error kV__law_error dc__law_error pm__law_error ct__law_error : Value}
    {cd__law_error : Value}
    {f__law_fr : Addr} {od__law_fr an__law_fr : Option Addr} {sl__law_fr : Array (Option Value)} {oc__law_fr kV__law_fr dc__law_fr pm__law_fr ct__law_fr : Value}
    {cd__law_fr : Value}
    {f__law_sum : Addr} {od__law_sum an__law_sum : Option Addr} {sl__law_sum : Array (Option Value)} {oc__law_sum kV__law_sum dc__law_sum pm__law_sum ct__law_sum : Value}
    {cd__law_sum : Value}
    {f__law_drawn : Addr} {od__law_drawn an__law_drawn : Option Addr} {sl__law_drawn : Array (Option Value)} {oc__law_drawn kV__law_drawn dc__law_drawn pm__law_drawn ct__law_drawn : Value}
    {cd__law_drawn : Value}
    {f__law_words : Addr} {od__law_words an__law_words : Option Addr} {sl__law_words : Array (Option Value)} {oc__law_words kV__law_words dc__law_words pm__law_words ct__law_words : Value}
    {cd__law_words : Value}
    {f_law : Addr} {od_law an_law : Option Addr} {sl_law : Array (Option Value)} {oc_law kV_law dc_law pm_law ct_law : Value}
    {ca_law : Addr}
    {tb__law_all : Addr}
    {tb_law : Addr}
    {C_InvalidSize i_InvalidSize cc_InvalidSize co_InvalidSize : Addr} {nm_InvalidSize q_InvalidSize : Str} {N_InvalidSize : Addr} {bs_InvalidSize : List Value} {sn_InvalidSize : List Str} {sub_InvalidSize : List Value} {ab_InvalidSize : Bool} {col_InvalidSize : Option Bool} {dd_InvalidSize : Option Addr} {m0_InvalidSize m1_InvalidSize m2_InvalidSize m3_InvalidSize m5_InvalidSize : Option Value}
    {B0_InvalidSize : Addr}
    {cl_InvalidSize : Value} {cld_InvalidSize : Option Addr} {csl_InvalidSize : Array (Option Value)} {ccl_InvalidSize : Value} {cdd_InvalidSize : Option Addr} {vs_InvalidSize : Array Value} {ccs_InvalidSize : Array (Option Value)} {fl_InvalidSize : Str} {tf_InvalidSize : Tok} {ioc_InvalidSize idc_InvalidSize ipm_InvalidSize ict_InvalidSize : Value} {iod_InvalidSize ian_InvalidSize : Option Addr} {isl_InvalidSize : Array (Option Value)}
    {C_InvalidFraction i_InvalidFraction cc_InvalidFraction co_InvalidFraction : Addr} {nm_InvalidFraction q_InvalidFraction : Str} {N_InvalidFraction : Addr} {bs_InvalidFraction : List Value} {sn_InvalidFraction : List Str} {sub_InvalidFraction : List Value} {ab_InvalidFraction : Bool} {col_InvalidFraction : Option Bool} {dd_InvalidFraction : Option Addr} {m0_InvalidFraction m1_InvalidFraction m2_InvalidFraction m3_InvalidFraction m5_InvalidFraction : Option Value}
    {B0_InvalidFraction : Addr}
    {cl_InvalidFraction : Value} {cld_InvalidFraction : Option Addr} {csl_InvalidFraction : Array (Option Value)} {ccl_InvalidFraction : Value} {cdd_InvalidFraction : Option Addr} {vs_InvalidFraction : Array Value} {ccs_InvalidFraction : Array (Option Value)} {fl_InvalidFraction : Str} {tf_InvalidFraction : Tok} {ioc_InvalidFraction idc_InvalidFraction ipm_InvalidFraction ict_InvalidFraction : Value} {iod_InvalidFraction ian_InvalidFraction : Option Addr} {isl_InvalidFraction : Array (Option Value)}
    {C_Refused i_Refused cc_Refused co_Refused : Addr} {nm_Refused q_Refused : Str} {N_Refused : Addr} {bs_Refused : List Value} {sn_Refused : List Str} {sub_Refused : List Value} {ab_Refused : Bool} {col_Refused : Option Bool} {dd_Refused : Option Addr} {m0_Refused m1_Refused m2_Refused m3_Refused m5_Refused : Option Value}
    {B0_Refused : Addr}
    {cl_Refused : Value} {cld_Refused : Option Addr} {csl_Refused : Array (Option Value)} {ccl_Refused : Value} {cdd_Refused : Option Addr} {vs_Refused : Array Value} {ccs_Refused : Array (Option Value)} {fl_Refused : Str} {tf_Refused : Tok} {ioc_Refused idc_Refused ipm_Refused ict_Refused : Value} {iod_Refused ian_Refused : Option Addr} {isl_Refused : Array (Option Value)}
    {C_InvalidWords i_InvalidWords cc_InvalidWords co_InvalidWords : Addr} {nm_InvalidWords q_InvalidWords : Str} {N_InvalidWords : Addr} {bs_InvalidWords : List Value} {sn_InvalidWords : List Str} {sub_InvalidWords : List Value} {ab_InvalidWords : Bool} {col_InvalidWords : Option Bool} {dd_InvalidWords : Option Addr} {m0_InvalidWords m1_InvalidWords m2_InvalidWords m3_InvalidWords m5_InvalidWords : Option Value}
    {B0_InvalidWords : Addr}
    {cl_InvalidWords : Value} {cld_InvalidWords : Option Addr} {csl_InvalidWords : Array (Option Value)} {ccl_InvalidWords : Value} {cdd_InvalidWords : Option Addr} {vs_InvalidWords : Array Value} {ccs_InvalidWords : Array (Option Value)} {fl_InvalidWords : Str} {tf_InvalidWords : Tok} {ioc_InvalidWords idc_InvalidWords ipm_InvalidWords ict_InvalidWords : Value} {iod_InvalidWords ian_InvalidWords : Option Addr} {isl_InvalidWords : Array (Option Value)}
    (dg1 : PySem.W.nsOkIn K cStatics = true)
    (dg2 : PySem.W.nsIn K cStatics "sys.int_max_str_digits" = some none)
    (z_isinstance : PySem.W.nsIn K mainGlobals "isinstance" = some none)
    (z_int : PySem.W.nsIn K mainGlobals "int" = some none)
    (z_bool : PySem.W.nsIn K mainGlobals "bool" = some none)
    (z_tuple : PySem.W.nsIn K mainGlobals "tuple" = some none)
    (z_len : PySem.W.nsIn K mainGlobals "len" = some none)
    (z_gcd : PySem.W.nsIn K mainGlobals "gcd" = some (some (.builtin "math.gcd")))
    (z_abs : PySem.W.nsIn K mainGlobals "abs" = some none)
    (z_BEYOND : PySem.W.nsIn K mainGlobals "BEYOND" = some (some (.int 1000000000000000000000000000000000000000000000000000000000000000000000000000000000000000000000000000000000000000000000000000000000000000000000000000000000000000000000000000000000000000000000000000000000000000000000000000000000000000000000000000000000000000000000000000000000000000000000000000000000000000000000000000000000000000000000000000000000000000000000000000000000000000000000000000000000000000000000000000000000000000000000000000000000000000000000000000000000000000000000000000000000000000000000000000000000000000000000000000000000000000000000000000000000000000000000000000000000000000000000000000000000000000000000000000000000000000000000000000000000000000000000000000000000000000000000000000000000000000000000000000000000000000000000000000000000000000000000000000000000000000000000000000000000000000000000000000000000000000000000000000000000000000000000000000000000000000000000000000000000000000000000000000000000000000000000000000000000000000000000000000000000000000000000000000000000000000000000000000000000000000000000000000000000000000000000000000000000000000000000000000000000000000000000000000000000000000000000000000000000000000000000000000000000000000000000000000000000000000000000000000000000000000000000000000000000000000000000000000000000000000000000000000000000000000000000000000000000000000000000000000000000000000000000000000000000000000000000000000000000000000000000000000000000000000000000000000000000000000000000000000000000000000000000000000000000000000000000000000000000000000000000000000000000000000000000000000000000000000000000000000000000000000000000000000000000000000000000000000000000000000000000000000000000000000000000000000000000000000000000000000000000000000000000000000000000000000000000000000000000000000000000000000000000000000000000000000000000000000000000000000000000000000000000000000000000000000000000000000000000000000000000000000000000000000000000000000000000000000000000000000000000000000000000000000000000000000000000000000000000000000000000000000000000000000000000000000000000000000000000000000000000000000000000000000000000000000000000000000000000000000000000000000000000000000000000000000000000000000000000000000000000000000000000000000000000000000000000000000000000000000000000000000000000000000000000000000000000000000000000000000000000000000000000000000000000000000000000000000000000000000000000000000000000000000000000000000000000000000000000000000000000000000000000000000000000000000000000000000000000000000000000000000000000000000000000000000000000000000000000000000000000000000000000000000000000000000000000000000000000000000000000000000000000000000000000000000000000000000000000000000000000000000000000000000000000000000000000000000000000000000000000000000000000000000000000000000000000000000000000000000000000000000000000000000000000000000000000000000000000000000000000000000000000000000000000000000000000000000000000000000000000000000000000000000000000000000000000000000000000000000000000000000000000000000000000000000000000000000000000000 t_BEYOND)))
    (z_str : PySem.W.nsIn K mainGlobals "str" = some none)
    (z_MOST_FIGURES : PySem.W.nsIn K mainGlobals "MOST_FIGURES" = some (some (.int 3000 t_MOST_FIGURES)))
    (z_all : PySem.W.nsIn K mainGlobals "all" = some none)
    (z_TENS : PySem.W.nsIn K mainGlobals "TENS" = some (some (.str "0123456789" t_TENS)))
    (z_enumerate : PySem.W.nsIn K mainGlobals "enumerate" = some none)
    (z_zip : PySem.W.nsIn K mainGlobals "zip" = some none)
    (z_range : PySem.W.nsIn K mainGlobals "range" = some none)
    (a_is_integer : PySem.W.nsIn K mainGlobals "is_integer" = some (some (.ref f_is_integer)))
    (l_is_integer : K.lookup f_is_integer = some ⟨oc_is_integer, od_is_integer, .func (PySem.W.fnOf "is_integer" "is_integer" (defArgs s_is_integer) (defBody s_is_integer) (defScope s_is_integer) .none kV_is_integer dc_is_integer pm_is_integer an_is_integer cd_is_integer ct_is_integer), sl_is_integer⟩)
    (q_is_integer : PySem.W.codeIn K cd_is_integer "is_integer" = true)
    (k_is_integer : PySem.W.keepIn K (.ref f_is_integer) = true)
    (a_is_paper_of : PySem.W.nsIn K mainGlobals "is_paper_of" = some (some (.ref f_is_paper_of)))
    (l_is_paper_of : K.lookup f_is_paper_of = some ⟨oc_is_paper_of, od_is_paper_of, .func (PySem.W.fnOf "is_paper_of" "is_paper_of" (defArgs s_is_paper_of) (defBody s_is_paper_of) (defScope s_is_paper_of) .none kV_is_paper_of dc_is_paper_of pm_is_paper_of an_is_paper_of cd_is_paper_of ct_is_paper_of), sl_is_paper_of⟩)
    (q_is_paper_of : PySem.W.codeIn K cd_is_paper_of "is_paper_of" = true)
    (k_is_paper_of : PySem.W.keepIn K (.ref f_is_paper_of) = true)
    (a_fr : PySem.W.nsIn K mainGlobals "fr" = some (some (.ref f_fr)))
    (l_fr : K.lookup f_fr = some ⟨oc_fr, od_fr, .func (PySem.W.fnOf "fr" "fr" (defArgs s_fr) (defBody s_fr) (defScope s_fr) .none kV_fr dc_fr pm_fr an_fr cd_fr ct_fr), sl_fr⟩)
    (q_fr : PySem.W.codeIn K cd_fr "fr" = true)
    (k_fr : PySem.W.keepIn K (.ref f_fr) = true)
    (a_added : PySem.W.nsIn K mainGlobals "added" = some (some (.ref f_added)))
    (l_added : K.lookup f_added = some ⟨oc_added, od_added, .func (PySem.W.fnOf "added" "added" (defArgs s_added) (defBody s_added) (defScope s_added) .none kV_added dc_added pm_added an_added cd_added ct_added), sl_added⟩)
    (q_added : PySem.W.codeIn K cd_added "added" = true)
    (k_added : PySem.W.keepIn K (.ref f_added) = true)
    (a_lessened : PySem.W.nsIn K mainGlobals "lessened" = some (some (.ref f_lessened)))
    (l_lessened : K.lookup f_lessened = some ⟨oc_lessened, od_lessened, .func (PySem.W.fnOf "lessened" "lessened" (defArgs s_lessened) (defBody s_lessened) (defScope s_lessened) .none kV_lessened dc_lessened pm_lessened an_lessened cd_lessened ct_lessened), sl_lessened⟩)
    (q_lessened : PySem.W.codeIn K cd_lessened "lessened" = true)
    (k_lessened : PySem.W.keepIn K (.ref f_lessened) = true)
    (a_multiplied : PySem.W.nsIn K mainGlobals "multiplied" = some (some (.ref f_multiplied)))
    (l_multiplied : K.lookup f_multiplied = some ⟨oc_multiplied, od_multiplied, .func (PySem.W.fnOf "multiplied" "multiplied" (defArgs s_multiplied) (defBody s_multiplied) (defScope s_multiplied) .none kV_multiplied dc_multiplied pm_multiplied an_multiplied cd_multiplied ct_multiplied), sl_multiplied⟩)
    (q_multiplied : PySem.W.codeIn K cd_multiplied "multiplied" = true)
    (k_multiplied : PySem.W.keepIn K (.ref f_multiplied) = true)
    (a_divided : PySem.W.nsIn K mainGlobals "divided" = some (some (.ref f_divided)))
    (l_divided : K.lookup f_divided = some ⟨oc_divided, od_divided, .func (PySem.W.fnOf "divided" "divided" (defArgs s_divided) (defBody s_divided) (defScope s_divided) .none kV_divided dc_divided pm_divided an_divided cd_divided ct_divided), sl_divided⟩)
    (q_divided : PySem.W.codeIn K cd_divided "divided" = true)
    (k_divided : PySem.W.keepIn K (.ref f_divided) = true)
    (a_lesser : PySem.W.nsIn K mainGlobals "lesser" = some (some (.ref f_lesser)))
    (l_lesser : K.lookup f_lesser = some ⟨oc_lesser, od_lesser, .func (PySem.W.fnOf "lesser" "lesser" (defArgs s_lesser) (defBody s_lesser) (defScope s_lesser) .none kV_lesser dc_lesser pm_lesser an_lesser cd_lesser ct_lesser), sl_lesser⟩)
    (q_lesser : PySem.W.codeIn K cd_lesser "lesser" = true)
    (k_lesser : PySem.W.keepIn K (.ref f_lesser) = true)
    (a_is_frac : PySem.W.nsIn K mainGlobals "is_frac" = some (some (.ref f_is_frac)))
    (l_is_frac : K.lookup f_is_frac = some ⟨oc_is_frac, od_is_frac, .func (PySem.W.fnOf "is_frac" "is_frac" (defArgs s_is_frac) (defBody s_is_frac) (defScope s_is_frac) .none kV_is_frac dc_is_frac pm_is_frac an_is_frac cd_is_frac ct_is_frac), sl_is_frac⟩)
    (q_is_frac : PySem.W.codeIn K cd_is_frac "is_frac" = true)
    (k_is_frac : PySem.W.keepIn K (.ref f_is_frac) = true)
    (a_need_frac : PySem.W.nsIn K mainGlobals "need_frac" = some (some (.ref f_need_frac)))
    (l_need_frac : K.lookup f_need_frac = some ⟨oc_need_frac, od_need_frac, .func (PySem.W.fnOf "need_frac" "need_frac" (defArgs s_need_frac) (defBody s_need_frac) (defScope s_need_frac) (.ref T_need_frac) kV_need_frac dc_need_frac pm_need_frac an_need_frac cd_need_frac ct_need_frac), sl_need_frac⟩)
    (lT_need_frac : K.lookup T_need_frac = some ⟨cT_need_frac, dT_need_frac, .seq #[.int (-1) tT_need_frac] nT_need_frac, sT_need_frac⟩)
    (q_need_frac : PySem.W.codeIn K cd_need_frac "need_frac" = true)
    (k_need_frac : PySem.W.keepIn K (.ref f_need_frac) = true)
    (a_frac : PySem.W.nsIn K mainGlobals "frac" = some (some (.ref f_frac)))
    (l_frac : K.lookup f_frac = some ⟨oc_frac, od_frac, .func (PySem.W.fnOf "frac" "frac" (defArgs s_frac) (defBody s_frac) (defScope s_frac) .none kV_frac dc_frac pm_frac an_frac cd_frac ct_frac), sl_frac⟩)
    (q_frac : PySem.W.codeIn K cd_frac "frac" = true)
    (k_frac : PySem.W.keepIn K (.ref f_frac) = true)
    (a_plus : PySem.W.nsIn K mainGlobals "plus" = some (some (.ref f_plus)))
    (l_plus : K.lookup f_plus = some ⟨oc_plus, od_plus, .func (PySem.W.fnOf "plus" "plus" (defArgs s_plus) (defBody s_plus) (defScope s_plus) .none kV_plus dc_plus pm_plus an_plus cd_plus ct_plus), sl_plus⟩)
    (q_plus : PySem.W.codeIn K cd_plus "plus" = true)
    (k_plus : PySem.W.keepIn K (.ref f_plus) = true)
    (a_less : PySem.W.nsIn K mainGlobals "less" = some (some (.ref f_less)))
    (l_less : K.lookup f_less = some ⟨oc_less, od_less, .func (PySem.W.fnOf "less" "less" (defArgs s_less) (defBody s_less) (defScope s_less) .none kV_less dc_less pm_less an_less cd_less ct_less), sl_less⟩)
    (q_less : PySem.W.codeIn K cd_less "less" = true)
    (k_less : PySem.W.keepIn K (.ref f_less) = true)
    (a_times : PySem.W.nsIn K mainGlobals "times" = some (some (.ref f_times)))
    (l_times : K.lookup f_times = some ⟨oc_times, od_times, .func (PySem.W.fnOf "times" "times" (defArgs s_times) (defBody s_times) (defScope s_times) .none kV_times dc_times pm_times an_times cd_times ct_times), sl_times⟩)
    (q_times : PySem.W.codeIn K cd_times "times" = true)
    (k_times : PySem.W.keepIn K (.ref f_times) = true)
    (a_over : PySem.W.nsIn K mainGlobals "over" = some (some (.ref f_over)))
    (l_over : K.lookup f_over = some ⟨oc_over, od_over, .func (PySem.W.fnOf "over" "over" (defArgs s_over) (defBody s_over) (defScope s_over) .none kV_over dc_over pm_over an_over cd_over ct_over), sl_over⟩)
    (q_over : PySem.W.codeIn K cd_over "over" = true)
    (k_over : PySem.W.keepIn K (.ref f_over) = true)
    (a_is_less : PySem.W.nsIn K mainGlobals "is_less" = some (some (.ref f_is_less)))
    (l_is_less : K.lookup f_is_less = some ⟨oc_is_less, od_is_less, .func (PySem.W.fnOf "is_less" "is_less" (defArgs s_is_less) (defBody s_is_less) (defScope s_is_less) .none kV_is_less dc_is_less pm_is_less an_is_less cd_is_less ct_is_less), sl_is_less⟩)
    (q_is_less : PySem.W.codeIn K cd_is_less "is_less" = true)
    (k_is_less : PySem.W.keepIn K (.ref f_is_less) = true)
    (a_text_of_frac : PySem.W.nsIn K mainGlobals "text_of_frac" = some (some (.ref f_text_of_frac)))
    (l_text_of_frac : K.lookup f_text_of_frac = some ⟨oc_text_of_frac, od_text_of_frac, .func (PySem.W.fnOf "text_of_frac" "text_of_frac" (defArgs s_text_of_frac) (defBody s_text_of_frac) (defScope s_text_of_frac) .none kV_text_of_frac dc_text_of_frac pm_text_of_frac an_text_of_frac cd_text_of_frac ct_text_of_frac), sl_text_of_frac⟩)
    (q_text_of_frac : PySem.W.codeIn K cd_text_of_frac "text_of_frac" = true)
    (k_text_of_frac : PySem.W.keepIn K (.ref f_text_of_frac) = true)
    (a_frac_text : PySem.W.nsIn K mainGlobals "frac_text" = some (some (.ref f_frac_text)))
    (l_frac_text : K.lookup f_frac_text = some ⟨oc_frac_text, od_frac_text, .func (PySem.W.fnOf "frac_text" "frac_text" (defArgs s_frac_text) (defBody s_frac_text) (defScope s_frac_text) .none kV_frac_text dc_frac_text pm_frac_text an_frac_text cd_frac_text ct_frac_text), sl_frac_text⟩)
    (q_frac_text : PySem.W.codeIn K cd_frac_text "frac_text" = true)
    (k_frac_text : PySem.W.keepIn K (.ref f_frac_text) = true)
    (a_is_tens : PySem.W.nsIn K mainGlobals "is_tens" = some (some (.ref f_is_tens)))
    (l_is_tens : K.lookup f_is_tens = some ⟨oc_is_tens, od_is_tens, .func (PySem.W.fnOf "is_tens" "is_tens" (defArgs s_is_tens) (defBody s_is_tens) (defScope s_is_tens) .none kV_is_tens dc_is_tens pm_is_tens an_is_tens cd_is_tens ct_is_tens), sl_is_tens⟩)
    (q_is_tens : PySem.W.codeIn K cd_is_tens "is_tens" = true)
    (k_is_tens : PySem.W.keepIn K (.ref f_is_tens) = true)
    (a_read_frac : PySem.W.nsIn K mainGlobals "read_frac" = some (some (.ref f_read_frac)))
    (l_read_frac : K.lookup f_read_frac = some ⟨oc_read_frac, od_read_frac, .func (PySem.W.fnOf "read_frac" "read_frac" (defArgs s_read_frac) (defBody s_read_frac) (defScope s_read_frac) .none kV_read_frac dc_read_frac pm_read_frac an_read_frac cd_read_frac ct_read_frac), sl_read_frac⟩)
    (q_read_frac : PySem.W.codeIn K cd_read_frac "read_frac" = true)
    (k_read_frac : PySem.W.keepIn K (.ref f_read_frac) = true)
    (a__law_box : PySem.W.nsIn K mainGlobals "_law_box" = some (some (.ref f__law_box)))
    (l__law_box : K.lookup f__law_box = some ⟨oc__law_box, od__law_box, .func (PySem.W.fnOf "_law_box" "_law_box" (defArgs s__law_box) (defBody s__law_box) (defScope s__law_box) .none kV__law_box dc__law_box pm__law_box an__law_box cd__law_box ct__law_box), sl__law_box⟩)
    (q__law_box : PySem.W.codeIn K cd__law_box "_law_box" = true)
    (k__law_box : PySem.W.keepIn K (.ref f__law_box) = true)
    (a__law_take : PySem.W.nsIn K mainGlobals "_law_take" = some (some (.ref f__law_take)))
    (l__law_take : K.lookup f__law_take = some ⟨oc__law_take, od__law_take, .func (PySem.W.fnOf "_law_take" "_law_take" (defArgs s__law_take) (defBody s__law_take) (defScope s__law_take) .none kV__law_take dc__law_take pm__law_take an__law_take cd__law_take ct__law_take), sl__law_take⟩)
    (q__law_take : PySem.W.codeIn K cd__law_take "_law_take" = true)
    (k__law_take : PySem.W.keepIn K (.ref f__law_take) = true)
    (a__law_pick : PySem.W.nsIn K mainGlobals "_law_pick" = some (some (.ref f__law_pick)))
    (l__law_pick : K.lookup f__law_pick = some ⟨oc__law_pick, od__law_pick, .func (PySem.W.fnOf "_law_pick" "_law_pick" (defArgs s__law_pick) (defBody s__law_pick) (defScope s__law_pick) .none kV__law_pick dc__law_pick pm__law_pick an__law_pick cd__law_pick ct__law_pick), sl__law_pick⟩)
    (q__law_pick : PySem.W.codeIn K cd__law_pick "_law_pick" = true)
    (k__law_pick : PySem.W.keepIn K (.ref f__law_pick) = true)
    (a__law_is : PySem.W.nsIn K mainGlobals "_law_is" = some (some (.ref f__law_is)))
    (l__law_is : K.lookup f__law_is = some ⟨oc__law_is, od__law_is, .func (PySem.W.fnOf "_law_is" "_law_is" (defArgs s__law_is) (defBody s__law_is) (defScope s__law_is) .none kV__law_is dc__law_is pm__law_is an__law_is cd__law_is ct__law_is), sl__law_is⟩)
    (q__law_is : PySem.W.codeIn K cd__law_is "_law_is" = true)
    (k__law_is : PySem.W.keepIn K (.ref f__law_is) = true)
    (a__law_all : PySem.W.nsIn K mainGlobals "_law_all" = some (some (.ref f__law_all)))
    (l__law_all : K.lookup f__law_all = some ⟨oc__law_all, od__law_all, .func (PySem.W.fnOf "_law_all" "_law_all" (defArgs s__law_all) (defBody s__law_all) (defScope s__law_all) .none kV__law_all dc__law_all pm__law_all an__law_all (.ref ca__law_all) ct__law_all), sl__law_all⟩)
    (q__law_all : PySem.W.codeIn K (.ref ca__law_all) "_law_all" = true)
    (k__law_all : PySem.W.keepIn K (.ref f__law_all) = true)
    (a__law_shared : PySem.W.nsIn K mainGlobals "_law_shared" = some (some (.ref f__law_shared)))
    (l__law_shared : K.lookup f__law_shared = some ⟨oc__law_shared, od__law_shared, .func (PySem.W.fnOf "_law_shared" "_law_shared" (defArgs s__law_shared) (defBody s__law_shared) (defScope s__law_shared) .none kV__law_shared dc__law_shared pm__law_shared an__law_shared cd__law_shared ct__law_shared), sl__law_shared⟩)
    (q__law_shared : PySem.W.codeIn K cd__law_shared "_law_shared" = true)
    (k__law_shared : PySem.W.keepIn K (.ref f__law_shared) = true)
    (a__law_error : PySem.W.nsIn K mainGlobals "_law_error" = some (some (.ref f__law_error)))
    (l__law_error : K.lookup f__law_error = some ⟨oc__law_error, od__law_error, .func (PySem.W.fnOf "_law_error" "_law_error" (defArgs s__law_error) (defBody s__law_error) (defScope s__law_error) .none kV__law_error dc__law_error pm__law_error an__law_error cd__law_error ct__law_error), sl__law_error⟩)
    (q__law_error : PySem.W.codeIn K cd__law_error "_law_error" = true)
    (k__law_error : PySem.W.keepIn K (.ref f__law_error) = true)
    (a__law_fr : PySem.W.nsIn K mainGlobals "_law_fr" = some (some (.ref f__law_fr)))
    (l__law_fr : K.lookup f__law_fr = some ⟨oc__law_fr, od__law_fr, .func (PySem.W.fnOf "_law_fr" "_law_fr" (defArgs s__law_fr) (defBody s__law_fr) (defScope s__law_fr) .none kV__law_fr dc__law_fr pm__law_fr an__law_fr cd__law_fr ct__law_fr), sl__law_fr⟩)
    (q__law_fr : PySem.W.codeIn K cd__law_fr "_law_fr" = true)
    (k__law_fr : PySem.W.keepIn K (.ref f__law_fr) = true)
    (a__law_sum : PySem.W.nsIn K mainGlobals "_law_sum" = some (some (.ref f__law_sum)))
    (l__law_sum : K.lookup f__law_sum = some ⟨oc__law_sum, od__law_sum, .func (PySem.W.fnOf "_law_sum" "_law_sum" (defArgs s__law_sum) (defBody s__law_sum) (defScope s__law_sum) .none kV__law_sum dc__law_sum pm__law_sum an__law_sum cd__law_sum ct__law_sum), sl__law_sum⟩)
    (q__law_sum : PySem.W.codeIn K cd__law_sum "_law_sum" = true)
    (k__law_sum : PySem.W.keepIn K (.ref f__law_sum) = true)
    (a__law_drawn : PySem.W.nsIn K mainGlobals "_law_drawn" = some (some (.ref f__law_drawn)))
    (l__law_drawn : K.lookup f__law_drawn = some ⟨oc__law_drawn, od__law_drawn, .func (PySem.W.fnOf "_law_drawn" "_law_drawn" (defArgs s__law_drawn) (defBody s__law_drawn) (defScope s__law_drawn) .none kV__law_drawn dc__law_drawn pm__law_drawn an__law_drawn cd__law_drawn ct__law_drawn), sl__law_drawn⟩)
    (q__law_drawn : PySem.W.codeIn K cd__law_drawn "_law_drawn" = true)
    (k__law_drawn : PySem.W.keepIn K (.ref f__law_drawn) = true)
    (a__law_words : PySem.W.nsIn K mainGlobals "_law_words" = some (some (.ref f__law_words)))
    (l__law_words : K.lookup f__law_words = some ⟨oc__law_words, od__law_words, .func (PySem.W.fnOf "_law_words" "_law_words" (defArgs s__law_words) (defBody s__law_words) (defScope s__law_words) .none kV__law_words dc__law_words pm__law_words an__law_words cd__law_words ct__law_words), sl__law_words⟩)
    (q__law_words : PySem.W.codeIn K cd__law_words "_law_words" = true)
    (k__law_words : PySem.W.keepIn K (.ref f__law_words) = true)
    (a_law : PySem.W.nsIn K mainGlobals "law" = some (some (.ref f_law)))
    (l_law : K.lookup f_law = some ⟨oc_law, od_law, .func (PySem.W.fnOf "law" "law" (defArgs s_law) (defBody s_law) (defScope s_law) .none kV_law dc_law pm_law an_law (.ref ca_law) ct_law), sl_law⟩)
    (q_law : PySem.W.codeIn K (.ref ca_law) "law" = true)
    (k_law : PySem.W.keepIn K (.ref f_law) = true)
    (t__law_all : PySem.W.codeHdIn K ca__law_all tb__law_all = true)
    (u__law_all : K.lookup tb__law_all = none)
    (t_law : PySem.W.codeHdIn K ca_law tb_law = true)
    (u_law : K.lookup tb_law = none)
    (hne_0_1 : tb__law_all ≠ tb_law)
    (aC_InvalidSize : PySem.W.nsIn K mainGlobals (Str.ofString "InvalidSize") = some (some (.ref C_InvalidSize)))
    (lC_InvalidSize : K.lookup C_InvalidSize = some (PySem.excClassObj nm_InvalidSize q_InvalidSize C_InvalidSize N_InvalidSize bs_InvalidSize [.ref B0_InvalidSize, .type "Exception", .type "BaseException", .type "object"] true sn_InvalidSize sub_InvalidSize ab_InvalidSize col_InvalidSize dd_InvalidSize m0_InvalidSize m1_InvalidSize m2_InvalidSize m3_InvalidSize m5_InvalidSize "Exception.__new__"))
    (oC_InvalidSize : PySem.W.mroIn K C_InvalidSize (.type "object") = some true)
    (sa_InvalidSize : PySem.W.findIn K (.ref C_InvalidSize) "__setattr__" = some (some (.builtin "object.__setattr__")))
    (ga_InvalidSize : PySem.W.findIn K (.ref C_InvalidSize) "__getattribute__" = some (some (.builtin "BaseException.__getattribute__")))
    (gq_InvalidSize : PySem.W.findIn K (.ref C_InvalidSize) "__getattr__" = some none)
    (ini_InvalidSize : PySem.W.findIn K (.ref C_InvalidSize) "__init__" = some (some (.ref i_InvalidSize)))
    (tI_InvalidSize : PySem.W.typeIn K (.ref i_InvalidSize) = some (.type "function"))
    (kp_InvalidSize : PySem.W.keepIn K (.ref C_InvalidSize) = true)
    (bs2_InvalidSize : PySem.W.subIn K (.ref C_InvalidSize) (.type "BaseException") = some true)
    (xs_InvalidSize : PySem.W.subIn K (.ref C_InvalidSize) (.type "Exception") = some true)
    (ty_InvalidSize : PySem.W.typeIn K (.ref C_InvalidSize) = some (.type "type"))
    (hd_InvalidSize : PySem.W.hasDictIn K C_InvalidSize = true)
    (up_InvalidSize : PySem.W.ks_superIn K C_InvalidSize C_InvalidSize "__init__" = some (some (.builtin "Exception.__init__")))
    (me_InvalidSize : PySem.W.mroIn K C_InvalidSize (.ref C_InvalidSize) = some true)
    (li_InvalidSize : K.lookup i_InvalidSize = some ⟨ioc_InvalidSize, iod_InvalidSize, .func (PySem.W.ksFn "__init__" "InvalidSize.__init__" (defArgs (inClass (top 5) 0)) (defBody (inClass (top 5) 0)) (defScope (inClass (top 5) 0)) .none .none idc_InvalidSize ipm_InvalidSize ian_InvalidSize (.ref co_InvalidSize) ict_InvalidSize cc_InvalidSize), isl_InvalidSize⟩)
    (cq_InvalidSize : PySem.W.codeIn K (.ref co_InvalidSize) "InvalidSize.__init__" = true)
    (ce_InvalidSize : K.lookup cc_InvalidSize = some ⟨cl_InvalidSize, cld_InvalidSize, .cell (some (.ref C_InvalidSize)), csl_InvalidSize⟩)
    (co2_InvalidSize : K.lookup co_InvalidSize = some ⟨ccl_InvalidSize, cdd_InvalidSize, .fields vs_InvalidSize, ccs_InvalidSize⟩)
    (cv_InvalidSize : vs_InvalidSize[2]? = some (.str fl_InvalidSize tf_InvalidSize))
    (cf_InvalidSize : ((l.prog.main.file : Str) == fl_InvalidSize) = true)
    (n_InvalidSize_word : PySem.W.findIn K (.ref C_InvalidSize) (Str.ofString "word") = some none)
    (aC_InvalidFraction : PySem.W.nsIn K mainGlobals (Str.ofString "InvalidFraction") = some (some (.ref C_InvalidFraction)))
    (lC_InvalidFraction : K.lookup C_InvalidFraction = some (PySem.excClassObj nm_InvalidFraction q_InvalidFraction C_InvalidFraction N_InvalidFraction bs_InvalidFraction [.ref B0_InvalidFraction, .type "Exception", .type "BaseException", .type "object"] true sn_InvalidFraction sub_InvalidFraction ab_InvalidFraction col_InvalidFraction dd_InvalidFraction m0_InvalidFraction m1_InvalidFraction m2_InvalidFraction m3_InvalidFraction m5_InvalidFraction "Exception.__new__"))
    (oC_InvalidFraction : PySem.W.mroIn K C_InvalidFraction (.type "object") = some true)
    (sa_InvalidFraction : PySem.W.findIn K (.ref C_InvalidFraction) "__setattr__" = some (some (.builtin "object.__setattr__")))
    (ga_InvalidFraction : PySem.W.findIn K (.ref C_InvalidFraction) "__getattribute__" = some (some (.builtin "BaseException.__getattribute__")))
    (gq_InvalidFraction : PySem.W.findIn K (.ref C_InvalidFraction) "__getattr__" = some none)
    (ini_InvalidFraction : PySem.W.findIn K (.ref C_InvalidFraction) "__init__" = some (some (.ref i_InvalidFraction)))
    (tI_InvalidFraction : PySem.W.typeIn K (.ref i_InvalidFraction) = some (.type "function"))
    (kp_InvalidFraction : PySem.W.keepIn K (.ref C_InvalidFraction) = true)
    (bs2_InvalidFraction : PySem.W.subIn K (.ref C_InvalidFraction) (.type "BaseException") = some true)
    (xs_InvalidFraction : PySem.W.subIn K (.ref C_InvalidFraction) (.type "Exception") = some true)
    (ty_InvalidFraction : PySem.W.typeIn K (.ref C_InvalidFraction) = some (.type "type"))
    (hd_InvalidFraction : PySem.W.hasDictIn K C_InvalidFraction = true)
    (up_InvalidFraction : PySem.W.ks_superIn K C_InvalidFraction C_InvalidFraction "__init__" = some (some (.builtin "Exception.__init__")))
    (me_InvalidFraction : PySem.W.mroIn K C_InvalidFraction (.ref C_InvalidFraction) = some true)
    (li_InvalidFraction : K.lookup i_InvalidFraction = some ⟨ioc_InvalidFraction, iod_InvalidFraction, .func (PySem.W.ksFn "__init__" "InvalidFraction.__init__" (defArgs (inClass (top 3) 0)) (defBody (inClass (top 3) 0)) (defScope (inClass (top 3) 0)) .none .none idc_InvalidFraction ipm_InvalidFraction ian_InvalidFraction (.ref co_InvalidFraction) ict_InvalidFraction cc_InvalidFraction), isl_InvalidFraction⟩)
    (cq_InvalidFraction : PySem.W.codeIn K (.ref co_InvalidFraction) "InvalidFraction.__init__" = true)
    (ce_InvalidFraction : K.lookup cc_InvalidFraction = some ⟨cl_InvalidFraction, cld_InvalidFraction, .cell (some (.ref C_InvalidFraction)), csl_InvalidFraction⟩)
    (co2_InvalidFraction : K.lookup co_InvalidFraction = some ⟨ccl_InvalidFraction, cdd_InvalidFraction, .fields vs_InvalidFraction, ccs_InvalidFraction⟩)
    (cv_InvalidFraction : vs_InvalidFraction[2]? = some (.str fl_InvalidFraction tf_InvalidFraction))
    (cf_InvalidFraction : ((l.prog.main.file : Str) == fl_InvalidFraction) = true)
    (n_InvalidFraction_at : PySem.W.findIn K (.ref C_InvalidFraction) (Str.ofString "at") = some none)
    (aC_Refused : PySem.W.nsIn K mainGlobals (Str.ofString "Refused") = some (some (.ref C_Refused)))
    (lC_Refused : K.lookup C_Refused = some (PySem.excClassObj nm_Refused q_Refused C_Refused N_Refused bs_Refused [.ref B0_Refused, .type "Exception", .type "BaseException", .type "object"] true sn_Refused sub_Refused ab_Refused col_Refused dd_Refused m0_Refused m1_Refused m2_Refused m3_Refused m5_Refused "Exception.__new__"))
    (oC_Refused : PySem.W.mroIn K C_Refused (.type "object") = some true)
    (sa_Refused : PySem.W.findIn K (.ref C_Refused) "__setattr__" = some (some (.builtin "object.__setattr__")))
    (ga_Refused : PySem.W.findIn K (.ref C_Refused) "__getattribute__" = some (some (.builtin "BaseException.__getattribute__")))
    (gq_Refused : PySem.W.findIn K (.ref C_Refused) "__getattr__" = some none)
    (ini_Refused : PySem.W.findIn K (.ref C_Refused) "__init__" = some (some (.ref i_Refused)))
    (tI_Refused : PySem.W.typeIn K (.ref i_Refused) = some (.type "function"))
    (kp_Refused : PySem.W.keepIn K (.ref C_Refused) = true)
    (bs2_Refused : PySem.W.subIn K (.ref C_Refused) (.type "BaseException") = some true)
    (xs_Refused : PySem.W.subIn K (.ref C_Refused) (.type "Exception") = some true)
    (ty_Refused : PySem.W.typeIn K (.ref C_Refused) = some (.type "type"))
    (hd_Refused : PySem.W.hasDictIn K C_Refused = true)
    (up_Refused : PySem.W.ks_superIn K C_Refused C_Refused "__init__" = some (some (.builtin "Exception.__init__")))
    (me_Refused : PySem.W.mroIn K C_Refused (.ref C_Refused) = some true)
    (li_Refused : K.lookup i_Refused = some ⟨ioc_Refused, iod_Refused, .func (PySem.W.ksFn "__init__" "Refused.__init__" (defArgs (inClass (top 6) 0)) (defBody (inClass (top 6) 0)) (defScope (inClass (top 6) 0)) .none .none idc_Refused ipm_Refused ian_Refused (.ref co_Refused) ict_Refused cc_Refused), isl_Refused⟩)
    (cq_Refused : PySem.W.codeIn K (.ref co_Refused) "Refused.__init__" = true)
    (ce_Refused : K.lookup cc_Refused = some ⟨cl_Refused, cld_Refused, .cell (some (.ref C_Refused)), csl_Refused⟩)
    (co2_Refused : K.lookup co_Refused = some ⟨ccl_Refused, cdd_Refused, .fields vs_Refused, ccs_Refused⟩)
    (cv_Refused : vs_Refused[2]? = some (.str fl_Refused tf_Refused))
    (cf_Refused : ((l.prog.main.file : Str) == fl_Refused) = true)
    (n_Refused_at : PySem.W.findIn K (.ref C_Refused) (Str.ofString "at") = some none)
    (aC_InvalidWords : PySem.W.nsIn K mainGlobals (Str.ofString "InvalidWords") = some (some (.ref C_InvalidWords)))
    (lC_InvalidWords : K.lookup C_InvalidWords = some (PySem.excClassObj nm_InvalidWords q_InvalidWords C_InvalidWords N_InvalidWords bs_InvalidWords [.ref B0_InvalidWords, .type "Exception", .type "BaseException", .type "object"] true sn_InvalidWords sub_InvalidWords ab_InvalidWords col_InvalidWords dd_InvalidWords m0_InvalidWords m1_InvalidWords m2_InvalidWords m3_InvalidWords m5_InvalidWords "Exception.__new__"))
    (oC_InvalidWords : PySem.W.mroIn K C_InvalidWords (.type "object") = some true)
    (sa_InvalidWords : PySem.W.findIn K (.ref C_InvalidWords) "__setattr__" = some (some (.builtin "object.__setattr__")))
    (ga_InvalidWords : PySem.W.findIn K (.ref C_InvalidWords) "__getattribute__" = some (some (.builtin "BaseException.__getattribute__")))
    (gq_InvalidWords : PySem.W.findIn K (.ref C_InvalidWords) "__getattr__" = some none)
    (ini_InvalidWords : PySem.W.findIn K (.ref C_InvalidWords) "__init__" = some (some (.ref i_InvalidWords)))
    (tI_InvalidWords : PySem.W.typeIn K (.ref i_InvalidWords) = some (.type "function"))
    (kp_InvalidWords : PySem.W.keepIn K (.ref C_InvalidWords) = true)
    (bs2_InvalidWords : PySem.W.subIn K (.ref C_InvalidWords) (.type "BaseException") = some true)
    (xs_InvalidWords : PySem.W.subIn K (.ref C_InvalidWords) (.type "Exception") = some true)
    (ty_InvalidWords : PySem.W.typeIn K (.ref C_InvalidWords) = some (.type "type"))
    (hd_InvalidWords : PySem.W.hasDictIn K C_InvalidWords = true)
    (up_InvalidWords : PySem.W.ks_superIn K C_InvalidWords C_InvalidWords "__init__" = some (some (.builtin "Exception.__init__")))
    (me_InvalidWords : PySem.W.mroIn K C_InvalidWords (.ref C_InvalidWords) = some true)
    (li_InvalidWords : K.lookup i_InvalidWords = some ⟨ioc_InvalidWords, iod_InvalidWords, .func (PySem.W.ksFn "__init__" "InvalidWords.__init__" (defArgs (inClass (top 4) 0)) (defBody (inClass (top 4) 0)) (defScope (inClass (top 4) 0)) .none .none idc_InvalidWords ipm_InvalidWords ian_InvalidWords (.ref co_InvalidWords) ict_InvalidWords cc_InvalidWords), isl_InvalidWords⟩)
    (cq_InvalidWords : PySem.W.codeIn K (.ref co_InvalidWords) "InvalidWords.__init__" = true)
    (ce_InvalidWords : K.lookup cc_InvalidWords = some ⟨cl_InvalidWords, cld_InvalidWords, .cell (some (.ref C_InvalidWords)), csl_InvalidWords⟩)
    (co2_InvalidWords : K.lookup co_InvalidWords = some ⟨ccl_InvalidWords, cdd_InvalidWords, .fields vs_InvalidWords, ccs_InvalidWords⟩)
    (cv_InvalidWords : vs_InvalidWords[2]? = some (.str fl_InvalidWords tf_InvalidWords))
    (cf_InvalidWords : ((l.prog.main.file : Str) == fl_InvalidWords) = true)
    (n_InvalidWords_at : PySem.W.findIn K (.ref C_InvalidWords) (Str.ofString "at") = some none)
    (tpN : PySem.W.nsIn K cStatics "thirdparty.any" = some none)
    (noS : PySem.W.nsIn K mainGlobals "super" = some none)
    (noT : (l.prog.main.scope.names.lookup ("super" : Str)).isSome = false)
    (e_InvalidSize_InvalidSize : PySem.W.exmOne K (.ref C_InvalidSize) (.ref C_InvalidSize) = some true)
    (e_InvalidSize_InvalidFraction : PySem.W.exmOne K (.ref C_InvalidSize) (.ref C_InvalidFraction) = some false)
    (e_InvalidSize_Refused : PySem.W.exmOne K (.ref C_InvalidSize) (.ref C_Refused) = some false)
    (e_InvalidSize_InvalidWords : PySem.W.exmOne K (.ref C_InvalidSize) (.ref C_InvalidWords) = some false)
    (e_InvalidFraction_InvalidSize : PySem.W.exmOne K (.ref C_InvalidFraction) (.ref C_InvalidSize) = some false)
    (e_InvalidFraction_InvalidFraction : PySem.W.exmOne K (.ref C_InvalidFraction) (.ref C_InvalidFraction) = some true)
    (e_InvalidFraction_Refused : PySem.W.exmOne K (.ref C_InvalidFraction) (.ref C_Refused) = some false)
    (e_InvalidFraction_InvalidWords : PySem.W.exmOne K (.ref C_InvalidFraction) (.ref C_InvalidWords) = some false)
    (e_Refused_InvalidSize : PySem.W.exmOne K (.ref C_Refused) (.ref C_InvalidSize) = some false)
    (e_Refused_InvalidFraction : PySem.W.exmOne K (.ref C_Refused) (.ref C_InvalidFraction) = some false)
    (e_Refused_Refused : PySem.W.exmOne K (.ref C_Refused) (.ref C_Refused) = some true)
    (e_Refused_InvalidWords : PySem.W.exmOne K (.ref C_Refused) (.ref C_InvalidWords) = some false)
    (e_InvalidWords_InvalidSize : PySem.W.exmOne K (.ref C_InvalidWords) (.ref C_InvalidSize) = some false)
    (e_InvalidWords_InvalidFraction : PySem.W.exmOne K (.ref C_InvalidWords) (.ref C_InvalidFraction) = some false)
    (e_InvalidWords_Refused : PySem.W.exmOne K (.ref C_InvalidWords) (.ref C_Refused) = some false)
    (e_InvalidWords_InvalidWords : PySem.W.exmOne K (.ref C_InvalidWords) (.ref C_InvalidWords) = some true)
    (hT8 : ∀ P ∈ ([tb__law_all, tb_law] : List Addr), h.get? P = some (PySem.W.tabObj #[])) : LawAtS l w K (L2.CX l.prog w) 16 63 "script" mg fa h := by
  have efa : f_law = fa := by
    have q := (PySem.W.mg_of X G a_law).symm.trans hfa
    cases q
    rfl
  subst efa
  have xf_InvalidSize : XF l.prog K "InvalidSize" (inClass (top 5) 0) C_InvalidSize i_InvalidSize cc_InvalidSize co_InvalidSize "InvalidSize.__init__" := ⟨aC_InvalidSize, ⟨_, _, _, _, _, _, _, _, _, _, _, _, _, _, _, lC_InvalidSize, rfl⟩, oC_InvalidSize, sa_InvalidSize, ga_InvalidSize, gq_InvalidSize, ini_InvalidSize, tI_InvalidSize, kp_InvalidSize, bs2_InvalidSize, xs_InvalidSize, ty_InvalidSize, hd_InvalidSize, up_InvalidSize, me_InvalidSize, ⟨_, _, _, ce_InvalidSize⟩, ⟨_, _, _, _, _, _, co2_InvalidSize, cv_InvalidSize, cf_InvalidSize⟩, tpN, noS, noT, ⟨_, _, _, _, _, _, _, li_InvalidSize⟩, cq_InvalidSize⟩
  have xf_InvalidFraction : XF l.prog K "InvalidFraction" (inClass (top 3) 0) C_InvalidFraction i_InvalidFraction cc_InvalidFraction co_InvalidFraction "InvalidFraction.__init__" := ⟨aC_InvalidFraction, ⟨_, _, _, _, _, _, _, _, _, _, _, _, _, _, _, lC_InvalidFraction, rfl⟩, oC_InvalidFraction, sa_InvalidFraction, ga_InvalidFraction, gq_InvalidFraction, ini_InvalidFraction, tI_InvalidFraction, kp_InvalidFraction, bs2_InvalidFraction, xs_InvalidFraction, ty_InvalidFraction, hd_InvalidFraction, up_InvalidFraction, me_InvalidFraction, ⟨_, _, _, ce_InvalidFraction⟩, ⟨_, _, _, _, _, _, co2_InvalidFraction, cv_InvalidFraction, cf_InvalidFraction⟩, tpN, noS, noT, ⟨_, _, _, _, _, _, _, li_InvalidFraction⟩, cq_InvalidFraction⟩
  have xf_Refused : XF l.prog K "Refused" (inClass (top 6) 0) C_Refused i_Refused cc_Refused co_Refused "Refused.__init__" := ⟨aC_Refused, ⟨_, _, _, _, _, _, _, _, _, _, _, _, _, _, _, lC_Refused, rfl⟩, oC_Refused, sa_Refused, ga_Refused, gq_Refused, ini_Refused, tI_Refused, kp_Refused, bs2_Refused, xs_Refused, ty_Refused, hd_Refused, up_Refused, me_Refused, ⟨_, _, _, ce_Refused⟩, ⟨_, _, _, _, _, _, co2_Refused, cv_Refused, cf_Refused⟩, tpN, noS, noT, ⟨_, _, _, _, _, _, _, li_Refused⟩, cq_Refused⟩
  have xf_InvalidWords : XF l.prog K "InvalidWords" (inClass (top 4) 0) C_InvalidWords i_InvalidWords cc_InvalidWords co_InvalidWords "InvalidWords.__init__" := ⟨aC_InvalidWords, ⟨_, _, _, _, _, _, _, _, _, _, _, _, _, _, _, lC_InvalidWords, rfl⟩, oC_InvalidWords, sa_InvalidWords, ga_InvalidWords, gq_InvalidWords, ini_InvalidWords, tI_InvalidWords, kp_InvalidWords, bs2_InvalidWords, xs_InvalidWords, ty_InvalidWords, hd_InvalidWords, up_InvalidWords, me_InvalidWords, ⟨_, _, _, ce_InvalidWords⟩, ⟨_, _, _, _, _, _, co2_InvalidWords, cv_InvalidWords, cf_InvalidWords⟩, tpN, noS, noT, ⟨_, _, _, _, _, _, _, li_InvalidWords⟩, cq_InvalidWords⟩
  have exmOk : ExmOk K mg exm := by
    intro n1 n2 C1 C2 b h1 h2 h3
    unfold exm at h3
    split at h3
    all_goals (first | (cases h3; done) | (cases h3; rw [PySem.W.mg_of X G aC_InvalidSize] at h1; rw [PySem.W.mg_of X G aC_InvalidSize] at h2; cases h1; cases h2; exact e_InvalidSize_InvalidSize) | (cases h3; rw [PySem.W.mg_of X G aC_InvalidSize] at h1; rw [PySem.W.mg_of X G aC_InvalidFraction] at h2; cases h1; cases h2; exact e_InvalidSize_InvalidFraction) | (cases h3; rw [PySem.W.mg_of X G aC_InvalidSize] at h1; rw [PySem.W.mg_of X G aC_Refused] at h2; cases h1; cases h2; exact e_InvalidSize_Refused) | (cases h3; rw [PySem.W.mg_of X G aC_InvalidSize] at h1; rw [PySem.W.mg_of X G aC_InvalidWords] at h2; cases h1; cases h2; exact e_InvalidSize_InvalidWords) | (cases h3; rw [PySem.W.mg_of X G aC_InvalidFraction] at h1; rw [PySem.W.mg_of X G aC_InvalidSize] at h2; cases h1; cases h2; exact e_InvalidFraction_InvalidSize) | (cases h3; rw [PySem.W.mg_of X G aC_InvalidFraction] at h1; rw [PySem.W.mg_of X G aC_InvalidFraction] at h2; cases h1; cases h2; exact e_InvalidFraction_InvalidFraction) | (cases h3; rw [PySem.W.mg_of X G aC_InvalidFraction] at h1; rw [PySem.W.mg_of X G aC_Refused] at h2; cases h1; cases h2; exact e_InvalidFraction_Refused) | (cases h3; rw [PySem.W.mg_of X G aC_InvalidFraction] at h1; rw [PySem.W.mg_of X G aC_InvalidWords] at h2; cases h1; cases h2; exact e_InvalidFraction_InvalidWords) | (cases h3; rw [PySem.W.mg_of X G aC_Refused] at h1; rw [PySem.W.mg_of X G aC_InvalidSize] at h2; cases h1; cases h2; exact e_Refused_InvalidSize) | (cases h3; rw [PySem.W.mg_of X G aC_Refused] at h1; rw [PySem.W.mg_of X G aC_InvalidFraction] at h2; cases h1; cases h2; exact e_Refused_InvalidFraction) | (cases h3; rw [PySem.W.mg_of X G aC_Refused] at h1; rw [PySem.W.mg_of X G aC_Refused] at h2; cases h1; cases h2; exact e_Refused_Refused) | (cases h3; rw [PySem.W.mg_of X G aC_Refused] at h1; rw [PySem.W.mg_of X G aC_InvalidWords] at h2; cases h1; cases h2; exact e_Refused_InvalidWords) | (cases h3; rw [PySem.W.mg_of X G aC_InvalidWords] at h1; rw [PySem.W.mg_of X G aC_InvalidSize] at h2; cases h1; cases h2; exact e_InvalidWords_InvalidSize) | (cases h3; rw [PySem.W.mg_of X G aC_InvalidWords] at h1; rw [PySem.W.mg_of X G aC_InvalidFraction] at h2; cases h1; cases h2; exact e_InvalidWords_InvalidFraction) | (cases h3; rw [PySem.W.mg_of X G aC_InvalidWords] at h1; rw [PySem.W.mg_of X G aC_Refused] at h2; cases h1; cases h2; exact e_InvalidWords_Refused) | (cases h3; rw [PySem.W.mg_of X G aC_InvalidWords] at h1; rw [PySem.W.mg_of X G aC_InvalidWords] at h2; cases h1; cases h2; exact e_InvalidWords_InvalidWords))
  have Y : Kn l.prog w K mg ⟨f_is_integer, _, f_is_paper_of, _, f_fr, _, f_added, _, f_lessened, _, f_multiplied, _, f_divided, _, f_lesser, _, f_is_frac, _, f_need_frac, _, f_frac, _, f_plus, _, f_less, _, f_times, _, f_over, _, f_is_less, _, f_text_of_frac, _, f_frac_text, _, f_is_tens, _, f_read_frac, _, f__law_box, _, f__law_take, _, f__law_pick, _, f__law_is, _, f__law_all, _, f__law_shared, _, f__law_error, _, f__law_fr, _, f__law_sum, _, f__law_drawn, _, f__law_words, _, f_law, _, ca__law_all, tb__law_all, ca_law, tb_law, C_InvalidSize, C_InvalidFraction, C_Refused, C_InvalidWords⟩ := {
    dig := ⟨dg1, dg2⟩,
    b_isinstance := PySem.W.mg_none_of X G z_isinstance,
    b_int := PySem.W.mg_none_of X G z_int,
    b_bool := PySem.W.mg_none_of X G z_bool,
    b_tuple := PySem.W.mg_none_of X G z_tuple,
    b_len := PySem.W.mg_none_of X G z_len,
    m_gcd := PySem.W.mg_of X G z_gcd,
    b_abs := PySem.W.mg_none_of X G z_abs,
    c_BEYOND := ⟨_, PySem.W.mg_of X G z_BEYOND⟩,
    b_str := PySem.W.mg_none_of X G z_str,
    c_MOST_FIGURES := ⟨_, PySem.W.mg_of X G z_MOST_FIGURES⟩,
    b_all := PySem.W.mg_none_of X G z_all,
    c_TENS := ⟨t_TENS, (PySem.W.mg_of X G z_TENS).trans (congrArg (fun q => some (Value.str q t_TENS)) (show ("0123456789" : Str) = strOf [48, 49, 50, 51, 52, 53, 54, 55, 56, 57] by decide +kernel))⟩,
    b_enumerate := PySem.W.mg_none_of X G z_enumerate,
    b_zip := PySem.W.mg_none_of X G z_zip,
    b_range := PySem.W.mg_none_of X G z_range,
    g_InvalidFraction_at := xf_InvalidFraction.gets X G n_InvalidFraction_at,
    g_InvalidWords_at := xf_InvalidWords.gets X G n_InvalidWords_at,
    g_InvalidSize_word := xf_InvalidSize.gets X G n_InvalidSize_word,
    g_Refused_at := xf_Refused.gets X G n_Refused_at,
    f_is_integer := at_mk X G a_is_integer l_is_integer q_is_integer k_is_integer fun _ _ _ _ _ _ us hl => match us, hl with | [_], _ => rfl,
    f_is_paper_of := at_mk X G a_is_paper_of l_is_paper_of q_is_paper_of k_is_paper_of fun _ _ _ _ _ _ us hl => match us, hl with | [_, _], _ => rfl,
    f_fr := at_mk X G a_fr l_fr q_fr k_fr fun _ _ _ _ _ _ us hl => match us, hl with | [_, _], _ => rfl,
    f_added := at_mk X G a_added l_added q_added k_added fun _ _ _ _ _ _ us hl => match us, hl with | [_, _], _ => rfl,
    f_lessened := at_mk X G a_lessened l_lessened q_lessened k_lessened fun _ _ _ _ _ _ us hl => match us, hl with | [_, _], _ => rfl,
    f_multiplied := at_mk X G a_multiplied l_multiplied q_multiplied k_multiplied fun _ _ _ _ _ _ us hl => match us, hl with | [_, _], _ => rfl,
    f_divided := at_mk X G a_divided l_divided q_divided k_divided fun _ _ _ _ _ _ us hl => match us, hl with | [_, _], _ => rfl,
    f_lesser := at_mk X G a_lesser l_lesser q_lesser k_lesser fun _ _ _ _ _ _ us hl => match us, hl with | [_, _], _ => rfl,
    f_is_frac := at_mk X G a_is_frac l_is_frac q_is_frac k_is_frac fun _ _ _ _ _ _ us hl => match us, hl with | [_], _ => rfl,
    f_need_frac := atD_mk X G a_need_frac l_need_frac lT_need_frac q_need_frac k_need_frac (fun _ _ _ _ _ _ _ us hl => match us, hl with | [_, _], _ => ⟨_, rfl, rfl⟩) (fun _ _ _ _ _ _ _ us hl => match us, hl with | [_], _ => ⟨_, rfl, rfl⟩),
    f_frac := at_mk X G a_frac l_frac q_frac k_frac fun _ _ _ _ _ _ us hl => match us, hl with | [_, _], _ => rfl,
    f_plus := at_mk X G a_plus l_plus q_plus k_plus fun _ _ _ _ _ _ us hl => match us, hl with | [_, _], _ => rfl,
    f_less := at_mk X G a_less l_less q_less k_less fun _ _ _ _ _ _ us hl => match us, hl with | [_, _], _ => rfl,
    f_times := at_mk X G a_times l_times q_times k_times fun _ _ _ _ _ _ us hl => match us, hl with | [_, _], _ => rfl,
    f_over := at_mk X G a_over l_over q_over k_over fun _ _ _ _ _ _ us hl => match us, hl with | [_, _], _ => rfl,
    f_is_less := at_mk X G a_is_less l_is_less q_is_less k_is_less fun _ _ _ _ _ _ us hl => match us, hl with | [_, _], _ => rfl,
    f_text_of_frac := at_mk X G a_text_of_frac l_text_of_frac q_text_of_frac k_text_of_frac fun _ _ _ _ _ _ us hl => match us, hl with | [_], _ => rfl,
    f_frac_text := at_mk X G a_frac_text l_frac_text q_frac_text k_frac_text fun _ _ _ _ _ _ us hl => match us, hl with | [_], _ => rfl,
    f_is_tens := at_mk X G a_is_tens l_is_tens q_is_tens k_is_tens fun _ _ _ _ _ _ us hl => match us, hl with | [_], _ => rfl,
    f_read_frac := at_mk X G a_read_frac l_read_frac q_read_frac k_read_frac fun _ _ _ _ _ _ us hl => match us, hl with | [_], _ => rfl,
    f__law_box := at_mk X G a__law_box l__law_box q__law_box k__law_box fun _ _ _ _ _ _ us hl => match us, hl with | [_], _ => rfl,
    f__law_take := at_mk X G a__law_take l__law_take q__law_take k__law_take fun _ _ _ _ _ _ us hl => match us, hl with | [_, _], _ => rfl,
    f__law_pick := at_mk X G a__law_pick l__law_pick q__law_pick k__law_pick fun _ _ _ _ _ _ us hl => match us, hl with | [_, _], _ => rfl,
    f__law_is := at_mk X G a__law_is l__law_is q__law_is k__law_is fun _ _ _ _ _ _ us hl => match us, hl with | [_, _], _ => rfl,
    f__law_all := atC_mk X G a__law_all l__law_all q__law_all k__law_all fun _ _ _ _ _ _ us hl => match us, hl with | [_, _, _], _ => rfl,
    f__law_shared := at_mk X G a__law_shared l__law_shared q__law_shared k__law_shared fun _ _ _ _ _ _ us hl => match us, hl with | [_, _], _ => rfl,
    f__law_error := at_mk X G a__law_error l__law_error q__law_error k__law_error fun _ _ _ _ _ _ us hl => match us, hl with | [_], _ => rfl,
    f__law_fr := at_mk X G a__law_fr l__law_fr q__law_fr k__law_fr fun _ _ _ _ _ _ us hl => match us, hl with | [_, _], _ => rfl,
    f__law_sum := at_mk X G a__law_sum l__law_sum q__law_sum k__law_sum fun _ _ _ _ _ _ us hl => match us, hl with | [_, _], _ => rfl,
    f__law_drawn := at_mk X G a__law_drawn l__law_drawn q__law_drawn k__law_drawn fun _ _ _ _ _ _ us hl => match us, hl with | [_], _ => rfl,
    f__law_words := at_mk X G a__law_words l__law_words q__law_words k__law_words fun _ _ _ _ _ _ us hl => match us, hl with | [_], _ => rfl,
    f_law := atC_mk X G a_law l_law q_law k_law fun _ _ _ _ _ _ us hl => match us, hl with | [_], _ => rfl,
    x_InvalidSize := xf_InvalidSize.at1 X G sh_InvalidSize n_InvalidSize_word,
    x_InvalidFraction := xf_InvalidFraction.at1 X G sh_InvalidFraction n_InvalidFraction_at,
    x_Refused := xf_Refused.at1 X G sh_Refused n_Refused_at,
    x_InvalidWords := xf_InvalidWords.at1 X G sh_InvalidWords n_InvalidWords_at,
    exm := exmOk }
  refine ⟨_, [(ca__law_all, tb__law_all), (ca_law, tb_law)], spB ⟨K, mg⟩ [(tb__law_all, lq "_law_all"), (tb_law, lq "law")] 1 gLaw, ?_, ?_, ?_, fun s u => .of_eq rfl, end_at ?_ law_true, fun base KB GB hTB => law_fn Y (hTB (ca__law_all, tb__law_all) (by simp)) (hTB (ca_law, tb_law) (by simp)) hne_0_1⟩
  · exact (List.forall_mem_cons.mpr ⟨hT8 tb__law_all (by simp), (List.forall_mem_cons.mpr ⟨hT8 tb_law (by simp), (fun _ hq => nomatch hq)⟩)⟩)
  · exact (List.forall_mem_cons.mpr ⟨u__law_all, (List.forall_mem_cons.mpr ⟨u_law, (fun _ hq => nomatch hq)⟩)⟩)
  · exact (List.forall_mem_cons.mpr ⟨PySem.W.codeHd_of_K X t__law_all, (List.forall_mem_cons.mpr ⟨PySem.W.codeHd_of_K X t_law, (fun _ hq => nomatch hq)⟩)⟩)
  · exact (List.forall_mem_cons.mpr ⟨⟨(ca__law_all, tb__law_all), by simp, rfl⟩, (List.forall_mem_cons.mpr ⟨⟨(ca_law, tb_law), by simp, rfl⟩, (fun _ hq => nomatch hq)⟩)⟩)
end K02
open PySem PySem.W PyProof.Rows in
set_option maxRecDepth 100000 in
set_option maxHeartbeats 0 in
theorem PySem.Challenge.cw_blownalong_k02_whole_fractions_holds : PySem.Challenge.rw_blownalong_k02_whole_fractions.Holds := by
  w_on; o_law; k_head; (case hw => w_witness2)
  k_fill
  refine LamX.walk_ofTs (l := PySem.Challenge.rw_blownalong_k02_whole_fractions) (n := 63) (k := 16) (x := "script") (CX := fun w => L2.CX PySem.Challenge.rw_blownalong_k02_whole_fractions.prog w) rfl (by decide) rfl ⟨rfl, by decide, by decide⟩ (fun w h Y => PySem.W.km_in_of Y) ?F ?E
  case E => exact fun _ _ _ _ _ z => Bw.end_cx z
  case F =>
    intro w mg fa h Y KX G hmg
    have hT8 := PySem.W.km_tabs_of Y
    refine' K02.all_mk (tb__law_all := 306) (tb_law := 355) KX G hmg ?dg1 ?dg2 ?z_isinstance ?z_int ?z_bool ?z_tuple ?z_len ?z_gcd ?z_abs ?z_BEYOND ?z_str ?z_MOST_FIGURES ?z_all ?z_TENS ?z_enumerate ?z_zip ?z_range ?a_is_integer ?l_is_integer ?q_is_integer ?k_is_integer ?a_is_paper_of ?l_is_paper_of ?q_is_paper_of ?k_is_paper_of ?a_fr ?l_fr ?q_fr ?k_fr ?a_added ?l_added ?q_added ?k_added ?a_lessened ?l_lessened ?q_lessened ?k_lessened ?a_multiplied ?l_multiplied ?q_multiplied ?k_multiplied ?a_divided ?l_divided ?q_divided ?k_divided ?a_lesser ?l_lesser ?q_lesser ?k_lesser ?a_is_frac ?l_is_frac ?q_is_frac ?k_is_frac ?a_need_frac ?l_need_frac ?lT_need_frac ?q_need_frac ?k_need_frac ?a_frac ?l_frac ?q_frac ?k_frac ?a_plus ?l_plus ?q_plus ?k_plus ?a_less ?l_less ?q_less ?k_less ?a_times ?l_times ?q_times ?k_times ?a_over ?l_over ?q_over ?k_over ?a_is_less ?l_is_less ?q_is_less ?k_is_less ?a_text_of_frac ?l_text_of_frac ?q_text_of_frac ?k_text_of_frac ?a_frac_text ?l_frac_text ?q_frac_text ?k_frac_text ?a_is_tens ?l_is_tens ?q_is_tens ?k_is_tens ?a_read_frac ?l_read_frac ?q_read_frac ?k_read_frac ?a__law_box ?l__law_box ?q__law_box ?k__law_box ?a__law_take ?l__law_take ?q__law_take ?k__law_take ?a__law_pick ?l__law_pick ?q__law_pick ?k__law_pick ?a__law_is ?l__law_is ?q__law_is ?k__law_is ?a__law_all ?l__law_all ?q__law_all ?k__law_all ?a__law_shared ?l__law_shared ?q__law_shared ?k__law_shared ?a__law_error ?l__law_error ?q__law_error ?k__law_error ?a__law_fr ?l__law_fr ?q__law_fr ?k__law_fr ?a__law_sum ?l__law_sum ?q__law_sum ?k__law_sum ?a__law_drawn ?l__law_drawn ?q__law_drawn ?k__law_drawn ?a__law_words ?l__law_words ?q__law_words ?k__law_words ?a_law ?l_law ?q_law ?k_law ?t__law_all ?u__law_all ?t_law ?u_law ?hne_0_1 ?aC_InvalidSize ?lC_InvalidSize ?oC_InvalidSize ?sa_InvalidSize ?ga_InvalidSize ?gq_InvalidSize ?ini_InvalidSize ?tI_InvalidSize ?kp_InvalidSize ?bs2_InvalidSize ?xs_InvalidSize ?ty_InvalidSize ?hd_InvalidSize ?up_InvalidSize ?me_InvalidSize ?li_InvalidSize ?cq_InvalidSize ?ce_InvalidSize ?co2_InvalidSize ?cv_InvalidSize ?cf_InvalidSize ?n_InvalidSize_word ?aC_InvalidFraction ?lC_InvalidFraction ?oC_InvalidFraction ?sa_InvalidFraction ?ga_InvalidFraction ?gq_InvalidFraction ?ini_InvalidFraction ?tI_InvalidFraction ?kp_InvalidFraction ?bs2_InvalidFraction ?xs_InvalidFraction ?ty_InvalidFraction ?hd_InvalidFraction ?up_InvalidFraction ?me_InvalidFraction ?li_InvalidFraction ?cq_InvalidFraction ?ce_InvalidFraction ?co2_InvalidFraction ?cv_InvalidFraction ?cf_InvalidFraction ?n_InvalidFraction_at ?aC_Refused ?lC_Refused ?oC_Refused ?sa_Refused ?ga_Refused ?gq_Refused ?ini_Refused ?tI_Refused ?kp_Refused ?bs2_Refused ?xs_Refused ?ty_Refused ?hd_Refused ?up_Refused ?me_Refused ?li_Refused ?cq_Refused ?ce_Refused ?co2_Refused ?cv_Refused ?cf_Refused ?n_Refused_at ?aC_InvalidWords ?lC_InvalidWords ?oC_InvalidWords ?sa_InvalidWords ?ga_InvalidWords ?gq_InvalidWords ?ini_InvalidWords ?tI_InvalidWords ?kp_InvalidWords ?bs2_InvalidWords ?xs_InvalidWords ?ty_InvalidWords ?hd_InvalidWords ?up_InvalidWords ?me_InvalidWords ?li_InvalidWords ?cq_InvalidWords ?ce_InvalidWords ?co2_InvalidWords ?cv_InvalidWords ?cf_InvalidWords ?n_InvalidWords_at ?tpN ?noS ?noT ?e_InvalidSize_InvalidSize ?e_InvalidSize_InvalidFraction ?e_InvalidSize_Refused ?e_InvalidSize_InvalidWords ?e_InvalidFraction_InvalidSize ?e_InvalidFraction_InvalidFraction ?e_InvalidFraction_Refused ?e_InvalidFraction_InvalidWords ?e_Refused_InvalidSize ?e_Refused_InvalidFraction ?e_Refused_Refused ?e_Refused_InvalidWords ?e_InvalidWords_InvalidSize ?e_InvalidWords_InvalidFraction ?e_InvalidWords_Refused ?e_InvalidWords_InvalidWords (fun P hP => hT8 P (by simp only [List.mem_cons, List.not_mem_nil, or_false] at hP; rcases hP with hP | hP <;> subst hP <;> simp))
    (case dg1 => kernel_rfl)
    (case dg2 => k_is)
    (case z_isinstance => k_is)
    (case z_int => k_is)
    (case z_bool => k_is)
    (case z_tuple => k_is)
    (case z_len => k_is)
    (case z_gcd => k_is)
    (case z_abs => k_is)
    (case z_BEYOND => k_is)
    (case z_str => k_is)
    (case z_MOST_FIGURES => k_is)
    (case z_all => k_is)
    (case z_TENS => k_is)
    (case z_enumerate => k_is)
    (case z_zip => k_is)
    (case z_range => k_is)
    (case a_is_integer => k_is)
    (case l_is_integer => k_is)
    (case q_is_integer => k_is)
    (case k_is_integer => k_is)
    (case a_is_paper_of => k_is)
    (case l_is_paper_of => k_is)
    (case q_is_paper_of => k_is)
    (case k_is_paper_of => k_is)
    (case a_fr => k_is)
    (case l_fr => k_is)
    (case q_fr => k_is)
    (case k_fr => k_is)
    (case a_added => k_is)
    (case l_added => k_is)
    (case q_added => k_is)
    (case k_added => k_is)
    (case a_lessened => k_is)
    (case l_lessened => k_is)
    (case q_lessened => k_is)
    (case k_lessened => k_is)
    (case a_multiplied => k_is)
    (case l_multiplied => k_is)
    (case q_multiplied => k_is)
    (case k_multiplied => k_is)
    (case a_divided => k_is)
    (case l_divided => k_is)
    (case q_divided => k_is)
    (case k_divided => k_is)
    (case a_lesser => k_is)
    (case l_lesser => k_is)
    (case q_lesser => k_is)
    (case k_lesser => k_is)
    (case a_is_frac => k_is)
    (case l_is_frac => k_is)
    (case q_is_frac => k_is)
    (case k_is_frac => k_is)
    (case a_need_frac => k_is)
    (case l_need_frac => k_is)
    (case lT_need_frac => k_is)
    (case q_need_frac => k_is)
    (case k_need_frac => k_is)
    (case a_frac => k_is)
    (case l_frac => k_is)
    (case q_frac => k_is)
    (case k_frac => k_is)
    (case a_plus => k_is)
    (case l_plus => k_is)
    (case q_plus => k_is)
    (case k_plus => k_is)
    (case a_less => k_is)
    (case l_less => k_is)
    (case q_less => k_is)
    (case k_less => k_is)
    (case a_times => k_is)
    (case l_times => k_is)
    (case q_times => k_is)
    (case k_times => k_is)
    (case a_over => k_is)
    (case l_over => k_is)
    (case q_over => k_is)
    (case k_over => k_is)
    (case a_is_less => k_is)
    (case l_is_less => k_is)
    (case q_is_less => k_is)
    (case k_is_less => k_is)
    (case a_text_of_frac => k_is)
    (case l_text_of_frac => k_is)
    (case q_text_of_frac => k_is)
    (case k_text_of_frac => k_is)
    (case a_frac_text => k_is)
    (case l_frac_text => k_is)
    (case q_frac_text => k_is)
    (case k_frac_text => k_is)
    (case a_is_tens => k_is)
    (case l_is_tens => k_is)
    (case q_is_tens => k_is)
    (case k_is_tens => k_is)
    (case a_read_frac => k_is)
    (case l_read_frac => k_is)
    (case q_read_frac => k_is)
    (case k_read_frac => k_is)
    (case a__law_box => k_is)
    (case l__law_box => k_is)
    (case q__law_box => k_is)
    (case k__law_box => k_is)
    (case a__law_take => k_is)
    (case l__law_take => k_is)
    (case q__law_take => k_is)
    (case k__law_take => k_is)
    (case a__law_pick => k_is)
    (case l__law_pick => k_is)
    (case q__law_pick => k_is)
    (case k__law_pick => k_is)
    (case a__law_is => k_is)
    (case l__law_is => k_is)
    (case q__law_is => k_is)
    (case k__law_is => k_is)
    (case a__law_all => k_is)
    (case l__law_all => k_is)
    (case q__law_all => k_is)
    (case k__law_all => k_is)
    (case a__law_shared => k_is)
    (case l__law_shared => k_is)
    (case q__law_shared => k_is)
    (case k__law_shared => k_is)
    (case a__law_error => k_is)
    (case l__law_error => k_is)
    (case q__law_error => k_is)
    (case k__law_error => k_is)
    (case a__law_fr => k_is)
    (case l__law_fr => k_is)
    (case q__law_fr => k_is)
    (case k__law_fr => k_is)
    (case a__law_sum => k_is)
    (case l__law_sum => k_is)
    (case q__law_sum => k_is)
    (case k__law_sum => k_is)
    (case a__law_drawn => k_is)
    (case l__law_drawn => k_is)
    (case q__law_drawn => k_is)
    (case k__law_drawn => k_is)
    (case a__law_words => k_is)
    (case l__law_words => k_is)
    (case q__law_words => k_is)
    (case k__law_words => k_is)
    (case a_law => k_is)
    (case l_law => k_is)
    (case q_law => k_is)
    (case k_law => k_is)
    (case t__law_all => kernel_rfl)
    (case u__law_all => kernel_rfl)
    (case t_law => kernel_rfl)
    (case u_law => kernel_rfl)
    (case hne_0_1 => decide)
    (case aC_InvalidSize => k_is)
    (case lC_InvalidSize => k_is)
    (case oC_InvalidSize => k_is)
    (case sa_InvalidSize => k_is)
    (case ga_InvalidSize => k_is)
    (case gq_InvalidSize => k_is)
    (case ini_InvalidSize => k_is)
    (case tI_InvalidSize => k_is)
    (case kp_InvalidSize => k_is)
    (case bs2_InvalidSize => k_is)
    (case xs_InvalidSize => k_is)
    (case ty_InvalidSize => k_is)
    (case hd_InvalidSize => k_is)
    (case up_InvalidSize => kernel_rfl)
    (case me_InvalidSize => k_is)
    (case li_InvalidSize => k_is)
    (case cq_InvalidSize => k_is)
    (case ce_InvalidSize => k_is)
    (case co2_InvalidSize => k_is)
    (case cv_InvalidSize => rfl)
    (case cf_InvalidSize => first | rfl | decide +kernel)
    (case n_InvalidSize_word => k_is)
    (case aC_InvalidFraction => k_is)
    (case lC_InvalidFraction => k_is)
    (case oC_InvalidFraction => k_is)
    (case sa_InvalidFraction => k_is)
    (case ga_InvalidFraction => k_is)
    (case gq_InvalidFraction => k_is)
    (case ini_InvalidFraction => k_is)
    (case tI_InvalidFraction => k_is)
    (case kp_InvalidFraction => k_is)
    (case bs2_InvalidFraction => k_is)
    (case xs_InvalidFraction => k_is)
    (case ty_InvalidFraction => k_is)
    (case hd_InvalidFraction => k_is)
    (case up_InvalidFraction => kernel_rfl)
    (case me_InvalidFraction => k_is)
    (case li_InvalidFraction => k_is)
    (case cq_InvalidFraction => k_is)
    (case ce_InvalidFraction => k_is)
    (case co2_InvalidFraction => k_is)
    (case cv_InvalidFraction => rfl)
    (case cf_InvalidFraction => first | rfl | decide +kernel)
    (case n_InvalidFraction_at => k_is)
    (case aC_Refused => k_is)
    (case lC_Refused => k_is)
    (case oC_Refused => k_is)
    (case sa_Refused => k_is)
    (case ga_Refused => k_is)
    (case gq_Refused => k_is)
    (case ini_Refused => k_is)
    (case tI_Refused => k_is)
    (case kp_Refused => k_is)
    (case bs2_Refused => k_is)
    (case xs_Refused => k_is)
    (case ty_Refused => k_is)
    (case hd_Refused => k_is)
    (case up_Refused => kernel_rfl)
    (case me_Refused => k_is)
    (case li_Refused => k_is)
    (case cq_Refused => k_is)
    (case ce_Refused => k_is)
    (case co2_Refused => k_is)
    (case cv_Refused => rfl)
    (case cf_Refused => first | rfl | decide +kernel)
    (case n_Refused_at => k_is)
    (case aC_InvalidWords => k_is)
    (case lC_InvalidWords => k_is)
    (case oC_InvalidWords => k_is)
    (case sa_InvalidWords => k_is)
    (case ga_InvalidWords => k_is)
    (case gq_InvalidWords => k_is)
    (case ini_InvalidWords => k_is)
    (case tI_InvalidWords => k_is)
    (case kp_InvalidWords => k_is)
    (case bs2_InvalidWords => k_is)
    (case xs_InvalidWords => k_is)
    (case ty_InvalidWords => k_is)
    (case hd_InvalidWords => k_is)
    (case up_InvalidWords => kernel_rfl)
    (case me_InvalidWords => k_is)
    (case li_InvalidWords => k_is)
    (case cq_InvalidWords => k_is)
    (case ce_InvalidWords => k_is)
    (case co2_InvalidWords => k_is)
    (case cv_InvalidWords => rfl)
    (case cf_InvalidWords => first | rfl | decide +kernel)
    (case n_InvalidWords_at => k_is)
    (case tpN => k_is)
    (case noS => k_is)
    (case noT => first | rfl | decide +kernel)
    (case e_InvalidSize_InvalidSize => kernel_rfl)
    (case e_InvalidSize_InvalidFraction => kernel_rfl)
    (case e_InvalidSize_Refused => kernel_rfl)
    (case e_InvalidSize_InvalidWords => kernel_rfl)
    (case e_InvalidFraction_InvalidSize => kernel_rfl)
    (case e_InvalidFraction_InvalidFraction => kernel_rfl)
    (case e_InvalidFraction_Refused => kernel_rfl)
    (case e_InvalidFraction_InvalidWords => kernel_rfl)
    (case e_Refused_InvalidSize => kernel_rfl)
    (case e_Refused_InvalidFraction => kernel_rfl)
    (case e_Refused_Refused => kernel_rfl)
    (case e_Refused_InvalidWords => kernel_rfl)
    (case e_InvalidWords_InvalidSize => kernel_rfl)
    (case e_InvalidWords_InvalidFraction => kernel_rfl)
    (case e_InvalidWords_Refused => kernel_rfl)
    (case e_InvalidWords_InvalidWords => kernel_rfl)
